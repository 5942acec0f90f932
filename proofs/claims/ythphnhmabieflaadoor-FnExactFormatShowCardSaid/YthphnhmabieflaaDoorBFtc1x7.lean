/- The texts of one claim, put together by a program of this session. -/
import Derived.Lib.AppendIntMem
import Derived.Test.YthphnhmabieflaaDoorBFtc1x1
import Derived.Test.YthphnhmabieflaaDoorBFtc1x4
import Derived.Test.YthphnhmabieflaaDoorBFtc1x6
namespace Go.Proofs.YthphnhmabieflaaDoor.Pr
open Go.RowKit Go.Proofs.YthphnhmabieflaaDoorW.PrintWords Go.Proofs.YthphnhmabieflaaDoorW.PrintLast Go.Proofs.YthphnhmabieflaaDoorW.PrintMore
attribute [local go_sem] Zah Zaf Zas Zar Z8 Z7 Zag Zae
set_option linter.unusedVariables false
set_option linter.unusedSimpArgs false
mutual
def ZT.j0:Nat→Bool→List (S73)→List (S66)→Int→Option (Bool)
 | 0,_,_,_,_=>none
 | k+1,x18,x43002000,x43002001,x43002002=>if x18=true then(some false) else(ZT.l0 k (x43002001.length:Int) 0 x43002000 x43002001 x43002002)
def ZT.l0:Nat→Int→Int→List (S73)→List (S66)→Int→Option (Bool)
 | 0,_,_,_,_,_=>none
 | k+1,x21,x22,x43002000,x43002001,x43002002=>if x22<x21 then((ZbF.f x43002000 x43002001 x43002002 x22).bind fun t43004=>(if t43004=true then(ZT.l0 k x21 (wrap64 (x22+1)) x43002000 x43002001 x43002002) else(some false))) else(some true)
end
def ZT.f (k:Nat) (l0_0:List (S73)) (l0_1:List (S66)) (a0_2:Int):Option (Bool):=(Za1.f l0_0 l0_1 a0_2).bind fun t43002=>(if t43002=true then(if (l0_1.length:Int) > 14 then(ZT.j0 k true l0_0 l0_1 a0_2) else((Z5.f a0_2 1 10).bind fun t43003=>(ZT.j0 k (!t43003) l0_0 l0_1 a0_2))) else(ZT.j0 k true l0_0 l0_1 a0_2))
set_option maxHeartbeats 8000000 in
set_option maxRecDepth 100000 in
theorem ZT.calls (k:Nat) (A0_0:Option Addr) (c0_0:Nat) (l0_0:List (S73)) (A0_1:Option Addr) (c0_1:Nat) (l0_1:List (S66)) (a0_2:Int) (r:Bool) (w:World) (hr0_0:Kd.C k73 w A0_0 l0_0.length l0_0) (hc0_0:l0_0.length≤c0_0) (hr0_1:Kd.C k66 w A0_1 l0_1.length l0_1) (hc0_1:l0_1.length≤c0_1) (h:ZT.f k l0_0 l0_1 a0_2=some r) :
  Calls Tryd.prog 43 #[.agg #[.slice A0_0 l0_0.length c0_0,.slice A0_1 l0_1.length c0_1,.int .i64 a0_2]] w fun e w'=>e=.returned (.bool r)∧Below w.heap.size w w':=by
 have hu36:=Tryd.underlying36
 have HR0_0:=Za hr0_0;have HC0_0:=Za hc0_0;clear hr0_0 hc0_0;have HR0_1:=Za hr0_1;have HC0_1:=Za hc0_1;clear hr0_1 hc0_1
 have HB:=Za (Below.refl w.heap.size w)
 have H:((Za1.f l0_0 l0_1 a0_2).bind fun t43002=>(if t43002=true then(if (l0_1.length:Int) > 14 then(ZT.j0 k true l0_0 l0_1 a0_2) else((Z5.f a0_2 1 10).bind fun t43003=>(ZT.j0 k (!t43003) l0_0 l0_1 a0_2))) else(ZT.j0 k true l0_0 l0_1 a0_2)))=some r:=h
 clear h;have HC2:=Za H;clear H
 go_enter Tryd.func43,Tryd.ntmps43
 go_upto_region 1 with (first|((with_reducible refine ZN (N:=1) rfl ?_);(try(refine ZaP (by rfl) ?_;dsimp only));refine ZP ?hg (N:=1) ?hd (cs:=#[.slice A0_0 l0_0.length c0_0,.slice A0_1 l0_1.length c0_1,.int .i64 a0_2]) (t:=36) ?hr ?_;(case hd=>rfl);(case hg=>rfl);(case hr=>first|(go_simp;done)|(go_simp;rfl));intro gb43001 hg w3 hbox hb;have BK43001:=Za (hbox);have GW43001:=Za ((by rw[hg];exact(Zy (by repeat(first|(with_reducible first|exact HB.out|apply Zn|apply Zm|apply Zo)|exact HB.out))):w.heap.size≤gb43001));have GE43001:=Za ((by rw[hg];exact(Zy (by repeat(first|(with_reducible first|exact HB.out|apply Zn|apply Zm|apply Zo)|exact HB.out))):w.heap.size≤gb43001));replace HB:=Za (Zx (by repeat(first|(with_reducible first|exact HB.out|apply Zn|apply Zm|apply Zo)|exact HB.out)) hb);clear hb hbox hg))
 (try simp only[Act.put,List.setIfInBounds_toArray,List.set_cons_zero,List.set_cons_succ])
 go_cut [18] (fun v18 wc=>∃(kq:Nat) (x18_1:Bool),v18=.bool x18_1∧Aside0 (ZT.j0 kq x18_1 l0_0 l0_1 a0_2=some r)∧Aside0 (kq≤k)∧Aside0 (wc.heap[gb43001]? = some (.cells #[(.slice A0_0 l0_0.length c0_0),(.slice A0_1 l0_1.length c0_1),.int .i64 a0_2] 36 (0,0)))∧Aside0 (Below w.heap.size w wc))
 case first=>
  have H:=HC2.out
  clear HC2
  replace H:=Zh H
  obtain⟨t43002,A40,H⟩:=H
  replace H:(if t43002=true then(if (l0_1.length:Int) > 14 then(ZT.j0 k true l0_0 l0_1 a0_2) else((Z5.f a0_2 1 10).bind fun t43003=>(ZT.j0 k (!t43003) l0_0 l0_1 a0_2))) else(ZT.j0 k true l0_0 l0_1 a0_2))=some r:=H
  have A4:=Za A40;clear A40
  by_cases c5:t43002=true
  ·subst c5
   have H1:(if (l0_1.length:Int) > 14 then(ZT.j0 k true l0_0 l0_1 a0_2) else((Z5.f a0_2 1 10).bind fun t43003=>(ZT.j0 k (!t43003) l0_0 l0_1 a0_2)))=some r:=by rw[if_pos rfl] at H;exact H
   clear H
   have H:=H1
   clear H1
   by_cases c6:(l0_1.length:Int) > 14
   ·rw[if_pos c6] at H
    have c6b0:decide (14<(l0_1.length:Int))=true:=Ze c6
    have c6b1:decide (14<l0_1.length)=true:=Ze (by omega)
    clear c6
    (first|rw[c6b0]|(simp only[ZC,ZD];rw[c6b0])|skip)
    have H':=Za H
    clear H
    have hcz7_0:w3.cell? ⟨gb43001,0,none⟩=some (.slice A0_0 l0_0.length c0_0):=(Zq BK43001.out 0).trans rfl
    have hcz7_1:w3.cell? ⟨gb43001,1,none⟩=some (.slice A0_1 l0_1.length c0_1):=(Zq BK43001.out 1).trans rfl
    have hcz7_2:w3.cell? ⟨gb43001,2,none⟩=some (.int .i64 a0_2):=(Zq BK43001.out 2).trans rfl
    have hfz7_0:=Zt BK43001.out 0
    have hfz7_1:=Zt BK43001.out 1
    have hfz7_2:=Zt BK43001.out 2
    go_wp2_with (first|((with_reducible refine ZG (f:=76) rfl ?_);refine ZX (some 5) rfl rfl Tryd.func76 (by kernel_rfl) rfl #[.agg #[.slice A0_0 l0_0.length c0_0,.slice A0_1 l0_1.length c0_1,.int .i64 a0_2]] rfl (by(try simp only[List.map_toArray,List.map_cons,List.map_nil]);first|done|rfl|(simp only[Zk,Zj];rfl)) ?_;(with_reducible refine(Za1.calls _ _ l0_0 _ _ l0_1 a0_2 true _ ?side1 ?side2 ?side3 ?side4 A4.out).mono ?_);(case side1=>repeat(first|exact(Zb HR0_0.out HB.out)|(with_reducible refine Kd.C_alloc ?_ _)|(with_reducible refine Kd.C_drewN ?_ _)|(with_reducible refine Kd.C_drew ?_)));(case side2=>exact HC0_0.out);(case side3=>repeat(first|exact(Zb HR0_1.out HB.out)|(with_reducible refine Kd.C_alloc ?_ _)|(with_reducible refine Kd.C_drewN ?_ _)|(with_reducible refine Kd.C_drew ?_)));(case side4=>exact HC0_1.out);rintro e w8 ⟨rfl,hb⟩;refine⟨_,rfl,?_⟩;replace BK43001:=Za (ZB (g:=gb43001) (o:=.cells #[.slice A0_0 l0_0.length c0_0,.slice A0_1 l0_1.length c0_1,.int .i64 a0_2] 36 (0,0)) (by(with_reducible repeat(first|refine Zu ?_ _|refine Zv ?_|refine Zs ?_ _));exact BK43001.out) hb);replace HB:=Za (Zx (by repeat(first|(with_reducible first|exact HB.out|apply Zn|apply Zm|apply Zo|refine Zr ?_ GE43001.out)|exact HB.out)) hb);(try clear hb);(try clear hb2);(try clear hk);(try clear hi);have hcz9_0:w8.cell? ⟨gb43001,0,none⟩=some (.slice A0_0 l0_0.length c0_0):=(Zq BK43001.out 0).trans rfl;have hcz9_1:w8.cell? ⟨gb43001,1,none⟩=some (.slice A0_1 l0_1.length c0_1):=(Zq BK43001.out 1).trans rfl;have hcz9_2:w8.cell? ⟨gb43001,2,none⟩=some (.int .i64 a0_2):=(Zq BK43001.out 2).trans rfl;have hfz9_0:=Zt BK43001.out 0;have hfz9_1:=Zt BK43001.out 1;have hfz9_2:=Zt BK43001.out 2))
    go_meet
    case rel=>exact⟨_,(true),(by first|rfl|(simp;done)|(simp[*];done)),H',⟨by first|omega|exact Nat.le_refl _⟩,⟨by(with_reducible repeat(first|refine Zu ?_ _|refine Zv ?_|refine Zs ?_ _));exact BK43001.out⟩,⟨by repeat(first|(with_reducible first|exact HB.out|apply Zn|apply Zm|apply Zo|refine Zr ?_ GE43001.out)|exact HB.out)⟩⟩
   ·rw[if_neg c6] at H
    have c6b0:decide (14<(l0_1.length:Int))=false:=Zf c6
    have c6b1:decide (14<l0_1.length)=false:=Zf (by omega)
    clear c6
    (first|rw[c6b0]|(simp only[ZC,ZD];rw[c6b0])|skip)
    replace H:=Zh H
    obtain⟨t43003,A100,H⟩:=H
    replace H:(ZT.j0 k (!t43003) l0_0 l0_1 a0_2)=some r:=H
    have A10:=Za A100;clear A100
    have H':=Za H
    clear H
    have hcz11_0:w3.cell? ⟨gb43001,0,none⟩=some (.slice A0_0 l0_0.length c0_0):=(Zq BK43001.out 0).trans rfl
    have hcz11_1:w3.cell? ⟨gb43001,1,none⟩=some (.slice A0_1 l0_1.length c0_1):=(Zq BK43001.out 1).trans rfl
    have hcz11_2:w3.cell? ⟨gb43001,2,none⟩=some (.int .i64 a0_2):=(Zq BK43001.out 2).trans rfl
    have hfz11_0:=Zt BK43001.out 0
    have hfz11_1:=Zt BK43001.out 1
    have hfz11_2:=Zt BK43001.out 2
    go_wp2_with (first|((with_reducible refine ZG (f:=76) rfl ?_);refine ZX (some 5) rfl rfl Tryd.func76 (by kernel_rfl) rfl #[.agg #[.slice A0_0 l0_0.length c0_0,.slice A0_1 l0_1.length c0_1,.int .i64 a0_2]] rfl (by(try simp only[List.map_toArray,List.map_cons,List.map_nil]);first|done|rfl|(simp only[Zk,Zj];rfl)) ?_;(with_reducible refine(Za1.calls _ _ l0_0 _ _ l0_1 a0_2 true _ ?side1 ?side2 ?side3 ?side4 A4.out).mono ?_);(case side1=>repeat(first|exact(Zb HR0_0.out HB.out)|(with_reducible refine Kd.C_alloc ?_ _)|(with_reducible refine Kd.C_drewN ?_ _)|(with_reducible refine Kd.C_drew ?_)));(case side2=>exact HC0_0.out);(case side3=>repeat(first|exact(Zb HR0_1.out HB.out)|(with_reducible refine Kd.C_alloc ?_ _)|(with_reducible refine Kd.C_drewN ?_ _)|(with_reducible refine Kd.C_drew ?_)));(case side4=>exact HC0_1.out);rintro e w12 ⟨rfl,hb⟩;refine⟨_,rfl,?_⟩;replace BK43001:=Za (ZB (g:=gb43001) (o:=.cells #[.slice A0_0 l0_0.length c0_0,.slice A0_1 l0_1.length c0_1,.int .i64 a0_2] 36 (0,0)) (by(with_reducible repeat(first|refine Zu ?_ _|refine Zv ?_|refine Zs ?_ _));exact BK43001.out) hb);replace HB:=Za (Zx (by repeat(first|(with_reducible first|exact HB.out|apply Zn|apply Zm|apply Zo|refine Zr ?_ GE43001.out)|exact HB.out)) hb);(try clear hb);(try clear hb2);(try clear hk);(try clear hi);have hcz13_0:w12.cell? ⟨gb43001,0,none⟩=some (.slice A0_0 l0_0.length c0_0):=(Zq BK43001.out 0).trans rfl;have hcz13_1:w12.cell? ⟨gb43001,1,none⟩=some (.slice A0_1 l0_1.length c0_1):=(Zq BK43001.out 1).trans rfl;have hcz13_2:w12.cell? ⟨gb43001,2,none⟩=some (.int .i64 a0_2):=(Zq BK43001.out 2).trans rfl;have hfz13_0:=Zt BK43001.out 0;have hfz13_1:=Zt BK43001.out 1;have hfz13_2:=Zt BK43001.out 2)|(go_at_call 44;(with_reducible refine(Z5.calls a0_2 1 10 t43003 _ A10.out).mono ?_);rintro e w' ⟨rfl,⟨nd,rfl⟩⟩))
    go_meet
    case rel=>exact⟨_,(!t43003),(by first|rfl|(simp;done)|(simp[*];done)),H',⟨by first|omega|exact Nat.le_refl _⟩,⟨by(with_reducible repeat(first|refine Zu ?_ _|refine Zv ?_|refine Zs ?_ _));exact BK43001.out⟩,⟨by repeat(first|(with_reducible first|exact HB.out|apply Zn|apply Zm|apply Zo|refine Zr ?_ GE43001.out)|exact HB.out)⟩⟩
  ·replace c5:=Bool.eq_false_iff.mpr c5
   subst c5
   have H1:(ZT.j0 k true l0_0 l0_1 a0_2)=some r:=by rw[if_neg (show ¬(false=true) by decide)] at H;exact H
   clear H
   have H:=H1
   clear H1
   have H':=Za H
   clear H
   have hcz14_0:w3.cell? ⟨gb43001,0,none⟩=some (.slice A0_0 l0_0.length c0_0):=(Zq BK43001.out 0).trans rfl
   have hcz14_1:w3.cell? ⟨gb43001,1,none⟩=some (.slice A0_1 l0_1.length c0_1):=(Zq BK43001.out 1).trans rfl
   have hcz14_2:w3.cell? ⟨gb43001,2,none⟩=some (.int .i64 a0_2):=(Zq BK43001.out 2).trans rfl
   have hfz14_0:=Zt BK43001.out 0
   have hfz14_1:=Zt BK43001.out 1
   have hfz14_2:=Zt BK43001.out 2
   go_wp2_with (first|((with_reducible refine ZG (f:=76) rfl ?_);refine ZX (some 5) rfl rfl Tryd.func76 (by kernel_rfl) rfl #[.agg #[.slice A0_0 l0_0.length c0_0,.slice A0_1 l0_1.length c0_1,.int .i64 a0_2]] rfl (by(try simp only[List.map_toArray,List.map_cons,List.map_nil]);first|done|rfl|(simp only[Zk,Zj];rfl)) ?_;(with_reducible refine(Za1.calls _ _ l0_0 _ _ l0_1 a0_2 false _ ?side1 ?side2 ?side3 ?side4 A4.out).mono ?_);(case side1=>repeat(first|exact(Zb HR0_0.out HB.out)|(with_reducible refine Kd.C_alloc ?_ _)|(with_reducible refine Kd.C_drewN ?_ _)|(with_reducible refine Kd.C_drew ?_)));(case side2=>exact HC0_0.out);(case side3=>repeat(first|exact(Zb HR0_1.out HB.out)|(with_reducible refine Kd.C_alloc ?_ _)|(with_reducible refine Kd.C_drewN ?_ _)|(with_reducible refine Kd.C_drew ?_)));(case side4=>exact HC0_1.out);rintro e w15 ⟨rfl,hb⟩;refine⟨_,rfl,?_⟩;replace BK43001:=Za (ZB (g:=gb43001) (o:=.cells #[.slice A0_0 l0_0.length c0_0,.slice A0_1 l0_1.length c0_1,.int .i64 a0_2] 36 (0,0)) (by(with_reducible repeat(first|refine Zu ?_ _|refine Zv ?_|refine Zs ?_ _));exact BK43001.out) hb);replace HB:=Za (Zx (by repeat(first|(with_reducible first|exact HB.out|apply Zn|apply Zm|apply Zo|refine Zr ?_ GE43001.out)|exact HB.out)) hb);(try clear hb);(try clear hb2);(try clear hk);(try clear hi)))
   go_meet
   case rel=>exact⟨_,(true),(by first|rfl|(simp;done)|(simp[*];done)),H',⟨by first|omega|exact Nat.le_refl _⟩,⟨by(with_reducible repeat(first|refine Zu ?_ _|refine Zv ?_|refine Zs ?_ _));exact BK43001.out⟩,⟨by repeat(first|(with_reducible first|exact HB.out|apply Zn|apply Zm|apply Zo|refine Zr ?_ GE43001.out)|exact HB.out)⟩⟩
 case rest=>
  clear HC2
  try clear p2
  try clear c4
  try clear c5
  try clear c6
  try clear c6b0
  try clear c6b1
  try clear c7
  try clear hcz11_0
  try clear hcz11_1
  try clear hcz11_2
  try clear hcz13_0
  try clear hcz13_1
  try clear hcz13_2
  try clear hcz14_0
  try clear hcz14_1
  try clear hcz14_2
  try clear hcz7_0
  try clear hcz7_1
  try clear hcz7_2
  try clear hcz9_0
  try clear hcz9_1
  try clear hcz9_2
  try clear hfz11_0
  try clear hfz11_1
  try clear hfz11_2
  try clear hfz13_0
  try clear hfz13_1
  try clear hfz13_2
  try clear hfz14_0
  try clear hfz14_1
  try clear hfz14_2
  try clear hfz7_0
  try clear hfz7_1
  try clear hfz7_2
  try clear hfz9_0
  try clear hfz9_1
  try clear hfz9_2
  obtain⟨kq,x18_1,rfl,HA,HJ1,BK43001,HB⟩:=hcut
  cases kq with
  | zero=>exact absurd HA.out (by simp[ZT.j0])
  | succ kj1=>
   have H:=HA.out
   clear HA
   simp only[ZT.j0] at H
   by_cases c16:x18_1=true
   ·subst c16
    have H1:(some false)=some r:=by rw[if_pos rfl] at H;exact H
    clear H
    have H:=H1
    clear H1
    obtain rfl:=Zg H
    go_wp2
    go_ret
    exact⟨by first|rfl|(simp[ZA,Zz] <;> rfl)|(simp[*,ZA,Zz] <;> rfl),by repeat(first|(with_reducible first|exact HB.out|apply Zn|apply Zm|apply Zo|refine Zr ?_ GE43001.out)|exact HB.out)⟩
   ·replace c16:=Bool.eq_false_iff.mpr c16
    subst c16
    have H1:(ZT.l0 kj1 (l0_1.length:Int) 0 l0_0 l0_1 a0_2)=some r:=by rw[if_neg (show ¬(false=true) by decide)] at H;exact H
    clear H
    have H:=H1
    clear H1
    have H':=Za H
    clear H
    have hcz17_0:wc.cell? ⟨gb43001,0,none⟩=some (.slice A0_0 l0_0.length c0_0):=(Zq BK43001.out 0).trans rfl
    have hcz17_1:wc.cell? ⟨gb43001,1,none⟩=some (.slice A0_1 l0_1.length c0_1):=(Zq BK43001.out 1).trans rfl
    have hcz17_2:wc.cell? ⟨gb43001,2,none⟩=some (.int .i64 a0_2):=(Zq BK43001.out 2).trans rfl
    have hfz17_0:=Zt BK43001.out 0
    have hfz17_1:=Zt BK43001.out 1
    have hfz17_2:=Zt BK43001.out 2
    go_wp2
    go_loopg [22] kj1 (fun kq v22 w'=>∃(x22_2:Int),v22=.int .i64 x22_2∧Aside0 (ZT.l0 kq (l0_1.length:Int) x22_2 l0_0 l0_1 a0_2=some r)∧Aside0 (kq≤kj1)∧Aside0 (w'.heap[gb43001]? = some (.cells #[(.slice A0_0 l0_0.length c0_0),(.slice A0_1 l0_1.length c0_1),.int .i64 a0_2] 36 (0,0)))∧Aside0 (Below w.heap.size w w'))
    case atStart=>exact⟨(0),(by first|rfl|(simp;done)|(simp[*];done)),H',⟨Nat.le_refl _⟩,⟨by(with_reducible repeat(first|refine Zu ?_ _|refine Zv ?_|refine Zs ?_ _));exact BK43001.out⟩,⟨by repeat(first|(with_reducible first|exact HB.out|apply Zn|apply Zm|apply Zo|refine Zr ?_ GE43001.out)|exact HB.out)⟩⟩
    case round=>
     clear H'
     try clear c1
     try clear p2
     try clear c4
     try clear c5
     try clear c6
     try clear c6b0
     try clear c6b1
     try clear c7
     try clear c16
     try clear hcz11_0
     try clear hcz11_1
     try clear hcz11_2
     try clear hcz13_0
     try clear hcz13_1
     try clear hcz13_2
     try clear hcz14_0
     try clear hcz14_1
     try clear hcz14_2
     try clear hcz17_0
     try clear hcz17_1
     try clear hcz17_2
     try clear hcz7_0
     try clear hcz7_1
     try clear hcz7_2
     try clear hcz9_0
     try clear hcz9_1
     try clear hcz9_2
     try clear hfz11_0
     try clear hfz11_1
     try clear hfz11_2
     try clear hfz13_0
     try clear hfz13_1
     try clear hfz13_2
     try clear hfz14_0
     try clear hfz14_1
     try clear hfz14_2
     try clear hfz17_0
     try clear hfz17_1
     try clear hfz17_2
     try clear hfz7_0
     try clear hfz7_1
     try clear hfz7_2
     try clear hfz9_0
     try clear hfz9_1
     try clear hfz9_2
     try clear p2
     obtain⟨x22_2,rfl,HA,HK2,BK43001,HB⟩:=hrel
     cases gk with
     | zero=>exact absurd HA.out (by simp[ZT.l0])
     | succ k2=>
      have H:=HA.out
      clear HA
      simp only[ZT.l0] at H
      by_cases c18:x22_2<(l0_1.length:Int)
      ·rw[if_pos c18] at H
       have c18b0:decide (x22_2<(l0_1.length:Int))=true:=Ze c18
       clear c18
       replace H:=Zh H
       obtain⟨t43004,A190,H⟩:=H
       replace H:(if t43004=true then(ZT.l0 k2 (l0_1.length:Int) (wrap64 (x22_2+1)) l0_0 l0_1 a0_2) else(some false))=some r:=H
       have A19:=Za A190;clear A190
       by_cases c20:t43004=true
       ·subst c20
        have H1:(ZT.l0 k2 (l0_1.length:Int) (wrap64 (x22_2+1)) l0_0 l0_1 a0_2)=some r:=by rw[if_pos rfl] at H;exact H
        clear H
        have H:=H1
        clear H1
        have H':=Za H
        clear H
        have hcz21_0:wr.cell? ⟨gb43001,0,none⟩=some (.slice A0_0 l0_0.length c0_0):=(Zq BK43001.out 0).trans rfl
        have hcz21_1:wr.cell? ⟨gb43001,1,none⟩=some (.slice A0_1 l0_1.length c0_1):=(Zq BK43001.out 1).trans rfl
        have hcz21_2:wr.cell? ⟨gb43001,2,none⟩=some (.int .i64 a0_2):=(Zq BK43001.out 2).trans rfl
        have hfz21_0:=Zt BK43001.out 0
        have hfz21_1:=Zt BK43001.out 1
        have hfz21_2:=Zt BK43001.out 2
        go_wp2_with (first|((with_reducible refine ZG (f:=77) rfl ?_);refine ZX (some 27) rfl rfl Tryd.func77 (by kernel_rfl) rfl #[.agg #[.slice A0_0 l0_0.length c0_0,.slice A0_1 l0_1.length c0_1,.int .i64 a0_2],.int .i64 x22_2] rfl (by(try simp only[List.map_toArray,List.map_cons,List.map_nil]);first|done|rfl|(simp only[Zk,Zj];rfl)) ?_;(with_reducible refine(ZbF.calls _ _ l0_0 _ _ l0_1 a0_2 x22_2 true _ ?side1 ?side2 ?side3 ?side4 A19.out).mono ?_);(case side1=>repeat(first|exact(Zb HR0_0.out HB.out)|(with_reducible refine Kd.C_alloc ?_ _)|(with_reducible refine Kd.C_drewN ?_ _)|(with_reducible refine Kd.C_drew ?_)));(case side2=>exact HC0_0.out);(case side3=>repeat(first|exact(Zb HR0_1.out HB.out)|(with_reducible refine Kd.C_alloc ?_ _)|(with_reducible refine Kd.C_drewN ?_ _)|(with_reducible refine Kd.C_drew ?_)));(case side4=>exact HC0_1.out);rintro e w22 ⟨rfl,hb⟩;refine⟨_,rfl,?_⟩;replace BK43001:=Za (ZB (g:=gb43001) (o:=.cells #[.slice A0_0 l0_0.length c0_0,.slice A0_1 l0_1.length c0_1,.int .i64 a0_2] 36 (0,0)) (by(with_reducible repeat(first|refine Zu ?_ _|refine Zv ?_|refine Zs ?_ _));exact BK43001.out) hb);replace HB:=Za (Zx (by repeat(first|(with_reducible first|exact HB.out|apply Zn|apply Zm|apply Zo|refine Zr ?_ GE43001.out)|exact HB.out)) hb);(try clear hb);(try clear hb2);(try clear hk);(try clear hi)))
        go_roundg k2
        case measure=>have:=HJ1.out;have:=HK2.out;omega
        case rel=>exact⟨(wrap64 (x22_2+1)),(by first|rfl|(simp;done)|(simp[*];done)),H',⟨by have:=HJ1.out;have:=HK2.out;omega⟩,⟨by(with_reducible repeat(first|refine Zu ?_ _|refine Zv ?_|refine Zs ?_ _));exact BK43001.out⟩,⟨by repeat(first|(with_reducible first|exact HB.out|apply Zn|apply Zm|apply Zo|refine Zr ?_ GE43001.out)|exact HB.out)⟩⟩
       ·replace c20:=Bool.eq_false_iff.mpr c20
        subst c20
        have H1:(some false)=some r:=by rw[if_neg (show ¬(false=true) by decide)] at H;exact H
        clear H
        have H:=H1
        clear H1
        obtain rfl:=Zg H
        have hcz23_0:wr.cell? ⟨gb43001,0,none⟩=some (.slice A0_0 l0_0.length c0_0):=(Zq BK43001.out 0).trans rfl
        have hcz23_1:wr.cell? ⟨gb43001,1,none⟩=some (.slice A0_1 l0_1.length c0_1):=(Zq BK43001.out 1).trans rfl
        have hcz23_2:wr.cell? ⟨gb43001,2,none⟩=some (.int .i64 a0_2):=(Zq BK43001.out 2).trans rfl
        have hfz23_0:=Zt BK43001.out 0
        have hfz23_1:=Zt BK43001.out 1
        have hfz23_2:=Zt BK43001.out 2
        go_wp2_with (first|((with_reducible refine ZG (f:=77) rfl ?_);refine ZX (some 27) rfl rfl Tryd.func77 (by kernel_rfl) rfl #[.agg #[.slice A0_0 l0_0.length c0_0,.slice A0_1 l0_1.length c0_1,.int .i64 a0_2],.int .i64 x22_2] rfl (by(try simp only[List.map_toArray,List.map_cons,List.map_nil]);first|done|rfl|(simp only[Zk,Zj];rfl)) ?_;(with_reducible refine(ZbF.calls _ _ l0_0 _ _ l0_1 a0_2 x22_2 false _ ?side1 ?side2 ?side3 ?side4 A19.out).mono ?_);(case side1=>repeat(first|exact(Zb HR0_0.out HB.out)|(with_reducible refine Kd.C_alloc ?_ _)|(with_reducible refine Kd.C_drewN ?_ _)|(with_reducible refine Kd.C_drew ?_)));(case side2=>exact HC0_0.out);(case side3=>repeat(first|exact(Zb HR0_1.out HB.out)|(with_reducible refine Kd.C_alloc ?_ _)|(with_reducible refine Kd.C_drewN ?_ _)|(with_reducible refine Kd.C_drew ?_)));(case side4=>exact HC0_1.out);rintro e w24 ⟨rfl,hb⟩;refine⟨_,rfl,?_⟩;replace BK43001:=Za (ZB (g:=gb43001) (o:=.cells #[.slice A0_0 l0_0.length c0_0,.slice A0_1 l0_1.length c0_1,.int .i64 a0_2] 36 (0,0)) (by(with_reducible repeat(first|refine Zu ?_ _|refine Zv ?_|refine Zs ?_ _));exact BK43001.out) hb);replace HB:=Za (Zx (by repeat(first|(with_reducible first|exact HB.out|apply Zn|apply Zm|apply Zo|refine Zr ?_ GE43001.out)|exact HB.out)) hb);(try clear hb);(try clear hb2);(try clear hk);(try clear hi)))
        go_ret
        exact⟨by first|rfl|(simp[ZA,Zz] <;> rfl)|(simp[*,ZA,Zz] <;> rfl),by repeat(first|(with_reducible first|exact HB.out|apply Zn|apply Zm|apply Zo|refine Zr ?_ GE43001.out)|exact HB.out)⟩
      ·rw[if_neg c18] at H
       have c18b0:decide (x22_2<(l0_1.length:Int))=false:=Zf c18
       clear c18
       obtain rfl:=Zg H
       go_wp2
       go_ret
       exact⟨by first|rfl|(simp[ZA,Zz] <;> rfl)|(simp[*,ZA,Zz] <;> rfl),by repeat(first|(with_reducible first|exact HB.out|apply Zn|apply Zm|apply Zo|refine Zr ?_ GE43001.out)|exact HB.out)⟩
mutual
def ZF.l0:Nat→Int→ByteArray→Option (ByteArray)
 | 0,_,_=>none
 | k+1,x0,x3=>if x0 > 9 then((some (([(wrap64 (48+(Int.tmod x0 10))) % 256]:List Int):List Int)).bind fun y35008=>(if (strOfNums y35008).size+x3.size≤9223372036854775807 then(ZF.l0 k (wrap64 (Int.tdiv x0 10)) ((strOfNums y35008) ++ x3)) else(none))) else((some (([(wrap64 (48+x0)) % 256]:List Int):List Int)).bind fun y35011=>(if (strOfNums y35011).size+x3.size≤9223372036854775807 then(some ((strOfNums y35011) ++ x3)) else(none)))
def ZF.f:Nat→Int→Option (ByteArray)
 | 0,_=>none
 | k+1,a0=>if a0<0 then(if (wrap64 (Int.tdiv a0 10))=0 then((some (([(wrap64 (48 - a0)) % 256]:List Int):List Int)).bind fun y35001=>(if 1+(strOfNums y35001).size≤9223372036854775807 then(some ((⟨#[45]⟩:ByteArray) ++ (strOfNums y35001))) else(none))) else((ZF.f k (wrap64 (Int.tdiv a0 10))).bind fun t35004=>((some (([(wrap64 (48 - (Int.tmod a0 10))) % 256]:List Int):List Int)).bind fun y35005=>(if t35004.size+(strOfNums y35005).size≤9223372036854775807 then(some (t35004 ++ (strOfNums y35005))) else(none))))) else(ZF.l0 k a0 (⟨#[]⟩:ByteArray))
end
def ZF.T4:Bool×List (List Nat×List Nat):=(true,[([],[]),([0],[0]),([1],[1]),([],[]),([3],[3]),([4],[4]),([5],[5]),([6],[6]),([7],[7]),([2,8],[2,8]),([9,2,0,1,2,3,4,5,6,7,8,9],[9])])
def ZF.B4:List Nat:=[0,1,3,0,8,24,56,120,248,511,1023]
theorem ZF.tab4:rtab .any (opsOf Tryd.f35 4)=ZF.T4:=by kernel_rfl
theorem ZF.bits4:Zbz ZF.T4.2 ZF.B4=true:=by kernel_rfl
set_option maxHeartbeats 8000000 in
set_option maxRecDepth 100000 in
theorem ZF.calls (k:Nat):∀(a0:Int) (r:ByteArray) (w:World) (h:ZF.f k a0=some r),
  Calls Tryd.prog 35 #[.int .i64 a0] w fun e w'=>e=.returned (.string r)∧Below w.heap.size w w':=by
 induction k using Nat.strongRecOn with
 | _ k ih=>
 intro a0 r w h
 cases k with
 | zero=>exact absurd h (by simp[ZF.f])
 | succ k=>
 simp only[ZF.f] at h
 have HB:=Za (Below.refl w.heap.size w)
 have H:(if a0<0 then(if (wrap64 (Int.tdiv a0 10))=0 then((some (([(wrap64 (48 - a0)) % 256]:List Int):List Int)).bind fun y35001=>(if 1+(strOfNums y35001).size≤9223372036854775807 then(some ((⟨#[45]⟩:ByteArray) ++ (strOfNums y35001))) else(none))) else((ZF.f k (wrap64 (Int.tdiv a0 10))).bind fun t35004=>((some (([(wrap64 (48 - (Int.tmod a0 10))) % 256]:List Int):List Int)).bind fun y35005=>(if t35004.size+(strOfNums y35005).size≤9223372036854775807 then(some (t35004 ++ (strOfNums y35005))) else(none))))) else(ZF.l0 k a0 (⟨#[]⟩:ByteArray)))=some r:=h
 clear h
 by_cases c2:a0<0
 ·rw[if_pos c2] at H
  have c2b0:decide (a0<0)=true:=Ze c2
  clear c2
  by_cases c3:(wrap64 (Int.tdiv a0 10))=0
  ·rw[if_pos c3] at H
   have c3b0:((wrap64 (Int.tdiv a0 10)) == 0)=true:=beq_iff_eq.mpr c3
   have c3b1:((wrap64 (Int.tdiv a0 10)) != 0)=false:=bne_eq_false_iff_eq.mpr c3
   clear c3
   obtain⟨y35001,hy35001⟩:∃y_:List Int,y_=(([(wrap64 (48 - a0)) % 256]:List Int)):=⟨_,rfl⟩
   replace H:(if 1+(strOfNums y35001).size≤9223372036854775807 then(some ((⟨#[45]⟩:ByteArray) ++ (strOfNums y35001))) else(none))=some r:=by first|(rw[hy35001];with_reducible exact H)|(have H2_:=(Zi _ _).symm.trans H;rw[hy35001];with_reducible exact H2_)|(have H2_:=(Zi _ _).symm.trans H;with_reducible exact H2_)|with_reducible exact H|(rw[hy35001];exact H)|exact H
   have Ny35001:=Za hy35001;clear hy35001
   by_cases c4:1+(strOfNums y35001).size≤9223372036854775807
   ·rw[if_pos c4] at H
    have c4b0:=eq_true c4
    have c4b1:decide (1+(strOfNums y35001).size≤9223372036854775807)=true:=Ze c4
    try have c4b2:(9223372036854775807<1+(strOfNums y35001).size)=False:=eq_false (Nat.not_lt.2 c4)
    obtain rfl:=Zg H
    go_enter Tryd.func35,Tryd.ntmps35
    go_wp2_with (first|((with_reducible refine ZN (N:=12) rfl ?_);refine Kd.R_lit (Kd.int .u8) _ 5 ?hg (N:=12) ?hd (xs:=([(wrap64 (48 - a0)) % 256]:List Int)) (inner:=[.int .u8 ((wrap64 (48 - a0)) % 256)]) (ok:=fun _=>True) (okp:=fun _=>True) ?hr ?hp (fun _ hk=>hk) trivial (Below.refl _ _) (Nat.le_refl _) (by simp) ?_;(case hd=>rfl);(case hg=>rfl);(case hr=>first|(go_simp;done)|(go_simp;rfl));(case hp=>exact(Reps.one (show Kd.M (Kd.int .u8) _ _ _ ((wrap64 (48 - a0)) % 256) [.int .u8 ((wrap64 (48 - a0)) % 256)] from rfl) (Reps.none _ _)));intro v35002 w5 ho6 hb hg_ hnew_;clear hg_ hnew_;(first|rw[← Ny35001.out] at ho6|(simp only[Int.reduceToNat] at ho6;rw[← Ny35001.out] at ho6));have HO35003:=Za (Kd.R_lower ho6 (Zy (by repeat(first|(with_reducible first|exact HB.out|apply Zn|apply Zm|apply Zo)|exact HB.out))));replace HB:=Za (Zx (by repeat(first|(with_reducible first|exact HB.out|apply Zn|apply Zm|apply Zo)|exact HB.out)) hb);clear hb ho6;have hcv7:=Zb2 (P:=Tryd.prog) Tryd.underlying48 Tryd.underlying5 Tryd.underlying9 (Kd.own_of_R HO35003.out)))
    go_ret
    exact⟨by first|rfl|(simp[ZA,Zz] <;> rfl)|(simp[*,ZA,Zz] <;> rfl),by repeat(first|(with_reducible first|exact HB.out|apply Zn|apply Zm|apply Zo)|exact HB.out)⟩
   ·rw[if_neg c4] at H
    exact absurd H (by simp)
  ·rw[if_neg c3] at H
   have c3b0:((wrap64 (Int.tdiv a0 10)) == 0)=false:=beq_eq_false_iff_ne.mpr c3
   have c3b1:((wrap64 (Int.tdiv a0 10)) != 0)=true:=bne_iff_ne.mpr c3
   replace H:=Zh H
   obtain⟨t35004,A80,H⟩:=H
   replace H:((some (([(wrap64 (48 - (Int.tmod a0 10))) % 256]:List Int):List Int)).bind fun y35005=>(if t35004.size+(strOfNums y35005).size≤9223372036854775807 then(some (t35004 ++ (strOfNums y35005))) else(none)))=some r:=H
   have A8:=Za A80;clear A80
   obtain⟨y35005,hy35005⟩:∃y_:List Int,y_=(([(wrap64 (48 - (Int.tmod a0 10))) % 256]:List Int)):=⟨_,rfl⟩
   replace H:(if t35004.size+(strOfNums y35005).size≤9223372036854775807 then(some (t35004 ++ (strOfNums y35005))) else(none))=some r:=by first|(rw[hy35005];with_reducible exact H)|(have H2_:=(Zi _ _).symm.trans H;rw[hy35005];with_reducible exact H2_)|(have H2_:=(Zi _ _).symm.trans H;with_reducible exact H2_)|with_reducible exact H|(rw[hy35005];exact H)|exact H
   have Ny35005:=Za hy35005;clear hy35005
   by_cases c9:t35004.size+(strOfNums y35005).size≤9223372036854775807
   ·rw[if_pos c9] at H
    have c9b0:=eq_true c9
    have c9b1:decide (t35004.size+(strOfNums y35005).size≤9223372036854775807)=true:=Ze c9
    try have c9b2:(9223372036854775807<t35004.size+(strOfNums y35005).size)=False:=eq_false (Nat.not_lt.2 c9)
    obtain rfl:=Zg H
    go_enter Tryd.func35,Tryd.ntmps35
    try go_wp2
    replace HB:=Za (Zo HB.out)
    refine Zbq (n:=11) (S:=fun w'=>True) (ds:=[]) #[false,false,false,false,false,false,false,false,false,false,false] (by kernel_rfl) rfl rfl trivial (fun hHeld=>?_);refine Zbe ZF.tab4 ZF.bits4 (fun HT_ HW_=>?_)
    generalize w.drew=w10 at HB hHeld ⊢
    refine ZO (i:=0) (N:=some 15) (v:=?_) (a':=?_) #[true,false,false,false,false,false,false,false,false,false,false] rfl rfl (ZJ HT_.out (by kernel_rfl)) (fun _ _ _ h=>h) (Or.inl ⟨by rfl,?_⟩) ?_ ?_
    rotate_left
    ·intro w'
     go_simp
     with_reducible rfl
    rotate_left
    ·simp only[Act.put,List.setIfInBounds_toArray,List.set_cons_zero,List.set_cons_succ,ZC,ZD]
     rfl
    refine ZO (i:=1) (N:=some 16) (v:=?_) (a':=?_) #[true,true,false,false,false,false,false,false,false,false,false] rfl rfl (ZJ HT_.out (by kernel_rfl)) (fun _ _ _ h=>h) (Or.inl ⟨by rfl,?_⟩) ?_ ?_
    rotate_left
    ·intro w'
     go_simp
     with_reducible rfl
    rotate_left
    ·simp only[Act.put,List.setIfInBounds_toArray,List.set_cons_zero,List.set_cons_succ,ZC,ZD]
     rfl
    refine ZO (i:=3) (N:=some 18) (v:=?_) (a':=?_) #[true,true,false,true,false,false,false,false,false,false,false] rfl rfl (ZJ HT_.out (by kernel_rfl)) (fun _ _ _ h=>h) (Or.inl ⟨by rfl,?_⟩) ?_ ?_
    rotate_left
    ·intro w'
     go_simp
     with_reducible rfl
    rotate_left
    ·simp only[Act.put,List.setIfInBounds_toArray,List.set_cons_zero,List.set_cons_succ,ZC,ZD]
     rfl
    refine ZO (i:=4) (N:=some 19) (v:=?_) (a':=?_) #[true,true,false,true,true,false,false,false,false,false,false] rfl rfl (ZJ HT_.out (by kernel_rfl)) (fun _ _ _ h=>h) (Or.inl ⟨by rfl,?_⟩) ?_ ?_
    rotate_left
    ·intro w'
     go_simp
     with_reducible rfl
    rotate_left
    ·simp only[Act.put,List.setIfInBounds_toArray,List.set_cons_zero,List.set_cons_succ,ZC,ZD]
     rfl
    refine ZO (i:=5) (N:=some 20) (v:=?_) (a':=?_) #[true,true,false,true,true,true,false,false,false,false,false] rfl rfl (ZJ HT_.out (by kernel_rfl)) (fun _ _ _ h=>h) (Or.inl ⟨by rfl,?_⟩) ?_ ?_
    rotate_left
    ·intro w'
     go_simp
     with_reducible rfl
    rotate_left
    ·simp only[Act.put,List.setIfInBounds_toArray,List.set_cons_zero,List.set_cons_succ,ZC,ZD]
     rfl
    refine ZO (i:=6) (N:=some 21) (v:=?_) (a':=?_) #[true,true,false,true,true,true,true,false,false,false,false] rfl rfl (ZJ HT_.out (by kernel_rfl)) (fun _ _ _ h=>h) (Or.inl ⟨by rfl,?_⟩) ?_ ?_
    rotate_left
    ·intro w'
     go_simp
     with_reducible rfl
    rotate_left
    ·simp only[Act.put,List.setIfInBounds_toArray,List.set_cons_zero,List.set_cons_succ,ZC,ZD]
     rfl
    refine join_ (σ:=Value) 2 #[true,true,true,true,true,true,true,true,true,false,false] (fun s_=>[(17,.string t35004),(22,s_),(23,.string (strOfNums y35005))]) (fun s_ w'=>(Kd.R (Kd.int .u8) 5 w' w.heap.size (fun _=>True) s_ y35005)∧(Below w.heap.size w w')) ?_ ?_
    rotate_left
    ·intro hCont
     refine two_ (i:=2) (j:=7) (Ni:=some 17) (Nj:=some 22) #[true,true,true,true,true,true,true,false,false,false,false] #[true,true,false,true,true,true,true,true,false,false,false] rfl rfl rfl rfl (two_of HT_.out (by kernel_rfl)) (by decide) (by decide) (fun K hK=>?_) (fun K hK=>?_)
     ·skip
      refine ZaX Tryd.func35 (by kernel_rfl) rfl #[.int .i64 (wrap64 (Int.tdiv a0 10))] (by rfl) rfl rfl (by(try simp only[List.map_toArray,List.map_cons,List.map_nil]);first|done|rfl|(simp only[Zk,Zj];rfl)) ?_
      with_reducible refine(ih k (by omega) (wrap64 (Int.tdiv a0 10)) t35004 _ A8.out).mono ?_
      rintro e w11 ⟨rfl,hb⟩
      refine⟨_,rfl,?_⟩
      replace HB:=Za (Zx (by repeat(first|(with_reducible first|exact HB.out|apply Zn|apply Zm|apply Zo)|exact HB.out)) hb)
      (try clear hb)
      (try clear hb2)
      (try clear hk)
      (try clear hi)
      refine hK.out _ _ trivial (fun hHeld=>?_)
      clear hK K
      refine ZaE (a':=?_) ?_ ?_
      rotate_left
      ·show Act.put _ (some 17) _=_
       simp only[Act.put,List.setIfInBounds_toArray,List.set_cons_zero,List.set_cons_succ,ZC,ZD]
       rfl
      refine one_ (i:=7) (N:=some 22) #[true,true,true,true,true,true,true,true,false,false,false] rfl rfl (ZaR HT_.out (by kernel_rfl)) (by decide) (fun K hK=>?_)
      refine Kd.R_lit_step (Kd.int .u8) _ 5 ?hg (N:=22) ?hd (xs:=([(wrap64 (48 - (Int.tmod a0 10))) % 256]:List Int)) (inner:=[.int .u8 ((wrap64 (48 - (Int.tmod a0 10))) % 256)]) (ok:=fun _=>True) (okp:=fun _=>True) ?hr ?hp (fun _ hk=>hk) trivial (Below.refl _ _) (Nat.le_refl _) (by simp) ?_;(case hd=>rfl);(case hg=>rfl);(case hr=>first|(go_simp;done)|(go_simp;rfl));(case hp=>exact(Reps.one (show Kd.M (Kd.int .u8) _ _ _ ((wrap64 (48 - (Int.tmod a0 10))) % 256) [.int .u8 ((wrap64 (48 - (Int.tmod a0 10))) % 256)] from rfl) (Reps.none _ _)))
      intro v35006 w12 ho13 hb hg_ hnew_
      clear hg_ hnew_
      (first|rw[← Ny35005.out] at ho13|(simp only[Int.reduceToNat] at ho13;rw[← Ny35005.out] at ho13))
      have HO35007:=Za (Kd.R_lower ho13 (Zy (by repeat(first|(with_reducible first|exact HB.out|apply Zn|apply Zm|apply Zo)|exact HB.out))));replace HB:=Za (Zx (by repeat(first|(with_reducible first|exact HB.out|apply Zn|apply Zm|apply Zo)|exact HB.out)) hb)
      clear hb ho13
      refine hK.out _ _ trivial (fun hHeld=>?_)
      clear hK K
      refine ZaE (a':=?_) ?_ ?_
      rotate_left
      ·show Act.put _ (some 22) _=_
       simp only[Act.put,List.setIfInBounds_toArray,List.set_cons_zero,List.set_cons_succ,ZC,ZD]
       rfl
      refine one_ (i:=8) (N:=some 23) #[true,true,true,true,true,true,true,true,true,false,false] rfl rfl (ZaR HT_.out (by kernel_rfl)) (by decide) (fun K hK=>?_)
      have hcv14:=Zb2 (P:=Tryd.prog) Tryd.underlying48 Tryd.underlying5 Tryd.underlying9 (Kd.own_of_R HO35007.out)
      refine value_ (w1:=?_) (v:=?_) (by rfl) rfl ?_ ?_
      rotate_left 2
      ·go_simp
       constructor
       ·rfl
       ·rfl
      clear hcv14
      refine hK.out _ _ trivial (fun hHeld=>?_)
      clear hK K
      refine ZaE (a':=?_) ?_ ?_
      rotate_left
      ·show Act.put _ (some 23) _=_
       simp only[Act.put,List.setIfInBounds_toArray,List.set_cons_zero,List.set_cons_succ,ZC,ZD]
       rfl
      exact ZaE (by simp only[ZcD,Act.put,List.setIfInBounds_toArray,List.set_cons_zero,List.set_cons_succ]) (hCont (v35006) _ ⟨(by(with_reducible repeat(first|apply Kd.R_alloc|apply Kd.R_drewN|apply Kd.R_drew));exact HO35007.out),(by repeat(first|(with_reducible first|exact HB.out|apply Zn|apply Zm|apply Zo)|exact HB.out))⟩)
     ·skip
      refine Kd.R_lit_step (Kd.int .u8) _ 5 ?hg (N:=22) ?hd (xs:=([(wrap64 (48 - (Int.tmod a0 10))) % 256]:List Int)) (inner:=[.int .u8 ((wrap64 (48 - (Int.tmod a0 10))) % 256)]) (ok:=fun _=>True) (okp:=fun _=>True) ?hr ?hp (fun _ hk=>hk) trivial (Below.refl _ _) (Nat.le_refl _) (by simp) ?_;(case hd=>rfl);(case hg=>rfl);(case hr=>first|(go_simp;done)|(go_simp;rfl));(case hp=>exact(Reps.one (show Kd.M (Kd.int .u8) _ _ _ ((wrap64 (48 - (Int.tmod a0 10))) % 256) [.int .u8 ((wrap64 (48 - (Int.tmod a0 10))) % 256)] from rfl) (Reps.none _ _)))
      intro v35006 w11 ho12 hb hg_ hnew_
      clear hg_ hnew_
      (first|rw[← Ny35005.out] at ho12|(simp only[Int.reduceToNat] at ho12;rw[← Ny35005.out] at ho12))
      have HO35007:=Za (Kd.R_lower ho12 (Zy (by repeat(first|(with_reducible first|exact HB.out|apply Zn|apply Zm|apply Zo)|exact HB.out))));replace HB:=Za (Zx (by repeat(first|(with_reducible first|exact HB.out|apply Zn|apply Zm|apply Zo)|exact HB.out)) hb)
      clear hb ho12
      refine hK.out _ _ trivial (fun hHeld=>?_)
      clear hK K
      refine ZaE (a':=?_) ?_ ?_
      rotate_left
      ·show Act.put _ (some 22) _=_
       simp only[Act.put,List.setIfInBounds_toArray,List.set_cons_zero,List.set_cons_succ,ZC,ZD]
       rfl
      refine two_ (i:=2) (j:=8) (Ni:=some 17) (Nj:=some 23) #[true,true,true,true,true,true,true,true,false,false,false] #[true,true,false,true,true,true,true,true,true,false,false] rfl rfl rfl rfl (two_of HT_.out (by kernel_rfl)) (by decide) (by decide) (fun K hK=>?_) (fun K hK=>?_)
      ·skip
       refine ZaX Tryd.func35 (by kernel_rfl) rfl #[.int .i64 (wrap64 (Int.tdiv a0 10))] (by rfl) rfl rfl (by(try simp only[List.map_toArray,List.map_cons,List.map_nil]);first|done|rfl|(simp only[Zk,Zj];rfl)) ?_
       with_reducible refine(ih k (by omega) (wrap64 (Int.tdiv a0 10)) t35004 _ A8.out).mono ?_
       rintro e w13 ⟨rfl,hb⟩
       refine⟨_,rfl,?_⟩
       replace HO35007:=Za (Kd.R_below (by(with_reducible repeat(first|apply Kd.R_alloc|apply Kd.R_drewN|apply Kd.R_drew));exact HO35007.out) hb);replace HB:=Za (Zx (by repeat(first|(with_reducible first|exact HB.out|apply Zn|apply Zm|apply Zo)|exact HB.out)) hb)
       (try clear hb)
       (try clear hb2)
       (try clear hk)
       (try clear hi)
       refine hK.out _ _ trivial (fun hHeld=>?_)
       clear hK K
       refine ZaE (a':=?_) ?_ ?_
       rotate_left
       ·show Act.put _ (some 17) _=_
        simp only[Act.put,List.setIfInBounds_toArray,List.set_cons_zero,List.set_cons_succ,ZC,ZD]
        rfl
       refine one_ (i:=8) (N:=some 23) #[true,true,true,true,true,true,true,true,true,false,false] rfl rfl (ZaR HT_.out (by kernel_rfl)) (by decide) (fun K hK=>?_)
       have hcv14:=Zb2 (P:=Tryd.prog) Tryd.underlying48 Tryd.underlying5 Tryd.underlying9 (Kd.own_of_R HO35007.out)
       refine value_ (w1:=?_) (v:=?_) (by rfl) rfl ?_ ?_
       rotate_left 2
       ·go_simp
        constructor
        ·rfl
        ·rfl
       clear hcv14
       refine hK.out _ _ trivial (fun hHeld=>?_)
       clear hK K
       refine ZaE (a':=?_) ?_ ?_
       rotate_left
       ·show Act.put _ (some 23) _=_
        simp only[Act.put,List.setIfInBounds_toArray,List.set_cons_zero,List.set_cons_succ,ZC,ZD]
        rfl
       exact ZaE (by simp only[ZcD,Act.put,List.setIfInBounds_toArray,List.set_cons_zero,List.set_cons_succ]) (hCont (v35006) _ ⟨(by(with_reducible repeat(first|apply Kd.R_alloc|apply Kd.R_drewN|apply Kd.R_drew));exact HO35007.out),(by repeat(first|(with_reducible first|exact HB.out|apply Zn|apply Zm|apply Zo)|exact HB.out))⟩)
      ·skip
       have hcv13:=Zb2 (P:=Tryd.prog) Tryd.underlying48 Tryd.underlying5 Tryd.underlying9 (Kd.own_of_R HO35007.out)
       refine value_ (w1:=?_) (v:=?_) (by rfl) rfl ?_ ?_
       rotate_left 2
       ·go_simp
        constructor
        ·rfl
        ·rfl
       clear hcv13
       refine hK.out _ _ trivial (fun hHeld=>?_)
       clear hK K
       refine ZaE (a':=?_) ?_ ?_
       rotate_left
       ·show Act.put _ (some 23) _=_
        simp only[Act.put,List.setIfInBounds_toArray,List.set_cons_zero,List.set_cons_succ,ZC,ZD]
        rfl
       refine one_ (i:=2) (N:=some 17) #[true,true,true,true,true,true,true,true,true,false,false] rfl rfl (ZaR HT_.out (by kernel_rfl)) (by decide) (fun K hK=>?_)
       refine ZaX Tryd.func35 (by kernel_rfl) rfl #[.int .i64 (wrap64 (Int.tdiv a0 10))] (by rfl) rfl rfl (by(try simp only[List.map_toArray,List.map_cons,List.map_nil]);first|done|rfl|(simp only[Zk,Zj];rfl)) ?_
       with_reducible refine(ih k (by omega) (wrap64 (Int.tdiv a0 10)) t35004 _ A8.out).mono ?_
       rintro e w14 ⟨rfl,hb⟩
       refine⟨_,rfl,?_⟩
       replace HO35007:=Za (Kd.R_below (by(with_reducible repeat(first|apply Kd.R_alloc|apply Kd.R_drewN|apply Kd.R_drew));exact HO35007.out) hb);replace HB:=Za (Zx (by repeat(first|(with_reducible first|exact HB.out|apply Zn|apply Zm|apply Zo)|exact HB.out)) hb)
       (try clear hb)
       (try clear hb2)
       (try clear hk)
       (try clear hi)
       refine hK.out _ _ trivial (fun hHeld=>?_)
       clear hK K
       refine ZaE (a':=?_) ?_ ?_
       rotate_left
       ·show Act.put _ (some 17) _=_
        simp only[Act.put,List.setIfInBounds_toArray,List.set_cons_zero,List.set_cons_succ,ZC,ZD]
        rfl
       exact ZaE (by simp only[ZcD,Act.put,List.setIfInBounds_toArray,List.set_cons_zero,List.set_cons_succ]) (hCont (v35006) _ ⟨(by(with_reducible repeat(first|apply Kd.R_alloc|apply Kd.R_drewN|apply Kd.R_drew));exact HO35007.out),(by repeat(first|(with_reducible first|exact HB.out|apply Zn|apply Zm|apply Zo)|exact HB.out))⟩)
    rintro v35006 w15 ⟨h0_,h1_⟩
    have HO35007:Aside0 (Kd.R (Kd.int .u8) 5 w15 w.heap.size (fun _=>True) v35006 y35005):=⟨h0_⟩;replace HB:Aside0 (Below w.heap.size w w15):=⟨h1_⟩;clear h0_ h1_
    have hHeld:=trivial
    refine ZaE (a':=?_) ?_ ?_
    rotate_left
    ·simp only[ZcD,Act.put,List.setIfInBounds_toArray,List.set_cons_zero,List.set_cons_succ]
     rfl
    refine ZO (i:=9) (N:=some 24) (v:=?_) (a':=?_) #[true,true,true,true,true,true,true,true,true,true,false] rfl rfl (ZJ HT_.out (by kernel_rfl)) (fun _ _ _ h=>h) (Or.inl ⟨by rfl,?_⟩) ?_ ?_
    rotate_left
    ·intro w'
     go_simp
     with_reducible rfl
    rotate_left
    ·simp only[Act.put,List.setIfInBounds_toArray,List.set_cons_zero,List.set_cons_succ,ZC,ZD]
     rfl
    refine ZO (i:=10) (N:=some 2) (v:=?_) (a':=?_) #[true,true,true,true,true,true,true,true,true,true,true] rfl rfl (ZJ HT_.out (by kernel_rfl)) (fun _ _ _ h=>h) (Or.inl ⟨by rfl,?_⟩) ?_ ?_
    rotate_left
    ·intro w'
     go_simp
     with_reducible rfl
    rotate_left
    ·simp only[Act.put,List.setIfInBounds_toArray,List.set_cons_zero,List.set_cons_succ,ZC,ZD]
     rfl
    refine ZbJ (ZbA HT_.out (by kernel_rfl)) ?_
    try go_wp2
    go_ret
    exact⟨by first|rfl|(simp[ZA,Zz] <;> rfl)|(simp[*,ZA,Zz] <;> rfl),by repeat(first|(with_reducible first|exact HB.out|apply Zn|apply Zm|apply Zo)|exact HB.out)⟩
   ·rw[if_neg c9] at H
    exact absurd H (by simp)
 ·rw[if_neg c2] at H
  have c2b0:decide (a0<0)=false:=Zf c2
  clear c2
  have H':=Za H
  clear H
  go_enter Tryd.func35,Tryd.ntmps35
  go_wp2
  go_loopg [0,3] k (fun kq v0 v3 w'=>∃(x0_1:Int) (x3_1:ByteArray),v0=.int .i64 x0_1∧v3=.string x3_1∧Aside0 (ZF.l0 kq x0_1 x3_1=some r)∧Aside0 (kq≤k)∧Aside0 (Below w.heap.size w w'))
  case atStart=>exact⟨(a0),((⟨#[]⟩:ByteArray)),(by first|rfl|(simp;done)|(simp[*];done)),(by first|rfl|(simp;done)|(simp[*];done)),H',⟨Nat.le_refl _⟩,⟨by repeat(first|(with_reducible first|exact HB.out|apply Zn|apply Zm|apply Zo)|exact HB.out)⟩⟩
  case round=>
   clear H'
   try clear hcv1
   try clear c2
   try clear c2b0
   try clear p2
   try clear c3
   try clear c3b0
   try clear c3b1
   try clear c4
   try clear c4b0
   try clear c4b1
   try clear c4b2
   try clear p6
   try clear hcv7
   try clear c9
   try clear c9b0
   try clear c9b1
   try clear c9b2
   try clear hcv13
   try clear hcv14
   obtain⟨x0_1,x3_1,rfl,rfl,HA,HK1,HB⟩:=hrel
   cases gk with
   | zero=>exact absurd HA.out (by simp[ZF.l0])
   | succ k1=>
    have H:=HA.out
    clear HA
    simp only[ZF.l0] at H
    by_cases c16:x0_1 > 9
    ·rw[if_pos c16] at H
     have c16b0:decide (9<x0_1)=true:=Ze c16
     clear c16
     obtain⟨y35008,hy35008⟩:∃y_:List Int,y_=(([(wrap64 (48+(Int.tmod x0_1 10))) % 256]:List Int)):=⟨_,rfl⟩
     replace H:(if (strOfNums y35008).size+x3_1.size≤9223372036854775807 then(ZF.l0 k1 (wrap64 (Int.tdiv x0_1 10)) ((strOfNums y35008) ++ x3_1)) else(none))=some r:=by first|(rw[hy35008];with_reducible exact H)|(have H2_:=(Zi _ _).symm.trans H;rw[hy35008];with_reducible exact H2_)|(have H2_:=(Zi _ _).symm.trans H;with_reducible exact H2_)|with_reducible exact H|(rw[hy35008];exact H)|exact H
     have Ny35008:=Za hy35008;clear hy35008
     by_cases c17:(strOfNums y35008).size+x3_1.size≤9223372036854775807
     ·rw[if_pos c17] at H
      have c17b0:=eq_true c17
      have c17b1:decide ((strOfNums y35008).size+x3_1.size≤9223372036854775807)=true:=Ze c17
      try have c17b2:(9223372036854775807<(strOfNums y35008).size+x3_1.size)=False:=eq_false (Nat.not_lt.2 c17)
      have H':=Za H
      clear H
      go_wp2_with (first|((with_reducible refine ZN (N:=31) rfl ?_);refine Kd.R_lit (Kd.int .u8) _ 5 ?hg (N:=31) ?hd (xs:=([(wrap64 (48+(Int.tmod x0_1 10))) % 256]:List Int)) (inner:=[.int .u8 ((wrap64 (48+(Int.tmod x0_1 10))) % 256)]) (ok:=fun _=>True) (okp:=fun _=>True) ?hr ?hp (fun _ hk=>hk) trivial (Below.refl _ _) (Nat.le_refl _) (by simp) ?_;(case hd=>rfl);(case hg=>rfl);(case hr=>first|(go_simp;done)|(go_simp;rfl));(case hp=>exact(Reps.one (show Kd.M (Kd.int .u8) _ _ _ ((wrap64 (48+(Int.tmod x0_1 10))) % 256) [.int .u8 ((wrap64 (48+(Int.tmod x0_1 10))) % 256)] from rfl) (Reps.none _ _)));intro v35009 w18 ho19 hb hg_ hnew_;clear hg_ hnew_;(first|rw[← Ny35008.out] at ho19|(simp only[Int.reduceToNat] at ho19;rw[← Ny35008.out] at ho19));have HO35010:=Za (Kd.R_lower ho19 (Zy (by repeat(first|(with_reducible first|exact HB.out|apply Zn|apply Zm|apply Zo)|exact HB.out))));replace HB:=Za (Zx (by repeat(first|(with_reducible first|exact HB.out|apply Zn|apply Zm|apply Zo)|exact HB.out)) hb);clear hb ho19;have hcv20:=Zb2 (P:=Tryd.prog) Tryd.underlying48 Tryd.underlying5 Tryd.underlying9 (Kd.own_of_R HO35010.out)))
      go_roundg k1
      case measure=>have:=HK1.out;omega
      case rel=>exact⟨(wrap64 (Int.tdiv x0_1 10)),((strOfNums y35008) ++ x3_1),(by first|rfl|(simp;done)|(simp[*];done)),(by first|rfl|(simp;done)|(simp[*];done)),H',⟨by have:=HK1.out;omega⟩,⟨by repeat(first|(with_reducible first|exact HB.out|apply Zn|apply Zm|apply Zo)|exact HB.out)⟩⟩
     ·rw[if_neg c17] at H
      exact absurd H (by simp)
    ·rw[if_neg c16] at H
     have c16b0:decide (9<x0_1)=false:=Zf c16
     clear c16
     obtain⟨y35011,hy35011⟩:∃y_:List Int,y_=(([(wrap64 (48+x0_1)) % 256]:List Int)):=⟨_,rfl⟩
     replace H:(if (strOfNums y35011).size+x3_1.size≤9223372036854775807 then(some ((strOfNums y35011) ++ x3_1)) else(none))=some r:=by first|(rw[hy35011];with_reducible exact H)|(have H2_:=(Zi _ _).symm.trans H;rw[hy35011];with_reducible exact H2_)|(have H2_:=(Zi _ _).symm.trans H;with_reducible exact H2_)|with_reducible exact H|(rw[hy35011];exact H)|exact H
     have Ny35011:=Za hy35011;clear hy35011
     by_cases c21:(strOfNums y35011).size+x3_1.size≤9223372036854775807
     ·rw[if_pos c21] at H
      have c21b0:=eq_true c21
      have c21b1:decide ((strOfNums y35011).size+x3_1.size≤9223372036854775807)=true:=Ze c21
      try have c21b2:(9223372036854775807<(strOfNums y35011).size+x3_1.size)=False:=eq_false (Nat.not_lt.2 c21)
      obtain rfl:=Zg H
      go_wp2_with (first|((with_reducible refine ZN (N:=40) rfl ?_);refine Kd.R_lit (Kd.int .u8) _ 5 ?hg (N:=40) ?hd (xs:=([(wrap64 (48+x0_1)) % 256]:List Int)) (inner:=[.int .u8 ((wrap64 (48+x0_1)) % 256)]) (ok:=fun _=>True) (okp:=fun _=>True) ?hr ?hp (fun _ hk=>hk) trivial (Below.refl _ _) (Nat.le_refl _) (by simp) ?_;(case hd=>rfl);(case hg=>rfl);(case hr=>first|(go_simp;done)|(go_simp;rfl));(case hp=>exact(Reps.one (show Kd.M (Kd.int .u8) _ _ _ ((wrap64 (48+x0_1)) % 256) [.int .u8 ((wrap64 (48+x0_1)) % 256)] from rfl) (Reps.none _ _)));intro v35012 w22 ho23 hb hg_ hnew_;clear hg_ hnew_;(first|rw[← Ny35011.out] at ho23|(simp only[Int.reduceToNat] at ho23;rw[← Ny35011.out] at ho23));have HO35013:=Za (Kd.R_lower ho23 (Zy (by repeat(first|(with_reducible first|exact HB.out|apply Zn|apply Zm|apply Zo)|exact HB.out))));replace HB:=Za (Zx (by repeat(first|(with_reducible first|exact HB.out|apply Zn|apply Zm|apply Zo)|exact HB.out)) hb);clear hb ho23;have hcv24:=Zb2 (P:=Tryd.prog) Tryd.underlying48 Tryd.underlying5 Tryd.underlying9 (Kd.own_of_R HO35013.out)))
      go_ret
      exact⟨by first|rfl|(simp[ZA,Zz] <;> rfl)|(simp[*,ZA,Zz] <;> rfl),by repeat(first|(with_reducible first|exact HB.out|apply Zn|apply Zm|apply Zo)|exact HB.out)⟩
     ·rw[if_neg c21] at H
      exact absurd H (by simp)
def Zaj.f (k:Nat) (l0_0:List (S73)) (l0_1:List (S66)) (a0_2:Int) (a1_0:Int) (a1_1:Int) (a1_2:Int) (a1_3:Int) (a1_4:Bool):Option (ByteArray):=if a1_4=true then(if 0≤a1_0 then(if a1_0<(l0_0.length:Int) then(if 5+((Zp l0_0 a1_0).f0).size≤9223372036854775807 then(if ((⟨#[102,114,101,101,32]⟩:ByteArray) ++ ((Zp l0_0 a1_0).f0)).size+1≤9223372036854775807 then(if 0≤a1_1 then(if a1_1<(l0_0.length:Int) then(if (((⟨#[102,114,101,101,32]⟩:ByteArray) ++ ((Zp l0_0 a1_0).f0)) ++ (⟨#[32]⟩:ByteArray)).size+((Zp l0_0 a1_1).f0).size≤9223372036854775807 then(if ((((⟨#[102,114,101,101,32]⟩:ByteArray) ++ ((Zp l0_0 a1_0).f0)) ++ (⟨#[32]⟩:ByteArray)) ++ ((Zp l0_0 a1_1).f0)).size+1≤9223372036854775807 then((ZF.f k a1_2).bind fun t45005=>(if (((((⟨#[102,114,101,101,32]⟩:ByteArray) ++ ((Zp l0_0 a1_0).f0)) ++ (⟨#[32]⟩:ByteArray)) ++ ((Zp l0_0 a1_1).f0)) ++ (⟨#[32]⟩:ByteArray)).size+t45005.size≤9223372036854775807 then(if ((((((⟨#[102,114,101,101,32]⟩:ByteArray) ++ ((Zp l0_0 a1_0).f0)) ++ (⟨#[32]⟩:ByteArray)) ++ ((Zp l0_0 a1_1).f0)) ++ (⟨#[32]⟩:ByteArray)) ++ t45005).size+1≤9223372036854775807 then((ZF.f k a1_3).bind fun t45006=>(if (((((((⟨#[102,114,101,101,32]⟩:ByteArray) ++ ((Zp l0_0 a1_0).f0)) ++ (⟨#[32]⟩:ByteArray)) ++ ((Zp l0_0 a1_1).f0)) ++ (⟨#[32]⟩:ByteArray)) ++ t45005) ++ (⟨#[32]⟩:ByteArray)).size+t45006.size≤9223372036854775807 then(some ((((((((⟨#[102,114,101,101,32]⟩:ByteArray) ++ ((Zp l0_0 a1_0).f0)) ++ (⟨#[32]⟩:ByteArray)) ++ ((Zp l0_0 a1_1).f0)) ++ (⟨#[32]⟩:ByteArray)) ++ t45005) ++ (⟨#[32]⟩:ByteArray)) ++ t45006)) else(none))) else(none)) else(none))) else(none)) else(none)) else(none)) else(none)) else(none)) else(none)) else(none)) else(none)) else(if 0≤a1_0 then(if a1_0<(l0_0.length:Int) then(if 4+((Zp l0_0 a1_0).f0).size≤9223372036854775807 then(if ((⟨#[116,105,101,32]⟩:ByteArray) ++ ((Zp l0_0 a1_0).f0)).size+1≤9223372036854775807 then(if 0≤a1_1 then(if a1_1<(l0_0.length:Int) then(if (((⟨#[116,105,101,32]⟩:ByteArray) ++ ((Zp l0_0 a1_0).f0)) ++ (⟨#[32]⟩:ByteArray)).size+((Zp l0_0 a1_1).f0).size≤9223372036854775807 then(if ((((⟨#[116,105,101,32]⟩:ByteArray) ++ ((Zp l0_0 a1_0).f0)) ++ (⟨#[32]⟩:ByteArray)) ++ ((Zp l0_0 a1_1).f0)).size+1≤9223372036854775807 then((ZF.f k a1_2).bind fun t45009=>(if (((((⟨#[116,105,101,32]⟩:ByteArray) ++ ((Zp l0_0 a1_0).f0)) ++ (⟨#[32]⟩:ByteArray)) ++ ((Zp l0_0 a1_1).f0)) ++ (⟨#[32]⟩:ByteArray)).size+t45009.size≤9223372036854775807 then(if ((((((⟨#[116,105,101,32]⟩:ByteArray) ++ ((Zp l0_0 a1_0).f0)) ++ (⟨#[32]⟩:ByteArray)) ++ ((Zp l0_0 a1_1).f0)) ++ (⟨#[32]⟩:ByteArray)) ++ t45009).size+1≤9223372036854775807 then((ZF.f k a1_3).bind fun t45010=>(if (((((((⟨#[116,105,101,32]⟩:ByteArray) ++ ((Zp l0_0 a1_0).f0)) ++ (⟨#[32]⟩:ByteArray)) ++ ((Zp l0_0 a1_1).f0)) ++ (⟨#[32]⟩:ByteArray)) ++ t45009) ++ (⟨#[32]⟩:ByteArray)).size+t45010.size≤9223372036854775807 then(some ((((((((⟨#[116,105,101,32]⟩:ByteArray) ++ ((Zp l0_0 a1_0).f0)) ++ (⟨#[32]⟩:ByteArray)) ++ ((Zp l0_0 a1_1).f0)) ++ (⟨#[32]⟩:ByteArray)) ++ t45009) ++ (⟨#[32]⟩:ByteArray)) ++ t45010)) else(none))) else(none)) else(none))) else(none)) else(none)) else(none)) else(none)) else(none)) else(none)) else(none)) else(none))
def Zaj.T4:Bool×List (List Nat×List Nat):=(true,[([],[]),([],[]),([1],[1]),([],[]),([3],[3]),([2,4],[2,4]),([5],[5]),([6],[6]),([0,7],[0,7]),([8],[8]),([],[]),([10],[10]),([],[]),([12],[12]),([11,13],[11,13]),([14],[14]),([15],[15]),([9,16],[9,16]),([17],[17]),([],[]),([19],[19]),([20],[20]),([18,21],[18,21]),([22],[22]),([],[]),([24],[24]),([25,21],[25]),([23,26],[23,26]),([27,26,0,1,2,3,4,5,6,7,8,9,10,11,12,13,14,15,16,17,18,19,20,21,22,23,24,25,26,27],[27])])
def Zaj.B4:List Nat:=[0,0,2,0,8,30,62,126,255,511,0,1024,0,4096,15360,31744,64512,131071,262143,0,524288,1572864,4194303,8388607,0,16777216,54001664,134217727,268435455]
theorem Zaj.tab4:rtab .any (opsOf Tryd.f45 4)=Zaj.T4:=by kernel_rfl
theorem Zaj.bits4:Zbz Zaj.T4.2 Zaj.B4=true:=by kernel_rfl
set_option maxHeartbeats 8000000 in
set_option maxRecDepth 100000 in
theorem Zaj.calls (k:Nat) (A0_0:Option Addr) (c0_0:Nat) (l0_0:List (S73)) (A0_1:Option Addr) (c0_1:Nat) (l0_1:List (S66)) (a0_2:Int) (a1_0:Int) (a1_1:Int) (a1_2:Int) (a1_3:Int) (a1_4:Bool) (r:ByteArray) (w:World) (hr0_0:Kd.C k73 w A0_0 l0_0.length l0_0) (hc0_0:l0_0.length≤c0_0) (hr0_1:Kd.C k66 w A0_1 l0_1.length l0_1) (hc0_1:l0_1.length≤c0_1) (h:Zaj.f k l0_0 l0_1 a0_2 a1_0 a1_1 a1_2 a1_3 a1_4=some r) :
  Calls Tryd.prog 45 #[.agg #[.slice A0_0 l0_0.length c0_0,.slice A0_1 l0_1.length c0_1,.int .i64 a0_2],.agg #[.int .i64 a1_0,.int .i64 a1_1,.int .i64 a1_2,.int .i64 a1_3,.bool a1_4]] w fun e w'=>e=.returned (.string r)∧Below w.heap.size w w':=by
 have hu36:=Tryd.underlying36
 have hu66:=Tryd.underlying66
 have HR0_0:=Za hr0_0;have HC0_0:=Za hc0_0;clear hr0_0 hc0_0;have HR0_1:=Za hr0_1;have HC0_1:=Za hc0_1;clear hr0_1 hc0_1
 have HB:=Za (Below.refl w.heap.size w)
 have H:(if a1_4=true then(if 0≤a1_0 then(if a1_0<(l0_0.length:Int) then(if 5+((Zp l0_0 a1_0).f0).size≤9223372036854775807 then(if ((⟨#[102,114,101,101,32]⟩:ByteArray) ++ ((Zp l0_0 a1_0).f0)).size+1≤9223372036854775807 then(if 0≤a1_1 then(if a1_1<(l0_0.length:Int) then(if (((⟨#[102,114,101,101,32]⟩:ByteArray) ++ ((Zp l0_0 a1_0).f0)) ++ (⟨#[32]⟩:ByteArray)).size+((Zp l0_0 a1_1).f0).size≤9223372036854775807 then(if ((((⟨#[102,114,101,101,32]⟩:ByteArray) ++ ((Zp l0_0 a1_0).f0)) ++ (⟨#[32]⟩:ByteArray)) ++ ((Zp l0_0 a1_1).f0)).size+1≤9223372036854775807 then((ZF.f k a1_2).bind fun t45005=>(if (((((⟨#[102,114,101,101,32]⟩:ByteArray) ++ ((Zp l0_0 a1_0).f0)) ++ (⟨#[32]⟩:ByteArray)) ++ ((Zp l0_0 a1_1).f0)) ++ (⟨#[32]⟩:ByteArray)).size+t45005.size≤9223372036854775807 then(if ((((((⟨#[102,114,101,101,32]⟩:ByteArray) ++ ((Zp l0_0 a1_0).f0)) ++ (⟨#[32]⟩:ByteArray)) ++ ((Zp l0_0 a1_1).f0)) ++ (⟨#[32]⟩:ByteArray)) ++ t45005).size+1≤9223372036854775807 then((ZF.f k a1_3).bind fun t45006=>(if (((((((⟨#[102,114,101,101,32]⟩:ByteArray) ++ ((Zp l0_0 a1_0).f0)) ++ (⟨#[32]⟩:ByteArray)) ++ ((Zp l0_0 a1_1).f0)) ++ (⟨#[32]⟩:ByteArray)) ++ t45005) ++ (⟨#[32]⟩:ByteArray)).size+t45006.size≤9223372036854775807 then(some ((((((((⟨#[102,114,101,101,32]⟩:ByteArray) ++ ((Zp l0_0 a1_0).f0)) ++ (⟨#[32]⟩:ByteArray)) ++ ((Zp l0_0 a1_1).f0)) ++ (⟨#[32]⟩:ByteArray)) ++ t45005) ++ (⟨#[32]⟩:ByteArray)) ++ t45006)) else(none))) else(none)) else(none))) else(none)) else(none)) else(none)) else(none)) else(none)) else(none)) else(none)) else(none)) else(if 0≤a1_0 then(if a1_0<(l0_0.length:Int) then(if 4+((Zp l0_0 a1_0).f0).size≤9223372036854775807 then(if ((⟨#[116,105,101,32]⟩:ByteArray) ++ ((Zp l0_0 a1_0).f0)).size+1≤9223372036854775807 then(if 0≤a1_1 then(if a1_1<(l0_0.length:Int) then(if (((⟨#[116,105,101,32]⟩:ByteArray) ++ ((Zp l0_0 a1_0).f0)) ++ (⟨#[32]⟩:ByteArray)).size+((Zp l0_0 a1_1).f0).size≤9223372036854775807 then(if ((((⟨#[116,105,101,32]⟩:ByteArray) ++ ((Zp l0_0 a1_0).f0)) ++ (⟨#[32]⟩:ByteArray)) ++ ((Zp l0_0 a1_1).f0)).size+1≤9223372036854775807 then((ZF.f k a1_2).bind fun t45009=>(if (((((⟨#[116,105,101,32]⟩:ByteArray) ++ ((Zp l0_0 a1_0).f0)) ++ (⟨#[32]⟩:ByteArray)) ++ ((Zp l0_0 a1_1).f0)) ++ (⟨#[32]⟩:ByteArray)).size+t45009.size≤9223372036854775807 then(if ((((((⟨#[116,105,101,32]⟩:ByteArray) ++ ((Zp l0_0 a1_0).f0)) ++ (⟨#[32]⟩:ByteArray)) ++ ((Zp l0_0 a1_1).f0)) ++ (⟨#[32]⟩:ByteArray)) ++ t45009).size+1≤9223372036854775807 then((ZF.f k a1_3).bind fun t45010=>(if (((((((⟨#[116,105,101,32]⟩:ByteArray) ++ ((Zp l0_0 a1_0).f0)) ++ (⟨#[32]⟩:ByteArray)) ++ ((Zp l0_0 a1_1).f0)) ++ (⟨#[32]⟩:ByteArray)) ++ t45009) ++ (⟨#[32]⟩:ByteArray)).size+t45010.size≤9223372036854775807 then(some ((((((((⟨#[116,105,101,32]⟩:ByteArray) ++ ((Zp l0_0 a1_0).f0)) ++ (⟨#[32]⟩:ByteArray)) ++ ((Zp l0_0 a1_1).f0)) ++ (⟨#[32]⟩:ByteArray)) ++ t45009) ++ (⟨#[32]⟩:ByteArray)) ++ t45010)) else(none))) else(none)) else(none))) else(none)) else(none)) else(none)) else(none)) else(none)) else(none)) else(none)) else(none)))=some r:=h
 clear h
 by_cases c3:a1_4=true
 ·subst c3
  have H1:(if 0≤a1_0 then(if a1_0<(l0_0.length:Int) then(if 5+((Zp l0_0 a1_0).f0).size≤9223372036854775807 then(if ((⟨#[102,114,101,101,32]⟩:ByteArray) ++ ((Zp l0_0 a1_0).f0)).size+1≤9223372036854775807 then(if 0≤a1_1 then(if a1_1<(l0_0.length:Int) then(if (((⟨#[102,114,101,101,32]⟩:ByteArray) ++ ((Zp l0_0 a1_0).f0)) ++ (⟨#[32]⟩:ByteArray)).size+((Zp l0_0 a1_1).f0).size≤9223372036854775807 then(if ((((⟨#[102,114,101,101,32]⟩:ByteArray) ++ ((Zp l0_0 a1_0).f0)) ++ (⟨#[32]⟩:ByteArray)) ++ ((Zp l0_0 a1_1).f0)).size+1≤9223372036854775807 then((ZF.f k a1_2).bind fun t45005=>(if (((((⟨#[102,114,101,101,32]⟩:ByteArray) ++ ((Zp l0_0 a1_0).f0)) ++ (⟨#[32]⟩:ByteArray)) ++ ((Zp l0_0 a1_1).f0)) ++ (⟨#[32]⟩:ByteArray)).size+t45005.size≤9223372036854775807 then(if ((((((⟨#[102,114,101,101,32]⟩:ByteArray) ++ ((Zp l0_0 a1_0).f0)) ++ (⟨#[32]⟩:ByteArray)) ++ ((Zp l0_0 a1_1).f0)) ++ (⟨#[32]⟩:ByteArray)) ++ t45005).size+1≤9223372036854775807 then((ZF.f k a1_3).bind fun t45006=>(if (((((((⟨#[102,114,101,101,32]⟩:ByteArray) ++ ((Zp l0_0 a1_0).f0)) ++ (⟨#[32]⟩:ByteArray)) ++ ((Zp l0_0 a1_1).f0)) ++ (⟨#[32]⟩:ByteArray)) ++ t45005) ++ (⟨#[32]⟩:ByteArray)).size+t45006.size≤9223372036854775807 then(some ((((((((⟨#[102,114,101,101,32]⟩:ByteArray) ++ ((Zp l0_0 a1_0).f0)) ++ (⟨#[32]⟩:ByteArray)) ++ ((Zp l0_0 a1_1).f0)) ++ (⟨#[32]⟩:ByteArray)) ++ t45005) ++ (⟨#[32]⟩:ByteArray)) ++ t45006)) else(none))) else(none)) else(none))) else(none)) else(none)) else(none)) else(none)) else(none)) else(none)) else(none)) else(none))=some r:=by rw[if_pos rfl] at H;exact H
  clear H
  have H:=H1
  clear H1
  by_cases c4:0≤a1_0
  ·rw[if_pos c4] at H
   have c4b0:decide (0≤a1_0)=true:=Ze c4
   clear c4
   by_cases c5:a1_0<(l0_0.length:Int)
   ·rw[if_pos c5] at H
    have c5b0:decide (a1_0<(l0_0.length:Int))=true:=Ze c5
    clear c5
    by_cases c6:5+((Zp l0_0 a1_0).f0).size≤9223372036854775807
    ·rw[if_pos c6] at H
     have c6b0:=eq_true c6
     have c6b1:decide (5+((Zp l0_0 a1_0).f0).size≤9223372036854775807)=true:=Ze c6
     try have c6b2:(9223372036854775807<5+((Zp l0_0 a1_0).f0).size)=False:=eq_false (Nat.not_lt.2 c6)
     by_cases c7:((⟨#[102,114,101,101,32]⟩:ByteArray) ++ ((Zp l0_0 a1_0).f0)).size+1≤9223372036854775807
     ·rw[if_pos c7] at H
      have c7b0:=eq_true c7
      have c7b1:decide (((⟨#[102,114,101,101,32]⟩:ByteArray) ++ ((Zp l0_0 a1_0).f0)).size+1≤9223372036854775807)=true:=Ze c7
      try have c7b2:(9223372036854775807<((⟨#[102,114,101,101,32]⟩:ByteArray) ++ ((Zp l0_0 a1_0).f0)).size+1)=False:=eq_false (Nat.not_lt.2 c7)
      try have c7b4:(9223372036854775807<(5+((Zp l0_0 a1_0).f0).size)+1)=False:=eq_false (Nat.not_lt.2 (by have h_:=c7;simp only[ByteArray.size_append] at h_;exact h_))
      by_cases c8:0≤a1_1
      ·rw[if_pos c8] at H
       have c8b0:decide (0≤a1_1)=true:=Ze c8
       clear c8
       by_cases c9:a1_1<(l0_0.length:Int)
       ·rw[if_pos c9] at H
        have c9b0:decide (a1_1<(l0_0.length:Int))=true:=Ze c9
        clear c9
        by_cases c10:(((⟨#[102,114,101,101,32]⟩:ByteArray) ++ ((Zp l0_0 a1_0).f0)) ++ (⟨#[32]⟩:ByteArray)).size+((Zp l0_0 a1_1).f0).size≤9223372036854775807
        ·rw[if_pos c10] at H
         have c10b0:=eq_true c10
         have c10b1:decide ((((⟨#[102,114,101,101,32]⟩:ByteArray) ++ ((Zp l0_0 a1_0).f0)) ++ (⟨#[32]⟩:ByteArray)).size+((Zp l0_0 a1_1).f0).size≤9223372036854775807)=true:=Ze c10
         try have c10b2:(9223372036854775807<(((⟨#[102,114,101,101,32]⟩:ByteArray) ++ ((Zp l0_0 a1_0).f0)) ++ (⟨#[32]⟩:ByteArray)).size+((Zp l0_0 a1_1).f0).size)=False:=eq_false (Nat.not_lt.2 c10)
         try have c10b4:(9223372036854775807<((5+((Zp l0_0 a1_0).f0).size)+1)+((Zp l0_0 a1_1).f0).size)=False:=eq_false (Nat.not_lt.2 (by have h_:=c10;simp only[ByteArray.size_append] at h_;exact h_))
         by_cases c11:((((⟨#[102,114,101,101,32]⟩:ByteArray) ++ ((Zp l0_0 a1_0).f0)) ++ (⟨#[32]⟩:ByteArray)) ++ ((Zp l0_0 a1_1).f0)).size+1≤9223372036854775807
         ·rw[if_pos c11] at H
          have c11b0:=eq_true c11
          have c11b1:decide (((((⟨#[102,114,101,101,32]⟩:ByteArray) ++ ((Zp l0_0 a1_0).f0)) ++ (⟨#[32]⟩:ByteArray)) ++ ((Zp l0_0 a1_1).f0)).size+1≤9223372036854775807)=true:=Ze c11
          try have c11b2:(9223372036854775807<((((⟨#[102,114,101,101,32]⟩:ByteArray) ++ ((Zp l0_0 a1_0).f0)) ++ (⟨#[32]⟩:ByteArray)) ++ ((Zp l0_0 a1_1).f0)).size+1)=False:=eq_false (Nat.not_lt.2 c11)
          try have c11b4:(9223372036854775807<(((5+((Zp l0_0 a1_0).f0).size)+1)+((Zp l0_0 a1_1).f0).size)+1)=False:=eq_false (Nat.not_lt.2 (by have h_:=c11;simp only[ByteArray.size_append] at h_;exact h_))
          replace H:=Zh H
          obtain⟨t45005,A120,H⟩:=H
          replace H:(if (((((⟨#[102,114,101,101,32]⟩:ByteArray) ++ ((Zp l0_0 a1_0).f0)) ++ (⟨#[32]⟩:ByteArray)) ++ ((Zp l0_0 a1_1).f0)) ++ (⟨#[32]⟩:ByteArray)).size+t45005.size≤9223372036854775807 then(if ((((((⟨#[102,114,101,101,32]⟩:ByteArray) ++ ((Zp l0_0 a1_0).f0)) ++ (⟨#[32]⟩:ByteArray)) ++ ((Zp l0_0 a1_1).f0)) ++ (⟨#[32]⟩:ByteArray)) ++ t45005).size+1≤9223372036854775807 then((ZF.f k a1_3).bind fun t45006=>(if (((((((⟨#[102,114,101,101,32]⟩:ByteArray) ++ ((Zp l0_0 a1_0).f0)) ++ (⟨#[32]⟩:ByteArray)) ++ ((Zp l0_0 a1_1).f0)) ++ (⟨#[32]⟩:ByteArray)) ++ t45005) ++ (⟨#[32]⟩:ByteArray)).size+t45006.size≤9223372036854775807 then(some ((((((((⟨#[102,114,101,101,32]⟩:ByteArray) ++ ((Zp l0_0 a1_0).f0)) ++ (⟨#[32]⟩:ByteArray)) ++ ((Zp l0_0 a1_1).f0)) ++ (⟨#[32]⟩:ByteArray)) ++ t45005) ++ (⟨#[32]⟩:ByteArray)) ++ t45006)) else(none))) else(none)) else(none))=some r:=H
          have A12:=Za A120;clear A120
          by_cases c13:(((((⟨#[102,114,101,101,32]⟩:ByteArray) ++ ((Zp l0_0 a1_0).f0)) ++ (⟨#[32]⟩:ByteArray)) ++ ((Zp l0_0 a1_1).f0)) ++ (⟨#[32]⟩:ByteArray)).size+t45005.size≤9223372036854775807
          ·rw[if_pos c13] at H
           have c13b0:=eq_true c13
           have c13b1:decide ((((((⟨#[102,114,101,101,32]⟩:ByteArray) ++ ((Zp l0_0 a1_0).f0)) ++ (⟨#[32]⟩:ByteArray)) ++ ((Zp l0_0 a1_1).f0)) ++ (⟨#[32]⟩:ByteArray)).size+t45005.size≤9223372036854775807)=true:=Ze c13
           try have c13b2:(9223372036854775807<(((((⟨#[102,114,101,101,32]⟩:ByteArray) ++ ((Zp l0_0 a1_0).f0)) ++ (⟨#[32]⟩:ByteArray)) ++ ((Zp l0_0 a1_1).f0)) ++ (⟨#[32]⟩:ByteArray)).size+t45005.size)=False:=eq_false (Nat.not_lt.2 c13)
           try have c13b4:(9223372036854775807<((((5+((Zp l0_0 a1_0).f0).size)+1)+((Zp l0_0 a1_1).f0).size)+1)+t45005.size)=False:=eq_false (Nat.not_lt.2 (by have h_:=c13;simp only[ByteArray.size_append] at h_;exact h_))
           by_cases c14:((((((⟨#[102,114,101,101,32]⟩:ByteArray) ++ ((Zp l0_0 a1_0).f0)) ++ (⟨#[32]⟩:ByteArray)) ++ ((Zp l0_0 a1_1).f0)) ++ (⟨#[32]⟩:ByteArray)) ++ t45005).size+1≤9223372036854775807
           ·rw[if_pos c14] at H
            have c14b0:=eq_true c14
            have c14b1:decide (((((((⟨#[102,114,101,101,32]⟩:ByteArray) ++ ((Zp l0_0 a1_0).f0)) ++ (⟨#[32]⟩:ByteArray)) ++ ((Zp l0_0 a1_1).f0)) ++ (⟨#[32]⟩:ByteArray)) ++ t45005).size+1≤9223372036854775807)=true:=Ze c14
            try have c14b2:(9223372036854775807<((((((⟨#[102,114,101,101,32]⟩:ByteArray) ++ ((Zp l0_0 a1_0).f0)) ++ (⟨#[32]⟩:ByteArray)) ++ ((Zp l0_0 a1_1).f0)) ++ (⟨#[32]⟩:ByteArray)) ++ t45005).size+1)=False:=eq_false (Nat.not_lt.2 c14)
            try have c14b4:(9223372036854775807<(((((5+((Zp l0_0 a1_0).f0).size)+1)+((Zp l0_0 a1_1).f0).size)+1)+t45005.size)+1)=False:=eq_false (Nat.not_lt.2 (by have h_:=c14;simp only[ByteArray.size_append] at h_;exact h_))
            replace H:=Zh H
            obtain⟨t45006,A150,H⟩:=H
            replace H:(if (((((((⟨#[102,114,101,101,32]⟩:ByteArray) ++ ((Zp l0_0 a1_0).f0)) ++ (⟨#[32]⟩:ByteArray)) ++ ((Zp l0_0 a1_1).f0)) ++ (⟨#[32]⟩:ByteArray)) ++ t45005) ++ (⟨#[32]⟩:ByteArray)).size+t45006.size≤9223372036854775807 then(some ((((((((⟨#[102,114,101,101,32]⟩:ByteArray) ++ ((Zp l0_0 a1_0).f0)) ++ (⟨#[32]⟩:ByteArray)) ++ ((Zp l0_0 a1_1).f0)) ++ (⟨#[32]⟩:ByteArray)) ++ t45005) ++ (⟨#[32]⟩:ByteArray)) ++ t45006)) else(none))=some r:=H
            have A15:=Za A150;clear A150
            by_cases c16:(((((((⟨#[102,114,101,101,32]⟩:ByteArray) ++ ((Zp l0_0 a1_0).f0)) ++ (⟨#[32]⟩:ByteArray)) ++ ((Zp l0_0 a1_1).f0)) ++ (⟨#[32]⟩:ByteArray)) ++ t45005) ++ (⟨#[32]⟩:ByteArray)).size+t45006.size≤9223372036854775807
            ·rw[if_pos c16] at H
             have c16b0:=eq_true c16
             have c16b1:decide ((((((((⟨#[102,114,101,101,32]⟩:ByteArray) ++ ((Zp l0_0 a1_0).f0)) ++ (⟨#[32]⟩:ByteArray)) ++ ((Zp l0_0 a1_1).f0)) ++ (⟨#[32]⟩:ByteArray)) ++ t45005) ++ (⟨#[32]⟩:ByteArray)).size+t45006.size≤9223372036854775807)=true:=Ze c16
             try have c16b2:(9223372036854775807<(((((((⟨#[102,114,101,101,32]⟩:ByteArray) ++ ((Zp l0_0 a1_0).f0)) ++ (⟨#[32]⟩:ByteArray)) ++ ((Zp l0_0 a1_1).f0)) ++ (⟨#[32]⟩:ByteArray)) ++ t45005) ++ (⟨#[32]⟩:ByteArray)).size+t45006.size)=False:=eq_false (Nat.not_lt.2 c16)
             try have c16b4:(9223372036854775807<((((((5+((Zp l0_0 a1_0).f0).size)+1)+((Zp l0_0 a1_1).f0).size)+1)+t45005.size)+1)+t45006.size)=False:=eq_false (Nat.not_lt.2 (by have h_:=c16;simp only[ByteArray.size_append] at h_;exact h_))
             obtain rfl:=Zg H
             go_enter Tryd.func45,Tryd.ntmps45
             try go_wp2_with (first|((with_reducible refine ZN (N:=2) rfl ?_);refine ZP ?hg (N:=2) ?hd (cs:=#[.slice A0_0 l0_0.length c0_0,.slice A0_1 l0_1.length c0_1,.int .i64 a0_2]) (t:=36) ?hr ?_;(case hd=>rfl);(case hg=>rfl);(case hr=>first|(go_simp;done)|(go_simp;rfl));intro gb45001 hg w17 hbox hb;have BK45001:=Za (hbox);have GW45001:=Za ((by rw[hg];exact(Zy (by repeat(first|(with_reducible first|exact HB.out|apply Zn|apply Zm|apply Zo)|exact HB.out))):w.heap.size≤gb45001));have GE45001:=Za ((by rw[hg];exact(Zy (by repeat(first|(with_reducible first|exact HB.out|apply Zn|apply Zm|apply Zo)|exact HB.out))):w.heap.size≤gb45001));replace HB:=Za (Zx (by repeat(first|(with_reducible first|exact HB.out|apply Zn|apply Zm|apply Zo)|exact HB.out)) hb);clear hb hbox hg)|((with_reducible refine ZN (N:=3) rfl ?_);refine ZP ?hg (N:=3) ?hd (cs:=#[.int .i64 a1_0,.int .i64 a1_1,.int .i64 a1_2,.int .i64 a1_3,.bool true]) (t:=66) ?hr ?_;(case hd=>rfl);(case hg=>rfl);(case hr=>first|(go_simp;done)|(go_simp;rfl));intro gb45002 hg w18 hbox hb;have BK45002:=Za (hbox);have GW45002:=Za ((by rw[hg];exact(Zy (by repeat(first|(with_reducible first|exact HB.out|apply Zn|apply Zm|apply Zo|refine Zr ?_ GE45001.out)|exact HB.out))):w.heap.size≤gb45002));have GE45002:=Za ((by rw[hg];exact(Zy (by repeat(first|(with_reducible first|exact HB.out|apply Zn|apply Zm|apply Zo|refine Zr ?_ GE45001.out)|exact HB.out))):w.heap.size≤gb45002));have NB45001_45002:=Za ((by rw[hg];exact Nat.ne_of_lt (ZY (g:=gb45001) (o:=.cells #[.slice A0_0 l0_0.length c0_0,.slice A0_1 l0_1.length c0_1,.int .i64 a0_2] 36 (0,0)) (by(with_reducible repeat(first|refine Zu ?_ _|refine Zv ?_|refine Zs ?_ _));exact BK45001.out)):gb45001≠gb45002));have NB45002_45001:=Za ((by rw[hg];exact Nat.ne_of_gt (ZY (g:=gb45001) (o:=.cells #[.slice A0_0 l0_0.length c0_0,.slice A0_1 l0_1.length c0_1,.int .i64 a0_2] 36 (0,0)) (by(with_reducible repeat(first|refine Zu ?_ _|refine Zv ?_|refine Zs ?_ _));exact BK45001.out)):gb45002≠gb45001));replace BK45001:=Za (ZB (g:=gb45001) (o:=.cells #[.slice A0_0 l0_0.length c0_0,.slice A0_1 l0_1.length c0_1,.int .i64 a0_2] 36 (0,0)) (by(with_reducible repeat(first|refine Zu ?_ _|refine Zv ?_|refine Zs ?_ _));exact BK45001.out) hb);replace HB:=Za (Zx (by repeat(first|(with_reducible first|exact HB.out|apply Zn|apply Zm|apply Zo|refine Zr ?_ GE45001.out)|exact HB.out)) hb);clear hb hbox hg;have hnb19:=NB45002_45001.out;have hnc19:=NB45001_45002.out;have hcz20_0:w18.cell? ⟨gb45002,0,none⟩=some (.int .i64 a1_0):=(Zq BK45002.out 0).trans rfl;have hcz20_1:w18.cell? ⟨gb45002,1,none⟩=some (.int .i64 a1_1):=(Zq BK45002.out 1).trans rfl;have hcz20_2:w18.cell? ⟨gb45002,2,none⟩=some (.int .i64 a1_2):=(Zq BK45002.out 2).trans rfl;have hcz20_3:w18.cell? ⟨gb45002,3,none⟩=some (.int .i64 a1_3):=(Zq BK45002.out 3).trans rfl;have hcz20_4:w18.cell? ⟨gb45002,4,none⟩=some (.bool true):=(Zq BK45002.out 4).trans rfl;have hfz20_0:=Zt BK45002.out 0;have hfz20_1:=Zt BK45002.out 1;have hfz20_2:=Zt BK45002.out 2;have hfz20_3:=Zt BK45002.out 3;have hfz20_4:=Zt BK45002.out 4))
             replace BK45001:=Za (Zv BK45001.out);replace BK45002:=Za (Zv BK45002.out);replace HB:=Za (Zo HB.out)
             have p45003:0≤(a1_0:Int):=Zd (by first|(with_reducible assumption)|assumption)
             have q45003:a1_0<(l0_0.length:Int):=Zd (by first|(with_reducible assumption)|assumption)
             obtain⟨ad45003,A45003_1,c45003_1,e45003,hx45003_0,hx45003_1,hx45003_2,hl45003_1,hi45003_1⟩:=Zan HR0_0.out a1_0 p45003 q45003
             have hw45003_2:=hx45003_2
             have hw45003_1:=hx45003_1
             have hw45003_0:=hx45003_0
             cases e45003
             replace hx45003_0:=(HB.out.cell (Zc w _ hx45003_0)).trans hx45003_0
             replace hx45003_1:=(HB.out.cell (Zc w _ hx45003_1)).trans hx45003_1
             replace hx45003_2:=(HB.out.cell (Zc w _ hx45003_2)).trans hx45003_2
             have HR45003_1:=Za hi45003_1;have HC45003_1:=Za hl45003_1;clear hi45003_1 hl45003_1
             replace p45003:=eq_true p45003
             replace q45003:=eq_true q45003
             have p45004:0≤(a1_1:Int):=Zd (by first|(with_reducible assumption)|assumption)
             have q45004:a1_1<(l0_0.length:Int):=Zd (by first|(with_reducible assumption)|assumption)
             obtain⟨ad45004,A45004_1,c45004_1,e45004,hx45004_0,hx45004_1,hx45004_2,hl45004_1,hi45004_1⟩:=Zan HR0_0.out a1_1 p45004 q45004
             have hw45004_2:=hx45004_2
             have hw45004_1:=hx45004_1
             have hw45004_0:=hx45004_0
             obtain rfl:ad45003=ad45004:=(by injection e45004)
             replace hx45004_0:=(HB.out.cell (Zc w _ hx45004_0)).trans hx45004_0
             replace hx45004_1:=(HB.out.cell (Zc w _ hx45004_1)).trans hx45004_1
             replace hx45004_2:=(HB.out.cell (Zc w _ hx45004_2)).trans hx45004_2
             have HR45004_1:=Za hi45004_1;have HC45004_1:=Za hl45004_1;clear hi45004_1 hl45004_1
             replace p45004:=eq_true p45004
             replace q45004:=eq_true q45004
             refine Zbq (n:=29) (S:=fun w'=>w'.cell? ⟨gb45001,0,none⟩=some (.slice (some ad45003) l0_0.length c0_0)∧w'.cell? ⟨gb45001,1,none⟩=some (.slice A0_1 l0_1.length c0_1)∧w'.cell? ⟨gb45001,2,none⟩=some (.int .i64 a0_2)∧w'.cell? ⟨gb45002,0,none⟩=some (.int .i64 a1_0)∧w'.cell? ⟨gb45002,1,none⟩=some (.int .i64 a1_1)∧w'.cell? ⟨gb45002,2,none⟩=some (.int .i64 a1_2)∧w'.cell? ⟨gb45002,3,none⟩=some (.int .i64 a1_3)∧w'.cell? ⟨gb45002,4,none⟩=some (.bool true)∧w'.cell? (ad45003.add ((a1_0).toNat * 3))=some (.string ((Zp l0_0 a1_0).f0))∧w'.cell? ⟨(ad45003.add ((a1_0).toNat * 3)).block,(ad45003.add ((a1_0).toNat * 3)).off+1,none⟩=some (.slice A45003_1 ((Zp l0_0 a1_0).f1).length c45003_1)∧w'.cell? ⟨(ad45003.add ((a1_0).toNat * 3)).block,(ad45003.add ((a1_0).toNat * 3)).off+2,none⟩=some (.int .i64 ((Zp l0_0 a1_0).f2))∧w'.cell? (ad45003.add ((a1_1).toNat * 3))=some (.string ((Zp l0_0 a1_1).f0))∧w'.cell? ⟨(ad45003.add ((a1_1).toNat * 3)).block,(ad45003.add ((a1_1).toNat * 3)).off+1,none⟩=some (.slice A45004_1 ((Zp l0_0 a1_1).f1).length c45004_1)∧w'.cell? ⟨(ad45003.add ((a1_1).toNat * 3)).block,(ad45003.add ((a1_1).toNat * 3)).off+2,none⟩=some (.int .i64 ((Zp l0_0 a1_1).f2))) (ds:=[]) #[false,false,false,false,false,false,false,false,false,false,false,false,false,false,false,false,false,false,false,false,false,false,false,false,false,false,false,false,false] (by kernel_rfl) rfl rfl ⟨(Zq BK45001.out 0).trans rfl,(Zq BK45001.out 1).trans rfl,(Zq BK45001.out 2).trans rfl,(Zq BK45002.out 0).trans rfl,(Zq BK45002.out 1).trans rfl,(Zq BK45002.out 2).trans rfl,(Zq BK45002.out 3).trans rfl,(Zq BK45002.out 4).trans rfl,((HB.out.cell (Zc w _ hw45003_0)).trans hw45003_0),((HB.out.cell (Zc w _ hw45003_1)).trans hw45003_1),((HB.out.cell (Zc w _ hw45003_2)).trans hw45003_2),((HB.out.cell (Zc w _ hw45004_0)).trans hw45004_0),((HB.out.cell (Zc w _ hw45004_1)).trans hw45004_1),((HB.out.cell (Zc w _ hw45004_2)).trans hw45004_2)⟩ (fun hHeld=>?_);refine Zbe Zaj.tab4 Zaj.bits4 (fun HT_ HW_=>?_)
             generalize w18.drew=w21 at BK45001 BK45002 HB HR45003_1 HR45004_1 hx45003_0 hx45003_1 hx45003_2 hx45004_0 hx45004_1 hx45004_2 hHeld ⊢
             refine ZO (i:=0) (N:=some 8) (v:=?_) (a':=?_) #[true,false,false,false,false,false,false,false,false,false,false,false,false,false,false,false,false,false,false,false,false,false,false,false,false,false,false,false,false] rfl rfl (ZJ HT_.out (by kernel_rfl)) (fun _ _ _ h=>h) (Or.inl ⟨by rfl,?_⟩) ?_ ?_
             rotate_left
             ·intro w'
              go_simp
              with_reducible rfl
             rotate_left
             ·simp only[Act.put,List.setIfInBounds_toArray,List.set_cons_zero,List.set_cons_succ,ZC,ZD]
              rfl
             refine ZO (i:=1) (N:=some 9) (v:=?_) (a':=?_) #[true,true,false,false,false,false,false,false,false,false,false,false,false,false,false,false,false,false,false,false,false,false,false,false,false,false,false,false,false] rfl rfl (ZJ HT_.out (by kernel_rfl)) (fun _ _ _ h=>h) (Or.inl ⟨by rfl,?_⟩) ?_ ?_
             rotate_left
             ·intro w'
              go_simp
              with_reducible rfl
             rotate_left
             ·simp only[Act.put,List.setIfInBounds_toArray,List.set_cons_zero,List.set_cons_succ,ZC,ZD]
              rfl
             refine ZO (i:=3) (N:=some 11) (v:=?_) (a':=?_) #[true,true,false,true,false,false,false,false,false,false,false,false,false,false,false,false,false,false,false,false,false,false,false,false,false,false,false,false,false] rfl rfl (ZJ HT_.out (by kernel_rfl)) (fun _ _ _ h=>h) (Or.inl ⟨by rfl,?_⟩) ?_ ?_
             rotate_left
             ·intro w'
              go_simp
              with_reducible rfl
             rotate_left
             ·simp only[Act.put,List.setIfInBounds_toArray,List.set_cons_zero,List.set_cons_succ,ZC,ZD]
              rfl
             refine ZO (i:=10) (N:=some 18) (v:=?_) (a':=?_) #[true,true,false,true,false,false,false,false,false,false,true,false,false,false,false,false,false,false,false,false,false,false,false,false,false,false,false,false,false] rfl rfl (ZJ HT_.out (by kernel_rfl)) (fun _ _ _ h=>h) (Or.inl ⟨by rfl,?_⟩) ?_ ?_
             rotate_left
             ·intro w'
              go_simp
              with_reducible rfl
             rotate_left
             ·simp only[Act.put,List.setIfInBounds_toArray,List.set_cons_zero,List.set_cons_succ,ZC,ZD]
              rfl
             refine ZO (i:=12) (N:=some 20) (v:=?_) (a':=?_) #[true,true,false,true,false,false,false,false,false,false,true,false,true,false,false,false,false,false,false,false,false,false,false,false,false,false,false,false,false] rfl rfl (ZJ HT_.out (by kernel_rfl)) (fun _ _ _ h=>h) (Or.inl ⟨by rfl,?_⟩) ?_ ?_
             rotate_left
             ·intro w'
              go_simp
              with_reducible rfl
             rotate_left
             ·simp only[Act.put,List.setIfInBounds_toArray,List.set_cons_zero,List.set_cons_succ,ZC,ZD]
              rfl
             refine ZO (i:=19) (N:=some 27) (v:=?_) (a':=?_) #[true,true,false,true,false,false,false,false,false,false,true,false,true,false,false,false,false,false,false,true,false,false,false,false,false,false,false,false,false] rfl rfl (ZJ HT_.out (by kernel_rfl)) (fun _ _ _ h=>h) (Or.inl ⟨by rfl,?_⟩) ?_ ?_
             rotate_left
             ·intro w'
              go_simp
              with_reducible rfl
             rotate_left
             ·simp only[Act.put,List.setIfInBounds_toArray,List.set_cons_zero,List.set_cons_succ,ZC,ZD]
              rfl
             refine ZO (i:=24) (N:=some 32) (v:=?_) (a':=?_) #[true,true,false,true,false,false,false,false,false,false,true,false,true,false,false,false,false,false,false,true,false,false,false,false,true,false,false,false,false] rfl rfl (ZJ HT_.out (by kernel_rfl)) (fun _ _ _ h=>h) (Or.inl ⟨by rfl,?_⟩) ?_ ?_
             rotate_left
             ·intro w'
              go_simp
              with_reducible rfl
             rotate_left
             ·simp only[Act.put,List.setIfInBounds_toArray,List.set_cons_zero,List.set_cons_succ,ZC,ZD]
              rfl
             refine take_ (i:=2) (N:=some 10) (v:=?_) (a':=?_) #[true,true,true,true,false,false,false,false,false,false,true,false,true,false,false,false,false,false,false,true,false,false,false,false,true,false,false,false,false] rfl rfl (Z3 HT_.out HW_.out (by kernel_rfl)) (fun _ _ _ h=>h) (Or.inl ⟨by rfl,?_⟩) hHeld ?_ ?_
             rotate_left
             ·rintro w' ⟨s0,s1,s2,s3,s4,s5,s6,s7,s8,s9,s10,s11,s12,s13⟩
              go_simp
              with_reducible rfl
             rotate_left
             ·simp only[Act.put,List.setIfInBounds_toArray,List.set_cons_zero,List.set_cons_succ,ZC,ZD]
              rfl
             refine take_ (i:=4) (N:=some 12) (v:=?_) (a':=?_) #[true,true,true,true,true,false,false,false,false,false,true,false,true,false,false,false,false,false,false,true,false,false,false,false,true,false,false,false,false] rfl rfl (Z3 HT_.out HW_.out (by kernel_rfl)) (fun _ _ _ h=>h) (Or.inl ⟨by rfl,?_⟩) hHeld ?_ ?_
             rotate_left
             ·rintro w' ⟨s0,s1,s2,s3,s4,s5,s6,s7,s8,s9,s10,s11,s12,s13⟩
              go_simp
              with_reducible rfl
             rotate_left
             ·simp only[Act.put,List.setIfInBounds_toArray,List.set_cons_zero,List.set_cons_succ,ZC,ZD]
              rfl
             refine ZO (i:=5) (N:=some 13) (v:=?_) (a':=?_) #[true,true,true,true,true,true,false,false,false,false,true,false,true,false,false,false,false,false,false,true,false,false,false,false,true,false,false,false,false] rfl rfl (ZJ HT_.out (by kernel_rfl)) (fun _ _ _ h=>h) (Or.inl ⟨by rfl,?_⟩) ?_ ?_
             rotate_left
             ·intro w'
              go_simp
              with_reducible rfl
             rotate_left
             ·simp only[Act.put,List.setIfInBounds_toArray,List.set_cons_zero,List.set_cons_succ,ZC,ZD]
              rfl
             refine ZO (i:=6) (N:=some 14) (v:=?_) (a':=?_) #[true,true,true,true,true,true,true,false,false,false,true,false,true,false,false,false,false,false,false,true,false,false,false,false,true,false,false,false,false] rfl rfl (ZJ HT_.out (by kernel_rfl)) (fun _ _ _ h=>h) (Or.inl ⟨by rfl,?_⟩) ?_ ?_
             rotate_left
             ·intro w'
              go_simp
              with_reducible rfl
             rotate_left
             ·simp only[Act.put,List.setIfInBounds_toArray,List.set_cons_zero,List.set_cons_succ,ZC,ZD]
              rfl
             refine take_ (i:=7) (N:=some 15) (v:=?_) (a':=?_) #[true,true,true,true,true,true,true,true,false,false,true,false,true,false,false,false,false,false,false,true,false,false,false,false,true,false,false,false,false] rfl rfl (Z3 HT_.out HW_.out (by kernel_rfl)) (fun _ _ _ h=>h) (Or.inl ⟨by rfl,?_⟩) hHeld ?_ ?_
             rotate_left
             ·rintro w' ⟨s0,s1,s2,s3,s4,s5,s6,s7,s8,s9,s10,s11,s12,s13⟩
              go_simp
              with_reducible rfl
             rotate_left
             ·simp only[Act.put,List.setIfInBounds_toArray,List.set_cons_zero,List.set_cons_succ,ZC,ZD]
              rfl
             refine ZO (i:=8) (N:=some 16) (v:=?_) (a':=?_) #[true,true,true,true,true,true,true,true,true,false,true,false,true,false,false,false,false,false,false,true,false,false,false,false,true,false,false,false,false] rfl rfl (ZJ HT_.out (by kernel_rfl)) (fun _ _ _ h=>h) (Or.inl ⟨by rfl,?_⟩) ?_ ?_
             rotate_left
             ·intro w'
              go_simp
              with_reducible rfl
             rotate_left
             ·simp only[Act.put,List.setIfInBounds_toArray,List.set_cons_zero,List.set_cons_succ,ZC,ZD]
              rfl
             refine ZO (i:=9) (N:=some 17) (v:=?_) (a':=?_) #[true,true,true,true,true,true,true,true,true,true,true,false,true,false,false,false,false,false,false,true,false,false,false,false,true,false,false,false,false] rfl rfl (ZJ HT_.out (by kernel_rfl)) (fun _ _ _ h=>h) (Or.inl ⟨by rfl,?_⟩) ?_ ?_
             rotate_left
             ·intro w'
              go_simp
              with_reducible rfl
             rotate_left
             ·simp only[Act.put,List.setIfInBounds_toArray,List.set_cons_zero,List.set_cons_succ,ZC,ZD]
              rfl
             refine take_ (i:=11) (N:=some 19) (v:=?_) (a':=?_) #[true,true,true,true,true,true,true,true,true,true,true,true,true,false,false,false,false,false,false,true,false,false,false,false,true,false,false,false,false] rfl rfl (Z3 HT_.out HW_.out (by kernel_rfl)) (fun _ _ _ h=>h) (Or.inl ⟨by rfl,?_⟩) hHeld ?_ ?_
             rotate_left
             ·rintro w' ⟨s0,s1,s2,s3,s4,s5,s6,s7,s8,s9,s10,s11,s12,s13⟩
              go_simp
              with_reducible rfl
             rotate_left
             ·simp only[Act.put,List.setIfInBounds_toArray,List.set_cons_zero,List.set_cons_succ,ZC,ZD]
              rfl
             refine take_ (i:=13) (N:=some 21) (v:=?_) (a':=?_) #[true,true,true,true,true,true,true,true,true,true,true,true,true,true,false,false,false,false,false,true,false,false,false,false,true,false,false,false,false] rfl rfl (Z3 HT_.out HW_.out (by kernel_rfl)) (fun _ _ _ h=>h) (Or.inl ⟨by rfl,?_⟩) hHeld ?_ ?_
             rotate_left
             ·rintro w' ⟨s0,s1,s2,s3,s4,s5,s6,s7,s8,s9,s10,s11,s12,s13⟩
              go_simp
              with_reducible rfl
             rotate_left
             ·simp only[Act.put,List.setIfInBounds_toArray,List.set_cons_zero,List.set_cons_succ,ZC,ZD]
              rfl
             refine ZO (i:=14) (N:=some 22) (v:=?_) (a':=?_) #[true,true,true,true,true,true,true,true,true,true,true,true,true,true,true,false,false,false,false,true,false,false,false,false,true,false,false,false,false] rfl rfl (ZJ HT_.out (by kernel_rfl)) (fun _ _ _ h=>h) (Or.inl ⟨by rfl,?_⟩) ?_ ?_
             rotate_left
             ·intro w'
              go_simp
              with_reducible rfl
             rotate_left
             ·simp only[Act.put,List.setIfInBounds_toArray,List.set_cons_zero,List.set_cons_succ,ZC,ZD]
              rfl
             refine ZO (i:=15) (N:=some 23) (v:=?_) (a':=?_) #[true,true,true,true,true,true,true,true,true,true,true,true,true,true,true,true,false,false,false,true,false,false,false,false,true,false,false,false,false] rfl rfl (ZJ HT_.out (by kernel_rfl)) (fun _ _ _ h=>h) (Or.inl ⟨by rfl,?_⟩) ?_ ?_
             rotate_left
             ·intro w'
              go_simp
              with_reducible rfl
             rotate_left
             ·simp only[Act.put,List.setIfInBounds_toArray,List.set_cons_zero,List.set_cons_succ,ZC,ZD]
              rfl
             refine take_ (i:=16) (N:=some 24) (v:=?_) (a':=?_) #[true,true,true,true,true,true,true,true,true,true,true,true,true,true,true,true,true,false,false,true,false,false,false,false,true,false,false,false,false] rfl rfl (Z3 HT_.out HW_.out (by kernel_rfl)) (fun _ _ _ h=>h) (Or.inl ⟨by rfl,?_⟩) hHeld ?_ ?_
             rotate_left
             ·rintro w' ⟨s0,s1,s2,s3,s4,s5,s6,s7,s8,s9,s10,s11,s12,s13⟩
              go_simp
              with_reducible rfl
             rotate_left
             ·simp only[Act.put,List.setIfInBounds_toArray,List.set_cons_zero,List.set_cons_succ,ZC,ZD]
              rfl
             refine ZO (i:=17) (N:=some 25) (v:=?_) (a':=?_) #[true,true,true,true,true,true,true,true,true,true,true,true,true,true,true,true,true,true,false,true,false,false,false,false,true,false,false,false,false] rfl rfl (ZJ HT_.out (by kernel_rfl)) (fun _ _ _ h=>h) (Or.inl ⟨by rfl,?_⟩) ?_ ?_
             rotate_left
             ·intro w'
              go_simp
              with_reducible rfl
             rotate_left
             ·simp only[Act.put,List.setIfInBounds_toArray,List.set_cons_zero,List.set_cons_succ,ZC,ZD]
              rfl
             refine ZO (i:=18) (N:=some 26) (v:=?_) (a':=?_) #[true,true,true,true,true,true,true,true,true,true,true,true,true,true,true,true,true,true,true,true,false,false,false,false,true,false,false,false,false] rfl rfl (ZJ HT_.out (by kernel_rfl)) (fun _ _ _ h=>h) (Or.inl ⟨by rfl,?_⟩) ?_ ?_
             rotate_left
             ·intro w'
              go_simp
              with_reducible rfl
             rotate_left
             ·simp only[Act.put,List.setIfInBounds_toArray,List.set_cons_zero,List.set_cons_succ,ZC,ZD]
              rfl
             refine take_ (i:=20) (N:=some 28) (v:=?_) (a':=?_) #[true,true,true,true,true,true,true,true,true,true,true,true,true,true,true,true,true,true,true,true,true,false,false,false,true,false,false,false,false] rfl rfl (Z3 HT_.out HW_.out (by kernel_rfl)) (fun _ _ _ h=>h) (Or.inl ⟨by rfl,?_⟩) hHeld ?_ ?_
             rotate_left
             ·rintro w' ⟨s0,s1,s2,s3,s4,s5,s6,s7,s8,s9,s10,s11,s12,s13⟩
              go_simp
              with_reducible rfl
             rotate_left
             ·simp only[Act.put,List.setIfInBounds_toArray,List.set_cons_zero,List.set_cons_succ,ZC,ZD]
              rfl
             refine take_ (i:=25) (N:=some 33) (v:=?_) (a':=?_) #[true,true,true,true,true,true,true,true,true,true,true,true,true,true,true,true,true,true,true,true,true,false,false,false,true,true,false,false,false] rfl rfl (Z3 HT_.out HW_.out (by kernel_rfl)) (fun _ _ _ h=>h) (Or.inl ⟨by rfl,?_⟩) hHeld ?_ ?_
             rotate_left
             ·rintro w' ⟨s0,s1,s2,s3,s4,s5,s6,s7,s8,s9,s10,s11,s12,s13⟩
              go_simp
              with_reducible rfl
             rotate_left
             ·simp only[Act.put,List.setIfInBounds_toArray,List.set_cons_zero,List.set_cons_succ,ZC,ZD]
              rfl
             refine one_ (i:=21) (N:=some 29) #[true,true,true,true,true,true,true,true,true,true,true,true,true,true,true,true,true,true,true,true,true,true,false,false,true,true,false,false,false] rfl rfl (ZaR HT_.out (by kernel_rfl)) (by decide) (fun K hK=>?_)
             refine ZaX Tryd.func35 (by kernel_rfl) rfl #[.int .i64 a1_2] (by rfl) rfl rfl (by(try simp only[List.map_toArray,List.map_cons,List.map_nil]);first|done|rfl|(simp only[Zk,Zj];rfl)) ?_
             with_reducible refine(ZF.calls k a1_2 t45005 _ A12.out).mono ?_
             rintro e w22 ⟨rfl,hb⟩
             refine⟨_,rfl,?_⟩
             replace BK45001:=Za (ZB (g:=gb45001) (o:=.cells #[.slice (some ad45003) l0_0.length c0_0,.slice A0_1 l0_1.length c0_1,.int .i64 a0_2] 36 (0,0)) (by(with_reducible repeat(first|refine Zu ?_ _|refine Zv ?_|refine Zs ?_ _));exact BK45001.out) hb);replace BK45002:=Za (ZB (g:=gb45002) (o:=.cells #[.int .i64 a1_0,.int .i64 a1_1,.int .i64 a1_2,.int .i64 a1_3,.bool true] 66 (0,0)) (by(with_reducible repeat(first|refine Zu ?_ _|refine Zv ?_|refine Zs ?_ _));exact BK45002.out) hb);replace HB:=Za (Zx (by repeat(first|(with_reducible first|exact HB.out|apply Zn|apply Zm|apply Zo|refine Zr ?_ GE45001.out|refine Zr ?_ GE45002.out)|exact HB.out)) hb)
             (try clear hb)
             (try clear hb2)
             (try clear hk)
             (try clear hi)
             refine hK.out _ _ ⟨(Zq BK45001.out 0).trans rfl,(Zq BK45001.out 1).trans rfl,(Zq BK45001.out 2).trans rfl,(Zq BK45002.out 0).trans rfl,(Zq BK45002.out 1).trans rfl,(Zq BK45002.out 2).trans rfl,(Zq BK45002.out 3).trans rfl,(Zq BK45002.out 4).trans rfl,((HB.out.cell (Zc w _ hw45003_0)).trans hw45003_0),((HB.out.cell (Zc w _ hw45003_1)).trans hw45003_1),((HB.out.cell (Zc w _ hw45003_2)).trans hw45003_2),((HB.out.cell (Zc w _ hw45004_0)).trans hw45004_0),((HB.out.cell (Zc w _ hw45004_1)).trans hw45004_1),((HB.out.cell (Zc w _ hw45004_2)).trans hw45004_2)⟩ (fun hHeld=>?_)
             clear hK K
             refine ZaE (a':=?_) ?_ ?_
             rotate_left
             ·show Act.put _ (some 29) _=_
              simp only[Act.put,List.setIfInBounds_toArray,List.set_cons_zero,List.set_cons_succ,ZC,ZD]
              rfl
             refine ZO (i:=22) (N:=some 30) (v:=?_) (a':=?_) #[true,true,true,true,true,true,true,true,true,true,true,true,true,true,true,true,true,true,true,true,true,true,true,false,true,true,false,false,false] rfl rfl (ZJ HT_.out (by kernel_rfl)) (fun _ _ _ h=>h) (Or.inl ⟨by rfl,?_⟩) ?_ ?_
             rotate_left
             ·intro w'
              go_simp
              with_reducible rfl
             rotate_left
             ·simp only[Act.put,List.setIfInBounds_toArray,List.set_cons_zero,List.set_cons_succ,ZC,ZD]
              rfl
             refine ZO (i:=23) (N:=some 31) (v:=?_) (a':=?_) #[true,true,true,true,true,true,true,true,true,true,true,true,true,true,true,true,true,true,true,true,true,true,true,true,true,true,false,false,false] rfl rfl (ZJ HT_.out (by kernel_rfl)) (fun _ _ _ h=>h) (Or.inl ⟨by rfl,?_⟩) ?_ ?_
             rotate_left
             ·intro w'
              go_simp
              with_reducible rfl
             rotate_left
             ·simp only[Act.put,List.setIfInBounds_toArray,List.set_cons_zero,List.set_cons_succ,ZC,ZD]
              rfl
             refine one_ (i:=26) (N:=some 34) #[true,true,true,true,true,true,true,true,true,true,true,true,true,true,true,true,true,true,true,true,true,true,true,true,true,true,true,false,false] rfl rfl (ZaR HT_.out (by kernel_rfl)) (by decide) (fun K hK=>?_)
             refine ZaX Tryd.func35 (by kernel_rfl) rfl #[.int .i64 a1_3] (by rfl) rfl rfl (by(try simp only[List.map_toArray,List.map_cons,List.map_nil]);first|done|rfl|(simp only[Zk,Zj];rfl)) ?_
             with_reducible refine(ZF.calls k a1_3 t45006 _ A15.out).mono ?_
             rintro e w23 ⟨rfl,hb⟩
             refine⟨_,rfl,?_⟩
             replace BK45001:=Za (ZB (g:=gb45001) (o:=.cells #[.slice (some ad45003) l0_0.length c0_0,.slice A0_1 l0_1.length c0_1,.int .i64 a0_2] 36 (0,0)) (by(with_reducible repeat(first|refine Zu ?_ _|refine Zv ?_|refine Zs ?_ _));exact BK45001.out) hb);replace BK45002:=Za (ZB (g:=gb45002) (o:=.cells #[.int .i64 a1_0,.int .i64 a1_1,.int .i64 a1_2,.int .i64 a1_3,.bool true] 66 (0,0)) (by(with_reducible repeat(first|refine Zu ?_ _|refine Zv ?_|refine Zs ?_ _));exact BK45002.out) hb);replace HB:=Za (Zx (by repeat(first|(with_reducible first|exact HB.out|apply Zn|apply Zm|apply Zo|refine Zr ?_ GE45001.out|refine Zr ?_ GE45002.out)|exact HB.out)) hb)
             (try clear hb)
             (try clear hb2)
             (try clear hk)
             (try clear hi)
             refine hK.out _ _ ⟨(Zq BK45001.out 0).trans rfl,(Zq BK45001.out 1).trans rfl,(Zq BK45001.out 2).trans rfl,(Zq BK45002.out 0).trans rfl,(Zq BK45002.out 1).trans rfl,(Zq BK45002.out 2).trans rfl,(Zq BK45002.out 3).trans rfl,(Zq BK45002.out 4).trans rfl,((HB.out.cell (Zc w _ hw45003_0)).trans hw45003_0),((HB.out.cell (Zc w _ hw45003_1)).trans hw45003_1),((HB.out.cell (Zc w _ hw45003_2)).trans hw45003_2),((HB.out.cell (Zc w _ hw45004_0)).trans hw45004_0),((HB.out.cell (Zc w _ hw45004_1)).trans hw45004_1),((HB.out.cell (Zc w _ hw45004_2)).trans hw45004_2)⟩ (fun hHeld=>?_)
             clear hK K
             refine ZaE (a':=?_) ?_ ?_
             rotate_left
             ·show Act.put _ (some 34) _=_
              simp only[Act.put,List.setIfInBounds_toArray,List.set_cons_zero,List.set_cons_succ,ZC,ZD]
              rfl
             refine ZO (i:=27) (N:=some 35) (v:=?_) (a':=?_) #[true,true,true,true,true,true,true,true,true,true,true,true,true,true,true,true,true,true,true,true,true,true,true,true,true,true,true,true,false] rfl rfl (ZJ HT_.out (by kernel_rfl)) (fun _ _ _ h=>h) (Or.inl ⟨by rfl,?_⟩) ?_ ?_
             rotate_left
             ·intro w'
              go_simp
              with_reducible rfl
             rotate_left
             ·simp only[Act.put,List.setIfInBounds_toArray,List.set_cons_zero,List.set_cons_succ,ZC,ZD]
              rfl
             refine ZO (i:=28) (N:=some 4) (v:=?_) (a':=?_) #[true,true,true,true,true,true,true,true,true,true,true,true,true,true,true,true,true,true,true,true,true,true,true,true,true,true,true,true,true] rfl rfl (ZJ HT_.out (by kernel_rfl)) (fun _ _ _ h=>h) (Or.inl ⟨by rfl,?_⟩) ?_ ?_
             rotate_left
             ·intro w'
              go_simp
              with_reducible rfl
             rotate_left
             ·simp only[Act.put,List.setIfInBounds_toArray,List.set_cons_zero,List.set_cons_succ,ZC,ZD]
              rfl
             refine ZbJ (ZbA HT_.out (by kernel_rfl)) ?_
             try go_wp2
             go_ret
             exact⟨by first|rfl|(simp[ZA,Zz] <;> rfl)|(simp[*,ZA,Zz] <;> rfl),by repeat(first|(with_reducible first|exact HB.out|apply Zn|apply Zm|apply Zo|refine Zr ?_ GE45001.out|refine Zr ?_ GE45002.out)|exact HB.out)⟩
            ·rw[if_neg c16] at H
             exact absurd H (by simp)
           ·rw[if_neg c14] at H
            exact absurd H (by simp)
          ·rw[if_neg c13] at H
           exact absurd H (by simp)
         ·rw[if_neg c11] at H
          exact absurd H (by simp)
        ·rw[if_neg c10] at H
         exact absurd H (by simp)
       ·rw[if_neg c9] at H
        exact absurd H (by simp)
      ·rw[if_neg c8] at H
       exact absurd H (by simp)
     ·rw[if_neg c7] at H
      exact absurd H (by simp)
    ·rw[if_neg c6] at H
     exact absurd H (by simp)
   ·rw[if_neg c5] at H
    exact absurd H (by simp)
  ·rw[if_neg c4] at H
   exact absurd H (by simp)
 ·replace c3:=Bool.eq_false_iff.mpr c3
  subst c3
  have H1:(if 0≤a1_0 then(if a1_0<(l0_0.length:Int) then(if 4+((Zp l0_0 a1_0).f0).size≤9223372036854775807 then(if ((⟨#[116,105,101,32]⟩:ByteArray) ++ ((Zp l0_0 a1_0).f0)).size+1≤9223372036854775807 then(if 0≤a1_1 then(if a1_1<(l0_0.length:Int) then(if (((⟨#[116,105,101,32]⟩:ByteArray) ++ ((Zp l0_0 a1_0).f0)) ++ (⟨#[32]⟩:ByteArray)).size+((Zp l0_0 a1_1).f0).size≤9223372036854775807 then(if ((((⟨#[116,105,101,32]⟩:ByteArray) ++ ((Zp l0_0 a1_0).f0)) ++ (⟨#[32]⟩:ByteArray)) ++ ((Zp l0_0 a1_1).f0)).size+1≤9223372036854775807 then((ZF.f k a1_2).bind fun t45009=>(if (((((⟨#[116,105,101,32]⟩:ByteArray) ++ ((Zp l0_0 a1_0).f0)) ++ (⟨#[32]⟩:ByteArray)) ++ ((Zp l0_0 a1_1).f0)) ++ (⟨#[32]⟩:ByteArray)).size+t45009.size≤9223372036854775807 then(if ((((((⟨#[116,105,101,32]⟩:ByteArray) ++ ((Zp l0_0 a1_0).f0)) ++ (⟨#[32]⟩:ByteArray)) ++ ((Zp l0_0 a1_1).f0)) ++ (⟨#[32]⟩:ByteArray)) ++ t45009).size+1≤9223372036854775807 then((ZF.f k a1_3).bind fun t45010=>(if (((((((⟨#[116,105,101,32]⟩:ByteArray) ++ ((Zp l0_0 a1_0).f0)) ++ (⟨#[32]⟩:ByteArray)) ++ ((Zp l0_0 a1_1).f0)) ++ (⟨#[32]⟩:ByteArray)) ++ t45009) ++ (⟨#[32]⟩:ByteArray)).size+t45010.size≤9223372036854775807 then(some ((((((((⟨#[116,105,101,32]⟩:ByteArray) ++ ((Zp l0_0 a1_0).f0)) ++ (⟨#[32]⟩:ByteArray)) ++ ((Zp l0_0 a1_1).f0)) ++ (⟨#[32]⟩:ByteArray)) ++ t45009) ++ (⟨#[32]⟩:ByteArray)) ++ t45010)) else(none))) else(none)) else(none))) else(none)) else(none)) else(none)) else(none)) else(none)) else(none)) else(none)) else(none))=some r:=by rw[if_neg (show ¬(false=true) by decide)] at H;exact H
  clear H
  have H:=H1
  clear H1
  by_cases c24:0≤a1_0
  ·rw[if_pos c24] at H
   have c24b0:decide (0≤a1_0)=true:=Ze c24
   clear c24
   by_cases c25:a1_0<(l0_0.length:Int)
   ·rw[if_pos c25] at H
    have c25b0:decide (a1_0<(l0_0.length:Int))=true:=Ze c25
    clear c25
    by_cases c26:4+((Zp l0_0 a1_0).f0).size≤9223372036854775807
    ·rw[if_pos c26] at H
     have c26b0:=eq_true c26
     have c26b1:decide (4+((Zp l0_0 a1_0).f0).size≤9223372036854775807)=true:=Ze c26
     try have c26b2:(9223372036854775807<4+((Zp l0_0 a1_0).f0).size)=False:=eq_false (Nat.not_lt.2 c26)
     by_cases c27:((⟨#[116,105,101,32]⟩:ByteArray) ++ ((Zp l0_0 a1_0).f0)).size+1≤9223372036854775807
     ·rw[if_pos c27] at H
      have c27b0:=eq_true c27
      have c27b1:decide (((⟨#[116,105,101,32]⟩:ByteArray) ++ ((Zp l0_0 a1_0).f0)).size+1≤9223372036854775807)=true:=Ze c27
      try have c27b2:(9223372036854775807<((⟨#[116,105,101,32]⟩:ByteArray) ++ ((Zp l0_0 a1_0).f0)).size+1)=False:=eq_false (Nat.not_lt.2 c27)
      try have c27b4:(9223372036854775807<(4+((Zp l0_0 a1_0).f0).size)+1)=False:=eq_false (Nat.not_lt.2 (by have h_:=c27;simp only[ByteArray.size_append] at h_;exact h_))
      by_cases c28:0≤a1_1
      ·rw[if_pos c28] at H
       have c28b0:decide (0≤a1_1)=true:=Ze c28
       clear c28
       by_cases c29:a1_1<(l0_0.length:Int)
       ·rw[if_pos c29] at H
        have c29b0:decide (a1_1<(l0_0.length:Int))=true:=Ze c29
        clear c29
        by_cases c30:(((⟨#[116,105,101,32]⟩:ByteArray) ++ ((Zp l0_0 a1_0).f0)) ++ (⟨#[32]⟩:ByteArray)).size+((Zp l0_0 a1_1).f0).size≤9223372036854775807
        ·rw[if_pos c30] at H
         have c30b0:=eq_true c30
         have c30b1:decide ((((⟨#[116,105,101,32]⟩:ByteArray) ++ ((Zp l0_0 a1_0).f0)) ++ (⟨#[32]⟩:ByteArray)).size+((Zp l0_0 a1_1).f0).size≤9223372036854775807)=true:=Ze c30
         try have c30b2:(9223372036854775807<(((⟨#[116,105,101,32]⟩:ByteArray) ++ ((Zp l0_0 a1_0).f0)) ++ (⟨#[32]⟩:ByteArray)).size+((Zp l0_0 a1_1).f0).size)=False:=eq_false (Nat.not_lt.2 c30)
         try have c30b4:(9223372036854775807<((4+((Zp l0_0 a1_0).f0).size)+1)+((Zp l0_0 a1_1).f0).size)=False:=eq_false (Nat.not_lt.2 (by have h_:=c30;simp only[ByteArray.size_append] at h_;exact h_))
         by_cases c31:((((⟨#[116,105,101,32]⟩:ByteArray) ++ ((Zp l0_0 a1_0).f0)) ++ (⟨#[32]⟩:ByteArray)) ++ ((Zp l0_0 a1_1).f0)).size+1≤9223372036854775807
         ·rw[if_pos c31] at H
          have c31b0:=eq_true c31
          have c31b1:decide (((((⟨#[116,105,101,32]⟩:ByteArray) ++ ((Zp l0_0 a1_0).f0)) ++ (⟨#[32]⟩:ByteArray)) ++ ((Zp l0_0 a1_1).f0)).size+1≤9223372036854775807)=true:=Ze c31
          try have c31b2:(9223372036854775807<((((⟨#[116,105,101,32]⟩:ByteArray) ++ ((Zp l0_0 a1_0).f0)) ++ (⟨#[32]⟩:ByteArray)) ++ ((Zp l0_0 a1_1).f0)).size+1)=False:=eq_false (Nat.not_lt.2 c31)
          try have c31b4:(9223372036854775807<(((4+((Zp l0_0 a1_0).f0).size)+1)+((Zp l0_0 a1_1).f0).size)+1)=False:=eq_false (Nat.not_lt.2 (by have h_:=c31;simp only[ByteArray.size_append] at h_;exact h_))
          replace H:=Zh H
          obtain⟨t45009,A320,H⟩:=H
          replace H:(if (((((⟨#[116,105,101,32]⟩:ByteArray) ++ ((Zp l0_0 a1_0).f0)) ++ (⟨#[32]⟩:ByteArray)) ++ ((Zp l0_0 a1_1).f0)) ++ (⟨#[32]⟩:ByteArray)).size+t45009.size≤9223372036854775807 then(if ((((((⟨#[116,105,101,32]⟩:ByteArray) ++ ((Zp l0_0 a1_0).f0)) ++ (⟨#[32]⟩:ByteArray)) ++ ((Zp l0_0 a1_1).f0)) ++ (⟨#[32]⟩:ByteArray)) ++ t45009).size+1≤9223372036854775807 then((ZF.f k a1_3).bind fun t45010=>(if (((((((⟨#[116,105,101,32]⟩:ByteArray) ++ ((Zp l0_0 a1_0).f0)) ++ (⟨#[32]⟩:ByteArray)) ++ ((Zp l0_0 a1_1).f0)) ++ (⟨#[32]⟩:ByteArray)) ++ t45009) ++ (⟨#[32]⟩:ByteArray)).size+t45010.size≤9223372036854775807 then(some ((((((((⟨#[116,105,101,32]⟩:ByteArray) ++ ((Zp l0_0 a1_0).f0)) ++ (⟨#[32]⟩:ByteArray)) ++ ((Zp l0_0 a1_1).f0)) ++ (⟨#[32]⟩:ByteArray)) ++ t45009) ++ (⟨#[32]⟩:ByteArray)) ++ t45010)) else(none))) else(none)) else(none))=some r:=H
          have A32:=Za A320;clear A320
          by_cases c33:(((((⟨#[116,105,101,32]⟩:ByteArray) ++ ((Zp l0_0 a1_0).f0)) ++ (⟨#[32]⟩:ByteArray)) ++ ((Zp l0_0 a1_1).f0)) ++ (⟨#[32]⟩:ByteArray)).size+t45009.size≤9223372036854775807
          ·rw[if_pos c33] at H
           have c33b0:=eq_true c33
           have c33b1:decide ((((((⟨#[116,105,101,32]⟩:ByteArray) ++ ((Zp l0_0 a1_0).f0)) ++ (⟨#[32]⟩:ByteArray)) ++ ((Zp l0_0 a1_1).f0)) ++ (⟨#[32]⟩:ByteArray)).size+t45009.size≤9223372036854775807)=true:=Ze c33
           try have c33b2:(9223372036854775807<(((((⟨#[116,105,101,32]⟩:ByteArray) ++ ((Zp l0_0 a1_0).f0)) ++ (⟨#[32]⟩:ByteArray)) ++ ((Zp l0_0 a1_1).f0)) ++ (⟨#[32]⟩:ByteArray)).size+t45009.size)=False:=eq_false (Nat.not_lt.2 c33)
           try have c33b4:(9223372036854775807<((((4+((Zp l0_0 a1_0).f0).size)+1)+((Zp l0_0 a1_1).f0).size)+1)+t45009.size)=False:=eq_false (Nat.not_lt.2 (by have h_:=c33;simp only[ByteArray.size_append] at h_;exact h_))
           by_cases c34:((((((⟨#[116,105,101,32]⟩:ByteArray) ++ ((Zp l0_0 a1_0).f0)) ++ (⟨#[32]⟩:ByteArray)) ++ ((Zp l0_0 a1_1).f0)) ++ (⟨#[32]⟩:ByteArray)) ++ t45009).size+1≤9223372036854775807
           ·rw[if_pos c34] at H
            have c34b0:=eq_true c34
            have c34b1:decide (((((((⟨#[116,105,101,32]⟩:ByteArray) ++ ((Zp l0_0 a1_0).f0)) ++ (⟨#[32]⟩:ByteArray)) ++ ((Zp l0_0 a1_1).f0)) ++ (⟨#[32]⟩:ByteArray)) ++ t45009).size+1≤9223372036854775807)=true:=Ze c34
            try have c34b2:(9223372036854775807<((((((⟨#[116,105,101,32]⟩:ByteArray) ++ ((Zp l0_0 a1_0).f0)) ++ (⟨#[32]⟩:ByteArray)) ++ ((Zp l0_0 a1_1).f0)) ++ (⟨#[32]⟩:ByteArray)) ++ t45009).size+1)=False:=eq_false (Nat.not_lt.2 c34)
            try have c34b4:(9223372036854775807<(((((4+((Zp l0_0 a1_0).f0).size)+1)+((Zp l0_0 a1_1).f0).size)+1)+t45009.size)+1)=False:=eq_false (Nat.not_lt.2 (by have h_:=c34;simp only[ByteArray.size_append] at h_;exact h_))
            replace H:=Zh H
            obtain⟨t45010,A350,H⟩:=H
            replace H:(if (((((((⟨#[116,105,101,32]⟩:ByteArray) ++ ((Zp l0_0 a1_0).f0)) ++ (⟨#[32]⟩:ByteArray)) ++ ((Zp l0_0 a1_1).f0)) ++ (⟨#[32]⟩:ByteArray)) ++ t45009) ++ (⟨#[32]⟩:ByteArray)).size+t45010.size≤9223372036854775807 then(some ((((((((⟨#[116,105,101,32]⟩:ByteArray) ++ ((Zp l0_0 a1_0).f0)) ++ (⟨#[32]⟩:ByteArray)) ++ ((Zp l0_0 a1_1).f0)) ++ (⟨#[32]⟩:ByteArray)) ++ t45009) ++ (⟨#[32]⟩:ByteArray)) ++ t45010)) else(none))=some r:=H
            have A35:=Za A350;clear A350
            by_cases c36:(((((((⟨#[116,105,101,32]⟩:ByteArray) ++ ((Zp l0_0 a1_0).f0)) ++ (⟨#[32]⟩:ByteArray)) ++ ((Zp l0_0 a1_1).f0)) ++ (⟨#[32]⟩:ByteArray)) ++ t45009) ++ (⟨#[32]⟩:ByteArray)).size+t45010.size≤9223372036854775807
            ·rw[if_pos c36] at H
             have c36b0:=eq_true c36
             have c36b1:decide ((((((((⟨#[116,105,101,32]⟩:ByteArray) ++ ((Zp l0_0 a1_0).f0)) ++ (⟨#[32]⟩:ByteArray)) ++ ((Zp l0_0 a1_1).f0)) ++ (⟨#[32]⟩:ByteArray)) ++ t45009) ++ (⟨#[32]⟩:ByteArray)).size+t45010.size≤9223372036854775807)=true:=Ze c36
             try have c36b2:(9223372036854775807<(((((((⟨#[116,105,101,32]⟩:ByteArray) ++ ((Zp l0_0 a1_0).f0)) ++ (⟨#[32]⟩:ByteArray)) ++ ((Zp l0_0 a1_1).f0)) ++ (⟨#[32]⟩:ByteArray)) ++ t45009) ++ (⟨#[32]⟩:ByteArray)).size+t45010.size)=False:=eq_false (Nat.not_lt.2 c36)
             try have c36b4:(9223372036854775807<((((((4+((Zp l0_0 a1_0).f0).size)+1)+((Zp l0_0 a1_1).f0).size)+1)+t45009.size)+1)+t45010.size)=False:=eq_false (Nat.not_lt.2 (by have h_:=c36;simp only[ByteArray.size_append] at h_;exact h_))
             obtain rfl:=Zg H
             go_enter Tryd.func45,Tryd.ntmps45
             try go_wp2_with (first|((with_reducible refine ZN (N:=2) rfl ?_);refine ZP ?hg (N:=2) ?hd (cs:=#[.slice A0_0 l0_0.length c0_0,.slice A0_1 l0_1.length c0_1,.int .i64 a0_2]) (t:=36) ?hr ?_;(case hd=>rfl);(case hg=>rfl);(case hr=>first|(go_simp;done)|(go_simp;rfl));intro gb45001 hg w37 hbox hb;have BK45001:=Za (hbox);have GW45001:=Za ((by rw[hg];exact(Zy (by repeat(first|(with_reducible first|exact HB.out|apply Zn|apply Zm|apply Zo)|exact HB.out))):w.heap.size≤gb45001));have GE45001:=Za ((by rw[hg];exact(Zy (by repeat(first|(with_reducible first|exact HB.out|apply Zn|apply Zm|apply Zo)|exact HB.out))):w.heap.size≤gb45001));replace HB:=Za (Zx (by repeat(first|(with_reducible first|exact HB.out|apply Zn|apply Zm|apply Zo)|exact HB.out)) hb);clear hb hbox hg)|((with_reducible refine ZN (N:=3) rfl ?_);refine ZP ?hg (N:=3) ?hd (cs:=#[.int .i64 a1_0,.int .i64 a1_1,.int .i64 a1_2,.int .i64 a1_3,.bool false]) (t:=66) ?hr ?_;(case hd=>rfl);(case hg=>rfl);(case hr=>first|(go_simp;done)|(go_simp;rfl));intro gb45002 hg w38 hbox hb;have BK45002:=Za (hbox);have GW45002:=Za ((by rw[hg];exact(Zy (by repeat(first|(with_reducible first|exact HB.out|apply Zn|apply Zm|apply Zo|refine Zr ?_ GE45001.out)|exact HB.out))):w.heap.size≤gb45002));have GE45002:=Za ((by rw[hg];exact(Zy (by repeat(first|(with_reducible first|exact HB.out|apply Zn|apply Zm|apply Zo|refine Zr ?_ GE45001.out)|exact HB.out))):w.heap.size≤gb45002));have NB45001_45002:=Za ((by rw[hg];exact Nat.ne_of_lt (ZY (g:=gb45001) (o:=.cells #[.slice A0_0 l0_0.length c0_0,.slice A0_1 l0_1.length c0_1,.int .i64 a0_2] 36 (0,0)) (by(with_reducible repeat(first|refine Zu ?_ _|refine Zv ?_|refine Zs ?_ _));exact BK45001.out)):gb45001≠gb45002));have NB45002_45001:=Za ((by rw[hg];exact Nat.ne_of_gt (ZY (g:=gb45001) (o:=.cells #[.slice A0_0 l0_0.length c0_0,.slice A0_1 l0_1.length c0_1,.int .i64 a0_2] 36 (0,0)) (by(with_reducible repeat(first|refine Zu ?_ _|refine Zv ?_|refine Zs ?_ _));exact BK45001.out)):gb45002≠gb45001));replace BK45001:=Za (ZB (g:=gb45001) (o:=.cells #[.slice A0_0 l0_0.length c0_0,.slice A0_1 l0_1.length c0_1,.int .i64 a0_2] 36 (0,0)) (by(with_reducible repeat(first|refine Zu ?_ _|refine Zv ?_|refine Zs ?_ _));exact BK45001.out) hb);replace HB:=Za (Zx (by repeat(first|(with_reducible first|exact HB.out|apply Zn|apply Zm|apply Zo|refine Zr ?_ GE45001.out)|exact HB.out)) hb);clear hb hbox hg;have hnb39:=NB45002_45001.out;have hnc39:=NB45001_45002.out;have hcz40_0:w38.cell? ⟨gb45002,0,none⟩=some (.int .i64 a1_0):=(Zq BK45002.out 0).trans rfl;have hcz40_1:w38.cell? ⟨gb45002,1,none⟩=some (.int .i64 a1_1):=(Zq BK45002.out 1).trans rfl;have hcz40_2:w38.cell? ⟨gb45002,2,none⟩=some (.int .i64 a1_2):=(Zq BK45002.out 2).trans rfl;have hcz40_3:w38.cell? ⟨gb45002,3,none⟩=some (.int .i64 a1_3):=(Zq BK45002.out 3).trans rfl;have hcz40_4:w38.cell? ⟨gb45002,4,none⟩=some (.bool false):=(Zq BK45002.out 4).trans rfl;have hfz40_0:=Zt BK45002.out 0;have hfz40_1:=Zt BK45002.out 1;have hfz40_2:=Zt BK45002.out 2;have hfz40_3:=Zt BK45002.out 3;have hfz40_4:=Zt BK45002.out 4))
             replace BK45001:=Za (Zv BK45001.out);replace BK45002:=Za (Zv BK45002.out);replace HB:=Za (Zo HB.out)
             have p45007:0≤(a1_0:Int):=Zd (by first|(with_reducible assumption)|assumption)
             have q45007:a1_0<(l0_0.length:Int):=Zd (by first|(with_reducible assumption)|assumption)
             obtain⟨ad45007,A45007_1,c45007_1,e45007,hx45007_0,hx45007_1,hx45007_2,hl45007_1,hi45007_1⟩:=Zan HR0_0.out a1_0 p45007 q45007
             have hw45007_2:=hx45007_2
             have hw45007_1:=hx45007_1
             have hw45007_0:=hx45007_0
             cases e45007
             replace hx45007_0:=(HB.out.cell (Zc w _ hx45007_0)).trans hx45007_0
             replace hx45007_1:=(HB.out.cell (Zc w _ hx45007_1)).trans hx45007_1
             replace hx45007_2:=(HB.out.cell (Zc w _ hx45007_2)).trans hx45007_2
             have HR45007_1:=Za hi45007_1;have HC45007_1:=Za hl45007_1;clear hi45007_1 hl45007_1
             replace p45007:=eq_true p45007
             replace q45007:=eq_true q45007
             have p45008:0≤(a1_1:Int):=Zd (by first|(with_reducible assumption)|assumption)
             have q45008:a1_1<(l0_0.length:Int):=Zd (by first|(with_reducible assumption)|assumption)
             obtain⟨ad45008,A45008_1,c45008_1,e45008,hx45008_0,hx45008_1,hx45008_2,hl45008_1,hi45008_1⟩:=Zan HR0_0.out a1_1 p45008 q45008
             have hw45008_2:=hx45008_2
             have hw45008_1:=hx45008_1
             have hw45008_0:=hx45008_0
             obtain rfl:ad45007=ad45008:=(by injection e45008)
             replace hx45008_0:=(HB.out.cell (Zc w _ hx45008_0)).trans hx45008_0
             replace hx45008_1:=(HB.out.cell (Zc w _ hx45008_1)).trans hx45008_1
             replace hx45008_2:=(HB.out.cell (Zc w _ hx45008_2)).trans hx45008_2
             have HR45008_1:=Za hi45008_1;have HC45008_1:=Za hl45008_1;clear hi45008_1 hl45008_1
             replace p45008:=eq_true p45008
             replace q45008:=eq_true q45008
             refine Zbq (n:=29) (S:=fun w'=>w'.cell? ⟨gb45001,0,none⟩=some (.slice (some ad45007) l0_0.length c0_0)∧w'.cell? ⟨gb45001,1,none⟩=some (.slice A0_1 l0_1.length c0_1)∧w'.cell? ⟨gb45001,2,none⟩=some (.int .i64 a0_2)∧w'.cell? ⟨gb45002,0,none⟩=some (.int .i64 a1_0)∧w'.cell? ⟨gb45002,1,none⟩=some (.int .i64 a1_1)∧w'.cell? ⟨gb45002,2,none⟩=some (.int .i64 a1_2)∧w'.cell? ⟨gb45002,3,none⟩=some (.int .i64 a1_3)∧w'.cell? ⟨gb45002,4,none⟩=some (.bool false)∧w'.cell? (ad45007.add ((a1_0).toNat * 3))=some (.string ((Zp l0_0 a1_0).f0))∧w'.cell? ⟨(ad45007.add ((a1_0).toNat * 3)).block,(ad45007.add ((a1_0).toNat * 3)).off+1,none⟩=some (.slice A45007_1 ((Zp l0_0 a1_0).f1).length c45007_1)∧w'.cell? ⟨(ad45007.add ((a1_0).toNat * 3)).block,(ad45007.add ((a1_0).toNat * 3)).off+2,none⟩=some (.int .i64 ((Zp l0_0 a1_0).f2))∧w'.cell? (ad45007.add ((a1_1).toNat * 3))=some (.string ((Zp l0_0 a1_1).f0))∧w'.cell? ⟨(ad45007.add ((a1_1).toNat * 3)).block,(ad45007.add ((a1_1).toNat * 3)).off+1,none⟩=some (.slice A45008_1 ((Zp l0_0 a1_1).f1).length c45008_1)∧w'.cell? ⟨(ad45007.add ((a1_1).toNat * 3)).block,(ad45007.add ((a1_1).toNat * 3)).off+2,none⟩=some (.int .i64 ((Zp l0_0 a1_1).f2))) (ds:=[]) #[false,false,false,false,false,false,false,false,false,false,false,false,false,false,false,false,false,false,false,false,false,false,false,false,false,false,false,false,false] (by kernel_rfl) rfl rfl ⟨(Zq BK45001.out 0).trans rfl,(Zq BK45001.out 1).trans rfl,(Zq BK45001.out 2).trans rfl,(Zq BK45002.out 0).trans rfl,(Zq BK45002.out 1).trans rfl,(Zq BK45002.out 2).trans rfl,(Zq BK45002.out 3).trans rfl,(Zq BK45002.out 4).trans rfl,((HB.out.cell (Zc w _ hw45007_0)).trans hw45007_0),((HB.out.cell (Zc w _ hw45007_1)).trans hw45007_1),((HB.out.cell (Zc w _ hw45007_2)).trans hw45007_2),((HB.out.cell (Zc w _ hw45008_0)).trans hw45008_0),((HB.out.cell (Zc w _ hw45008_1)).trans hw45008_1),((HB.out.cell (Zc w _ hw45008_2)).trans hw45008_2)⟩ (fun hHeld=>?_);refine Zbe Zaj.tab4 Zaj.bits4 (fun HT_ HW_=>?_)
             generalize w38.drew=w41 at BK45001 BK45002 HB HR45007_1 HR45008_1 hx45007_0 hx45007_1 hx45007_2 hx45008_0 hx45008_1 hx45008_2 hHeld ⊢
             refine ZO (i:=0) (N:=some 8) (v:=?_) (a':=?_) #[true,false,false,false,false,false,false,false,false,false,false,false,false,false,false,false,false,false,false,false,false,false,false,false,false,false,false,false,false] rfl rfl (ZJ HT_.out (by kernel_rfl)) (fun _ _ _ h=>h) (Or.inl ⟨by rfl,?_⟩) ?_ ?_
             rotate_left
             ·intro w'
              go_simp
              with_reducible rfl
             rotate_left
             ·simp only[Act.put,List.setIfInBounds_toArray,List.set_cons_zero,List.set_cons_succ,ZC,ZD]
              rfl
             refine ZO (i:=1) (N:=some 9) (v:=?_) (a':=?_) #[true,true,false,false,false,false,false,false,false,false,false,false,false,false,false,false,false,false,false,false,false,false,false,false,false,false,false,false,false] rfl rfl (ZJ HT_.out (by kernel_rfl)) (fun _ _ _ h=>h) (Or.inl ⟨by rfl,?_⟩) ?_ ?_
             rotate_left
             ·intro w'
              go_simp
              with_reducible rfl
             rotate_left
             ·simp only[Act.put,List.setIfInBounds_toArray,List.set_cons_zero,List.set_cons_succ,ZC,ZD]
              rfl
             refine ZO (i:=3) (N:=some 11) (v:=?_) (a':=?_) #[true,true,false,true,false,false,false,false,false,false,false,false,false,false,false,false,false,false,false,false,false,false,false,false,false,false,false,false,false] rfl rfl (ZJ HT_.out (by kernel_rfl)) (fun _ _ _ h=>h) (Or.inl ⟨by rfl,?_⟩) ?_ ?_
             rotate_left
             ·intro w'
              go_simp
              with_reducible rfl
             rotate_left
             ·simp only[Act.put,List.setIfInBounds_toArray,List.set_cons_zero,List.set_cons_succ,ZC,ZD]
              rfl
             refine ZO (i:=10) (N:=some 18) (v:=?_) (a':=?_) #[true,true,false,true,false,false,false,false,false,false,true,false,false,false,false,false,false,false,false,false,false,false,false,false,false,false,false,false,false] rfl rfl (ZJ HT_.out (by kernel_rfl)) (fun _ _ _ h=>h) (Or.inl ⟨by rfl,?_⟩) ?_ ?_
             rotate_left
             ·intro w'
              go_simp
              with_reducible rfl
             rotate_left
             ·simp only[Act.put,List.setIfInBounds_toArray,List.set_cons_zero,List.set_cons_succ,ZC,ZD]
              rfl
             refine ZO (i:=12) (N:=some 20) (v:=?_) (a':=?_) #[true,true,false,true,false,false,false,false,false,false,true,false,true,false,false,false,false,false,false,false,false,false,false,false,false,false,false,false,false] rfl rfl (ZJ HT_.out (by kernel_rfl)) (fun _ _ _ h=>h) (Or.inl ⟨by rfl,?_⟩) ?_ ?_
             rotate_left
             ·intro w'
              go_simp
              with_reducible rfl
             rotate_left
             ·simp only[Act.put,List.setIfInBounds_toArray,List.set_cons_zero,List.set_cons_succ,ZC,ZD]
              rfl
             refine ZO (i:=19) (N:=some 27) (v:=?_) (a':=?_) #[true,true,false,true,false,false,false,false,false,false,true,false,true,false,false,false,false,false,false,true,false,false,false,false,false,false,false,false,false] rfl rfl (ZJ HT_.out (by kernel_rfl)) (fun _ _ _ h=>h) (Or.inl ⟨by rfl,?_⟩) ?_ ?_
             rotate_left
             ·intro w'
              go_simp
              with_reducible rfl
             rotate_left
             ·simp only[Act.put,List.setIfInBounds_toArray,List.set_cons_zero,List.set_cons_succ,ZC,ZD]
              rfl
             refine ZO (i:=24) (N:=some 32) (v:=?_) (a':=?_) #[true,true,false,true,false,false,false,false,false,false,true,false,true,false,false,false,false,false,false,true,false,false,false,false,true,false,false,false,false] rfl rfl (ZJ HT_.out (by kernel_rfl)) (fun _ _ _ h=>h) (Or.inl ⟨by rfl,?_⟩) ?_ ?_
             rotate_left
             ·intro w'
              go_simp
              with_reducible rfl
             rotate_left
             ·simp only[Act.put,List.setIfInBounds_toArray,List.set_cons_zero,List.set_cons_succ,ZC,ZD]
              rfl
             refine take_ (i:=2) (N:=some 10) (v:=?_) (a':=?_) #[true,true,true,true,false,false,false,false,false,false,true,false,true,false,false,false,false,false,false,true,false,false,false,false,true,false,false,false,false] rfl rfl (Z3 HT_.out HW_.out (by kernel_rfl)) (fun _ _ _ h=>h) (Or.inl ⟨by rfl,?_⟩) hHeld ?_ ?_
             rotate_left
             ·rintro w' ⟨s0,s1,s2,s3,s4,s5,s6,s7,s8,s9,s10,s11,s12,s13⟩
              go_simp
              with_reducible rfl
             rotate_left
             ·simp only[Act.put,List.setIfInBounds_toArray,List.set_cons_zero,List.set_cons_succ,ZC,ZD]
              rfl
             refine take_ (i:=4) (N:=some 12) (v:=?_) (a':=?_) #[true,true,true,true,true,false,false,false,false,false,true,false,true,false,false,false,false,false,false,true,false,false,false,false,true,false,false,false,false] rfl rfl (Z3 HT_.out HW_.out (by kernel_rfl)) (fun _ _ _ h=>h) (Or.inl ⟨by rfl,?_⟩) hHeld ?_ ?_
             rotate_left
             ·rintro w' ⟨s0,s1,s2,s3,s4,s5,s6,s7,s8,s9,s10,s11,s12,s13⟩
              go_simp
              with_reducible rfl
             rotate_left
             ·simp only[Act.put,List.setIfInBounds_toArray,List.set_cons_zero,List.set_cons_succ,ZC,ZD]
              rfl
             refine ZO (i:=5) (N:=some 13) (v:=?_) (a':=?_) #[true,true,true,true,true,true,false,false,false,false,true,false,true,false,false,false,false,false,false,true,false,false,false,false,true,false,false,false,false] rfl rfl (ZJ HT_.out (by kernel_rfl)) (fun _ _ _ h=>h) (Or.inl ⟨by rfl,?_⟩) ?_ ?_
             rotate_left
             ·intro w'
              go_simp
              with_reducible rfl
             rotate_left
             ·simp only[Act.put,List.setIfInBounds_toArray,List.set_cons_zero,List.set_cons_succ,ZC,ZD]
              rfl
             refine ZO (i:=6) (N:=some 14) (v:=?_) (a':=?_) #[true,true,true,true,true,true,true,false,false,false,true,false,true,false,false,false,false,false,false,true,false,false,false,false,true,false,false,false,false] rfl rfl (ZJ HT_.out (by kernel_rfl)) (fun _ _ _ h=>h) (Or.inl ⟨by rfl,?_⟩) ?_ ?_
             rotate_left
             ·intro w'
              go_simp
              with_reducible rfl
             rotate_left
             ·simp only[Act.put,List.setIfInBounds_toArray,List.set_cons_zero,List.set_cons_succ,ZC,ZD]
              rfl
             refine take_ (i:=7) (N:=some 15) (v:=?_) (a':=?_) #[true,true,true,true,true,true,true,true,false,false,true,false,true,false,false,false,false,false,false,true,false,false,false,false,true,false,false,false,false] rfl rfl (Z3 HT_.out HW_.out (by kernel_rfl)) (fun _ _ _ h=>h) (Or.inl ⟨by rfl,?_⟩) hHeld ?_ ?_
             rotate_left
             ·rintro w' ⟨s0,s1,s2,s3,s4,s5,s6,s7,s8,s9,s10,s11,s12,s13⟩
              go_simp
              with_reducible rfl
             rotate_left
             ·simp only[Act.put,List.setIfInBounds_toArray,List.set_cons_zero,List.set_cons_succ,ZC,ZD]
              rfl
             refine ZO (i:=8) (N:=some 16) (v:=?_) (a':=?_) #[true,true,true,true,true,true,true,true,true,false,true,false,true,false,false,false,false,false,false,true,false,false,false,false,true,false,false,false,false] rfl rfl (ZJ HT_.out (by kernel_rfl)) (fun _ _ _ h=>h) (Or.inl ⟨by rfl,?_⟩) ?_ ?_
             rotate_left
             ·intro w'
              go_simp
              with_reducible rfl
             rotate_left
             ·simp only[Act.put,List.setIfInBounds_toArray,List.set_cons_zero,List.set_cons_succ,ZC,ZD]
              rfl
             refine ZO (i:=9) (N:=some 17) (v:=?_) (a':=?_) #[true,true,true,true,true,true,true,true,true,true,true,false,true,false,false,false,false,false,false,true,false,false,false,false,true,false,false,false,false] rfl rfl (ZJ HT_.out (by kernel_rfl)) (fun _ _ _ h=>h) (Or.inl ⟨by rfl,?_⟩) ?_ ?_
             rotate_left
             ·intro w'
              go_simp
              with_reducible rfl
             rotate_left
             ·simp only[Act.put,List.setIfInBounds_toArray,List.set_cons_zero,List.set_cons_succ,ZC,ZD]
              rfl
             refine take_ (i:=11) (N:=some 19) (v:=?_) (a':=?_) #[true,true,true,true,true,true,true,true,true,true,true,true,true,false,false,false,false,false,false,true,false,false,false,false,true,false,false,false,false] rfl rfl (Z3 HT_.out HW_.out (by kernel_rfl)) (fun _ _ _ h=>h) (Or.inl ⟨by rfl,?_⟩) hHeld ?_ ?_
             rotate_left
             ·rintro w' ⟨s0,s1,s2,s3,s4,s5,s6,s7,s8,s9,s10,s11,s12,s13⟩
              go_simp
              with_reducible rfl
             rotate_left
             ·simp only[Act.put,List.setIfInBounds_toArray,List.set_cons_zero,List.set_cons_succ,ZC,ZD]
              rfl
             refine take_ (i:=13) (N:=some 21) (v:=?_) (a':=?_) #[true,true,true,true,true,true,true,true,true,true,true,true,true,true,false,false,false,false,false,true,false,false,false,false,true,false,false,false,false] rfl rfl (Z3 HT_.out HW_.out (by kernel_rfl)) (fun _ _ _ h=>h) (Or.inl ⟨by rfl,?_⟩) hHeld ?_ ?_
             rotate_left
             ·rintro w' ⟨s0,s1,s2,s3,s4,s5,s6,s7,s8,s9,s10,s11,s12,s13⟩
              go_simp
              with_reducible rfl
             rotate_left
             ·simp only[Act.put,List.setIfInBounds_toArray,List.set_cons_zero,List.set_cons_succ,ZC,ZD]
              rfl
             refine ZO (i:=14) (N:=some 22) (v:=?_) (a':=?_) #[true,true,true,true,true,true,true,true,true,true,true,true,true,true,true,false,false,false,false,true,false,false,false,false,true,false,false,false,false] rfl rfl (ZJ HT_.out (by kernel_rfl)) (fun _ _ _ h=>h) (Or.inl ⟨by rfl,?_⟩) ?_ ?_
             rotate_left
             ·intro w'
              go_simp
              with_reducible rfl
             rotate_left
             ·simp only[Act.put,List.setIfInBounds_toArray,List.set_cons_zero,List.set_cons_succ,ZC,ZD]
              rfl
             refine ZO (i:=15) (N:=some 23) (v:=?_) (a':=?_) #[true,true,true,true,true,true,true,true,true,true,true,true,true,true,true,true,false,false,false,true,false,false,false,false,true,false,false,false,false] rfl rfl (ZJ HT_.out (by kernel_rfl)) (fun _ _ _ h=>h) (Or.inl ⟨by rfl,?_⟩) ?_ ?_
             rotate_left
             ·intro w'
              go_simp
              with_reducible rfl
             rotate_left
             ·simp only[Act.put,List.setIfInBounds_toArray,List.set_cons_zero,List.set_cons_succ,ZC,ZD]
              rfl
             refine take_ (i:=16) (N:=some 24) (v:=?_) (a':=?_) #[true,true,true,true,true,true,true,true,true,true,true,true,true,true,true,true,true,false,false,true,false,false,false,false,true,false,false,false,false] rfl rfl (Z3 HT_.out HW_.out (by kernel_rfl)) (fun _ _ _ h=>h) (Or.inl ⟨by rfl,?_⟩) hHeld ?_ ?_
             rotate_left
             ·rintro w' ⟨s0,s1,s2,s3,s4,s5,s6,s7,s8,s9,s10,s11,s12,s13⟩
              go_simp
              with_reducible rfl
             rotate_left
             ·simp only[Act.put,List.setIfInBounds_toArray,List.set_cons_zero,List.set_cons_succ,ZC,ZD]
              rfl
             refine ZO (i:=17) (N:=some 25) (v:=?_) (a':=?_) #[true,true,true,true,true,true,true,true,true,true,true,true,true,true,true,true,true,true,false,true,false,false,false,false,true,false,false,false,false] rfl rfl (ZJ HT_.out (by kernel_rfl)) (fun _ _ _ h=>h) (Or.inl ⟨by rfl,?_⟩) ?_ ?_
             rotate_left
             ·intro w'
              go_simp
              with_reducible rfl
             rotate_left
             ·simp only[Act.put,List.setIfInBounds_toArray,List.set_cons_zero,List.set_cons_succ,ZC,ZD]
              rfl
             refine ZO (i:=18) (N:=some 26) (v:=?_) (a':=?_) #[true,true,true,true,true,true,true,true,true,true,true,true,true,true,true,true,true,true,true,true,false,false,false,false,true,false,false,false,false] rfl rfl (ZJ HT_.out (by kernel_rfl)) (fun _ _ _ h=>h) (Or.inl ⟨by rfl,?_⟩) ?_ ?_
             rotate_left
             ·intro w'
              go_simp
              with_reducible rfl
             rotate_left
             ·simp only[Act.put,List.setIfInBounds_toArray,List.set_cons_zero,List.set_cons_succ,ZC,ZD]
              rfl
             refine take_ (i:=20) (N:=some 28) (v:=?_) (a':=?_) #[true,true,true,true,true,true,true,true,true,true,true,true,true,true,true,true,true,true,true,true,true,false,false,false,true,false,false,false,false] rfl rfl (Z3 HT_.out HW_.out (by kernel_rfl)) (fun _ _ _ h=>h) (Or.inl ⟨by rfl,?_⟩) hHeld ?_ ?_
             rotate_left
             ·rintro w' ⟨s0,s1,s2,s3,s4,s5,s6,s7,s8,s9,s10,s11,s12,s13⟩
              go_simp
              with_reducible rfl
             rotate_left
             ·simp only[Act.put,List.setIfInBounds_toArray,List.set_cons_zero,List.set_cons_succ,ZC,ZD]
              rfl
             refine take_ (i:=25) (N:=some 33) (v:=?_) (a':=?_) #[true,true,true,true,true,true,true,true,true,true,true,true,true,true,true,true,true,true,true,true,true,false,false,false,true,true,false,false,false] rfl rfl (Z3 HT_.out HW_.out (by kernel_rfl)) (fun _ _ _ h=>h) (Or.inl ⟨by rfl,?_⟩) hHeld ?_ ?_
             rotate_left
             ·rintro w' ⟨s0,s1,s2,s3,s4,s5,s6,s7,s8,s9,s10,s11,s12,s13⟩
              go_simp
              with_reducible rfl
             rotate_left
             ·simp only[Act.put,List.setIfInBounds_toArray,List.set_cons_zero,List.set_cons_succ,ZC,ZD]
              rfl
             refine one_ (i:=21) (N:=some 29) #[true,true,true,true,true,true,true,true,true,true,true,true,true,true,true,true,true,true,true,true,true,true,false,false,true,true,false,false,false] rfl rfl (ZaR HT_.out (by kernel_rfl)) (by decide) (fun K hK=>?_)
             refine ZaX Tryd.func35 (by kernel_rfl) rfl #[.int .i64 a1_2] (by rfl) rfl rfl (by(try simp only[List.map_toArray,List.map_cons,List.map_nil]);first|done|rfl|(simp only[Zk,Zj];rfl)) ?_
             with_reducible refine(ZF.calls k a1_2 t45009 _ A32.out).mono ?_
             rintro e w42 ⟨rfl,hb⟩
             refine⟨_,rfl,?_⟩
             replace BK45001:=Za (ZB (g:=gb45001) (o:=.cells #[.slice (some ad45007) l0_0.length c0_0,.slice A0_1 l0_1.length c0_1,.int .i64 a0_2] 36 (0,0)) (by(with_reducible repeat(first|refine Zu ?_ _|refine Zv ?_|refine Zs ?_ _));exact BK45001.out) hb);replace BK45002:=Za (ZB (g:=gb45002) (o:=.cells #[.int .i64 a1_0,.int .i64 a1_1,.int .i64 a1_2,.int .i64 a1_3,.bool false] 66 (0,0)) (by(with_reducible repeat(first|refine Zu ?_ _|refine Zv ?_|refine Zs ?_ _));exact BK45002.out) hb);replace HB:=Za (Zx (by repeat(first|(with_reducible first|exact HB.out|apply Zn|apply Zm|apply Zo|refine Zr ?_ GE45001.out|refine Zr ?_ GE45002.out)|exact HB.out)) hb)
             (try clear hb)
             (try clear hb2)
             (try clear hk)
             (try clear hi)
             refine hK.out _ _ ⟨(Zq BK45001.out 0).trans rfl,(Zq BK45001.out 1).trans rfl,(Zq BK45001.out 2).trans rfl,(Zq BK45002.out 0).trans rfl,(Zq BK45002.out 1).trans rfl,(Zq BK45002.out 2).trans rfl,(Zq BK45002.out 3).trans rfl,(Zq BK45002.out 4).trans rfl,((HB.out.cell (Zc w _ hw45007_0)).trans hw45007_0),((HB.out.cell (Zc w _ hw45007_1)).trans hw45007_1),((HB.out.cell (Zc w _ hw45007_2)).trans hw45007_2),((HB.out.cell (Zc w _ hw45008_0)).trans hw45008_0),((HB.out.cell (Zc w _ hw45008_1)).trans hw45008_1),((HB.out.cell (Zc w _ hw45008_2)).trans hw45008_2)⟩ (fun hHeld=>?_)
             clear hK K
             refine ZaE (a':=?_) ?_ ?_
             rotate_left
             ·show Act.put _ (some 29) _=_
              simp only[Act.put,List.setIfInBounds_toArray,List.set_cons_zero,List.set_cons_succ,ZC,ZD]
              rfl
             refine ZO (i:=22) (N:=some 30) (v:=?_) (a':=?_) #[true,true,true,true,true,true,true,true,true,true,true,true,true,true,true,true,true,true,true,true,true,true,true,false,true,true,false,false,false] rfl rfl (ZJ HT_.out (by kernel_rfl)) (fun _ _ _ h=>h) (Or.inl ⟨by rfl,?_⟩) ?_ ?_
             rotate_left
             ·intro w'
              go_simp
              with_reducible rfl
             rotate_left
             ·simp only[Act.put,List.setIfInBounds_toArray,List.set_cons_zero,List.set_cons_succ,ZC,ZD]
              rfl
             refine ZO (i:=23) (N:=some 31) (v:=?_) (a':=?_) #[true,true,true,true,true,true,true,true,true,true,true,true,true,true,true,true,true,true,true,true,true,true,true,true,true,true,false,false,false] rfl rfl (ZJ HT_.out (by kernel_rfl)) (fun _ _ _ h=>h) (Or.inl ⟨by rfl,?_⟩) ?_ ?_
             rotate_left
             ·intro w'
              go_simp
              with_reducible rfl
             rotate_left
             ·simp only[Act.put,List.setIfInBounds_toArray,List.set_cons_zero,List.set_cons_succ,ZC,ZD]
              rfl
             refine one_ (i:=26) (N:=some 34) #[true,true,true,true,true,true,true,true,true,true,true,true,true,true,true,true,true,true,true,true,true,true,true,true,true,true,true,false,false] rfl rfl (ZaR HT_.out (by kernel_rfl)) (by decide) (fun K hK=>?_)
             refine ZaX Tryd.func35 (by kernel_rfl) rfl #[.int .i64 a1_3] (by rfl) rfl rfl (by(try simp only[List.map_toArray,List.map_cons,List.map_nil]);first|done|rfl|(simp only[Zk,Zj];rfl)) ?_
             with_reducible refine(ZF.calls k a1_3 t45010 _ A35.out).mono ?_
             rintro e w43 ⟨rfl,hb⟩
             refine⟨_,rfl,?_⟩
             replace BK45001:=Za (ZB (g:=gb45001) (o:=.cells #[.slice (some ad45007) l0_0.length c0_0,.slice A0_1 l0_1.length c0_1,.int .i64 a0_2] 36 (0,0)) (by(with_reducible repeat(first|refine Zu ?_ _|refine Zv ?_|refine Zs ?_ _));exact BK45001.out) hb);replace BK45002:=Za (ZB (g:=gb45002) (o:=.cells #[.int .i64 a1_0,.int .i64 a1_1,.int .i64 a1_2,.int .i64 a1_3,.bool false] 66 (0,0)) (by(with_reducible repeat(first|refine Zu ?_ _|refine Zv ?_|refine Zs ?_ _));exact BK45002.out) hb);replace HB:=Za (Zx (by repeat(first|(with_reducible first|exact HB.out|apply Zn|apply Zm|apply Zo|refine Zr ?_ GE45001.out|refine Zr ?_ GE45002.out)|exact HB.out)) hb)
             (try clear hb)
             (try clear hb2)
             (try clear hk)
             (try clear hi)
             refine hK.out _ _ ⟨(Zq BK45001.out 0).trans rfl,(Zq BK45001.out 1).trans rfl,(Zq BK45001.out 2).trans rfl,(Zq BK45002.out 0).trans rfl,(Zq BK45002.out 1).trans rfl,(Zq BK45002.out 2).trans rfl,(Zq BK45002.out 3).trans rfl,(Zq BK45002.out 4).trans rfl,((HB.out.cell (Zc w _ hw45007_0)).trans hw45007_0),((HB.out.cell (Zc w _ hw45007_1)).trans hw45007_1),((HB.out.cell (Zc w _ hw45007_2)).trans hw45007_2),((HB.out.cell (Zc w _ hw45008_0)).trans hw45008_0),((HB.out.cell (Zc w _ hw45008_1)).trans hw45008_1),((HB.out.cell (Zc w _ hw45008_2)).trans hw45008_2)⟩ (fun hHeld=>?_)
             clear hK K
             refine ZaE (a':=?_) ?_ ?_
             rotate_left
             ·show Act.put _ (some 34) _=_
              simp only[Act.put,List.setIfInBounds_toArray,List.set_cons_zero,List.set_cons_succ,ZC,ZD]
              rfl
             refine ZO (i:=27) (N:=some 35) (v:=?_) (a':=?_) #[true,true,true,true,true,true,true,true,true,true,true,true,true,true,true,true,true,true,true,true,true,true,true,true,true,true,true,true,false] rfl rfl (ZJ HT_.out (by kernel_rfl)) (fun _ _ _ h=>h) (Or.inl ⟨by rfl,?_⟩) ?_ ?_
             rotate_left
             ·intro w'
              go_simp
              with_reducible rfl
             rotate_left
             ·simp only[Act.put,List.setIfInBounds_toArray,List.set_cons_zero,List.set_cons_succ,ZC,ZD]
              rfl
             refine ZO (i:=28) (N:=some 4) (v:=?_) (a':=?_) #[true,true,true,true,true,true,true,true,true,true,true,true,true,true,true,true,true,true,true,true,true,true,true,true,true,true,true,true,true] rfl rfl (ZJ HT_.out (by kernel_rfl)) (fun _ _ _ h=>h) (Or.inl ⟨by rfl,?_⟩) ?_ ?_
             rotate_left
             ·intro w'
              go_simp
              with_reducible rfl
             rotate_left
             ·simp only[Act.put,List.setIfInBounds_toArray,List.set_cons_zero,List.set_cons_succ,ZC,ZD]
              rfl
             refine ZbJ (ZbA HT_.out (by kernel_rfl)) ?_
             try go_wp2
             go_ret
             exact⟨by first|rfl|(simp[ZA,Zz] <;> rfl)|(simp[*,ZA,Zz] <;> rfl),by repeat(first|(with_reducible first|exact HB.out|apply Zn|apply Zm|apply Zo|refine Zr ?_ GE45001.out|refine Zr ?_ GE45002.out)|exact HB.out)⟩
            ·rw[if_neg c36] at H
             exact absurd H (by simp)
           ·rw[if_neg c34] at H
            exact absurd H (by simp)
          ·rw[if_neg c33] at H
           exact absurd H (by simp)
         ·rw[if_neg c31] at H
          exact absurd H (by simp)
        ·rw[if_neg c30] at H
         exact absurd H (by simp)
       ·rw[if_neg c29] at H
        exact absurd H (by simp)
      ·rw[if_neg c28] at H
       exact absurd H (by simp)
     ·rw[if_neg c27] at H
      exact absurd H (by simp)
    ·rw[if_neg c26] at H
     exact absurd H (by simp)
   ·rw[if_neg c25] at H
    exact absurd H (by simp)
  ·rw[if_neg c24] at H
   exact absurd H (by simp)
def ZaC.f (k:Nat) (l0_0:List (S73)) (l0_1:List (S66)) (a0_2:Int) (a1:Int):Option (ByteArray):=(ZT.f k l0_0 l0_1 a0_2).bind fun t14002=>(if t14002=true then((Z5.f a1 0 (wrap64 ((l0_1.length:Int) - 1))).bind fun t14003=>(if t14003=true then(if 0≤a1 then(if a1<(l0_1.length:Int) then((Zaj.f k l0_0 l0_1 a0_2 ((Zw l0_1 a1).f0) ((Zw l0_1 a1).f1) ((Zw l0_1 a1).f2) ((Zw l0_1 a1).f3) ((Zw l0_1 a1).f4)).bind fun t14005=>(some t14005)) else(none)) else(none)) else(some (⟨#[]⟩:ByteArray)))) else(some (⟨#[]⟩:ByteArray)))
def ZaC.T3:Bool×List (List Nat×List Nat):=(true,[([],[]),([],[]),([1],[1]),([],[]),([2,3],[2,3]),([4],[4]),([0,5],[0,5]),([6,6,0,1,2,3,4,5,6],[6])])
def ZaC.B3:List Nat:=[0,0,2,0,14,30,63,127]
theorem ZaC.tab3:rtab .any (opsOf Tryd.f14 3)=ZaC.T3:=by kernel_rfl
theorem ZaC.bits3:Zbz ZaC.T3.2 ZaC.B3=true:=by kernel_rfl
set_option maxHeartbeats 8000000 in
set_option maxRecDepth 100000 in
theorem ZaC.calls (k:Nat) (A0_0:Option Addr) (c0_0:Nat) (l0_0:List (S73)) (A0_1:Option Addr) (c0_1:Nat) (l0_1:List (S66)) (a0_2:Int) (a1:Int) (r:ByteArray) (w:World) (hr0_0:Kd.C k73 w A0_0 l0_0.length l0_0) (hc0_0:l0_0.length≤c0_0) (hr0_1:Kd.C k66 w A0_1 l0_1.length l0_1) (hc0_1:l0_1.length≤c0_1) (h:ZaC.f k l0_0 l0_1 a0_2 a1=some r) :
  Calls Tryd.prog 14 #[.agg #[.slice A0_0 l0_0.length c0_0,.slice A0_1 l0_1.length c0_1,.int .i64 a0_2],.int .i64 a1] w fun e w'=>e=.returned (.string r)∧Below w.heap.size w w':=by
 have hu36:=Tryd.underlying36
 have hu66:=Tryd.underlying66
 have HR0_0:=Za hr0_0;have HC0_0:=Za hc0_0;clear hr0_0 hc0_0;have HR0_1:=Za hr0_1;have HC0_1:=Za hc0_1;clear hr0_1 hc0_1
 have HB:=Za (Below.refl w.heap.size w)
 have H:((ZT.f k l0_0 l0_1 a0_2).bind fun t14002=>(if t14002=true then((Z5.f a1 0 (wrap64 ((l0_1.length:Int) - 1))).bind fun t14003=>(if t14003=true then(if 0≤a1 then(if a1<(l0_1.length:Int) then((Zaj.f k l0_0 l0_1 a0_2 ((Zw l0_1 a1).f0) ((Zw l0_1 a1).f1) ((Zw l0_1 a1).f2) ((Zw l0_1 a1).f3) ((Zw l0_1 a1).f4)).bind fun t14005=>(some t14005)) else(none)) else(none)) else(some (⟨#[]⟩:ByteArray)))) else(some (⟨#[]⟩:ByteArray))))=some r:=h
 clear h
 replace H:=Zh H
 obtain⟨t14002,A30,H⟩:=H
 replace H:(if t14002=true then((Z5.f a1 0 (wrap64 ((l0_1.length:Int) - 1))).bind fun t14003=>(if t14003=true then(if 0≤a1 then(if a1<(l0_1.length:Int) then((Zaj.f k l0_0 l0_1 a0_2 ((Zw l0_1 a1).f0) ((Zw l0_1 a1).f1) ((Zw l0_1 a1).f2) ((Zw l0_1 a1).f3) ((Zw l0_1 a1).f4)).bind fun t14005=>(some t14005)) else(none)) else(none)) else(some (⟨#[]⟩:ByteArray)))) else(some (⟨#[]⟩:ByteArray)))=some r:=H
 have A3:=Za A30;clear A30
 by_cases c4:t14002=true
 ·subst c4
  have H1:((Z5.f a1 0 (wrap64 ((l0_1.length:Int) - 1))).bind fun t14003=>(if t14003=true then(if 0≤a1 then(if a1<(l0_1.length:Int) then((Zaj.f k l0_0 l0_1 a0_2 ((Zw l0_1 a1).f0) ((Zw l0_1 a1).f1) ((Zw l0_1 a1).f2) ((Zw l0_1 a1).f3) ((Zw l0_1 a1).f4)).bind fun t14005=>(some t14005)) else(none)) else(none)) else(some (⟨#[]⟩:ByteArray))))=some r:=by rw[if_pos rfl] at H;exact H
  clear H
  have H:=H1
  clear H1
  replace H:=Zh H
  obtain⟨t14003,A50,H⟩:=H
  replace H:(if t14003=true then(if 0≤a1 then(if a1<(l0_1.length:Int) then((Zaj.f k l0_0 l0_1 a0_2 ((Zw l0_1 a1).f0) ((Zw l0_1 a1).f1) ((Zw l0_1 a1).f2) ((Zw l0_1 a1).f3) ((Zw l0_1 a1).f4)).bind fun t14005=>(some t14005)) else(none)) else(none)) else(some (⟨#[]⟩:ByteArray)))=some r:=H
  have A5:=Za A50;clear A50
  by_cases c6:t14003=true
  ·subst c6
   have H1:(if 0≤a1 then(if a1<(l0_1.length:Int) then((Zaj.f k l0_0 l0_1 a0_2 ((Zw l0_1 a1).f0) ((Zw l0_1 a1).f1) ((Zw l0_1 a1).f2) ((Zw l0_1 a1).f3) ((Zw l0_1 a1).f4)).bind fun t14005=>(some t14005)) else(none)) else(none))=some r:=by rw[if_pos rfl] at H;exact H
   clear H
   have H:=H1
   clear H1
   by_cases c7:0≤a1
   ·rw[if_pos c7] at H
    have c7b0:decide (0≤a1)=true:=Ze c7
    clear c7
    by_cases c8:a1<(l0_1.length:Int)
    ·rw[if_pos c8] at H
     have c8b0:decide (a1<(l0_1.length:Int))=true:=Ze c8
     clear c8
     replace H:=Zh H
     obtain⟨t14005,A90,H⟩:=H
     replace H:(some t14005)=some r:=H
     have A9:=Za A90;clear A90
     obtain rfl:=Zg H
     go_enter Tryd.func14,Tryd.ntmps14
     try go_wp2_with (first|((with_reducible refine ZN (N:=2) rfl ?_);(try(refine ZaP (by rfl) ?_;dsimp only));refine ZP ?hg (N:=2) ?hd (cs:=#[.slice A0_0 l0_0.length c0_0,.slice A0_1 l0_1.length c0_1,.int .i64 a0_2]) (t:=36) ?hr ?_;(case hd=>rfl);(case hg=>rfl);(case hr=>first|(go_simp;done)|(go_simp;rfl));intro gb14001 hg w10 hbox hb;have BK14001:=Za (hbox);have GW14001:=Za ((by rw[hg];exact(Zy (by repeat(first|(with_reducible first|exact HB.out|apply Zn|apply Zm|apply Zo)|exact HB.out))):w.heap.size≤gb14001));have GE14001:=Za ((by rw[hg];exact(Zy (by repeat(first|(with_reducible first|exact HB.out|apply Zn|apply Zm|apply Zo)|exact HB.out))):w.heap.size≤gb14001));replace HB:=Za (Zx (by repeat(first|(with_reducible first|exact HB.out|apply Zn|apply Zm|apply Zo)|exact HB.out)) hb);clear hb hbox hg;have hcz11_0:w10.cell? ⟨gb14001,0,none⟩=some (.slice A0_0 l0_0.length c0_0):=(Zq BK14001.out 0).trans rfl;have hcz11_1:w10.cell? ⟨gb14001,1,none⟩=some (.slice A0_1 l0_1.length c0_1):=(Zq BK14001.out 1).trans rfl;have hcz11_2:w10.cell? ⟨gb14001,2,none⟩=some (.int .i64 a0_2):=(Zq BK14001.out 2).trans rfl;have hfz11_0:=Zt BK14001.out 0;have hfz11_1:=Zt BK14001.out 1;have hfz11_2:=Zt BK14001.out 2)|((with_reducible refine ZG (f:=43) rfl ?_);refine ZX (some 6) rfl rfl Tryd.func43 (by kernel_rfl) rfl #[.agg #[.slice A0_0 l0_0.length c0_0,.slice A0_1 l0_1.length c0_1,.int .i64 a0_2]] rfl (by(try simp only[List.map_toArray,List.map_cons,List.map_nil]);first|done|rfl|(simp only[Zk,Zj];rfl)) ?_;(with_reducible refine(ZT.calls k _ _ l0_0 _ _ l0_1 a0_2 true _ ?side1 ?side2 ?side3 ?side4 A3.out).mono ?_);(case side1=>repeat(first|exact(Zb HR0_0.out HB.out)|(with_reducible refine Kd.C_alloc ?_ _)|(with_reducible refine Kd.C_drewN ?_ _)|(with_reducible refine Kd.C_drew ?_)));(case side2=>exact HC0_0.out);(case side3=>repeat(first|exact(Zb HR0_1.out HB.out)|(with_reducible refine Kd.C_alloc ?_ _)|(with_reducible refine Kd.C_drewN ?_ _)|(with_reducible refine Kd.C_drew ?_)));(case side4=>exact HC0_1.out);rintro e w12 ⟨rfl,hb⟩;refine⟨_,rfl,?_⟩;replace BK14001:=Za (ZB (g:=gb14001) (o:=.cells #[.slice A0_0 l0_0.length c0_0,.slice A0_1 l0_1.length c0_1,.int .i64 a0_2] 36 (0,0)) (by(with_reducible repeat(first|refine Zu ?_ _|refine Zv ?_|refine Zs ?_ _));exact BK14001.out) hb);replace HB:=Za (Zx (by repeat(first|(with_reducible first|exact HB.out|apply Zn|apply Zm|apply Zo|refine Zr ?_ GE14001.out)|exact HB.out)) hb);(try clear hb);(try clear hb2);(try clear hk);(try clear hi);have hcz13_0:w12.cell? ⟨gb14001,0,none⟩=some (.slice A0_0 l0_0.length c0_0):=(Zq BK14001.out 0).trans rfl;have hcz13_1:w12.cell? ⟨gb14001,1,none⟩=some (.slice A0_1 l0_1.length c0_1):=(Zq BK14001.out 1).trans rfl;have hcz13_2:w12.cell? ⟨gb14001,2,none⟩=some (.int .i64 a0_2):=(Zq BK14001.out 2).trans rfl;have hfz13_0:=Zt BK14001.out 0;have hfz13_1:=Zt BK14001.out 1;have hfz13_2:=Zt BK14001.out 2)|(go_at_call 44;(with_reducible refine(Z5.calls a1 0 (wrap64 ((l0_1.length:Int) - 1)) true _ A5.out).mono ?_);rintro e w' ⟨rfl,⟨nd,rfl⟩⟩))
     (try(rw[drewN_self w12];generalize hq_:World.drewN w12 _=w12;replace BK14001:Aside0 (w12.heap[gb14001]? = some (.cells #[.slice A0_0 l0_0.length c0_0,.slice A0_1 l0_1.length c0_1,.int .i64 a0_2] 36 (0,0))):=⟨by rw[← hq_];exact(by(with_reducible repeat(first|refine Zu ?_ _|refine Zv ?_|refine Zs ?_ _));exact BK14001.out)⟩;replace HB:Aside0 (Below w.heap.size w w12):=⟨by rw[← hq_];exact(by repeat(first|(with_reducible first|exact HB.out|apply Zn|apply Zm|apply Zo|refine Zr ?_ GE14001.out)|exact HB.out))⟩;clear hq_))
     replace BK14001:=Za (Zv BK14001.out);replace HB:=Za (Zo HB.out)
     have p14004:0≤(a1:Int):=Zd (by first|(with_reducible assumption)|assumption)
     have q14004:a1<(l0_1.length:Int):=Zd (by first|(with_reducible assumption)|assumption)
     obtain⟨ad14004,e14004,hx14004_0,hx14004_1,hx14004_2,hx14004_3,hx14004_4⟩:=ZbT HR0_1.out a1 p14004 q14004
     have hw14004_4:=hx14004_4
     have hw14004_3:=hx14004_3
     have hw14004_2:=hx14004_2
     have hw14004_1:=hx14004_1
     have hw14004_0:=hx14004_0
     cases e14004
     replace hx14004_0:=(HB.out.cell (Zc w _ hx14004_0)).trans hx14004_0
     replace hx14004_1:=(HB.out.cell (Zc w _ hx14004_1)).trans hx14004_1
     replace hx14004_2:=(HB.out.cell (Zc w _ hx14004_2)).trans hx14004_2
     replace hx14004_3:=(HB.out.cell (Zc w _ hx14004_3)).trans hx14004_3
     replace hx14004_4:=(HB.out.cell (Zc w _ hx14004_4)).trans hx14004_4
     replace p14004:=eq_true p14004
     replace q14004:=eq_true q14004
     refine Zbq (n:=8) (S:=fun w'=>w'.cell? ⟨gb14001,0,none⟩=some (.slice A0_0 l0_0.length c0_0)∧w'.cell? ⟨gb14001,1,none⟩=some (.slice (some ad14004) l0_1.length c0_1)∧w'.cell? ⟨gb14001,2,none⟩=some (.int .i64 a0_2)∧w'.cell? (ad14004.add ((a1).toNat * 5))=some (.int .i64 ((Zw l0_1 a1).f0))∧w'.cell? ⟨(ad14004.add ((a1).toNat * 5)).block,(ad14004.add ((a1).toNat * 5)).off+1,none⟩=some (.int .i64 ((Zw l0_1 a1).f1))∧w'.cell? ⟨(ad14004.add ((a1).toNat * 5)).block,(ad14004.add ((a1).toNat * 5)).off+2,none⟩=some (.int .i64 ((Zw l0_1 a1).f2))∧w'.cell? ⟨(ad14004.add ((a1).toNat * 5)).block,(ad14004.add ((a1).toNat * 5)).off+3,none⟩=some (.int .i64 ((Zw l0_1 a1).f3))∧w'.cell? ⟨(ad14004.add ((a1).toNat * 5)).block,(ad14004.add ((a1).toNat * 5)).off+4,none⟩=some (.bool ((Zw l0_1 a1).f4))) (ds:=[]) #[false,false,false,false,false,false,false,false] (by kernel_rfl) rfl rfl ⟨(Zq BK14001.out 0).trans rfl,(Zq BK14001.out 1).trans rfl,(Zq BK14001.out 2).trans rfl,((HB.out.cell (Zc w _ hw14004_0)).trans hw14004_0),((HB.out.cell (Zc w _ hw14004_1)).trans hw14004_1),((HB.out.cell (Zc w _ hw14004_2)).trans hw14004_2),((HB.out.cell (Zc w _ hw14004_3)).trans hw14004_3),((HB.out.cell (Zc w _ hw14004_4)).trans hw14004_4)⟩ (fun hHeld=>?_);refine Zbe ZaC.tab3 ZaC.bits3 (fun HT_ HW_=>?_)
     generalize w12.drew=w14 at BK14001 HB hx14004_0 hx14004_1 hx14004_2 hx14004_3 hx14004_4 hHeld ⊢
     refine ZO (i:=1) (N:=some 18) (v:=?_) (a':=?_) #[false,true,false,false,false,false,false,false] rfl rfl (ZJ HT_.out (by kernel_rfl)) (fun _ _ _ h=>h) (Or.inl ⟨by rfl,?_⟩) ?_ ?_
     rotate_left
     ·intro w'
      go_simp
      with_reducible rfl
     rotate_left
     ·simp only[Act.put,List.setIfInBounds_toArray,List.set_cons_zero,List.set_cons_succ,ZC,ZD]
      rfl
     refine ZO (i:=3) (N:=some 20) (v:=?_) (a':=?_) #[false,true,false,true,false,false,false,false] rfl rfl (ZJ HT_.out (by kernel_rfl)) (fun _ _ _ h=>h) (Or.inl ⟨by rfl,?_⟩) ?_ ?_
     rotate_left
     ·intro w'
      go_simp
      with_reducible rfl
     rotate_left
     ·simp only[Act.put,List.setIfInBounds_toArray,List.set_cons_zero,List.set_cons_succ,ZC,ZD]
      rfl
     refine take_ (i:=0) (N:=some 17) (v:=?_) (a':=?_) #[true,true,false,true,false,false,false,false] rfl rfl (Z3 HT_.out HW_.out (by kernel_rfl)) (fun _ _ _ h=>h) (Or.inl ⟨by rfl,?_⟩) hHeld ?_ ?_
     rotate_left
     ·rintro w' ⟨s0,s1,s2,s3,s4,s5,s6,s7⟩
      go_simp
      with_reducible rfl
     rotate_left
     ·simp only[Act.put,List.setIfInBounds_toArray,List.set_cons_zero,List.set_cons_succ,ZC,ZD]
      rfl
     refine take_ (i:=2) (N:=some 19) (v:=?_) (a':=?_) #[true,true,true,true,false,false,false,false] rfl rfl (Z3 HT_.out HW_.out (by kernel_rfl)) (fun _ _ _ h=>h) (Or.inl ⟨by rfl,?_⟩) hHeld ?_ ?_
     rotate_left
     ·rintro w' ⟨s0,s1,s2,s3,s4,s5,s6,s7⟩
      go_simp
      with_reducible rfl
     rotate_left
     ·simp only[Act.put,List.setIfInBounds_toArray,List.set_cons_zero,List.set_cons_succ,ZC,ZD]
      rfl
     refine ZO (i:=4) (N:=some 21) (v:=?_) (a':=?_) #[true,true,true,true,true,false,false,false] rfl rfl (ZJ HT_.out (by kernel_rfl)) (fun _ _ _ h=>h) (Or.inl ⟨by rfl,?_⟩) ?_ ?_
     rotate_left
     ·intro w'
      go_simp
      with_reducible rfl
     rotate_left
     ·simp only[Act.put,List.setIfInBounds_toArray,List.set_cons_zero,List.set_cons_succ,ZC,ZD]
      rfl
     refine take_ (i:=5) (N:=some 22) (v:=?_) (a':=?_) #[true,true,true,true,true,true,false,false] rfl rfl (Z3 HT_.out HW_.out (by kernel_rfl)) (fun _ _ _ h=>h) (Or.inl ⟨by rfl,?_⟩) hHeld ?_ ?_
     rotate_left
     ·rintro w' ⟨s0,s1,s2,s3,s4,s5,s6,s7⟩
      go_simp
      with_reducible rfl
     rotate_left
     ·simp only[Act.put,List.setIfInBounds_toArray,List.set_cons_zero,List.set_cons_succ,ZC,ZD]
      rfl
     refine one_ (i:=6) (N:=some 23) #[true,true,true,true,true,true,true,false] rfl rfl (ZaR HT_.out (by kernel_rfl)) (by decide) (fun K hK=>?_)
     refine ZaX Tryd.func45 (by kernel_rfl) rfl #[.agg #[.slice A0_0 l0_0.length c0_0,.slice (some ad14004) l0_1.length c0_1,.int .i64 a0_2],.agg #[.int .i64 ((Zw l0_1 a1).f0),.int .i64 ((Zw l0_1 a1).f1),.int .i64 ((Zw l0_1 a1).f2),.int .i64 ((Zw l0_1 a1).f3),.bool ((Zw l0_1 a1).f4)]] (by rfl) rfl rfl (by(try simp only[List.map_toArray,List.map_cons,List.map_nil]);first|done|rfl|(simp only[Zk,Zj];rfl)) ?_
     with_reducible refine(Zaj.calls k _ _ l0_0 _ _ l0_1 a0_2 ((Zw l0_1 a1).f0) ((Zw l0_1 a1).f1) ((Zw l0_1 a1).f2) ((Zw l0_1 a1).f3) ((Zw l0_1 a1).f4) t14005 _ ?side1 ?side2 ?side3 ?side4 A9.out).mono ?_
     (case side1=>repeat(first|exact(Zb HR0_0.out HB.out)|(with_reducible refine Kd.C_alloc ?_ _)|(with_reducible refine Kd.C_drewN ?_ _)|(with_reducible refine Kd.C_drew ?_)))
     (case side2=>exact HC0_0.out)
     (case side3=>repeat(first|exact(Zb HR0_1.out HB.out)|(with_reducible refine Kd.C_alloc ?_ _)|(with_reducible refine Kd.C_drewN ?_ _)|(with_reducible refine Kd.C_drew ?_)))
     (case side4=>exact HC0_1.out)
     rintro e w15 ⟨rfl,hb⟩
     refine⟨_,rfl,?_⟩
     replace BK14001:=Za (ZB (g:=gb14001) (o:=.cells #[.slice A0_0 l0_0.length c0_0,.slice (some ad14004) l0_1.length c0_1,.int .i64 a0_2] 36 (0,0)) (by(with_reducible repeat(first|refine Zu ?_ _|refine Zv ?_|refine Zs ?_ _));exact BK14001.out) hb);replace HB:=Za (Zx (by repeat(first|(with_reducible first|exact HB.out|apply Zn|apply Zm|apply Zo|refine Zr ?_ GE14001.out)|exact HB.out)) hb)
     (try clear hb)
     (try clear hb2)
     (try clear hk)
     (try clear hi)
     refine hK.out _ _ ⟨(Zq BK14001.out 0).trans rfl,(Zq BK14001.out 1).trans rfl,(Zq BK14001.out 2).trans rfl,((HB.out.cell (Zc w _ hw14004_0)).trans hw14004_0),((HB.out.cell (Zc w _ hw14004_1)).trans hw14004_1),((HB.out.cell (Zc w _ hw14004_2)).trans hw14004_2),((HB.out.cell (Zc w _ hw14004_3)).trans hw14004_3),((HB.out.cell (Zc w _ hw14004_4)).trans hw14004_4)⟩ (fun hHeld=>?_)
     clear hK K
     refine ZaE (a':=?_) ?_ ?_
     rotate_left
     ·show Act.put _ (some 23) _=_
      simp only[Act.put,List.setIfInBounds_toArray,List.set_cons_zero,List.set_cons_succ,ZC,ZD]
      rfl
     refine ZO (i:=7) (N:=some 4) (v:=?_) (a':=?_) #[true,true,true,true,true,true,true,true] rfl rfl (ZJ HT_.out (by kernel_rfl)) (fun _ _ _ h=>h) (Or.inl ⟨by rfl,?_⟩) ?_ ?_
     rotate_left
     ·intro w'
      go_simp
      with_reducible rfl
     rotate_left
     ·simp only[Act.put,List.setIfInBounds_toArray,List.set_cons_zero,List.set_cons_succ,ZC,ZD]
      rfl
     refine ZbJ (ZbA HT_.out (by kernel_rfl)) ?_
     try go_wp2
     go_ret
     exact⟨by first|rfl|(simp[ZA,Zz] <;> rfl)|(simp[*,ZA,Zz] <;> rfl),by repeat(first|(with_reducible first|exact HB.out|apply Zn|apply Zm|apply Zo|refine Zr ?_ GE14001.out)|exact HB.out)⟩
    ·rw[if_neg c8] at H
     exact absurd H (by simp)
   ·rw[if_neg c7] at H
    exact absurd H (by simp)
  ·replace c6:=Bool.eq_false_iff.mpr c6
   subst c6
   have H1:(some (⟨#[]⟩:ByteArray))=some r:=by rw[if_neg (show ¬(false=true) by decide)] at H;exact H
   clear H
   have H:=H1
   clear H1
   obtain rfl:=Zg H
   go_enter Tryd.func14,Tryd.ntmps14
   go_wp2_with (first|((with_reducible refine ZN (N:=2) rfl ?_);(try(refine ZaP (by rfl) ?_;dsimp only));refine ZP ?hg (N:=2) ?hd (cs:=#[.slice A0_0 l0_0.length c0_0,.slice A0_1 l0_1.length c0_1,.int .i64 a0_2]) (t:=36) ?hr ?_;(case hd=>rfl);(case hg=>rfl);(case hr=>first|(go_simp;done)|(go_simp;rfl));intro gb14001 hg w16 hbox hb;have BK14001:=Za (hbox);have GW14001:=Za ((by rw[hg];exact(Zy (by repeat(first|(with_reducible first|exact HB.out|apply Zn|apply Zm|apply Zo)|exact HB.out))):w.heap.size≤gb14001));have GE14001:=Za ((by rw[hg];exact(Zy (by repeat(first|(with_reducible first|exact HB.out|apply Zn|apply Zm|apply Zo)|exact HB.out))):w.heap.size≤gb14001));replace HB:=Za (Zx (by repeat(first|(with_reducible first|exact HB.out|apply Zn|apply Zm|apply Zo)|exact HB.out)) hb);clear hb hbox hg;have hcz17_0:w16.cell? ⟨gb14001,0,none⟩=some (.slice A0_0 l0_0.length c0_0):=(Zq BK14001.out 0).trans rfl;have hcz17_1:w16.cell? ⟨gb14001,1,none⟩=some (.slice A0_1 l0_1.length c0_1):=(Zq BK14001.out 1).trans rfl;have hcz17_2:w16.cell? ⟨gb14001,2,none⟩=some (.int .i64 a0_2):=(Zq BK14001.out 2).trans rfl;have hfz17_0:=Zt BK14001.out 0;have hfz17_1:=Zt BK14001.out 1;have hfz17_2:=Zt BK14001.out 2)|((with_reducible refine ZG (f:=43) rfl ?_);refine ZX (some 6) rfl rfl Tryd.func43 (by kernel_rfl) rfl #[.agg #[.slice A0_0 l0_0.length c0_0,.slice A0_1 l0_1.length c0_1,.int .i64 a0_2]] rfl (by(try simp only[List.map_toArray,List.map_cons,List.map_nil]);first|done|rfl|(simp only[Zk,Zj];rfl)) ?_;(with_reducible refine(ZT.calls k _ _ l0_0 _ _ l0_1 a0_2 true _ ?side1 ?side2 ?side3 ?side4 A3.out).mono ?_);(case side1=>repeat(first|exact(Zb HR0_0.out HB.out)|(with_reducible refine Kd.C_alloc ?_ _)|(with_reducible refine Kd.C_drewN ?_ _)|(with_reducible refine Kd.C_drew ?_)));(case side2=>exact HC0_0.out);(case side3=>repeat(first|exact(Zb HR0_1.out HB.out)|(with_reducible refine Kd.C_alloc ?_ _)|(with_reducible refine Kd.C_drewN ?_ _)|(with_reducible refine Kd.C_drew ?_)));(case side4=>exact HC0_1.out);rintro e w18 ⟨rfl,hb⟩;refine⟨_,rfl,?_⟩;replace BK14001:=Za (ZB (g:=gb14001) (o:=.cells #[.slice A0_0 l0_0.length c0_0,.slice A0_1 l0_1.length c0_1,.int .i64 a0_2] 36 (0,0)) (by(with_reducible repeat(first|refine Zu ?_ _|refine Zv ?_|refine Zs ?_ _));exact BK14001.out) hb);replace HB:=Za (Zx (by repeat(first|(with_reducible first|exact HB.out|apply Zn|apply Zm|apply Zo|refine Zr ?_ GE14001.out)|exact HB.out)) hb);(try clear hb);(try clear hb2);(try clear hk);(try clear hi);have hcz19_0:w18.cell? ⟨gb14001,0,none⟩=some (.slice A0_0 l0_0.length c0_0):=(Zq BK14001.out 0).trans rfl;have hcz19_1:w18.cell? ⟨gb14001,1,none⟩=some (.slice A0_1 l0_1.length c0_1):=(Zq BK14001.out 1).trans rfl;have hcz19_2:w18.cell? ⟨gb14001,2,none⟩=some (.int .i64 a0_2):=(Zq BK14001.out 2).trans rfl;have hfz19_0:=Zt BK14001.out 0;have hfz19_1:=Zt BK14001.out 1;have hfz19_2:=Zt BK14001.out 2)|(go_at_call 44;(with_reducible refine(Z5.calls a1 0 (wrap64 ((l0_1.length:Int) - 1)) false _ A5.out).mono ?_);rintro e w' ⟨rfl,⟨nd,rfl⟩⟩))
   go_ret
   exact⟨by first|rfl|(simp[ZA,Zz] <;> rfl)|(simp[*,ZA,Zz] <;> rfl),by repeat(first|(with_reducible first|exact HB.out|apply Zn|apply Zm|apply Zo|refine Zr ?_ GE14001.out)|exact HB.out)⟩
 ·replace c4:=Bool.eq_false_iff.mpr c4
  subst c4
  have H1:(some (⟨#[]⟩:ByteArray))=some r:=by rw[if_neg (show ¬(false=true) by decide)] at H;exact H
  clear H
  have H:=H1
  clear H1
  obtain rfl:=Zg H
  go_enter Tryd.func14,Tryd.ntmps14
  go_wp2_with (first|((with_reducible refine ZN (N:=2) rfl ?_);(try(refine ZaP (by rfl) ?_;dsimp only));refine ZP ?hg (N:=2) ?hd (cs:=#[.slice A0_0 l0_0.length c0_0,.slice A0_1 l0_1.length c0_1,.int .i64 a0_2]) (t:=36) ?hr ?_;(case hd=>rfl);(case hg=>rfl);(case hr=>first|(go_simp;done)|(go_simp;rfl));intro gb14001 hg w20 hbox hb;have BK14001:=Za (hbox);have GW14001:=Za ((by rw[hg];exact(Zy (by repeat(first|(with_reducible first|exact HB.out|apply Zn|apply Zm|apply Zo)|exact HB.out))):w.heap.size≤gb14001));have GE14001:=Za ((by rw[hg];exact(Zy (by repeat(first|(with_reducible first|exact HB.out|apply Zn|apply Zm|apply Zo)|exact HB.out))):w.heap.size≤gb14001));replace HB:=Za (Zx (by repeat(first|(with_reducible first|exact HB.out|apply Zn|apply Zm|apply Zo)|exact HB.out)) hb);clear hb hbox hg;have hcz21_0:w20.cell? ⟨gb14001,0,none⟩=some (.slice A0_0 l0_0.length c0_0):=(Zq BK14001.out 0).trans rfl;have hcz21_1:w20.cell? ⟨gb14001,1,none⟩=some (.slice A0_1 l0_1.length c0_1):=(Zq BK14001.out 1).trans rfl;have hcz21_2:w20.cell? ⟨gb14001,2,none⟩=some (.int .i64 a0_2):=(Zq BK14001.out 2).trans rfl;have hfz21_0:=Zt BK14001.out 0;have hfz21_1:=Zt BK14001.out 1;have hfz21_2:=Zt BK14001.out 2)|((with_reducible refine ZG (f:=43) rfl ?_);refine ZX (some 6) rfl rfl Tryd.func43 (by kernel_rfl) rfl #[.agg #[.slice A0_0 l0_0.length c0_0,.slice A0_1 l0_1.length c0_1,.int .i64 a0_2]] rfl (by(try simp only[List.map_toArray,List.map_cons,List.map_nil]);first|done|rfl|(simp only[Zk,Zj];rfl)) ?_;(with_reducible refine(ZT.calls k _ _ l0_0 _ _ l0_1 a0_2 false _ ?side1 ?side2 ?side3 ?side4 A3.out).mono ?_);(case side1=>repeat(first|exact(Zb HR0_0.out HB.out)|(with_reducible refine Kd.C_alloc ?_ _)|(with_reducible refine Kd.C_drewN ?_ _)|(with_reducible refine Kd.C_drew ?_)));(case side2=>exact HC0_0.out);(case side3=>repeat(first|exact(Zb HR0_1.out HB.out)|(with_reducible refine Kd.C_alloc ?_ _)|(with_reducible refine Kd.C_drewN ?_ _)|(with_reducible refine Kd.C_drew ?_)));(case side4=>exact HC0_1.out);rintro e w22 ⟨rfl,hb⟩;refine⟨_,rfl,?_⟩;replace BK14001:=Za (ZB (g:=gb14001) (o:=.cells #[.slice A0_0 l0_0.length c0_0,.slice A0_1 l0_1.length c0_1,.int .i64 a0_2] 36 (0,0)) (by(with_reducible repeat(first|refine Zu ?_ _|refine Zv ?_|refine Zs ?_ _));exact BK14001.out) hb);replace HB:=Za (Zx (by repeat(first|(with_reducible first|exact HB.out|apply Zn|apply Zm|apply Zo|refine Zr ?_ GE14001.out)|exact HB.out)) hb);(try clear hb);(try clear hb2);(try clear hk);(try clear hi)))
  go_ret
  exact⟨by first|rfl|(simp[ZA,Zz] <;> rfl)|(simp[*,ZA,Zz] <;> rfl),by repeat(first|(with_reducible first|exact HB.out|apply Zn|apply Zm|apply Zo|refine Zr ?_ GE14001.out)|exact HB.out)⟩
end Go.Proofs.YthphnhmabieflaaDoor.Pr
namespace Go.Proofs.YthphnhmabieflaaDoor.Pr
open Go.RowKit Go.Proofs.YthphnhmabieflaaDoorW.PrintWords
def TW (w : World) : Prop := Lib.TabBelow Tryd.prog w.heap.size w "internal/strconv.uint64pow10" .u64 Lib.pow10Tab
theorem TW.below {w w':World} (h:TW w) (hb:Below w.heap.size w w'):TW w':=fun w2 h2=>h w2 (hb.trans (h2.mono hb.size))
theorem var_below {P:Program} {w:World} {name:String} {cs:Array Value} (h:w.var? P name=some cs):∀w',Below w.heap.size w w'→w'.var? P name=some cs:=fun w' hb=>by
 unfold World.var? at *
 cases hg:P.globalNamed name with
 | none=>simp[hg] at h
 | some g=>
  simp only[hg,Zi] at h ⊢
  have hlt:g<w.heap.size:=by
   rcases Nat.lt_or_ge g w.heap.size with h'|h'
   ·exact h'
   ·rw[Array.getElem?_eq_none h'] at h;simp at h
  rw[hb.block g hlt]
  exact h
def EW (w : World) : Prop := (∃ tp p, ∀ w', Below w.heap.size w w' → w'.var? Tryd.prog "strconv.ErrSyntax" = some #[.iface tp p]) ∧ ∃ tp p, ∀ w', Below w.heap.size w w' → w'.var? Tryd.prog "strconv.ErrRange" = some #[.iface tp p]
theorem EW.below {w w':World} (h:EW w) (hb:Below w.heap.size w w'):EW w':=by
 obtain⟨⟨t1,p1,h1⟩,t2,p2,h2⟩:=h
 exact⟨⟨t1,p1,fun w2 h=>h1 w2 (hb.trans (h.mono hb.size))⟩,t2,p2,fun w2 h=>h2 w2 (hb.trans (h.mono hb.size))⟩
theorem EW.of {w : World} {t1 t2 : TypeId} {p1 p2 : Value} (h1 : w.var? Tryd.prog "strconv.ErrSyntax" = some #[.iface t1 p1]) (h2 : w.var? Tryd.prog "strconv.ErrRange" = some #[.iface t2 p2]) : EW w := ⟨⟨t1, p1, var_below h1⟩, t2, p2, var_below h2⟩
theorem R_spot {α:Type} {d:Kd α} {e n c:Nat} {w:World} {base:Nat} {ok:Nat→Prop} {A:Option Addr} {xs:List α} (h:d.R e w base ok (.slice A n c) xs):∀ad,A=some ad→ad.spot=none:=by
 intro ad hA
 obtain⟨_,inner,ho,_⟩:=h
 obtain⟨_,h2⟩:=ho
 rcases h2 with ⟨h3,_⟩|⟨g,c,cur,h3,_⟩
 ·injection h3 with h4;rw[hA] at h4;cases h4
 ·injection h3 with h4;rw[hA] at h4;cases h4;rfl
theorem add_spot (b o j:Nat):(⟨b,o,none⟩:Addr).add j=⟨b,o+j,none⟩:=by
 unfold Addr.add
 split
 ·rename_i h;subst h;rfl
 ·rfl
end Go.Proofs.YthphnhmabieflaaDoor.Pr
