/- The texts of one claim, put together by a program of this session. -/
import Derived.Deep.LoopGhost
import Derived.Shelf.Abstract
import Derived.Deep.RegionHeld3
import Derived.Test.YtammpmadchekeaaBSsc1x1
import Derived.Test.YtammpmadchekeaaBSsc1x2
import Derived.Test.YtammpmadchekeaaBSsc1x3
namespace Go.Proofs.Ytammpmadchekeaa.Pr
open Go.RowKit Go.Proofs.YtammpmadchekeaaW.PrintWords Go.Proofs.YtammpmadchekeaaW.PrintLast Go.Proofs.YtammpmadchekeaaW.PrintMore
attribute [local go_sem] Zac Zaa Zah Zag Z2 Z1 Zab Z9
set_option linter.unusedVariables false
set_option linter.unusedSimpArgs false
open Go.Proofs.Ytammpmadchekeaa.Ni
set_option maxHeartbeats 4000000 in
set_option maxRecDepth 100000 in
theorem impl_Node_75.any (p:S42→S42→Bool) (g:Nat) (eg:∀args w,(callFunc g args).run Try.prog w=.ok (.enter g args) w) (A0:Option Addr) (c0:Nat) (l0:List S42) (A1:Option Addr) (c1:Nat) (l1:List S42) (w:World) (hr0:Kd.C k42 w A0 l0.length l0) (hr1:Kd.C k42 w A1 l1.length l1)
  (hp:∀(W:World) (x y:S42) (Ax:Option Addr) (cx:Nat) (Ay:Option Addr) (cy:Nat),x∈l0→y∈l1→Below w.heap.size w W→x.f1.length≤cx→Kd.C (Kd.int .i64) W Ax x.f1.length x.f1→y.f1.length≤cy→Kd.C (Kd.int .i64) W Ay y.f1.length y.f1 →
   Calls Try.prog g #[.agg #[.string x.f0,.slice Ax x.f1.length cx,.int .i64 x.f2],.agg #[.string y.f0,.slice Ay y.f1.length cy,.int .i64 y.f2]] W fun e w'=>e=.returned (.bool (p x y))∧Below W.heap.size W w') :
  Calls Try.prog 75 #[.slice A0 l0.length c0,.slice A1 l1.length c1,.func (.func g) #[] #[]] w fun e w'=>e=.returned (.bool (eqF p l0 l1))∧Below w.heap.size w w':=by
 have HR0:=Za hr0;have HR1:=Za hr1;have HP:=Za hp
 have HL:l0.length≤9223372036854775807:=hr0.2.1
 have HL1:l1.length≤9223372036854775807:=hr1.2.1
 clear hr0 hr1 hp
 by_cases hl:l1.length=l0.length
 case neg=>
  have hne:((l0.length:Int) != (l1.length:Int))=true:=by simp;omega
  have hne2:¬l0.length=l1.length:=fun h=>hl h.symm
  have HF:=Za (eqF_len (p:=p) l0 l1 hne2)
  generalize l0.length=n0 at hne hne2 HL ⊢
  generalize l1.length=n1 at hne hne2 HL1 ⊢
  clear hl
  go_enter Try.func75,Try.ntmps75
  go_wp2
  go_ret
  exact⟨by rw[HF.out];rfl,Below.refl _ _⟩
 rw[hl] at HR1 ⊢
 have HLL:=Za hl;clear hl HL1
 go_enter Try.func75,Try.ntmps75
 go_wp2
 go_loopg [7,17] l0.length (fun gg _ s17 wr=>∃kk:Nat,s17=.int .i64 (kk:Int)∧Aside0 (kk≤l0.length)∧Aside0 (l0.length - kk≤gg)∧Aside0 (Below w.heap.size w wr)∧Aside0 (eqF p (l0.drop kk) (l1.drop kk)=eqF p l0 l1))
 case atStart=>exact⟨0,rfl,⟨Nat.zero_le _⟩,⟨by omega⟩,⟨Below.refl _ _⟩,⟨rfl⟩⟩
 case round=>
  obtain⟨kk,rfl,HK,HG,HB,HE⟩:=hrel
  by_cases hlt:kk<l0.length
  ·have hltz:(kk:Int)<(l0.length:Int):=by omega
   have hlt1:kk<l1.length:=by have:=HLL.out;omega
   obtain⟨adx,Ax,cx,ex,x0,x1,x2,lx,gx⟩:=ZaU HR0.out (kk:Int) (by omega) hltz
   obtain⟨ady,Ay,cy,ey,y0,y1,y2,ly,gy⟩:=ZaU HR1.out (kk:Int) (by omega) hltz
   cases ex
   cases ey
   rw[Int.toNat_natCast] at x0 x1 x2 y0 y1 y2
   have HD:=Za (And.intro (ZX hlt z42) (ZX hlt1 z42))
   have HM:=Za (And.intro (ZaK hlt z42) (ZaK hlt1 z42))
   rw[show Z5 l0 (kk:Int)=l0.getD kk z42 by unfold Z5;rw[Int.toNat_natCast]] at x0 x1 x2 lx gx
   rw[show Z5 l1 (kk:Int)=l1.getD kk z42 by unfold Z5;rw[Int.toNat_natCast]] at y0 y1 y2 ly gy
   generalize l0.getD kk z42=x at x0 x1 x2 lx gx HD HM
   generalize l1.getD kk z42=y at y0 y1 y2 ly gy HD HM
   replace x0:=Zu HB.out x0
   replace x1:=Zu HB.out x1
   replace x2:=Zu HB.out x2
   replace y0:=Zu HB.out y0
   replace y1:=Zu HB.out y1
   replace y2:=Zu HB.out y2
   have hlx:=Zc wr _ x0
   have hly:=Zc wr _ y0
   have B2:=Za (Zl (Zl (Below.refl wr.heap.size wr) (.cells #[.string x.f0,.slice Ax x.f1.length cx,.int .i64 x.f2] 42)) (.cells #[.string y.f0,.slice Ay y.f1.length cy,.int .i64 y.f2] 42))
   have HC:=Za fun (W:World) (hb:Below wr.heap.size wr W)=>HP.out W x y Ax cx Ay cy HM.out.1 HM.out.2 (HB.out.trans (hb.mono HB.out.size)) lx (Zb (Zb gx HB.out) hb) ly (Zb (Zb gy HB.out) hb)
   have HS:=Za (show eqF p (l0.drop kk) (l1.drop kk)=(p x y && eqF p (l0.drop (kk+1)) (l1.drop (kk+1))) by rw[HD.out.1,HD.out.2];rfl)
   clear lx gx ly gy
   cases hq:p x y with
   | false=>
    rw[hq] at HC HS
    have HF:=Za (show eqF p l0 l1=false by rw[← HE.out,HS.out];rfl)
    clear hq
    go_wp2_with (go_at_fn g;refine(HC.out _ B2.out).mono ?_;rintro e w' ⟨rfl,hb⟩)
    go_ret
    exact⟨by rw[HF.out];rfl,HB.out.trans ((B2.out.trans (hb.mono B2.out.size)).mono HB.out.size)⟩
   | true=>
    rw[hq] at HC HS
    have HF:=Za (show eqF p (l0.drop (kk+1)) (l1.drop (kk+1))=eqF p l0 l1 by rw[← HE.out,HS.out];rfl)
    clear hq
    go_wp2_with (go_at_fn g;refine(HC.out _ B2.out).mono ?_;rintro e w' ⟨rfl,hb⟩)
    go_roundg (l0.length - (kk+1))
    case measure=>have:=HG.out;omega
    case rel=>exact⟨kk+1,by go_num,⟨by omega⟩,⟨by omega⟩,⟨HB.out.trans ((B2.out.trans (hb.mono B2.out.size)).mono HB.out.size)⟩,HF⟩
  ·have hltz:¬(kk:Int)<(l0.length:Int):=by omega
   have HF:=Za (show eqF p l0 l1=true by
    have h1:=HK.out;have h2:=HLL.out
    rw[← HE.out,List.drop_of_length_le (by omega),List.drop_of_length_le (by omega)];rfl)
   go_wp2
   go_ret
   exact⟨by rw[HF.out];rfl,HB.out⟩
end Go.Proofs.Ytammpmadchekeaa.Pr
namespace Go.Proofs.Ytammpmadchekeaa.Pr
open Go.RowKit Go.Proofs.YtammpmadchekeaaW.PrintWords Go.Proofs.YtammpmadchekeaaW.PrintLast Go.Proofs.YtammpmadchekeaaW.PrintMore
attribute [local go_sem] Zac Zaa Zah Zag Z2 Z1 Zab Z9
set_option linter.unusedVariables false
set_option linter.unusedSimpArgs false
def Z3.f (k:Nat) (a0_0:ByteArray) (l0_1:List Int) (a0_2:Int) (a1_0:ByteArray) (l1_1:List Int) (a1_2:Int):Option (Bool):=if a0_0.toList=a1_0.toList then((Zy.f k l0_1 l1_1).bind fun t76003=>(if t76003=true then(some (a0_2 == a1_2)) else(some false))) else(some false)
set_option maxHeartbeats 8000000 in
set_option maxRecDepth 100000 in
theorem Z3.calls (k:Nat) (a0_0:ByteArray) (A0_1:Option Addr) (c0_1:Nat) (l0_1:List Int) (a0_2:Int) (a1_0:ByteArray) (A1_1:Option Addr) (c1_1:Nat) (l1_1:List Int) (a1_2:Int) (r:Bool) (w:World) (hr0_1:Kd.C (Kd.int .i64) w A0_1 l0_1.length l0_1) (hc0_1:l0_1.length≤c0_1) (hr1_1:Kd.C (Kd.int .i64) w A1_1 l1_1.length l1_1) (hc1_1:l1_1.length≤c1_1) (h:Z3.f k a0_0 l0_1 a0_2 a1_0 l1_1 a1_2=some r) :
  Calls Try.prog 76 #[.agg #[.string a0_0,.slice A0_1 l0_1.length c0_1,.int .i64 a0_2],.agg #[.string a1_0,.slice A1_1 l1_1.length c1_1,.int .i64 a1_2]] w fun e w'=>e=.returned (.bool r)∧Below w.heap.size w w':=by
 have hu42:=Try.underlying42
 have HR0_1:=Za hr0_1;have HC0_1:=Za hc0_1;clear hr0_1 hc0_1;have HR1_1:=Za hr1_1;have HC1_1:=Za hc1_1;clear hr1_1 hc1_1
 have HB:=Za (Below.refl w.heap.size w)
 have H:(if a0_0.toList=a1_0.toList then((Zy.f k l0_1 l1_1).bind fun t76003=>(if t76003=true then(some (a0_2 == a1_2)) else(some false))) else(some false))=some r:=h
 clear h
 by_cases c3:a0_0.toList=a1_0.toList
 ·rw[if_pos c3] at H
  have c3b0:(a0_0.toList == a1_0.toList)=true:=beq_iff_eq.mpr c3
  have c3b1:(a0_0.toList != a1_0.toList)=false:=bne_eq_false_iff_eq.mpr c3
  clear c3
  replace H:=Option.bind_eq_some_iff.mp H
  obtain⟨t76003,A40,H⟩:=H
  replace H:(if t76003=true then(some (a0_2 == a1_2)) else(some false))=some r:=H
  have A4:=Za A40;clear A40
  by_cases c5:t76003=true
  ·subst c5
   have H1:(some (a0_2 == a1_2))=some r:=by rw[if_pos rfl] at H;exact H
   clear H
   have H:=H1
   clear H1
   obtain rfl:=Zg H
   go_enter Try.func76,Try.ntmps76
   go_wp2_with (first|((with_reducible refine ZI (N:=2) rfl ?_);refine ZK ?hg (N:=2) ?hd (cs:=#[.string a0_0,.slice A0_1 l0_1.length c0_1,.int .i64 a0_2]) (t:=42) ?hr ?_;(case hd=>rfl);(case hg=>rfl);(case hr=>first|(go_simp;done)|(go_simp;rfl));intro gb76001 hg w6 hbox hb;have n0_:=Za (Zw (by repeat(first|(with_reducible first|exact HB.out|apply Zl|apply Zm|apply Zn)|exact HB.out)) hb);have n1_:=Za (hbox);have n2_:=Za ((by rw[hg];exact(Zv (by repeat(first|(with_reducible first|exact HB.out|apply Zl|apply Zm|apply Zn)|exact HB.out))):w.heap.size≤gb76001));have n3_:=Za ((by rw[hg];exact(Zv (by repeat(first|(with_reducible first|exact HB.out|apply Zl|apply Zm|apply Zn)|exact HB.out))):w.heap.size≤gb76001));clear HB;have HB:=n0_;have BK76001:=n1_;have GW76001:=n2_;have GE76001:=n3_;clear n0_ n1_ n2_ n3_;clear hb hbox hg)|((with_reducible refine ZI (N:=3) rfl ?_);refine ZK ?hg (N:=3) ?hd (cs:=#[.string a1_0,.slice A1_1 l1_1.length c1_1,.int .i64 a1_2]) (t:=42) ?hr ?_;(case hd=>rfl);(case hg=>rfl);(case hr=>first|(go_simp;done)|(go_simp;rfl));intro gb76002 hg w7 hbox hb;have n0_:=Za (ZG (g:=gb76001) (o:=.cells #[.string a0_0,.slice A0_1 l0_1.length c0_1,.int .i64 a0_2] 42 (0,0)) (by(with_reducible repeat(first|refine Zr ?_ _|refine Zt ?_|refine Zs ?_ _));exact BK76001.out) hb);have n1_:=Za (Zw (by repeat(first|(with_reducible first|exact HB.out|apply Zl|apply Zm|apply Zn|refine Zp ?_ GE76001.out)|exact HB.out)) hb);have n2_:=Za (hbox);have n3_:=Za ((by rw[hg];exact(Zv (by repeat(first|(with_reducible first|exact HB.out|apply Zl|apply Zm|apply Zn|refine Zp ?_ GE76001.out)|exact HB.out))):w.heap.size≤gb76002));have n4_:=Za ((by rw[hg];exact(Zv (by repeat(first|(with_reducible first|exact HB.out|apply Zl|apply Zm|apply Zn|refine Zp ?_ GE76001.out)|exact HB.out))):w.heap.size≤gb76002));have n5_:=Za ((by rw[hg];exact Nat.ne_of_lt (ZQ (g:=gb76001) (o:=.cells #[.string a0_0,.slice A0_1 l0_1.length c0_1,.int .i64 a0_2] 42 (0,0)) (by(with_reducible repeat(first|refine Zr ?_ _|refine Zt ?_|refine Zs ?_ _));exact BK76001.out)):gb76001≠gb76002));have n6_:=Za ((by rw[hg];exact Nat.ne_of_gt (ZQ (g:=gb76001) (o:=.cells #[.string a0_0,.slice A0_1 l0_1.length c0_1,.int .i64 a0_2] 42 (0,0)) (by(with_reducible repeat(first|refine Zr ?_ _|refine Zt ?_|refine Zs ?_ _));exact BK76001.out)):gb76002≠gb76001));clear BK76001;clear HB;have BK76001:=n0_;have HB:=n1_;have BK76002:=n2_;have GW76002:=n3_;have GE76002:=n4_;have NB76001_76002:=n5_;have NB76002_76001:=n6_;clear n0_ n1_ n2_ n3_ n4_ n5_ n6_;clear hb hbox hg;have hnb8:=NB76001_76002.out;have hnc8:=NB76002_76001.out;have hcz9_0:w7.cell? ⟨gb76001,0,none⟩=some (.string a0_0):=(Zq BK76001.out 0).trans rfl;have hcz9_1:w7.cell? ⟨gb76001,1,none⟩=some (.slice A0_1 l0_1.length c0_1):=(Zq BK76001.out 1).trans rfl;have hcz9_2:w7.cell? ⟨gb76001,2,none⟩=some (.int .i64 a0_2):=(Zq BK76001.out 2).trans rfl;have hfz9_0:=Zo BK76001.out 0;have hfz9_1:=Zo BK76001.out 1;have hfz9_2:=Zo BK76001.out 2;have hcz10_0:w7.cell? ⟨gb76002,0,none⟩=some (.string a1_0):=(Zq BK76002.out 0).trans rfl;have hcz10_1:w7.cell? ⟨gb76002,1,none⟩=some (.slice A1_1 l1_1.length c1_1):=(Zq BK76002.out 1).trans rfl;have hcz10_2:w7.cell? ⟨gb76002,2,none⟩=some (.int .i64 a1_2):=(Zq BK76002.out 2).trans rfl;have hfz10_0:=Zo BK76002.out 0;have hfz10_1:=Zo BK76002.out 1;have hfz10_2:=Zo BK76002.out 2)|(go_at_call 59;(with_reducible refine(Zy.calls k _ _ l0_1 _ _ l1_1 true _ ?side1 ?side2 ?side3 ?side4 A4.out).mono ?_);(case side1=>repeat(first|exact(Zb HR0_1.out HB.out)|(with_reducible refine Kd.C_alloc ?_ _)|(with_reducible refine Kd.C_drewN ?_ _)|(with_reducible refine Kd.C_drew ?_)));(case side2=>exact HC0_1.out);(case side3=>repeat(first|exact(Zb HR1_1.out HB.out)|(with_reducible refine Kd.C_alloc ?_ _)|(with_reducible refine Kd.C_drewN ?_ _)|(with_reducible refine Kd.C_drew ?_)));(case side4=>exact HC1_1.out);rintro e w' ⟨rfl,⟨nd,rfl⟩⟩))
   go_ret
   exact⟨by first|rfl|(simp[ZC,ZB] <;> rfl)|(simp[*,ZC,ZB] <;> rfl),by repeat(first|(with_reducible first|exact HB.out|apply Zl|apply Zm|apply Zn|refine Zp ?_ GE76001.out|refine Zp ?_ GE76002.out)|exact HB.out)⟩
  ·replace c5:=Bool.eq_false_iff.mpr c5
   subst c5
   have H1:(some false)=some r:=by rw[if_neg (show ¬(false=true) by decide)] at H;exact H
   clear H
   have H:=H1
   clear H1
   obtain rfl:=Zg H
   go_enter Try.func76,Try.ntmps76
   go_wp2_with (first|((with_reducible refine ZI (N:=2) rfl ?_);refine ZK ?hg (N:=2) ?hd (cs:=#[.string a0_0,.slice A0_1 l0_1.length c0_1,.int .i64 a0_2]) (t:=42) ?hr ?_;(case hd=>rfl);(case hg=>rfl);(case hr=>first|(go_simp;done)|(go_simp;rfl));intro gb76001 hg w11 hbox hb;have n0_:=Za (Zw (by repeat(first|(with_reducible first|exact HB.out|apply Zl|apply Zm|apply Zn)|exact HB.out)) hb);have n1_:=Za (hbox);have n2_:=Za ((by rw[hg];exact(Zv (by repeat(first|(with_reducible first|exact HB.out|apply Zl|apply Zm|apply Zn)|exact HB.out))):w.heap.size≤gb76001));have n3_:=Za ((by rw[hg];exact(Zv (by repeat(first|(with_reducible first|exact HB.out|apply Zl|apply Zm|apply Zn)|exact HB.out))):w.heap.size≤gb76001));clear HB;have HB:=n0_;have BK76001:=n1_;have GW76001:=n2_;have GE76001:=n3_;clear n0_ n1_ n2_ n3_;clear hb hbox hg)|((with_reducible refine ZI (N:=3) rfl ?_);refine ZK ?hg (N:=3) ?hd (cs:=#[.string a1_0,.slice A1_1 l1_1.length c1_1,.int .i64 a1_2]) (t:=42) ?hr ?_;(case hd=>rfl);(case hg=>rfl);(case hr=>first|(go_simp;done)|(go_simp;rfl));intro gb76002 hg w12 hbox hb;have n0_:=Za (ZG (g:=gb76001) (o:=.cells #[.string a0_0,.slice A0_1 l0_1.length c0_1,.int .i64 a0_2] 42 (0,0)) (by(with_reducible repeat(first|refine Zr ?_ _|refine Zt ?_|refine Zs ?_ _));exact BK76001.out) hb);have n1_:=Za (Zw (by repeat(first|(with_reducible first|exact HB.out|apply Zl|apply Zm|apply Zn|refine Zp ?_ GE76001.out)|exact HB.out)) hb);have n2_:=Za (hbox);have n3_:=Za ((by rw[hg];exact(Zv (by repeat(first|(with_reducible first|exact HB.out|apply Zl|apply Zm|apply Zn|refine Zp ?_ GE76001.out)|exact HB.out))):w.heap.size≤gb76002));have n4_:=Za ((by rw[hg];exact(Zv (by repeat(first|(with_reducible first|exact HB.out|apply Zl|apply Zm|apply Zn|refine Zp ?_ GE76001.out)|exact HB.out))):w.heap.size≤gb76002));have n5_:=Za ((by rw[hg];exact Nat.ne_of_lt (ZQ (g:=gb76001) (o:=.cells #[.string a0_0,.slice A0_1 l0_1.length c0_1,.int .i64 a0_2] 42 (0,0)) (by(with_reducible repeat(first|refine Zr ?_ _|refine Zt ?_|refine Zs ?_ _));exact BK76001.out)):gb76001≠gb76002));have n6_:=Za ((by rw[hg];exact Nat.ne_of_gt (ZQ (g:=gb76001) (o:=.cells #[.string a0_0,.slice A0_1 l0_1.length c0_1,.int .i64 a0_2] 42 (0,0)) (by(with_reducible repeat(first|refine Zr ?_ _|refine Zt ?_|refine Zs ?_ _));exact BK76001.out)):gb76002≠gb76001));clear BK76001;clear HB;have BK76001:=n0_;have HB:=n1_;have BK76002:=n2_;have GW76002:=n3_;have GE76002:=n4_;have NB76001_76002:=n5_;have NB76002_76001:=n6_;clear n0_ n1_ n2_ n3_ n4_ n5_ n6_;clear hb hbox hg;have hnb13:=NB76001_76002.out;have hnc13:=NB76002_76001.out;have hcz14_0:w12.cell? ⟨gb76001,0,none⟩=some (.string a0_0):=(Zq BK76001.out 0).trans rfl;have hcz14_1:w12.cell? ⟨gb76001,1,none⟩=some (.slice A0_1 l0_1.length c0_1):=(Zq BK76001.out 1).trans rfl;have hcz14_2:w12.cell? ⟨gb76001,2,none⟩=some (.int .i64 a0_2):=(Zq BK76001.out 2).trans rfl;have hfz14_0:=Zo BK76001.out 0;have hfz14_1:=Zo BK76001.out 1;have hfz14_2:=Zo BK76001.out 2;have hcz15_0:w12.cell? ⟨gb76002,0,none⟩=some (.string a1_0):=(Zq BK76002.out 0).trans rfl;have hcz15_1:w12.cell? ⟨gb76002,1,none⟩=some (.slice A1_1 l1_1.length c1_1):=(Zq BK76002.out 1).trans rfl;have hcz15_2:w12.cell? ⟨gb76002,2,none⟩=some (.int .i64 a1_2):=(Zq BK76002.out 2).trans rfl;have hfz15_0:=Zo BK76002.out 0;have hfz15_1:=Zo BK76002.out 1;have hfz15_2:=Zo BK76002.out 2)|(go_at_call 59;(with_reducible refine(Zy.calls k _ _ l0_1 _ _ l1_1 false _ ?side1 ?side2 ?side3 ?side4 A4.out).mono ?_);(case side1=>repeat(first|exact(Zb HR0_1.out HB.out)|(with_reducible refine Kd.C_alloc ?_ _)|(with_reducible refine Kd.C_drewN ?_ _)|(with_reducible refine Kd.C_drew ?_)));(case side2=>exact HC0_1.out);(case side3=>repeat(first|exact(Zb HR1_1.out HB.out)|(with_reducible refine Kd.C_alloc ?_ _)|(with_reducible refine Kd.C_drewN ?_ _)|(with_reducible refine Kd.C_drew ?_)));(case side4=>exact HC1_1.out);rintro e w' ⟨rfl,⟨nd,rfl⟩⟩))
   go_ret
   exact⟨by first|rfl|(simp[ZC,ZB] <;> rfl)|(simp[*,ZC,ZB] <;> rfl),by repeat(first|(with_reducible first|exact HB.out|apply Zl|apply Zm|apply Zn|refine Zp ?_ GE76001.out|refine Zp ?_ GE76002.out)|exact HB.out)⟩
 ·rw[if_neg c3] at H
  have c3b0:(a0_0.toList == a1_0.toList)=false:=beq_eq_false_iff_ne.mpr c3
  have c3b1:(a0_0.toList != a1_0.toList)=true:=bne_iff_ne.mpr c3
  obtain rfl:=Zg H
  go_enter Try.func76,Try.ntmps76
  go_wp2_with (first|((with_reducible refine ZI (N:=2) rfl ?_);refine ZK ?hg (N:=2) ?hd (cs:=#[.string a0_0,.slice A0_1 l0_1.length c0_1,.int .i64 a0_2]) (t:=42) ?hr ?_;(case hd=>rfl);(case hg=>rfl);(case hr=>first|(go_simp;done)|(go_simp;rfl));intro gb76001 hg w16 hbox hb;have n0_:=Za (Zw (by repeat(first|(with_reducible first|exact HB.out|apply Zl|apply Zm|apply Zn)|exact HB.out)) hb);have n1_:=Za (hbox);have n2_:=Za ((by rw[hg];exact(Zv (by repeat(first|(with_reducible first|exact HB.out|apply Zl|apply Zm|apply Zn)|exact HB.out))):w.heap.size≤gb76001));have n3_:=Za ((by rw[hg];exact(Zv (by repeat(first|(with_reducible first|exact HB.out|apply Zl|apply Zm|apply Zn)|exact HB.out))):w.heap.size≤gb76001));clear HB;have HB:=n0_;have BK76001:=n1_;have GW76001:=n2_;have GE76001:=n3_;clear n0_ n1_ n2_ n3_;clear hb hbox hg)|((with_reducible refine ZI (N:=3) rfl ?_);refine ZK ?hg (N:=3) ?hd (cs:=#[.string a1_0,.slice A1_1 l1_1.length c1_1,.int .i64 a1_2]) (t:=42) ?hr ?_;(case hd=>rfl);(case hg=>rfl);(case hr=>first|(go_simp;done)|(go_simp;rfl));intro gb76002 hg w17 hbox hb;have n0_:=Za (ZG (g:=gb76001) (o:=.cells #[.string a0_0,.slice A0_1 l0_1.length c0_1,.int .i64 a0_2] 42 (0,0)) (by(with_reducible repeat(first|refine Zr ?_ _|refine Zt ?_|refine Zs ?_ _));exact BK76001.out) hb);have n1_:=Za (Zw (by repeat(first|(with_reducible first|exact HB.out|apply Zl|apply Zm|apply Zn|refine Zp ?_ GE76001.out)|exact HB.out)) hb);have n2_:=Za (hbox);have n3_:=Za ((by rw[hg];exact(Zv (by repeat(first|(with_reducible first|exact HB.out|apply Zl|apply Zm|apply Zn|refine Zp ?_ GE76001.out)|exact HB.out))):w.heap.size≤gb76002));have n4_:=Za ((by rw[hg];exact(Zv (by repeat(first|(with_reducible first|exact HB.out|apply Zl|apply Zm|apply Zn|refine Zp ?_ GE76001.out)|exact HB.out))):w.heap.size≤gb76002));have n5_:=Za ((by rw[hg];exact Nat.ne_of_lt (ZQ (g:=gb76001) (o:=.cells #[.string a0_0,.slice A0_1 l0_1.length c0_1,.int .i64 a0_2] 42 (0,0)) (by(with_reducible repeat(first|refine Zr ?_ _|refine Zt ?_|refine Zs ?_ _));exact BK76001.out)):gb76001≠gb76002));have n6_:=Za ((by rw[hg];exact Nat.ne_of_gt (ZQ (g:=gb76001) (o:=.cells #[.string a0_0,.slice A0_1 l0_1.length c0_1,.int .i64 a0_2] 42 (0,0)) (by(with_reducible repeat(first|refine Zr ?_ _|refine Zt ?_|refine Zs ?_ _));exact BK76001.out)):gb76002≠gb76001));clear BK76001;clear HB;have BK76001:=n0_;have HB:=n1_;have BK76002:=n2_;have GW76002:=n3_;have GE76002:=n4_;have NB76001_76002:=n5_;have NB76002_76001:=n6_;clear n0_ n1_ n2_ n3_ n4_ n5_ n6_;clear hb hbox hg;have hnb18:=NB76001_76002.out;have hnc18:=NB76002_76001.out;have hcz19_0:w17.cell? ⟨gb76001,0,none⟩=some (.string a0_0):=(Zq BK76001.out 0).trans rfl;have hcz19_1:w17.cell? ⟨gb76001,1,none⟩=some (.slice A0_1 l0_1.length c0_1):=(Zq BK76001.out 1).trans rfl;have hcz19_2:w17.cell? ⟨gb76001,2,none⟩=some (.int .i64 a0_2):=(Zq BK76001.out 2).trans rfl;have hfz19_0:=Zo BK76001.out 0;have hfz19_1:=Zo BK76001.out 1;have hfz19_2:=Zo BK76001.out 2;have hcz20_0:w17.cell? ⟨gb76002,0,none⟩=some (.string a1_0):=(Zq BK76002.out 0).trans rfl;have hcz20_1:w17.cell? ⟨gb76002,1,none⟩=some (.slice A1_1 l1_1.length c1_1):=(Zq BK76002.out 1).trans rfl;have hcz20_2:w17.cell? ⟨gb76002,2,none⟩=some (.int .i64 a1_2):=(Zq BK76002.out 2).trans rfl;have hfz20_0:=Zo BK76002.out 0;have hfz20_1:=Zo BK76002.out 1;have hfz20_2:=Zo BK76002.out 2))
  go_ret
  exact⟨by first|rfl|(simp[ZC,ZB] <;> rfl)|(simp[*,ZC,ZB] <;> rfl),by repeat(first|(with_reducible first|exact HB.out|apply Zl|apply Zm|apply Zn|refine Zp ?_ GE76001.out|refine Zp ?_ GE76002.out)|exact HB.out)⟩
end Go.Proofs.Ytammpmadchekeaa.Pr
namespace Go.Proofs.Ytammpmadchekeaa.Pr
open Go.RowKit Go.Proofs.YtammpmadchekeaaW.PrintWords Go.Proofs.YtammpmadchekeaaW.PrintLast Go.Proofs.YtammpmadchekeaaW.PrintMore
attribute [local go_sem] Zac Zaa Zah Zag Z2 Z1 Zab Z9
set_option linter.unusedVariables false
set_option linter.unusedSimpArgs false
attribute [local go_sem high] eqA77
def ZW.l0:Nat→List (S77)→List (S77)→Int→Int→Option (Bool)
 | 0,_,_,_,_=>none
 | k+1,x0,x1,x12,x13=>if x13<x12 then(if 0≤x13 then(if x13<(x0.length:Int) then(if x13<(x1.length:Int) then(if (!(((ZA x0 x13).f0) == ((ZA x1 x13).f0)) || (!(((ZA x0 x13).f1) == ((ZA x1 x13).f1)) || (!(((ZA x0 x13).f2) == ((ZA x1 x13).f2)) || (!(((ZA x0 x13).f3) == ((ZA x1 x13).f3)) || (!(((ZA x0 x13).f4) == ((ZA x1 x13).f4)))))))=true then(some false) else(ZW.l0 k x0 x1 x12 (wrap64 (x13+1)))) else(none)) else(none)) else(none)) else(some true)
def ZW.f (k:Nat) (l0:List (S77)) (l1:List (S77)):Option (Bool):=if (l0.length:Int)=(l1.length:Int) then(ZW.l0 k l0 l1 (l0.length:Int) 0) else(some false)
set_option maxHeartbeats 8000000 in
set_option maxRecDepth 100000 in
theorem ZW.calls (k:Nat) (A0:Option Addr) (c0:Nat) (l0:List (S77)) (A1:Option Addr) (c1:Nat) (l1:List (S77)) (r:Bool) (w:World) (hr0:Kd.C k77 w A0 l0.length l0) (hc0:l0.length≤c0) (hr1:Kd.C k77 w A1 l1.length l1) (hc1:l1.length≤c1) (h:ZW.f k l0 l1=some r) :
  Calls Try.prog 77 #[.slice A0 l0.length c0,.slice A1 l1.length c1] w fun e w'=>e=.returned (.bool r)∧Zx w w':=by
 have hu77:=Try.underlying77
 have HR0:=Za hr0;have HC0:=Za hc0;clear hr0 hc0;have HR1:=Za hr1;have HC1:=Za hc1;clear hr1 hc1
 have H:(if (l0.length:Int)=(l1.length:Int) then(ZW.l0 k l0 l1 (l0.length:Int) 0) else(some false))=some r:=h
 clear h
 by_cases c3:(l0.length:Int)=(l1.length:Int)
 ·rw[if_pos c3] at H
  have c3b0:((l0.length:Int) == (l1.length:Int))=true:=beq_iff_eq.mpr c3
  have c3b1:((l0.length:Int) != (l1.length:Int))=false:=bne_eq_false_iff_eq.mpr c3
  have c3b2:(l0.length == l1.length)=true:=by first|simpa using c3|(simp at c3 ⊢;omega)
  clear c3
  have H':=Za H
  clear H
  go_enter Try.func77,Try.ntmps77
  go_wp2
  repeat(go_quiet (fail);try go_wp2)
  go_loopg [13] k (fun kq v13 w'=>∃(x13_1:Int),v13=.int .i64 x13_1∧Aside0 (ZW.l0 kq l0 l1 (l0.length:Int) x13_1=some r)∧Aside0 (kq≤k)∧Zx w w')
  case atStart=>exact⟨(0),(by first|rfl|(simp;done)|(simp[*];done)),H',⟨Nat.le_refl _⟩,by repeat(first|exact Zx.refl _|apply Zx.step)⟩
  case round=>
   clear H'
   try clear c1
   try clear p2
   try clear c3
   try clear c3b0
   try clear c3b1
   try clear c3b2
   obtain⟨x13_1,rfl,HA,HK1,⟨m1,rfl⟩⟩:=hrel
   cases gk with
   | zero=>exact absurd HA.out (by simp[ZW.l0])
   | succ k1=>
    have H:=HA.out
    clear HA
    simp only[ZW.l0] at H
    by_cases c4:x13_1<(l0.length:Int)
    ·rw[if_pos c4] at H
     have c4b0:decide (x13_1<(l0.length:Int))=true:=Ze c4
     clear c4
     by_cases c5:0≤x13_1
     ·rw[if_pos c5] at H
      have c5b0:decide (0≤x13_1)=true:=Ze c5
      clear c5
      by_cases c6:x13_1<(l0.length:Int)
      ·rw[if_pos c6] at H
       have c6b0:decide (x13_1<(l0.length:Int))=true:=Ze c6
       clear c6
       by_cases c7:x13_1<(l1.length:Int)
       ·rw[if_pos c7] at H
        have c7b0:decide (x13_1<(l1.length:Int))=true:=Ze c7
        clear c7
        by_cases c8:(!(((ZA l0 x13_1).f0) == ((ZA l1 x13_1).f0)) || (!(((ZA l0 x13_1).f1) == ((ZA l1 x13_1).f1)) || (!(((ZA l0 x13_1).f2) == ((ZA l1 x13_1).f2)) || (!(((ZA l0 x13_1).f3) == ((ZA l1 x13_1).f3)) || (!(((ZA l0 x13_1).f4) == ((ZA l1 x13_1).f4)))))))=true
        ·rw[if_pos c8] at H
         have c8b0:(!(((ZA l0 x13_1).f0) == ((ZA l1 x13_1).f0)) || (!(((ZA l0 x13_1).f1) == ((ZA l1 x13_1).f1)) || (!(((ZA l0 x13_1).f2) == ((ZA l1 x13_1).f2)) || (!(((ZA l0 x13_1).f3) == ((ZA l1 x13_1).f3)) || (!(((ZA l0 x13_1).f4) == ((ZA l1 x13_1).f4)))))))=true:=c8
         clear c8
         obtain rfl:=Zg H
         have p77001:0≤(x13_1:Int):=Zd (by first|(with_reducible assumption)|assumption)
         have q77001:x13_1<(l0.length:Int):=Zd (by first|(with_reducible assumption)|assumption)
         obtain⟨ad77001,e77001,hx77001_0,hx77001_1,hx77001_2,hx77001_3,hx77001_4⟩:=ZaB HR0.out x13_1 p77001 q77001
         cases e77001
         replace p77001:=eq_true p77001
         replace q77001:=eq_true q77001
         have p77002:0≤(x13_1:Int):=Zd (by first|(with_reducible assumption)|assumption)
         have q77002:x13_1<(l1.length:Int):=Zd (by first|(with_reducible assumption)|assumption)
         obtain⟨ad77002,e77002,hx77002_0,hx77002_1,hx77002_2,hx77002_3,hx77002_4⟩:=ZaB HR1.out x13_1 p77002 q77002
         cases e77002
         replace p77002:=eq_true p77002
         replace q77002:=eq_true q77002
         go_wp2
         repeat(go_quiet (fail);try go_wp2)
         go_ret
         exact⟨by first|rfl|(simp;done)|(simp[*];done),by repeat(first|exact Zx.refl _|apply Zx.step)⟩
        ·rw[if_neg c8] at H
         have c8b0:(!(((ZA l0 x13_1).f0) == ((ZA l1 x13_1).f0)) || (!(((ZA l0 x13_1).f1) == ((ZA l1 x13_1).f1)) || (!(((ZA l0 x13_1).f2) == ((ZA l1 x13_1).f2)) || (!(((ZA l0 x13_1).f3) == ((ZA l1 x13_1).f3)) || (!(((ZA l0 x13_1).f4) == ((ZA l1 x13_1).f4)))))))=false:=by simpa using c8
         clear c8
         have H':=Za H
         clear H
         have p77001:0≤(x13_1:Int):=Zd (by first|(with_reducible assumption)|assumption)
         have q77001:x13_1<(l0.length:Int):=Zd (by first|(with_reducible assumption)|assumption)
         obtain⟨ad77001,e77001,hx77001_0,hx77001_1,hx77001_2,hx77001_3,hx77001_4⟩:=ZaB HR0.out x13_1 p77001 q77001
         cases e77001
         replace p77001:=eq_true p77001
         replace q77001:=eq_true q77001
         have p77002:0≤(x13_1:Int):=Zd (by first|(with_reducible assumption)|assumption)
         have q77002:x13_1<(l1.length:Int):=Zd (by first|(with_reducible assumption)|assumption)
         obtain⟨ad77002,e77002,hx77002_0,hx77002_1,hx77002_2,hx77002_3,hx77002_4⟩:=ZaB HR1.out x13_1 p77002 q77002
         cases e77002
         replace p77002:=eq_true p77002
         replace q77002:=eq_true q77002
         go_wp2
         repeat(go_quiet (fail);try go_wp2)
         go_roundg k1
         case measure=>have:=HK1.out;omega
         case rel=>exact⟨(wrap64 (x13_1+1)),(by first|rfl|(simp;done)|(simp[*];done)),H',⟨by have:=HK1.out;omega⟩,by repeat(first|exact Zx.refl _|apply Zx.step)⟩
       ·rw[if_neg c7] at H
        exact absurd H (by simp)
      ·rw[if_neg c6] at H
       exact absurd H (by simp)
     ·rw[if_neg c5] at H
      exact absurd H (by simp)
    ·rw[if_neg c4] at H
     have c4b0:decide (x13_1<(l0.length:Int))=false:=Zf c4
     clear c4
     obtain rfl:=Zg H
     go_wp2
     repeat(go_quiet (fail);try go_wp2)
     go_ret
     exact⟨by first|rfl|(simp;done)|(simp[*];done),by repeat(first|exact Zx.refl _|apply Zx.step)⟩
 ·rw[if_neg c3] at H
  have c3b0:((l0.length:Int) == (l1.length:Int))=false:=beq_eq_false_iff_ne.mpr c3
  have c3b1:((l0.length:Int) != (l1.length:Int))=true:=bne_iff_ne.mpr c3
  have c3b2:(l0.length == l1.length)=false:=by first|simpa using c3|(simp at c3 ⊢;omega)
  obtain rfl:=Zg H
  go_enter Try.func77,Try.ntmps77
  go_wp2
  repeat(go_quiet (fail);try go_wp2)
  go_ret
  exact⟨by first|rfl|(simp;done)|(simp[*];done),by repeat(first|exact Zx.refl _|apply Zx.step)⟩
end Go.Proofs.Ytammpmadchekeaa.Pr
namespace Go.Proofs.Ytammpmadchekeaa.Pr
open Go.RowKit Go.Proofs.YtammpmadchekeaaW.PrintWords Go.Proofs.YtammpmadchekeaaW.PrintLast Go.Proofs.YtammpmadchekeaaW.PrintMore
attribute [local go_sem] Zac Zaa Zah Zag Z2 Z1 Zab Z9
set_option linter.unusedVariables false
set_option linter.unusedSimpArgs false
open Go.Proofs.Ytammpmadchekeaa.Ni
def Zad.f (k:Nat) (l0_0:List (S42)) (l0_1:List (S77)) (a0_2:Int) (l1_0:List (S42)) (l1_1:List (S77)) (a1_2:Int):Option Bool:=
 if l0_0.all (fun x=>l1_0.all fun y=>Z3.f k x.f0 x.f1 x.f2 y.f0 y.f1 y.f2 == some (Z4 x y))=true then
  (if eqF Z4 l0_0 l1_0=true then(ZW.f k l0_1 l1_1).bind fun t=>some (t && decide (a0_2=a1_2)) else some false) else none
set_option maxHeartbeats 4000000 in
set_option maxRecDepth 100000 in
theorem Zad.calls (k:Nat) (A0_0:Option Addr) (c0_0:Nat) (l0_0:List (S42)) (A0_1:Option Addr) (c0_1:Nat) (l0_1:List (S77)) (a0_2:Int) (A1_0:Option Addr) (c1_0:Nat) (l1_0:List (S42)) (A1_1:Option Addr) (c1_1:Nat) (l1_1:List (S77)) (a1_2:Int) (r:Bool) (w:World) (hr0_0:Kd.C k42 w A0_0 l0_0.length l0_0) (hc0_0:l0_0.length≤c0_0) (hr0_1:Kd.C k77 w A0_1 l0_1.length l0_1) (hc0_1:l0_1.length≤c0_1) (hr1_0:Kd.C k42 w A1_0 l1_0.length l1_0) (hc1_0:l1_0.length≤c1_0) (hr1_1:Kd.C k77 w A1_1 l1_1.length l1_1) (hc1_1:l1_1.length≤c1_1) (h:Zad.f k l0_0 l0_1 a0_2 l1_0 l1_1 a1_2=some r) :
  Calls Try.prog 46 #[.agg #[.slice A0_0 l0_0.length c0_0,.slice A0_1 l0_1.length c0_1,.int .i64 a0_2],.agg #[.slice A1_0 l1_0.length c1_0,.slice A1_1 l1_1.length c1_1,.int .i64 a1_2]] w fun e w'=>e=.returned (.bool r)∧Below w.heap.size w w':=by
 unfold Zad.f at h
 by_cases hall:l0_0.all (fun x=>l1_0.all fun y=>Z3.f k x.f0 x.f1 x.f2 y.f0 y.f1 y.f2 == some (Z4 x y))=true
 case neg=>rw[if_neg hall] at h;exact absurd h (by simp)
 rw[if_pos hall] at h
 have hp:∀x∈l0_0,∀y∈l1_0,Z3.f k x.f0 x.f1 x.f2 y.f0 y.f1 y.f2=some (Z4 x y):=fun x hx y hy=>by
  have:=List.all_eq_true.1 (List.all_eq_true.1 hall x hx) y hy
  simpa using this
 have B1:=Za (Zl (Zl (Below.refl w.heap.size w) (.cells #[.slice A0_0 l0_0.length c0_0,.slice A0_1 l0_1.length c0_1,.int .i64 a0_2] 55)) (.cells #[.slice A1_0 l1_0.length c1_0,.slice A1_1 l1_1.length c1_1,.int .i64 a1_2] 55))
 have HE:=Za fun (W:World) (hb:Below w.heap.size w W)=>impl_Node_75.any Z4 76 (enters_of Try.func76 (by kernel_rfl) rfl) A0_0 c0_0 l0_0 A1_0 c1_0 l1_0 W (Zb hr0_0 hb) (Zb hr1_0 hb)
  (fun W' x y Ax cx Ay cy hx hy hb' lx gx ly gy=>Z3.calls k x.f0 Ax cx x.f1 x.f2 y.f0 Ay cy y.f1 y.f2 _ W' gx lx gy ly (hp x hx y hy))
 have HT:=Za fun (t:Bool) (ht:ZW.f k l0_1 l1_1=some t) (W:World) (hb:Below w.heap.size w W)=>(ZW.calls k A0_1 c0_1 l0_1 A1_1 c1_1 l1_1 t W (Zb hr0_1 hb) hc0_1 (Zb hr1_1 hb) hc1_1 ht).mono fun e w' ⟨he,hd⟩=>(⟨he,by first|exact hd|exact hd.below⟩:e=Ending.returned (.bool t)∧Below W.heap.size W w')
 have KK:=Za fun (W:World) (hb:Below ((w.alloc (.cells #[.slice A0_0 l0_0.length c0_0,.slice A0_1 l0_1.length c0_1,.int .i64 a0_2] 55)).alloc (.cells #[.slice A1_0 l1_0.length c1_0,.slice A1_1 l1_1.length c1_1,.int .i64 a1_2] 55)).heap.size ((w.alloc (.cells #[.slice A0_0 l0_0.length c0_0,.slice A0_1 l0_1.length c0_1,.int .i64 a0_2] 55)).alloc (.cells #[.slice A1_0 l1_0.length c1_0,.slice A1_1 l1_1.length c1_1,.int .i64 a1_2] 55)) W)=>
  And.intro (Zu hb (show _=some (.slice A0_1 l0_1.length c0_1) by go_simp):W.cell? ⟨w.heap.size,1,none⟩=_) (And.intro (Zu hb (show _=some (.int .i64 a0_2) by go_simp):W.cell? ⟨w.heap.size,2,none⟩=_) (And.intro (Zu hb (show _=some (.slice A1_1 l1_1.length c1_1) by go_simp):W.cell? ⟨w.heap.size+1,1,none⟩=_) (Zu hb (show _=some (.int .i64 a1_2) by go_simp):W.cell? ⟨w.heap.size+1,2,none⟩=_)))
 have hu:=Try.underlying55
 clear hr0_0 hc0_0 hr0_1 hc0_1 hr1_0 hc1_0 hr1_1 hc1_1 hall hp
 cases he:eqF Z4 l0_0 l1_0 with
 | false=>
  rw[he] at h HE
  rw[if_neg (by simp)] at h
  obtain rfl:=Zg h
  clear h he HT KK
  go_enter Try.func46,Try.ntmps46
  go_wp2_with fail
  refine(HE.out _ B1.out).mono ?_
  rintro e w1 ⟨rfl,hb⟩
  go_wp2
  go_ret
  exact⟨rfl,B1.out.trans (hb.mono B1.out.size)⟩
 | true=>
 rw[he] at h HE
 rw[if_pos rfl] at h
 obtain⟨t,ht,h⟩:=Option.bind_eq_some_iff.1 h
 obtain rfl:=Zg h
 have HT2:=Za (HT.out t ht)
 clear h he HT ht
 cases t with
 | false=>
  go_enter Try.func46,Try.ntmps46
  go_wp2_with fail
  refine(HE.out _ B1.out).mono ?_
  rintro e w1 ⟨rfl,hb⟩
  obtain⟨k1,k2,k3,k4⟩:=KK.out _ hb
  have hlt:=Zc _ _ k3
  have HB:=Za (B1.out.trans (hb.mono B1.out.size))
  clear hb
  go_wp2_with (go_at_call 77;refine(HT2.out _ HB.out).mono ?_;rintro e w2 ⟨rfl,hb⟩)
  go_ret
  exact⟨rfl,HB.out.trans (hb.mono HB.out.size)⟩
 | true=>
  have HZ:=Za (show(a0_2 == a1_2)=decide (a0_2=a1_2) by rw[Bool.eq_iff_iff];simp)
  go_enter Try.func46,Try.ntmps46
  go_wp2_with fail
  refine(HE.out _ B1.out).mono ?_
  rintro e w1 ⟨rfl,hb⟩
  obtain⟨k1,k2,k3,k4⟩:=KK.out _ hb
  have hlt:=Zc _ _ k3
  have HB:=Za (B1.out.trans (hb.mono B1.out.size))
  clear hb
  go_wp2_with (go_at_call 77;refine(HT2.out _ HB.out).mono ?_;rintro e w2 ⟨rfl,hb⟩;have hk2:=Zu hb k2;have hk4:=Zu hb k4;have hlt2:=Zc _ _ hk4)
  go_ret
  exact⟨by rw[Bool.true_and,← HZ.out];rfl,HB.out.trans (hb.mono HB.out.size)⟩
set_option maxHeartbeats 4000000 in
set_option maxRecDepth 100000 in
theorem laws_eqNode.same (a0:ByteArray) (A1:Option Addr) (c1:Nat) (A1':Option Addr) (c1':Nat) (l1:List Int) (a2:Int) (w:World) (hr1:Kd.C (Kd.int .i64) w A1 l1.length l1) (hc1:l1.length≤c1) (hr1':Kd.C (Kd.int .i64) w A1' l1.length l1) (hc1':l1.length≤c1') :
  Calls Try.prog 39 #[.agg #[.string a0,.slice A1 l1.length c1,.int .i64 a2],.agg #[.string a0,.slice A1' l1.length c1',.int .i64 a2]] w fun e w'=>e=.returned (.bool true)∧Below w.heap.size w w':=by
 have hu:=Try.underlying42
 have H1:=Za fun (W:World) (hb:Below w.heap.size w W)=>(ZM.calls (2 ^ 64) A1 c1 l1 A1' c1' l1 true W (Zb hr1 hb) hc1 (Zb hr1' hb) hc1' (eqIntS_refl l1 hr1.2.1 (2 ^ 64) (Nat.le_refl _))).mono fun e w' ⟨he,hd⟩=>(And.intro he hd.below:e=Ending.returned (.bool true)∧Below W.heap.size W w')
 clear hr1 hc1 hr1' hc1'
 have HB0:=Za (Zl (Zl (Below.refl w.heap.size w) (.cells #[.string a0,.slice A1 l1.length c1,.int .i64 a2] 42)) (.cells #[.string a0,.slice A1' l1.length c1',.int .i64 a2] 42))
 go_enter Try.func39,Try.ntmps39
 go_wp2_with fail
 refine(H1.out _ HB0.out).mono ?_
 rintro e w1 ⟨rfl,hb⟩
 have HB1:=Za (HB0.out.trans (hb.mono HB0.out.size))
 have s2:w1.cell? ⟨w.heap.size,2,none⟩=some (.int .i64 a2):=Zu hb (by go_simp)
 have t2:w1.cell? ⟨w.heap.size+1,2,none⟩=some (.int .i64 a2):=Zu hb (by go_simp)
 clear hb
 go_wp2
 go_ret
 exact⟨rfl,HB1.out⟩
set_option maxHeartbeats 4000000 in
set_option maxRecDepth 100000 in
theorem laws_eqNodeS.same (A0:Option Addr) (c0:Nat) (A0':Option Addr) (c0':Nat) (l0:List (S42)) (w:World) (hr0:Kd.C k42 w A0 l0.length l0) (hc0:l0.length≤c0) (hr0':Kd.C k42 w A0' l0.length l0) (hc0':l0.length≤c0') :
  Calls Try.prog 73 #[.slice A0 l0.length c0,.slice A0' l0.length c0'] w fun e w'=>e=.returned (.bool true)∧Below w.heap.size w w':=by
 have hL:l0.length≤9223372036854775807:=hr0.2.1
 have HR:=Za hr0
 have HS:=Za hr0'
 clear hr0 hr0'
 go_enter Try.func73,Try.ntmps73
 go_wp2
 go_loopg [5] l0.length (fun gg s5 wr=>∃kk:Nat,Aside0 (kk≤l0.length)∧Aside0 (l0.length - kk≤gg)∧s5=.int .i64 kk∧Aside0 (Below w.heap.size w wr))
 case atStart=>exact⟨0,⟨Nat.zero_le _⟩,⟨by omega⟩,rfl,⟨Below.refl _ _⟩⟩
 case round=>
  obtain⟨kk,HK,HG,rfl,HBr⟩:=hrel
  by_cases hlt:kk<l0.length
  ·have hltz:(kk:Int)<(l0.length:Int):=by omega
   obtain⟨adx,A1x,c1x,ex,hx0,hx1,hx2,l1x,g1x⟩:=ZaU HR.out (kk:Int) (by omega) hltz
   obtain⟨ady,A1y,c1y,ey,hy0,hy1,hy2,l1y,g1y⟩:=ZaU HS.out (kk:Int) (by omega) hltz
   cases ex
   cases ey
   rw[Int.toNat_natCast] at hx0 hx1 hx2 hy0 hy1 hy2
   generalize Z5 l0 (kk:Int)=y at hx0 hx1 hx2 l1x g1x hy0 hy1 hy2 l1y g1y
   replace hx0:=Zu HBr.out hx0
   replace hx1:=Zu HBr.out hx1
   replace hx2:=Zu HBr.out hx2
   replace hy0:=Zu HBr.out hy0
   replace hy1:=Zu HBr.out hy1
   replace hy2:=Zu HBr.out hy2
   have hltx:=Zc wr _ hx0
   have hlty:=Zc wr _ hy0
   have G1x:=Za g1x;have G1y:=Za g1y;clear g1x g1y
   go_wp2_with fail
   go_region_held3 (fun w'=>Below wr.heap.size wr w'∧w'.cell? (adx.add (kk * 3))=some (.string y.f0)∧w'.cell? ⟨(adx.add (kk * 3)).block,(adx.add (kk * 3)).off+1,none⟩=some (.slice A1x y.f1.length c1x)∧w'.cell? ⟨(adx.add (kk * 3)).block,(adx.add (kk * 3)).off+2,none⟩=some (.int .i64 y.f2)∧w'.cell? (ady.add (kk * 3))=some (.string y.f0)∧w'.cell? ⟨(ady.add (kk * 3)).block,(ady.add (kk * 3)).off+1,none⟩=some (.slice A1y y.f1.length c1y)∧w'.cell? ⟨(ady.add (kk * 3)).block,(ady.add (kk * 3)).off+2,none⟩=some (.int .i64 y.f2))
    (first|(refine⟨by repeat(first|(with_reducible first|exact Below.refl _ _|apply Zl|apply Zm|apply Zn|exact(‹Below wr.heap.size wr _∧_› : Below wr.heap.size wr _∧_).1)|exact Below.refl _ _),?_⟩;go_simp;done)|(have HQ_:=Zw (‹Below wr.heap.size wr _∧_› : Below wr.heap.size wr _∧_).1 hb;exact⟨HQ_,Zu HQ_ hx0,Zu HQ_ hx1,Zu HQ_ hx2,Zu HQ_ hy0,Zu HQ_ hy1,Zu HQ_ hy2⟩))
    (first|(go_at_call 39;(refine(laws_eqNode.same y.f0 A1x c1x A1y c1y y.f1 y.f2 _ ?p0 l1x ?p1 l1y).mono ?_);(case p0=>exact(Zb (Zb G1x.out HBr.out) (‹Below wr.heap.size wr _∧_› : Below wr.heap.size wr _∧_).1));(case p1=>exact(Zb (Zb G1y.out HBr.out) (‹Below wr.heap.size wr _∧_› : Below wr.heap.size wr _∧_).1));rintro e w3 ⟨rfl,hb⟩))
   have HB3:=Za (‹Below wr.heap.size wr w3∧_› : Below wr.heap.size wr w3∧_).1
   go_wp2
   go_roundg (l0.length - (kk+1))
   case measure=>have:=HG.out;omega
   case rel=>exact⟨kk+1,⟨by omega⟩,⟨by omega⟩,by go_num,⟨HBr.out.trans (HB3.out.mono HBr.out.size)⟩⟩
  ·have hltz:¬(kk:Int)<(l0.length:Int):=by omega
   have:kk=l0.length:=by have:=HK.out;omega
   subst this
   go_wp2
   go_ret
   exact⟨rfl,HBr.out⟩
set_option maxHeartbeats 4000000 in
set_option maxRecDepth 100000 in
theorem laws_eqTie.same (a0:Int) (a1:Int) (a2:Int) (a3:Int) (a4:Bool) (w:World)  :
  Calls Try.prog 86 #[.agg #[.int .i64 a0,.int .i64 a1,.int .i64 a2,.int .i64 a3,.bool a4],.agg #[.int .i64 a0,.int .i64 a1,.int .i64 a2,.int .i64 a3,.bool a4]] w fun e w'=>e=.returned (.bool true)∧Below w.heap.size w w':=by
 have hu:=Try.underlying77
 have HB0:=Za (Zl (Zl (Below.refl w.heap.size w) (.cells #[.int .i64 a0,.int .i64 a1,.int .i64 a2,.int .i64 a3,.bool a4] 77)) (.cells #[.int .i64 a0,.int .i64 a1,.int .i64 a2,.int .i64 a3,.bool a4] 77))
 go_enter Try.func86,Try.ntmps86
 go_wp2
 go_ret
 exact⟨rfl,by repeat(first|exact Below.refl _ _|apply Zl|apply Zm|apply ZaF)⟩
set_option maxHeartbeats 4000000 in
set_option maxRecDepth 100000 in
theorem laws_eqTieS.same (A0:Option Addr) (c0:Nat) (A0':Option Addr) (c0':Nat) (l0:List (S77)) (w:World) (hr0:Kd.C k77 w A0 l0.length l0) (hc0:l0.length≤c0) (hr0':Kd.C k77 w A0' l0.length l0) (hc0':l0.length≤c0') :
  Calls Try.prog 74 #[.slice A0 l0.length c0,.slice A0' l0.length c0'] w fun e w'=>e=.returned (.bool true)∧Below w.heap.size w w':=by
 have hL:l0.length≤9223372036854775807:=hr0.2.1
 have HR:=Za hr0
 have HS:=Za hr0'
 clear hr0 hr0'
 go_enter Try.func74,Try.ntmps74
 go_wp2
 go_loopg [5] l0.length (fun gg s5 wr=>∃kk:Nat,Aside0 (kk≤l0.length)∧Aside0 (l0.length - kk≤gg)∧s5=.int .i64 kk∧Aside0 (Below w.heap.size w wr))
 case atStart=>exact⟨0,⟨Nat.zero_le _⟩,⟨by omega⟩,rfl,⟨Below.refl _ _⟩⟩
 case round=>
  obtain⟨kk,HK,HG,rfl,HBr⟩:=hrel
  by_cases hlt:kk<l0.length
  ·have hltz:(kk:Int)<(l0.length:Int):=by omega
   obtain⟨adx,ex,hx0,hx1,hx2,hx3,hx4⟩:=ZaB HR.out (kk:Int) (by omega) hltz
   obtain⟨ady,ey,hy0,hy1,hy2,hy3,hy4⟩:=ZaB HS.out (kk:Int) (by omega) hltz
   cases ex
   cases ey
   rw[Int.toNat_natCast] at hx0 hx1 hx2 hx3 hx4 hy0 hy1 hy2 hy3 hy4
   generalize ZA l0 (kk:Int)=y at hx0 hx1 hx2 hx3 hx4 hy0 hy1 hy2 hy3 hy4
   replace hx0:=Zu HBr.out hx0
   replace hx1:=Zu HBr.out hx1
   replace hx2:=Zu HBr.out hx2
   replace hx3:=Zu HBr.out hx3
   replace hx4:=Zu HBr.out hx4
   replace hy0:=Zu HBr.out hy0
   replace hy1:=Zu HBr.out hy1
   replace hy2:=Zu HBr.out hy2
   replace hy3:=Zu HBr.out hy3
   replace hy4:=Zu HBr.out hy4
   have hltx:=Zc wr _ hx0
   have hlty:=Zc wr _ hy0
   go_wp2_with fail
   go_region_held3 (fun w'=>Below wr.heap.size wr w'∧w'.cell? (adx.add (kk * 5))=some (.int .i64 y.f0)∧w'.cell? ⟨(adx.add (kk * 5)).block,(adx.add (kk * 5)).off+1,none⟩=some (.int .i64 y.f1)∧w'.cell? ⟨(adx.add (kk * 5)).block,(adx.add (kk * 5)).off+2,none⟩=some (.int .i64 y.f2)∧w'.cell? ⟨(adx.add (kk * 5)).block,(adx.add (kk * 5)).off+3,none⟩=some (.int .i64 y.f3)∧w'.cell? ⟨(adx.add (kk * 5)).block,(adx.add (kk * 5)).off+4,none⟩=some (.bool y.f4)∧w'.cell? (ady.add (kk * 5))=some (.int .i64 y.f0)∧w'.cell? ⟨(ady.add (kk * 5)).block,(ady.add (kk * 5)).off+1,none⟩=some (.int .i64 y.f1)∧w'.cell? ⟨(ady.add (kk * 5)).block,(ady.add (kk * 5)).off+2,none⟩=some (.int .i64 y.f2)∧w'.cell? ⟨(ady.add (kk * 5)).block,(ady.add (kk * 5)).off+3,none⟩=some (.int .i64 y.f3)∧w'.cell? ⟨(ady.add (kk * 5)).block,(ady.add (kk * 5)).off+4,none⟩=some (.bool y.f4))
    (first|(refine⟨by repeat(first|(with_reducible first|exact Below.refl _ _|apply Zl|apply Zm|apply Zn|exact(‹Below wr.heap.size wr _∧_› : Below wr.heap.size wr _∧_).1)|exact Below.refl _ _),?_⟩;go_simp;done)|(have HQ_:=Zw (‹Below wr.heap.size wr _∧_› : Below wr.heap.size wr _∧_).1 hb;exact⟨HQ_,Zu HQ_ hx0,Zu HQ_ hx1,Zu HQ_ hx2,Zu HQ_ hx3,Zu HQ_ hx4,Zu HQ_ hy0,Zu HQ_ hy1,Zu HQ_ hy2,Zu HQ_ hy3,Zu HQ_ hy4⟩))
    (first|(go_at_call 86;(refine(laws_eqTie.same y.f0 y.f1 y.f2 y.f3 y.f4 _ ).mono ?_);rintro e w3 ⟨rfl,hb⟩))
   have HB3:=Za (‹Below wr.heap.size wr w3∧_› : Below wr.heap.size wr w3∧_).1
   go_wp2
   go_roundg (l0.length - (kk+1))
   case measure=>have:=HG.out;omega
   case rel=>exact⟨kk+1,⟨by omega⟩,⟨by omega⟩,by go_num,⟨HBr.out.trans (HB3.out.mono HBr.out.size)⟩⟩
  ·have hltz:¬(kk:Int)<(l0.length:Int):=by omega
   have:kk=l0.length:=by have:=HK.out;omega
   subst this
   go_wp2
   go_ret
   exact⟨rfl,HBr.out⟩
set_option maxHeartbeats 4000000 in
set_option maxRecDepth 100000 in
theorem Za6.same (A0:Option Addr) (c0:Nat) (A0':Option Addr) (c0':Nat) (l0:List (S42)) (A1:Option Addr) (c1:Nat) (A1':Option Addr) (c1':Nat) (l1:List (S77)) (a2:Int) (w:World) (hr0:Kd.C k42 w A0 l0.length l0) (hc0:l0.length≤c0) (hr0':Kd.C k42 w A0' l0.length l0) (hc0':l0.length≤c0') (hr1:Kd.C k77 w A1 l1.length l1) (hc1:l1.length≤c1) (hr1':Kd.C k77 w A1' l1.length l1) (hc1':l1.length≤c1') :
  Calls Try.prog 44 #[.agg #[.slice A0 l0.length c0,.slice A1 l1.length c1,.int .i64 a2],.agg #[.slice A0' l0.length c0',.slice A1' l1.length c1',.int .i64 a2]] w fun e w'=>e=.returned (.bool true)∧Below w.heap.size w w':=by
 have hu:=Try.underlying55
 have H0:=Za fun (W:World) (hb:Below w.heap.size w W)=>laws_eqNodeS.same A0 c0 A0' c0' l0 W (Zb hr0 hb) hc0 (Zb hr0' hb) hc0'
 have H1:=Za fun (W:World) (hb:Below w.heap.size w W)=>laws_eqTieS.same A1 c1 A1' c1' l1 W (Zb hr1 hb) hc1 (Zb hr1' hb) hc1'
 clear hr0 hc0 hr0' hc0' hr1 hc1 hr1' hc1'
 have HB0:=Za (Zl (Zl (Below.refl w.heap.size w) (.cells #[.slice A0 l0.length c0,.slice A1 l1.length c1,.int .i64 a2] 55)) (.cells #[.slice A0' l0.length c0',.slice A1' l1.length c1',.int .i64 a2] 55))
 go_enter Try.func44,Try.ntmps44
 go_wp2_with fail
 refine(H0.out _ HB0.out).mono ?_
 rintro e w1 ⟨rfl,hb⟩
 have HB1:=Za (HB0.out.trans (hb.mono HB0.out.size))
 have s1:w1.cell? ⟨w.heap.size,1,none⟩=some (.slice A1 l1.length c1):=Zu hb (by go_simp)
 have t1:w1.cell? ⟨w.heap.size+1,1,none⟩=some (.slice A1' l1.length c1'):=Zu hb (by go_simp)
 have s2:w1.cell? ⟨w.heap.size,2,none⟩=some (.int .i64 a2):=Zu hb (by go_simp)
 have t2:w1.cell? ⟨w.heap.size+1,2,none⟩=some (.int .i64 a2):=Zu hb (by go_simp)
 clear hb
 go_wp2_with fail
 refine(H1.out _ HB1.out).mono ?_
 rintro e w2 ⟨rfl,hb⟩
 have HB2:=Za (HB1.out.trans (hb.mono HB1.out.size))
 replace s2:=Zu hb s2
 replace t2:=Zu hb t2
 clear hb s1 t1
 go_wp2
 go_ret
 exact⟨rfl,HB2.out⟩
end Go.Proofs.Ytammpmadchekeaa.Pr
namespace Go.Proofs.Ytammpmadchekeaa.Pr
open Go.RowKit Go.Proofs.YtammpmadchekeaaW.PrintWords Go.Proofs.Ytammpmadchekeaa.Ni
theorem szIntS_f (l:List Int) (hl:l.length≤9223372036854775807) (a:Int) (h0:0≤a) (h1:a≤1048576):Zaf.f l a=some (if a - l.length<0 then -1 else a - l.length):=by
 unfold Zaf.f
 rw[Za0 (by omega) (by omega)]
 split <;> rfl
theorem szNode_f (s:ByteArray) (l:List Int) (n:Int) (hs:s.size≤9223372036854775807) (hl:l.length≤9223372036854775807) (a:Int) (h0:0≤a) (h1:a≤1048576) :
  ∃r,Zam.f s l n a=some r∧(r<0∨(0≤r∧r≤a∧s.size≤1048576∧l.length≤1048576)):=by
 unfold Zam.f
 rw[Za0 (by omega) (by omega)]
 by_cases h:a - (s.size:Int)<0
 ·rw[if_pos h];exact⟨_,rfl,.inl (by omega)⟩
 ·rw[if_neg h,szIntS_f l hl _ (by omega) (by omega),Zh]
  by_cases h2:a - (s.size:Int) - l.length<0
  ·rw[if_pos h2,if_pos (by omega)];exact⟨_,rfl,.inl (by omega)⟩
  ·rw[if_neg h2,if_neg h2];exact⟨_,rfl,.inr ⟨by omega,by omega,by omega,by omega⟩⟩
theorem toNode_f (s:ByteArray) (l:List Int) (n:Int) (hl:l.length≤35184372088832) (k:Nat) (hk:2 ^ 64≤k):Zaq.f k s l n=some (s,l,n):=by
 unfold Zaq.f
 rw[toIntS_f l hl k hk];rfl
theorem szNodeS_l (l:List LNode) (hl:l.length≤9223372036854775807) (hb:∀n∈l,n.f0.size≤9223372036854775807∧n.f1.length≤9223372036854775807) (k:Nat) (hk:2 ^ 64≤k) :
  ∀a:Int,0≤a→a≤1048576→∃r,ZE.l0 k l a 0=some r∧(r<0∨(0≤r∧r≤a∧∀n∈l,n.f0.size≤1048576∧n.f1.length≤1048576)):=by
 have key:=Zat l.length (fun k i=>∀a:Int,0≤a→a≤1048576→∃r,ZE.l0 k l a (i:Int)=some r∧(r<0∨(0≤r∧r≤a∧∀n∈l.drop i,n.f0.size≤1048576∧n.f1.length≤1048576))) 0
  (fun k _ a h0 h1=>⟨a,by simp[ZE.l0],.inr ⟨h0,Int.le_refl _,by simp⟩⟩)
  (fun k i _ hi ih a h0 h1=>by
   simp only[ZE.l0]
   rw[if_pos (by omega),if_pos (by omega),rdLN_nat,Zar hi (by omega)]
   have hm:=hb _ (ZaK hi z39)
   obtain⟨r,hr,h⟩:=szNode_f (l.getD i z39).f0 (l.getD i z39).f1 (l.getD i z39).f2 hm.1 hm.2 a h0 h1
   rw[hr,Zh]
   rcases h with h|⟨h2,h3,h4,h5⟩
   ·rw[if_pos h];exact⟨_,rfl,.inl (by omega)⟩
   ·rw[if_neg (by omega)]
    obtain⟨q,hq,h⟩:=ih r h2 (by omega)
    refine⟨q,hq,?_⟩
    rcases h with h|⟨h6,h7,h8⟩
    ·exact .inl h
    ·refine .inr ⟨h6,by omega,?_⟩
     rw[ZX hi z39]
     intro n hn
     rcases List.mem_cons.1 hn with rfl|hn
     ·exact⟨h4,h5⟩
     ·exact h8 n hn) 0 k (Nat.zero_le _) (by omega)
 intro a h0 h1
 simpa using key a h0 h1
theorem szShow_f (ns:List LNode) (ts:List LTie) (z:Int) (hn:ns.length≤9223372036854775807) (hb:∀n∈ns,n.f0.size≤9223372036854775807∧n.f1.length≤9223372036854775807) (ht:ts.length≤9223372036854775807) (k:Nat) (hk:2 ^ 64≤k) (a:Int) (h0:0≤a) (h1:a≤1048576) :
  ∃r,Z0.f k ns ts z a=some r∧(r<0∨(0≤r∧r≤a∧ZaQ ns ts)):=by
 unfold Z0.f ZE.f
 rw[Za0 (by omega) (by omega)]
 by_cases h:a - (ns.length:Int)<0
 ·rw[if_pos h,Zh,if_pos (by omega)];exact⟨_,rfl,.inl (by omega)⟩
 ·rw[if_neg h]
  obtain⟨r,hr,h⟩:=szNodeS_l ns hn hb k hk (a - ns.length) (by omega) (by omega)
  rw[hr,Zh]
  rcases h with h|⟨h2,h3,h4⟩
  ·rw[if_pos h];exact⟨_,rfl,.inl (by omega)⟩
  ·rw[if_neg (by omega)]
   unfold Zae.f
   rw[Za0 (by omega) (by omega)]
   by_cases h5:r - (ts.length:Int)<0
   ·rw[if_pos h5,Zh,if_pos (by omega)];exact⟨_,rfl,.inl (by omega)⟩
   ·rw[if_neg h5,Zh,if_neg h5];exact⟨_,rfl,.inr ⟨by omega,by omega,by omega,by omega,h4⟩⟩
theorem toNodeS_f (l:List LNode) (hl:l.length≤1048576) (hb:∀n∈l,n.f0.size≤1048576∧n.f1.length≤1048576) (k:Nat) (hk:2 ^ 65≤k):ZD.f k l=some (l.map cvN):=by
 have key:=Zat l.length (fun k i=>ZD.l0 k l ((l.map cvN).take i ++ List.replicate ((l.map cvN).length - i) z42) (i:Int)=some (l.map cvN)) (2 ^ 64)
  (fun k _=>by simp[ZD.l0];rw[List.take_of_length_le (by simp)])
  (fun k i hk hi ih=>by
   simp only[ZD.l0]
   have hm:=hb _ (ZaK hi z39)
   rw[if_pos (by omega),if_pos (by omega),rdLN_nat,toNode_f _ _ _ (by omega) k hk,Zh,if_pos (by simp;omega),Zar hi (by omega),Int.toNat_natCast,Za9 (l.map cvN) _ z42 i (by simpa using hi) _ (by rw[getD_map cvN l i z39 z42 zN];rfl)]
   exact ih) 0 k (Nat.zero_le _) (by omega)
 unfold ZD.f
 rw[if_pos (by omega),if_pos (by omega),Int.toNat_natCast]
 simpa using key
theorem toTieS_f (l:List LTie) (hl:l.length≤1048576) (k:Nat) (hk:2 ^ 64≤k):ZF.f k l=some (l.map cvT):=by
 have key:=Zat l.length (fun k i=>ZF.l0 k l ((l.map cvT).take i ++ List.replicate ((l.map cvT).length - i) z77) (i:Int)=some (l.map cvT)) 0
  (fun k _=>by simp[ZF.l0];rw[List.take_of_length_le (by simp)])
  (fun k i hk hi ih=>by
   simp only[ZF.l0,Zaw.f]
   rw[if_pos (by omega),if_pos (by omega),rdLT_nat,Zh,if_pos (by simp;omega),Zar hi (by omega),Int.toNat_natCast,Za9 (l.map cvT) _ z77 i (by simpa using hi) _ (by rw[getD_map cvT l i z84 z77 zT];rfl)]
   exact ih) 0 k (Nat.zero_le _) (by omega)
 unfold ZF.f
 rw[if_pos (by omega),if_pos (by omega),Int.toNat_natCast]
 simpa using key
theorem toShow_f (ns:List LNode) (ts:List LTie) (z:Int) (h:ZaQ ns ts) (k:Nat) (hk:2 ^ 65≤k):ZO.f k ns ts z=some (ns.map cvN,ts.map cvT,z):=by
 unfold ZO.f
 rw[toNodeS_f ns h.1 h.2.2 k hk,Zh,toTieS_f ts h.2.1 k (by omega)];rfl
theorem pTie_f (s t:List PTie) (hl:s.length≤1048576) (k:Nat) (hk:2 ^ 64≤k):ZW.f k s t=some (decide (s.length=t.length) && eqT s t):=by
 unfold ZW.f
 by_cases e:s.length=t.length
 ·rw[if_pos (by omega),Ze e,Bool.true_and]
  have key:=Zat s.length (fun k i=>ZW.l0 k s t s.length (i:Int)=some (eqT (s.drop i) (t.drop i))) 0
   (fun k _=>by
    simp only[ZW.l0]
    rw[if_neg (by omega),List.drop_of_length_le (Nat.le_refl _),List.drop_of_length_le (by omega)];rfl)
   (fun k i _ hi ih=>by
    simp only[ZW.l0]
    rw[if_pos (by omega),if_pos (by omega),if_pos (by omega),if_pos (by omega),rdT_nat,rdT_nat,Zar hi (by omega),ih,ZX hi z77,ZX (show i<t.length by omega) z77,eqT]
    show(if tieE _ _=true then some false else _)=_
    cases tieE (s.getD i z77) (t.getD i z77) <;> rfl) 0 k (Nat.zero_le _) (by omega)
  simpa using key
 ·rw[if_neg (by omega),Zf e];rfl
theorem sameNodes_f (x y:PNode) (hl:x.f1.length≤1048576) (k:Nat) (hk:2 ^ 64≤k):Z3.f k x.f0 x.f1 x.f2 y.f0 y.f1 y.f2=some (Z4 x y):=by
 unfold Z3.f Z4
 by_cases h:x.f0.toList=y.f0.toList
 ·rw[if_pos h,Ze h,sEqual_f x.f1 y.f1 (by omega) k hk,Zh,Bool.true_and]
  by_cases h2:x.f1=y.f1
  ·rw[Ze h2,if_pos rfl,Bool.true_and]
   congr 1
  ·rw[Zf h2,if_neg (by simp)];rfl
 ·rw[if_neg h,Zf h];rfl
theorem Za8 {ns ms:List PNode} {ts us:List PTie} (y z:Int) (hc:SmallP ns ts) (k:Nat):Z8.f k ns ts y ms us z=some (eqF Z4 ns ms && ((decide (ts.length=us.length) && eqT ts us) && decide (y=z))):=by
 unfold Z8.f
 rw[if_pos ⟨List.all_eq_true.2 (fun n hn=>Ze (hc.2.2 n hn).2),hc.1,hc.2.1⟩]
theorem Zbb {ns ms:List PNode} {ts us:List PTie} (y z:Int) (hc:SmallP ns ts) (k:Nat) (hk:2 ^ 66≤k):Zad.f k ns ts y ms us z=some (eqF Z4 ns ms && ((decide (ts.length=us.length) && eqT ts us) && decide (y=z))):=by
 unfold Zad.f
 rw[if_pos (by
  rw[List.all_eq_true];intro x hx
  rw[List.all_eq_true];intro w _
  rw[sameNodes_f x w (hc.2.2 x hx).2 k (by omega)];simp)]
 cases h:eqF Z4 ns ms with
 | false=>rw[if_neg (by simp)];rfl
 | true=>rw[if_pos rfl,pTie_f ts us hc.2.1 k (by omega),Zh];rfl
end Go.Proofs.Ytammpmadchekeaa.Pr
