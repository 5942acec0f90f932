/- By a program of this session. -/
import Derived.Test.YtoeimopgoaffcaaDoorBBcc1x14
set_option maxHeartbeats 8000000
set_option maxRecDepth 100000
namespace Go.Proofs.YtoeimopgoaffcaaDoor.Pr
open RowKit YtoeimopgoaffcaaDoorW.PrintWords Ni
def inN (n x:Int):Bool:=decide (0≤x) && decide (x<n)
theorem inN_f (n x:Int):ZaE.f n x=some (inN n x):=by
 unfold ZaE.f inN
 by_cases h:x≥0
 ·rw[if_pos h,Ze (show(0:Int)≤x from h),Bool.true_and]
 ·rw[if_neg h,Zf (show ¬(0:Int)≤x from h),Bool.false_and]
theorem Zcq (n x:Int) (w:World):Calls Tryd.prog 55 #[.int .i64 n,.int .i64 x] w fun e w'=>e=.returned (.bool (inN n x))∧∃m,w'=w.drewN m:=
 (ZaE.calls n x _ w (inN_f n x)).mono fun _ _ ⟨he,hd⟩=>⟨he,hd.out⟩
open YtoeimopgoaffcaaDoorW.PrintLast YtoeimopgoaffcaaDoorW.PrintMore
attribute [local go_sem] Zat Zar ZaG ZaF Zal Zak Zas Zaq
set_option linter.unusedVariables false
set_option linter.unusedSimpArgs false
theorem Zfe.any (p:S113→Bool) (g:Nat) (lb:Array Value) (eg:∀args w,(callFunc g args).run Tryd.prog w=.ok (.enter g args) w) (A0:Option Addr) (c0:Nat) (l0:List S113) (w:World) (hr0:Kd.C k113 w A0 l0.length l0)
  (hp:∀(W:World) (x:S113),x∈l0→Below w.heap.size w W→Calls Tryd.prog g (#[.agg #[.int .i64 x.f0,.int .i64 x.f1,.int .i64 x.f2.f0,.int .i64 x.f2.f1]] ++ lb) W fun e w'=>e=.returned (.bool (p x))∧Below W.heap.size W w') :
  Calls Tryd.prog 112 #[.slice A0 l0.length c0,.func (.func g) #[] lb] w fun e w'=>e=.returned (.int .i64 (ZaK p l0))∧Below w.heap.size w w':=by
 have HR0:=Za hr0;have HP:=Za hp;clear hr0 hp
 have HL:l0.length≤9223372036854775807:=HR0.out.2.1
 go_enter Tryd.func112,Tryd.ntmps112
 go_wp2
 go_loopg [5,8] l0.length (fun gg _ s8 wr=>∃kk:Nat,Aside0 (kk≤l0.length)∧Aside0 (l0.length - kk≤gg)∧s8=.int .i64 kk∧Aside0 (Below w.heap.size w wr)∧Aside0 (∀j y,j<kk→l0[j]? = some y→p y=false))
 case atStart=>exact⟨0,⟨Nat.zero_le _⟩,⟨by omega⟩,rfl,⟨Below.refl _ _⟩,⟨fun j y hj=>absurd hj (Nat.not_lt_zero _)⟩⟩
 case round=>
  obtain⟨kk,HK,HG,rfl,HB,HN⟩:=hrel
  by_cases hlt:kk<l0.length
  ·have hltz:(kk:Int)<(l0.length:Int):=by omega
   obtain⟨ad,e1,hx0,hx1,hx2,hx3⟩:=at_T113 HR0.out (kk:Int) (by omega) hltz
   cases e1
   replace hx0:=(HB.out.cell (Zc w _ hx0)).trans hx0
   rw[Int.toNat_natCast] at hx0
   replace hx1:=(HB.out.cell (Zc w _ hx1)).trans hx1
   rw[Int.toNat_natCast] at hx1
   replace hx2:=(HB.out.cell (Zc w _ hx2)).trans hx2
   rw[Int.toNat_natCast] at hx2
   replace hx3:=(HB.out.cell (Zc w _ hx3)).trans hx3
   rw[Int.toNat_natCast] at hx3
   have hxe:l0[kk]? = some (Zb2 l0 (kk:Int)):=by
    unfold Zb2
    rw[Int.toNat_natCast,List.getD_eq_getElem?_getD,Zl hlt];rfl
   generalize Zb2 l0 (kk:Int)=y at hx0 hx1 hx2 hx3 hxe
   have HX:=Za hxe;clear hxe
   have hcall:=HP.out wr y (List.mem_of_getElem? HX.out) HB.out
   cases hq:p y with
   | true=>
    have HQ:=Za hq
    rw[hq] at hcall
    clear hq
    go_wp2_with (go_at_fn g;refine hcall.mono ?_;rintro e w' ⟨rfl,hb⟩)
    go_ret
    exact⟨by rw[ZbZ p l0 kk y HX.out HQ.out HN.out];rfl,HB.out.trans (hb.mono HB.out.size)⟩
   | false=>
    have HQ:=Za hq
    rw[hq] at hcall
    clear hq
    go_wp2_with (go_at_fn g;refine hcall.mono ?_;rintro e w' ⟨rfl,hb⟩)
    go_roundg (l0.length - (kk+1))
    case measure=>have:=HG.out;omega
    case rel=>
     refine⟨kk+1,⟨by omega⟩,⟨by omega⟩,by go_num,⟨HB.out.trans (hb.mono HB.out.size)⟩,⟨fun j y' hj hy=>?_⟩⟩
     by_cases e:j=kk
     ·subst e
      rw[HX.out] at hy
      cases hy
      exact HQ.out
     ·exact HN.out j y' (by omega) hy
  ·have hltz:¬(kk:Int)<(l0.length:Int):=by omega
   have:kk=l0.length:=by have:=HK.out;omega
   subst this
   go_wp2
   go_ret
   exact⟨by rw[ZbP p l0 HN.out];rfl,HB.out⟩
theorem impl_Link_81.any (p:S113→Bool) (g:Nat) (lb:Array Value) (eg:∀args w,(callFunc g args).run Tryd.prog w=.ok (.enter g args) w) (A0:Option Addr) (c0:Nat) (l0:List S113) (w:World) (hr0:Kd.C k113 w A0 l0.length l0)
  (hp:∀(W:World) (x:S113),x∈l0→Below w.heap.size w W→Calls Tryd.prog g (#[.agg #[.int .i64 x.f0,.int .i64 x.f1,.int .i64 x.f2.f0,.int .i64 x.f2.f1]] ++ lb) W fun e w'=>e=.returned (.bool (p x))∧Below W.heap.size W w') :
  Calls Tryd.prog 81 #[.slice A0 l0.length c0,.func (.func g) #[] lb] w fun e w'=>e=.returned (.bool (l0.any p))∧Below w.heap.size w w':=by
 have HI:=Za (Zfe.any p g lb eg A0 c0 l0 w hr0 hp)
 clear hr0 hp
 have HE:=Za (Zce p l0)
 go_enter Tryd.func81,Tryd.ntmps81
 go_wp2_with (go_at_call 112;refine HI.out.mono ?_;rintro e w' ⟨rfl,hb⟩)
 go_ret
 exact⟨by rw[← HE.out];rfl,hb⟩
def ZbD.f (a0_0:Int) (a0_1:Int):Option (Bool):=if a0_0≥(-1000000) then(if a0_0≤a0_1 then(if a0_1≤1000000 then(if a0_0=1000000 then(some false) else(some (a0_1 != (-1000000)))) else(some false)) else(some false)) else(some false)
theorem ZbD.calls (a0_0:Int) (a0_1:Int) (r:Bool) (w:World) (h:ZbD.f a0_0 a0_1=some r) :
  Calls Tryd.prog 83 #[.agg #[.int .i64 a0_0,.int .i64 a0_1]] w fun e w'=>e=.returned (.bool r)∧Below w.heap.size w w':=by
 have hu111:=Tryd.underlying111
 have HB:=Za (Below.refl w.heap.size w)
 have H:(if a0_0≥(-1000000) then(if a0_0≤a0_1 then(if a0_1≤1000000 then(if a0_0=1000000 then(some false) else(some (a0_1 != (-1000000)))) else(some false)) else(some false)) else(some false))=some r:=h
 clear h
 by_cases c2:a0_0≥(-1000000)
 ·rw[if_pos c2] at H
  have c2b0:decide ((-1000000)≤a0_0)=true:=Ze c2
  clear c2
  by_cases c3:a0_0≤a0_1
  ·rw[if_pos c3] at H
   have c3b0:decide (a0_0≤a0_1)=true:=Ze c3
   clear c3
   by_cases c4:a0_1≤1000000
   ·rw[if_pos c4] at H
    have c4b0:decide (a0_1≤1000000)=true:=Ze c4
    clear c4
    by_cases c5:a0_0=1000000
    ·rw[if_pos c5] at H
     have c5b0:(a0_0 == 1000000)=true:=beq_iff_eq.mpr c5
     have c5b1:(a0_0 != 1000000)=false:=bne_eq_false_iff_eq.mpr c5
     clear c5
     obtain rfl:=Zg H
     go_enter Tryd.func83,Tryd.ntmps83
     go_wp2_with (first|((with_reducible refine ZK (N:=1) rfl ?_);refine ZN ?hg (N:=1) ?hd (cs:=#[.int .i64 a0_0,.int .i64 a0_1]) (t:=111) ?hr ?_;(case hd=>rfl);(case hg=>rfl);(case hr=>first|(go_simp;done)|(go_simp;rfl));intro gb1 hg w6 hbox hb;have BK1:=Za (hbox);have GW1:=Za ((by rw[hg];exact(ZA (by repeat(first|(with_reducible first|exact HB.out|apply Zn|apply Zm|apply Zp)|exact HB.out))):w.heap.size≤gb1));have GE1:=Za ((by rw[hg];exact(ZA (by repeat(first|(with_reducible first|exact HB.out|apply Zn|apply Zm|apply Zp)|exact HB.out))):w.heap.size≤gb1));replace HB:=Za (Zx (by repeat(first|(with_reducible first|exact HB.out|apply Zn|apply Zm|apply Zp)|exact HB.out)) hb);clear hb hbox hg;have hcz7_0:w6.cell? ⟨gb1,0,none⟩=some (.int .i64 a0_0):=(Zo BK1.out 0).trans rfl;have hcz7_1:w6.cell? ⟨gb1,1,none⟩=some (.int .i64 a0_1):=(Zo BK1.out 1).trans rfl;have hfz7_0:=Zu BK1.out 0;have hfz7_1:=Zu BK1.out 1))
     go_ret
     exact⟨by first|rfl|(simp[ZD,ZC] <;> rfl)|(simp[*,ZD,ZC] <;> rfl),by repeat(first|(with_reducible first|exact HB.out|apply Zn|apply Zm|apply Zp|refine Zq ?_ GE1.out)|exact HB.out)⟩
    ·rw[if_neg c5] at H
     have c5b0:(a0_0 == 1000000)=false:=beq_eq_false_iff_ne.mpr c5
     have c5b1:(a0_0 != 1000000)=true:=bne_iff_ne.mpr c5
     obtain rfl:=Zg H
     go_enter Tryd.func83,Tryd.ntmps83
     go_wp2_with (first|((with_reducible refine ZK (N:=1) rfl ?_);refine ZN ?hg (N:=1) ?hd (cs:=#[.int .i64 a0_0,.int .i64 a0_1]) (t:=111) ?hr ?_;(case hd=>rfl);(case hg=>rfl);(case hr=>first|(go_simp;done)|(go_simp;rfl));intro gb1 hg w8 hbox hb;have BK1:=Za (hbox);have GW1:=Za ((by rw[hg];exact(ZA (by repeat(first|(with_reducible first|exact HB.out|apply Zn|apply Zm|apply Zp)|exact HB.out))):w.heap.size≤gb1));have GE1:=Za ((by rw[hg];exact(ZA (by repeat(first|(with_reducible first|exact HB.out|apply Zn|apply Zm|apply Zp)|exact HB.out))):w.heap.size≤gb1));replace HB:=Za (Zx (by repeat(first|(with_reducible first|exact HB.out|apply Zn|apply Zm|apply Zp)|exact HB.out)) hb);clear hb hbox hg;have hcz9_0:w8.cell? ⟨gb1,0,none⟩=some (.int .i64 a0_0):=(Zo BK1.out 0).trans rfl;have hcz9_1:w8.cell? ⟨gb1,1,none⟩=some (.int .i64 a0_1):=(Zo BK1.out 1).trans rfl;have hfz9_0:=Zu BK1.out 0;have hfz9_1:=Zu BK1.out 1))
     go_ret
     exact⟨by first|rfl|(simp[ZD,ZC] <;> rfl)|(simp[*,ZD,ZC] <;> rfl),by repeat(first|(with_reducible first|exact HB.out|apply Zn|apply Zm|apply Zp|refine Zq ?_ GE1.out)|exact HB.out)⟩
   ·rw[if_neg c4] at H
    have c4b0:decide (a0_1≤1000000)=false:=Zf c4
    clear c4
    obtain rfl:=Zg H
    go_enter Tryd.func83,Tryd.ntmps83
    go_wp2_with (first|((with_reducible refine ZK (N:=1) rfl ?_);refine ZN ?hg (N:=1) ?hd (cs:=#[.int .i64 a0_0,.int .i64 a0_1]) (t:=111) ?hr ?_;(case hd=>rfl);(case hg=>rfl);(case hr=>first|(go_simp;done)|(go_simp;rfl));intro gb1 hg w10 hbox hb;have BK1:=Za (hbox);have GW1:=Za ((by rw[hg];exact(ZA (by repeat(first|(with_reducible first|exact HB.out|apply Zn|apply Zm|apply Zp)|exact HB.out))):w.heap.size≤gb1));have GE1:=Za ((by rw[hg];exact(ZA (by repeat(first|(with_reducible first|exact HB.out|apply Zn|apply Zm|apply Zp)|exact HB.out))):w.heap.size≤gb1));replace HB:=Za (Zx (by repeat(first|(with_reducible first|exact HB.out|apply Zn|apply Zm|apply Zp)|exact HB.out)) hb);clear hb hbox hg;have hcz11_0:w10.cell? ⟨gb1,0,none⟩=some (.int .i64 a0_0):=(Zo BK1.out 0).trans rfl;have hcz11_1:w10.cell? ⟨gb1,1,none⟩=some (.int .i64 a0_1):=(Zo BK1.out 1).trans rfl;have hfz11_0:=Zu BK1.out 0;have hfz11_1:=Zu BK1.out 1))
    go_ret
    exact⟨by first|rfl|(simp[ZD,ZC] <;> rfl)|(simp[*,ZD,ZC] <;> rfl),by repeat(first|(with_reducible first|exact HB.out|apply Zn|apply Zm|apply Zp|refine Zq ?_ GE1.out)|exact HB.out)⟩
  ·rw[if_neg c3] at H
   have c3b0:decide (a0_0≤a0_1)=false:=Zf c3
   clear c3
   obtain rfl:=Zg H
   go_enter Tryd.func83,Tryd.ntmps83
   go_wp2_with (first|((with_reducible refine ZK (N:=1) rfl ?_);refine ZN ?hg (N:=1) ?hd (cs:=#[.int .i64 a0_0,.int .i64 a0_1]) (t:=111) ?hr ?_;(case hd=>rfl);(case hg=>rfl);(case hr=>first|(go_simp;done)|(go_simp;rfl));intro gb1 hg w12 hbox hb;have BK1:=Za (hbox);have GW1:=Za ((by rw[hg];exact(ZA (by repeat(first|(with_reducible first|exact HB.out|apply Zn|apply Zm|apply Zp)|exact HB.out))):w.heap.size≤gb1));have GE1:=Za ((by rw[hg];exact(ZA (by repeat(first|(with_reducible first|exact HB.out|apply Zn|apply Zm|apply Zp)|exact HB.out))):w.heap.size≤gb1));replace HB:=Za (Zx (by repeat(first|(with_reducible first|exact HB.out|apply Zn|apply Zm|apply Zp)|exact HB.out)) hb);clear hb hbox hg;have hcz13_0:w12.cell? ⟨gb1,0,none⟩=some (.int .i64 a0_0):=(Zo BK1.out 0).trans rfl;have hcz13_1:w12.cell? ⟨gb1,1,none⟩=some (.int .i64 a0_1):=(Zo BK1.out 1).trans rfl;have hfz13_0:=Zu BK1.out 0;have hfz13_1:=Zu BK1.out 1))
   go_ret
   exact⟨by first|rfl|(simp[ZD,ZC] <;> rfl)|(simp[*,ZD,ZC] <;> rfl),by repeat(first|(with_reducible first|exact HB.out|apply Zn|apply Zm|apply Zp|refine Zq ?_ GE1.out)|exact HB.out)⟩
 ·rw[if_neg c2] at H
  have c2b0:decide ((-1000000)≤a0_0)=false:=Zf c2
  clear c2
  obtain rfl:=Zg H
  go_enter Tryd.func83,Tryd.ntmps83
  go_wp2_with (first|((with_reducible refine ZK (N:=1) rfl ?_);refine ZN ?hg (N:=1) ?hd (cs:=#[.int .i64 a0_0,.int .i64 a0_1]) (t:=111) ?hr ?_;(case hd=>rfl);(case hg=>rfl);(case hr=>first|(go_simp;done)|(go_simp;rfl));intro gb1 hg w14 hbox hb;have BK1:=Za (hbox);have GW1:=Za ((by rw[hg];exact(ZA (by repeat(first|(with_reducible first|exact HB.out|apply Zn|apply Zm|apply Zp)|exact HB.out))):w.heap.size≤gb1));have GE1:=Za ((by rw[hg];exact(ZA (by repeat(first|(with_reducible first|exact HB.out|apply Zn|apply Zm|apply Zp)|exact HB.out))):w.heap.size≤gb1));replace HB:=Za (Zx (by repeat(first|(with_reducible first|exact HB.out|apply Zn|apply Zm|apply Zp)|exact HB.out)) hb);clear hb hbox hg;have hcz15_0:w14.cell? ⟨gb1,0,none⟩=some (.int .i64 a0_0):=(Zo BK1.out 0).trans rfl;have hcz15_1:w14.cell? ⟨gb1,1,none⟩=some (.int .i64 a0_1):=(Zo BK1.out 1).trans rfl;have hfz15_0:=Zu BK1.out 0;have hfz15_1:=Zu BK1.out 1))
  go_ret
  exact⟨by first|rfl|(simp[ZD,ZC] <;> rfl)|(simp[*,ZD,ZC] <;> rfl),by repeat(first|(with_reducible first|exact HB.out|apply Zn|apply Zm|apply Zp|refine Zq ?_ GE1.out)|exact HB.out)⟩
def ivOkB (lo hi:Int):Bool:=decide (-1000000≤lo) && (decide (lo≤hi) && (decide (hi≤1000000) && (!(decide (lo=1000000)) && !(decide (hi=-1000000)))))
theorem ivOk_f (lo hi:Int):ZbD.f lo hi=some (ivOkB lo hi):=by
 unfold ZbD.f ivOkB
 by_cases h1:lo≥-1000000
 ·rw[if_pos h1,Ze (show(-1000000:Int)≤lo from h1),Bool.true_and]
  by_cases h2:lo≤hi
  ·rw[if_pos h2,Ze h2,Bool.true_and]
   by_cases h3:hi≤1000000
   ·rw[if_pos h3,Ze h3,Bool.true_and]
    by_cases h4:lo=1000000
    ·rw[if_pos h4,Ze h4];rfl
    ·rw[if_neg h4,Zf h4]
     congr 1
   ·rw[if_neg h3,Zf h3];rfl
  ·rw[if_neg h2,Zf h2];rfl
 ·rw[if_neg h1,Zf (show ¬(-1000000:Int)≤lo from h1)];rfl
def Zbs (n:Int) (x:S113):Bool:=inN n x.f0 && (inN n x.f1 && ivOkB x.f2.f0 x.f2.f1)
def ZaT (n:Int) (ls:List S113):Bool:=!(decide (n<1)) && (!(decide (8<n)) && (!(decide (40<ls.length)) && !(ls.any fun x=>!Zbs n x)))
def Zau.f (a0_0:Int) (l0_1:List (S113)):Option Bool:=some (ZaT a0_0 l0_1)
theorem Zer.clo (B:Nat) (n:Int) (W:World) (hB:W.cell? ⟨B,0,none⟩=some (.int .i64 n)) (x:S113) :
  Calls Tryd.prog 82 #[.agg #[.int .i64 x.f0,.int .i64 x.f1,.int .i64 x.f2.f0,.int .i64 x.f2.f1],.pointer (some ⟨B,0,none⟩)] W fun e w'=>e=.returned (.bool (!Zbs n x))∧Below W.heap.size W w':=by
 have hlt:B<W.heap.size:=Zc W _ hB
 have hu:=Tryd.underlying113
 have hu2:=Tryd.underlying111
 have hu3:=Tryd.underlying50
 obtain⟨f0,f1,⟨f2,f3⟩⟩:=x
 have HE:=Za (show Zbs n ⟨f0,f1,⟨f2,f3⟩⟩=(inN n f0 && (inN n f1 && ivOkB f2 f3)) from rfl)
 have HI:=Za fun (w:World)=>ZbD.calls f2 f3 _ w (ivOk_f f2 f3)
 cases b1:inN n f0 with
 | false=>
  have HF:=Za (show Zbs n ⟨f0,f1,⟨f2,f3⟩⟩=false by rw[HE.out,b1];rfl)
  clear HE
  go_enter Tryd.func82,Tryd.ntmps82
  go_wp2_with (go_at_call 55;refine(Zcq _ _ _).mono ?_;rintro e w' ⟨rfl,nd,rfl⟩)
  go_ret
  exact⟨by rw[HF.out];rfl,by repeat(first|exact Below.refl _ _|apply Zn|apply Zm|apply Zbc)⟩
 | true=>
 cases b2:inN n f1 with
 | false=>
  have HF:=Za (show Zbs n ⟨f0,f1,⟨f2,f3⟩⟩=false by rw[HE.out,b1,b2];rfl)
  clear HE
  go_enter Tryd.func82,Tryd.ntmps82
  go_wp2_with (go_at_call 55;refine(Zcq _ _ _).mono ?_;rintro e w' ⟨rfl,nd,rfl⟩)
  go_ret
  exact⟨by rw[HF.out];rfl,by repeat(first|exact Below.refl _ _|apply Zn|apply Zm|apply Zbc)⟩
 | true=>
 have HF:=Za (show Zbs n ⟨f0,f1,⟨f2,f3⟩⟩=ivOkB f2 f3 by rw[HE.out,b1,b2];rfl)
 clear HE
 go_enter Tryd.func82,Tryd.ntmps82
 go_wp2_with (first|(go_at_call 55;refine(Zcq _ _ _).mono ?_;rintro e w' ⟨rfl,nd,rfl⟩)|(go_at_call 83;refine(HI.out _).mono ?_;rintro e w' ⟨rfl,hb⟩))
 go_ret
 exact⟨by rw[HF.out];rfl,Zx (by repeat(first|exact Below.refl _ _|apply Zn|apply Zm|apply Zbc)) hb⟩
theorem Zau.calls (a0_0:Int) (A0_1:Option Addr) (c0_1:Nat) (l0_1:List (S113)) (r:Bool) (w:World) (hr0_1:Kd.C k113 w A0_1 l0_1.length l0_1) (hc0_1:l0_1.length≤c0_1) (h:Zau.f a0_0 l0_1=some r) :
  Calls Tryd.prog 54 #[.agg #[.int .i64 a0_0,.slice A0_1 l0_1.length c0_1]] w fun e w'=>e=.returned (.bool r)∧Below w.heap.size w w':=by
 obtain rfl:=Zg h
 have hL:l0_1.length≤9223372036854775807:=hr0_1.2.1
 have HC:=Za fun (W:World) (B:Nat) (hb:Below w.heap.size w W) (hcell:W.cell? ⟨B,0,none⟩=some (.int .i64 a0_0))=>impl_Link_81.any (fun x=>!Zbs a0_0 x) 82 #[.pointer (some ⟨B,0,none⟩)] (enters_of Tryd.func82 (by kernel_rfl) rfl) A0_1 c0_1 l0_1 W (Zb hr0_1 hb)
    (fun W' x _ hb'=>Zer.clo B a0_0 W' (ZE hb' hcell) x)
 have hu:=Tryd.underlying50
 have HB:=Za (Zn (Below.refl w.heap.size w) (.cells #[.int .i64 a0_0,.slice A0_1 l0_1.length c0_1] 50))
 clear hr0_1 h
 cases b1:decide (a0_0<1) with
 | true=>
  have HF:=Za (show ZaT a0_0 l0_1=false by unfold ZaT;rw[b1];rfl)
  go_enter Tryd.func54,Tryd.ntmps54
  go_wp2
  go_ret
  exact⟨by rw[HF.out];rfl,HB.out⟩
 | false=>
 cases b2:decide (8<a0_0) with
 | true=>
  have HF:=Za (show ZaT a0_0 l0_1=false by unfold ZaT;rw[b1,b2];rfl)
  go_enter Tryd.func54,Tryd.ntmps54
  go_wp2
  go_ret
  exact⟨by rw[HF.out];rfl,HB.out⟩
 | false=>
 by_cases q3:40<l0_1.length
 ·have b3:decide (40<l0_1.length)=true:=Ze q3
  have z3:(40:Int)<(l0_1.length:Int):=by omega
  have HF:=Za (show ZaT a0_0 l0_1=false by unfold ZaT;rw[b1,b2,b3];rfl)
  clear b3 q3
  go_enter Tryd.func54,Tryd.ntmps54
  go_wp2
  go_ret
  exact⟨by rw[HF.out];rfl,HB.out⟩
 ·have b3:decide (40<l0_1.length)=false:=Zf q3
  have z3:¬(40:Int)<(l0_1.length:Int):=by omega
  have HF:=Za (show ZaT a0_0 l0_1=!(l0_1.any fun x=>!Zbs a0_0 x) by unfold ZaT;rw[b1,b2,b3];rfl)
  clear b3 q3
  generalize l0_1.any (fun x=>!Zbs a0_0 x)=q at HC HF
  go_enter Tryd.func54,Tryd.ntmps54
  go_wp2_with fail
  refine(HC.out _ _ HB.out (by go_simp)).mono ?_
  rintro e w' ⟨rfl,hb⟩
  go_wp2
  go_ret
  exact⟨by rw[HF.out];rfl,HB.out.trans (hb.mono HB.out.size)⟩
def ZaI.f (k:Nat) (l0_0:List (S54)) (l0_1:List (S81)) (a0_2:Int) (l1_0:List Int) (l1_1:List Int):Option (Int×List S113×Bool):=(ZP.f k l0_0 l0_1 a0_2 l1_0 l1_1).bind fun t=>(if t=true then((Zv.f k l0_0 l0_1 a0_2 l1_0 l1_1).bind fun b=>((Zau.f b.1 b.2.1).bind fun t=>(if t=true then(some (b.1,b.2.1,true)) else(some (0,([]:List S113),false))))) else(some (0,([]:List S113),false)))
theorem ZaI.calls (k:Nat) (A0_0:Option Addr) (c0_0:Nat) (l0_0:List (S54)) (A0_1:Option Addr) (c0_1:Nat) (l0_1:List (S81)) (a0_2:Int) (A1_0:Option Addr) (c1_0:Nat) (l1_0:List Int) (A1_1:Option Addr) (c1_1:Nat) (l1_1:List Int) (r1:Int) (r2:List S113) (r3:Bool) (w:World) (hr0_0:Kd.C k54 w A0_0 l0_0.length l0_0) (hc0_0:l0_0.length≤c0_0) (hr0_1:Kd.C k81 w A0_1 l0_1.length l0_1) (hc0_1:l0_1.length≤c0_1) (hr1_0:Kd.C (Kd.int .i64) w A1_0 l1_0.length l1_0) (hc1_0:l1_0.length≤c1_0) (hr1_1:Kd.C (Kd.int .i64) w A1_1 l1_1.length l1_1) (hc1_1:l1_1.length≤c1_1) (ht:TW w) (h:ZaI.f k l0_0 l0_1 a0_2 l1_0 l1_1=some (r1,r2,r3)) :
  Calls Tryd.prog 21 #[.agg #[.slice A0_0 l0_0.length c0_0,.slice A0_1 l0_1.length c0_1,.int .i64 a0_2],.agg #[.slice A1_0 l1_0.length c1_0,.slice A1_1 l1_1.length c1_1]] w fun e w'=>∃v1_:Value,e=.returned (.tuple #[.agg #[.int .i64 r1,v1_],.bool r3])∧Kd.R k113 113 w' w.heap.size (fun _=>True) v1_ r2∧Below w.heap.size w w':=by
 unfold ZaI.f at h
 obtain⟨b,hb_,h⟩:=Option.bind_eq_some_iff.1 h
 have HCO:=Za fun (W:World) (hb:Below w.heap.size w W)=>ZP.calls k A0_0 c0_0 l0_0 A0_1 c0_1 l0_1 a0_2 A1_0 c1_0 l1_0 A1_1 c1_1 l1_1 b W (Zb hr0_0 hb) hc0_0 (Zb hr0_1 hb) hc0_1 (Zb hr1_0 hb) hc1_0 (Zb hr1_1 hb) hc1_1 hb_
 have HP:=Za fun (W:World) (q1:Int) (q2:List S113) (q3:List ByteArray) (hb:Below w.heap.size w W) (hP:Zv.f k l0_0 l0_1 a0_2 l1_0 l1_1=some (q1,q2,q3))=>Zv.calls k A0_0 c0_0 l0_0 A0_1 c0_1 l0_1 a0_2 A1_0 c1_0 l1_0 A1_1 c1_1 l1_1 q1 q2 q3 W (Zb hr0_0 hb) hc0_0 (Zb hr0_1 hb) hc0_1 (Zb hr1_0 hb) hc1_0 (Zb hr1_1 hb) hc1_1 (TW.below ht hb) hP
 have HB3:=Za (show Below w.heap.size w (((w.alloc (.cells #[.slice A0_0 l0_0.length c0_0,.slice A0_1 l0_1.length c0_1,.int .i64 a0_2] 39)).alloc (.cells #[.slice A1_0 l1_0.length c1_0,.slice A1_1 l1_1.length c1_1] 44)).alloc (.cells #[.int .i64 0,.slice none 0 0] 50)) from Zn (Zn (Zn (Below.refl w.heap.size w) _) _) _)
 have K:=Za (show(((w.alloc (.cells #[.slice A0_0 l0_0.length c0_0,.slice A0_1 l0_1.length c0_1,.int .i64 a0_2] 39)).alloc (.cells #[.slice A1_0 l1_0.length c1_0,.slice A1_1 l1_1.length c1_1] 44)).alloc (.cells #[.int .i64 0,.slice none 0 0] 50)).cell? ⟨w.heap.size,0,none⟩=some (.slice A0_0 l0_0.length c0_0)∧(((w.alloc (.cells #[.slice A0_0 l0_0.length c0_0,.slice A0_1 l0_1.length c0_1,.int .i64 a0_2] 39)).alloc (.cells #[.slice A1_0 l1_0.length c1_0,.slice A1_1 l1_1.length c1_1] 44)).alloc (.cells #[.int .i64 0,.slice none 0 0] 50)).cell? ⟨w.heap.size,1,none⟩=some (.slice A0_1 l0_1.length c0_1)∧(((w.alloc (.cells #[.slice A0_0 l0_0.length c0_0,.slice A0_1 l0_1.length c0_1,.int .i64 a0_2] 39)).alloc (.cells #[.slice A1_0 l1_0.length c1_0,.slice A1_1 l1_1.length c1_1] 44)).alloc (.cells #[.int .i64 0,.slice none 0 0] 50)).cell? ⟨w.heap.size,2,none⟩=some (.int .i64 a0_2)∧(((w.alloc (.cells #[.slice A0_0 l0_0.length c0_0,.slice A0_1 l0_1.length c0_1,.int .i64 a0_2] 39)).alloc (.cells #[.slice A1_0 l1_0.length c1_0,.slice A1_1 l1_1.length c1_1] 44)).alloc (.cells #[.int .i64 0,.slice none 0 0] 50)).cell? ⟨w.heap.size+1,0,none⟩=some (.slice A1_0 l1_0.length c1_0)∧(((w.alloc (.cells #[.slice A0_0 l0_0.length c0_0,.slice A0_1 l0_1.length c0_1,.int .i64 a0_2] 39)).alloc (.cells #[.slice A1_0 l1_0.length c1_0,.slice A1_1 l1_1.length c1_1] 44)).alloc (.cells #[.int .i64 0,.slice none 0 0] 50)).cell? ⟨w.heap.size+1,1,none⟩=some (.slice A1_1 l1_1.length c1_1) from⟨by go_simp,by go_simp,by go_simp,by go_simp,by go_simp⟩)
 have B0:=Za (show(((w.alloc (.cells #[.slice A0_0 l0_0.length c0_0,.slice A0_1 l0_1.length c0_1,.int .i64 a0_2] 39)).alloc (.cells #[.slice A1_0 l1_0.length c1_0,.slice A1_1 l1_1.length c1_1] 44)).alloc (.cells #[.int .i64 0,.slice none 0 0] 50)).heap[w.heap.size+2]? = some (Obj.cells #[.int .i64 0,.slice none 0 0] 50 (0,0)) by
  have h_:=Zcr ((w.alloc (.cells #[.slice A0_0 l0_0.length c0_0,.slice A0_1 l0_1.length c0_1,.int .i64 a0_2] 39)).alloc (.cells #[.slice A1_0 l1_0.length c1_0,.slice A1_1 l1_1.length c1_1] 44)) (.cells #[.int .i64 0,.slice none 0 0] 50)
  simpa using h_)
 have HN:=Za (Nat.le_add_right w.heap.size 2)
 have hu:=Tryd.underlying39
 have hu2:=Tryd.underlying44
 have hu3:=Tryd.underlying50
 clear hr0_0 hc0_0 hr0_1 hc0_1 hr1_0 hc1_0 hr1_1 hc1_1 hb_ ht
 cases b with
 | false=>
  obtain⟨e1,e2,e3⟩:(0:Int)=r1∧[]=r2∧false=r3:=by
   have h_:=Zg ((if_neg (by simp)).symm.trans h)
   exact⟨congrArg Prod.fst h_,congrArg (fun z=>z.2.1) h_,congrArg (fun z=>z.2.2) h_⟩
  subst e1;subst e2;subst e3;clear h HP
  go_enter Tryd.func21,Tryd.ntmps21
  go_wp2_with (go_at_call 19;refine(HCO.out _ HB3.out).mono ?_;rintro e w4 ⟨rfl,hb⟩;have k0:=ZE hb K.out.1;have k1:=ZE hb K.out.2.1;have k2:=ZE hb K.out.2.2.1;have m0:=ZE hb K.out.2.2.2.1;have m1:=ZE hb K.out.2.2.2.2;have B4:=Za (Zw B0.out hb);have z0:w4.cell? ⟨w.heap.size+2,0,none⟩=some (.int .i64 0):=(Zo B4.out 0).trans rfl;have z1:w4.cell? ⟨w.heap.size+2,1,none⟩=some (.slice none 0 0):=(Zo B4.out 1).trans rfl;have fz0:=Zu B4.out 0;have fz1:=Zu B4.out 1;have HB4:=Za (HB3.out.trans (hb.mono HB3.out.size));clear hb)
  refine bodyPost_ret (ZbB rfl _ _ (w.heap.size+2) 50 #[.int .i64 0,.slice none 0 0] (0,0) _ rfl (ZO (cs:=#[.int .i64 0,.slice none 0 0]) (ZO (cs:=#[.int .i64 0,.slice none 0 0]) B4.out 0 _ rfl) 1 _ rfl) Tryd.underlying50 rfl (by kernel_rfl)) rfl ?_
  exact⟨_,rfl,Kd.R_nil _ _ _ _ _,Zq (Zq HB4.out HN.out) HN.out⟩
 | true=>
  replace h:=(if_pos rfl).symm.trans h
  obtain⟨⟨q1,q2,q3⟩,hP,h⟩:=Option.bind_eq_some_iff.1 h
  dsimp only at h
  obtain⟨c,hC,h⟩:=Option.bind_eq_some_iff.1 h
  have HPJ:=Za fun (W:World) (hb:Below w.heap.size w W)=>HP.out W q1 q2 q3 hb hP
  have HS:=Za fun (W:World) (A:Option Addr) (c_:Nat) (hc:q2.length≤c_) (hr:Kd.C k113 W A q2.length q2)=>Zau.calls q1 A c_ q2 c W hr hc hC
  clear hP hC HP
  cases c with
  | false=>
   obtain⟨e1,e2,e3⟩:(0:Int)=r1∧[]=r2∧false=r3:=by
    have h_:=Zg ((if_neg (by simp)).symm.trans h)
    exact⟨congrArg Prod.fst h_,congrArg (fun z=>z.2.1) h_,congrArg (fun z=>z.2.2) h_⟩
   subst e1;subst e2;subst e3;clear h
   go_enter Tryd.func21,Tryd.ntmps21
   go_wp2_with (first|(go_at_call 19;refine(HCO.out _ HB3.out).mono ?_;rintro e w4 ⟨rfl,hb⟩;have k0:=ZE hb K.out.1;have k1:=ZE hb K.out.2.1;have k2:=ZE hb K.out.2.2.1;have m0:=ZE hb K.out.2.2.2.1;have m1:=ZE hb K.out.2.2.2.2;have B4:=Za (Zw B0.out hb);have z0:w4.cell? ⟨w.heap.size+2,0,none⟩=some (.int .i64 0):=(Zo B4.out 0).trans rfl;have z1:w4.cell? ⟨w.heap.size+2,1,none⟩=some (.slice none 0 0):=(Zo B4.out 1).trans rfl;have fz0:=Zu B4.out 0;have fz1:=Zu B4.out 1;have HB4:=Za (HB3.out.trans (hb.mono HB3.out.size));clear hb)|(go_at_call 53;refine(HPJ.out _ HB4.out).mono ?_;rintro e w5 ⟨v1,v2,rfl,ho,ho2,hb⟩;obtain⟨A5,c5,e5⟩:=Kd.R_slice ho;subst e5;obtain⟨A6,c6,e6⟩:=Kd.R_slice ho2;subst e6;have HO:=Za (Kd.R_lower ho HB4.out.size);have B5:=Za (Zw B4.out hb);have HB5:=Za (HB4.out.trans (hb.mono HB4.out.size));clear ho ho2 hb k0 k1 k2 m0 m1 z0 z1 fz0 fz1)|(go_at_call 54;refine(HS.out _ A5 c5 (Kd.R_reads' HO.out).2.1 (Zb (Kd.R_reads' HO.out).2.2 (Zn (Below.refl _ _) _))).mono ?_;rintro e w6 ⟨rfl,hb⟩;have B6:=Za (Zw (Zr B5.out _) hb);have B7:=Za (Zw (Zcr w5 (.cells #[.int .i64 q1,.slice A5 q2.length c5] 50)) hb);have HO6:=Za (Kd.R_below (Kd.R_alloc HO.out _) hb);have HB6:=Za (Zx (Zn HB5.out _) hb);have y0:w6.cell? ⟨w5.heap.size,0,none⟩=some (.int .i64 q1):=(Zo B7.out 0).trans rfl;have y1:w6.cell? ⟨w5.heap.size,1,none⟩=some (.slice A5 q2.length c5):=(Zo B7.out 1).trans rfl;have z0:w6.cell? ⟨w.heap.size+2,0,none⟩=some (.int .i64 0):=(Zo B6.out 0).trans rfl;have z1:w6.cell? ⟨w.heap.size+2,1,none⟩=some (.slice none 0 0):=(Zo B6.out 1).trans rfl;have fz0:=Zu B6.out 0;have fz1:=Zu B6.out 1;clear hb))
   refine bodyPost_ret (ZbB rfl _ _ (w.heap.size+2) 50 #[.int .i64 0,.slice none 0 0] (0,0) _ rfl (ZO (cs:=#[.int .i64 0,.slice none 0 0]) (ZO (cs:=#[.int .i64 0,.slice none 0 0]) B6.out 0 _ rfl) 1 _ rfl) Tryd.underlying50 rfl (by kernel_rfl)) rfl ?_
   exact⟨_,rfl,Kd.R_nil _ _ _ _ _,Zq (Zq HB6.out HN.out) HN.out⟩
  | true=>
   obtain⟨e1,e2,e3⟩:q1=r1∧q2=r2∧true=r3:=by
    have h_:=Zg ((if_pos rfl).symm.trans h)
    exact⟨congrArg Prod.fst h_,congrArg (fun z=>z.2.1) h_,congrArg (fun z=>z.2.2) h_⟩
   subst e1;subst e2;subst e3;clear h
   go_enter Tryd.func21,Tryd.ntmps21
   go_wp2_with (first|(go_at_call 19;refine(HCO.out _ HB3.out).mono ?_;rintro e w4 ⟨rfl,hb⟩;have k0:=ZE hb K.out.1;have k1:=ZE hb K.out.2.1;have k2:=ZE hb K.out.2.2.1;have m0:=ZE hb K.out.2.2.2.1;have m1:=ZE hb K.out.2.2.2.2;have B4:=Za (Zw B0.out hb);have z0:w4.cell? ⟨w.heap.size+2,0,none⟩=some (.int .i64 0):=(Zo B4.out 0).trans rfl;have z1:w4.cell? ⟨w.heap.size+2,1,none⟩=some (.slice none 0 0):=(Zo B4.out 1).trans rfl;have fz0:=Zu B4.out 0;have fz1:=Zu B4.out 1;have HB4:=Za (HB3.out.trans (hb.mono HB3.out.size));clear hb)|(go_at_call 53;refine(HPJ.out _ HB4.out).mono ?_;rintro e w5 ⟨v1,v2,rfl,ho,ho2,hb⟩;obtain⟨A5,c5,e5⟩:=Kd.R_slice ho;subst e5;obtain⟨A6,c6,e6⟩:=Kd.R_slice ho2;subst e6;have HO:=Za (Kd.R_lower ho HB4.out.size);have B5:=Za (Zw B4.out hb);have HB5:=Za (HB4.out.trans (hb.mono HB4.out.size));clear ho ho2 hb k0 k1 k2 m0 m1 z0 z1 fz0 fz1)|(go_at_call 54;refine(HS.out _ A5 c5 (Kd.R_reads' HO.out).2.1 (Zb (Kd.R_reads' HO.out).2.2 (Zn (Below.refl _ _) _))).mono ?_;rintro e w6 ⟨rfl,hb⟩;have B6:=Za (Zw (Zr B5.out _) hb);have B7:=Za (Zw (Zcr w5 (.cells #[.int .i64 q1,.slice A5 q2.length c5] 50)) hb);have HO6:=Za (Kd.R_below (Kd.R_alloc HO.out _) hb);have HB6:=Za (Zx (Zn HB5.out _) hb);have y0:w6.cell? ⟨w5.heap.size,0,none⟩=some (.int .i64 q1):=(Zo B7.out 0).trans rfl;have y1:w6.cell? ⟨w5.heap.size,1,none⟩=some (.slice A5 q2.length c5):=(Zo B7.out 1).trans rfl;have z0:w6.cell? ⟨w.heap.size+2,0,none⟩=some (.int .i64 0):=(Zo B6.out 0).trans rfl;have z1:w6.cell? ⟨w.heap.size+2,1,none⟩=some (.slice none 0 0):=(Zo B6.out 1).trans rfl;have fz0:=Zu B6.out 0;have fz1:=Zu B6.out 1;clear hb))
   refine bodyPost_ret (ZbB rfl _ _ (w.heap.size+2) 50 #[.int .i64 q1,.slice A5 q2.length c5] (0,0) _ rfl (ZO (cs:=#[.int .i64 q1,.slice none 0 0]) (ZO (cs:=#[.int .i64 0,.slice none 0 0]) B6.out 0 _ rfl) 1 _ rfl) Tryd.underlying50 rfl (by kernel_rfl)) rfl ?_
   exact⟨_,rfl,Kd.R_mono (Kd.R_far (p:=⟨w.heap.size+2,1,none⟩) (Kd.R_far (p:=⟨w.heap.size+2,0,none⟩) (Kd.R_types HO6.out B6.out (by decide)) (fun _ hk=>hk.2) _) (fun _ hk=>hk.2) _) (fun _ _=>trivial),Zq (Zq HB6.out HN.out) HN.out⟩
def Zbm.f (k:Nat) (l0_0:List (S54)) (l0_1:List (S81)) (a0_2:Int) (l1_0:List Int) (l1_1:List Int) (a2:Int):Option (Bool):=(ZP.f k l0_0 l0_1 a0_2 l1_0 l1_1).bind fun t3=>(if t3=true then((ZaE.f (l0_0.length:Int) a2).bind fun t4=>(if t4=true then((Z7.f k l0_0 l0_1 a0_2 l1_0 l1_1 a2).bind fun t5=>(some t5)) else(some false))) else(some false))
theorem Zbm.calls (k:Nat) (A0_0:Option Addr) (c0_0:Nat) (l0_0:List (S54)) (A0_1:Option Addr) (c0_1:Nat) (l0_1:List (S81)) (a0_2:Int) (A1_0:Option Addr) (c1_0:Nat) (l1_0:List Int) (A1_1:Option Addr) (c1_1:Nat) (l1_1:List Int) (a2:Int) (r:Bool) (w:World) (hr0_0:Kd.C k54 w A0_0 l0_0.length l0_0) (hc0_0:l0_0.length≤c0_0) (hr0_1:Kd.C k81 w A0_1 l0_1.length l0_1) (hc0_1:l0_1.length≤c0_1) (hr1_0:Kd.C (Kd.int .i64) w A1_0 l1_0.length l1_0) (hc1_0:l1_0.length≤c1_0) (hr1_1:Kd.C (Kd.int .i64) w A1_1 l1_1.length l1_1) (hc1_1:l1_1.length≤c1_1) (h:Zbm.f k l0_0 l0_1 a0_2 l1_0 l1_1 a2=some r) :
  Calls Tryd.prog 22 #[.agg #[.slice A0_0 l0_0.length c0_0,.slice A0_1 l0_1.length c0_1,.int .i64 a0_2],.agg #[.slice A1_0 l1_0.length c1_0,.slice A1_1 l1_1.length c1_1],.int .i64 a2] w fun e w'=>e=.returned (.bool r)∧Below w.heap.size w w':=by
 have hu39:=Tryd.underlying39
 have hu44:=Tryd.underlying44
 have HR0_0:=Za hr0_0;have HC0_0:=Za hc0_0;clear hr0_0 hc0_0;have HR0_1:=Za hr0_1;have HC0_1:=Za hc0_1;clear hr0_1 hc0_1;have HR1_0:=Za hr1_0;have HC1_0:=Za hc1_0;clear hr1_0 hc1_0;have HR1_1:=Za hr1_1;have HC1_1:=Za hc1_1;clear hr1_1 hc1_1
 have HB:=Za (Below.refl w.heap.size w)
 have H:((ZP.f k l0_0 l0_1 a0_2 l1_0 l1_1).bind fun t3=>(if t3=true then((ZaE.f (l0_0.length:Int) a2).bind fun t4=>(if t4=true then((Z7.f k l0_0 l0_1 a0_2 l1_0 l1_1 a2).bind fun t5=>(some t5)) else(some false))) else(some false)))=some r:=h
 clear h
 replace H:=Zh H
 obtain⟨t3,A40,H⟩:=H
 replace H:(if t3=true then((ZaE.f (l0_0.length:Int) a2).bind fun t4=>(if t4=true then((Z7.f k l0_0 l0_1 a0_2 l1_0 l1_1 a2).bind fun t5=>(some t5)) else(some false))) else(some false))=some r:=H
 have A4:=Za A40;clear A40
 by_cases c5:t3=true
 ·subst c5
  have H1:((ZaE.f (l0_0.length:Int) a2).bind fun t4=>(if t4=true then((Z7.f k l0_0 l0_1 a0_2 l1_0 l1_1 a2).bind fun t5=>(some t5)) else(some false)))=some r:=by rw[if_pos rfl] at H;exact H
  clear H
  have H:=H1
  clear H1
  replace H:=Zh H
  obtain⟨t4,A60,H⟩:=H
  replace H:(if t4=true then((Z7.f k l0_0 l0_1 a0_2 l1_0 l1_1 a2).bind fun t5=>(some t5)) else(some false))=some r:=H
  have A6:=Za A60;clear A60
  by_cases c7:t4=true
  ·subst c7
   have H1:((Z7.f k l0_0 l0_1 a0_2 l1_0 l1_1 a2).bind fun t5=>(some t5))=some r:=by rw[if_pos rfl] at H;exact H
   clear H
   have H:=H1
   clear H1
   replace H:=Zh H
   obtain⟨t5,A80,H⟩:=H
   replace H:(some t5)=some r:=H
   have A8:=Za A80;clear A80
   obtain rfl:=Zg H
   go_enter Tryd.func22,Tryd.ntmps22
   go_wp2_with (first|((with_reducible refine ZK (N:=3) rfl ?_);(try(refine Za6 (by rfl) ?_;dsimp only));refine ZN ?hg (N:=3) ?hd (cs:=#[.slice A0_0 l0_0.length c0_0,.slice A0_1 l0_1.length c0_1,.int .i64 a0_2]) (t:=39) ?hr ?_;(case hd=>rfl);(case hg=>rfl);(case hr=>first|(go_simp;done)|(go_simp;rfl));intro gb1 hg w9 hbox hb;have BK1:=Za (hbox);have GW1:=Za ((by rw[hg];exact(ZA (by repeat(first|(with_reducible first|exact HB.out|apply Zn|apply Zm|apply Zp)|exact HB.out))):w.heap.size≤gb1));have GE1:=Za ((by rw[hg];exact(ZA (by repeat(first|(with_reducible first|exact HB.out|apply Zn|apply Zm|apply Zp)|exact HB.out))):w.heap.size≤gb1));replace HB:=Za (Zx (by repeat(first|(with_reducible first|exact HB.out|apply Zn|apply Zm|apply Zp)|exact HB.out)) hb);clear hb hbox hg)|((with_reducible refine ZK (N:=4) rfl ?_);(try(refine Za6 (by rfl) ?_;dsimp only));refine ZN ?hg (N:=4) ?hd (cs:=#[.slice A1_0 l1_0.length c1_0,.slice A1_1 l1_1.length c1_1]) (t:=44) ?hr ?_;(case hd=>rfl);(case hg=>rfl);(case hr=>first|(go_simp;done)|(go_simp;rfl));intro gb2 hg w10 hbox hb;have BK2:=Za (hbox);have GW2:=Za ((by rw[hg];exact(ZA (by repeat(first|(with_reducible first|exact HB.out|apply Zn|apply Zm|apply Zp|refine Zq ?_ GE1.out)|exact HB.out))):w.heap.size≤gb2));have GE2:=Za ((by rw[hg];exact(ZA (by repeat(first|(with_reducible first|exact HB.out|apply Zn|apply Zm|apply Zp|refine Zq ?_ GE1.out)|exact HB.out))):w.heap.size≤gb2));have NB1_2:=Za ((by rw[hg];exact Nat.ne_of_lt (ZR (g:=gb1) (o:=.cells #[.slice A0_0 l0_0.length c0_0,.slice A0_1 l0_1.length c0_1,.int .i64 a0_2] 39 (0,0)) (by(with_reducible repeat(first|refine Zs ?_ _|refine Zt ?_|refine Zr ?_ _));exact BK1.out)):gb1≠gb2));have NB2_1:=Za ((by rw[hg];exact Nat.ne_of_gt (ZR (g:=gb1) (o:=.cells #[.slice A0_0 l0_0.length c0_0,.slice A0_1 l0_1.length c0_1,.int .i64 a0_2] 39 (0,0)) (by(with_reducible repeat(first|refine Zs ?_ _|refine Zt ?_|refine Zr ?_ _));exact BK1.out)):gb2≠gb1));replace BK1:=Za (Zw (g:=gb1) (o:=.cells #[.slice A0_0 l0_0.length c0_0,.slice A0_1 l0_1.length c0_1,.int .i64 a0_2] 39 (0,0)) (by(with_reducible repeat(first|refine Zs ?_ _|refine Zt ?_|refine Zr ?_ _));exact BK1.out) hb);replace HB:=Za (Zx (by repeat(first|(with_reducible first|exact HB.out|apply Zn|apply Zm|apply Zp|refine Zq ?_ GE1.out)|exact HB.out)) hb);clear hb hbox hg;have hnb11:=NB1_2.out;have hnc11:=NB2_1.out;have hcz12_0:w10.cell? ⟨gb1,0,none⟩=some (.slice A0_0 l0_0.length c0_0):=(Zo BK1.out 0).trans rfl;have hcz12_1:w10.cell? ⟨gb1,1,none⟩=some (.slice A0_1 l0_1.length c0_1):=(Zo BK1.out 1).trans rfl;have hcz12_2:w10.cell? ⟨gb1,2,none⟩=some (.int .i64 a0_2):=(Zo BK1.out 2).trans rfl;have hfz12_0:=Zu BK1.out 0;have hfz12_1:=Zu BK1.out 1;have hfz12_2:=Zu BK1.out 2;have hcz13_0:w10.cell? ⟨gb2,0,none⟩=some (.slice A1_0 l1_0.length c1_0):=(Zo BK2.out 0).trans rfl;have hcz13_1:w10.cell? ⟨gb2,1,none⟩=some (.slice A1_1 l1_1.length c1_1):=(Zo BK2.out 1).trans rfl;have hfz13_0:=Zu BK2.out 0;have hfz13_1:=Zu BK2.out 1)|((with_reducible refine ZU (f:=19) rfl ?_);refine Zaj (some 9) rfl rfl Tryd.func19 (by kernel_rfl) rfl #[.agg #[.slice A0_0 l0_0.length c0_0,.slice A0_1 l0_1.length c0_1,.int .i64 a0_2],.agg #[.slice A1_0 l1_0.length c1_0,.slice A1_1 l1_1.length c1_1]] rfl (by(try simp only[List.map_toArray,List.map_cons,List.map_nil]);first|done|rfl|(simp only[Zk,Zj];rfl)) ?_;(with_reducible refine(ZP.calls k _ _ l0_0 _ _ l0_1 a0_2 _ _ l1_0 _ _ l1_1 true _ ?side1 ?side2 ?side3 ?side4 ?side5 ?side6 ?side7 ?side8 A4.out).mono ?_);(case side1=>repeat(first|exact(Zb HR0_0.out HB.out)|(with_reducible refine Kd.C_alloc ?_ _)|(with_reducible refine Kd.C_drewN ?_ _)|(with_reducible refine Kd.C_drew ?_)));(case side2=>exact HC0_0.out);(case side3=>repeat(first|exact(Zb HR0_1.out HB.out)|(with_reducible refine Kd.C_alloc ?_ _)|(with_reducible refine Kd.C_drewN ?_ _)|(with_reducible refine Kd.C_drew ?_)));(case side4=>exact HC0_1.out);(case side5=>repeat(first|exact(Zb HR1_0.out HB.out)|(with_reducible refine Kd.C_alloc ?_ _)|(with_reducible refine Kd.C_drewN ?_ _)|(with_reducible refine Kd.C_drew ?_)));(case side6=>exact HC1_0.out);(case side7=>repeat(first|exact(Zb HR1_1.out HB.out)|(with_reducible refine Kd.C_alloc ?_ _)|(with_reducible refine Kd.C_drewN ?_ _)|(with_reducible refine Kd.C_drew ?_)));(case side8=>exact HC1_1.out);rintro e w14 ⟨rfl,hb⟩;refine⟨_,rfl,?_⟩;replace BK1:=Za (Zw (g:=gb1) (o:=.cells #[.slice A0_0 l0_0.length c0_0,.slice A0_1 l0_1.length c0_1,.int .i64 a0_2] 39 (0,0)) (by(with_reducible repeat(first|refine Zs ?_ _|refine Zt ?_|refine Zr ?_ _));exact BK1.out) hb);replace BK2:=Za (Zw (g:=gb2) (o:=.cells #[.slice A1_0 l1_0.length c1_0,.slice A1_1 l1_1.length c1_1] 44 (0,0)) (by(with_reducible repeat(first|refine Zs ?_ _|refine Zt ?_|refine Zr ?_ _));exact BK2.out) hb);replace HB:=Za (Zx (by repeat(first|(with_reducible first|exact HB.out|apply Zn|apply Zm|apply Zp|refine Zq ?_ GE1.out|refine Zq ?_ GE2.out)|exact HB.out)) hb);(try clear hb);(try clear hb2);(try clear hk);(try clear hi);have hcz15_0:w14.cell? ⟨gb1,0,none⟩=some (.slice A0_0 l0_0.length c0_0):=(Zo BK1.out 0).trans rfl;have hcz15_1:w14.cell? ⟨gb1,1,none⟩=some (.slice A0_1 l0_1.length c0_1):=(Zo BK1.out 1).trans rfl;have hcz15_2:w14.cell? ⟨gb1,2,none⟩=some (.int .i64 a0_2):=(Zo BK1.out 2).trans rfl;have hfz15_0:=Zu BK1.out 0;have hfz15_1:=Zu BK1.out 1;have hfz15_2:=Zu BK1.out 2)|(go_at_call 55;(with_reducible refine(ZaE.calls (l0_0.length:Int) a2 true _ A6.out).mono ?_);rintro e w' ⟨rfl,⟨nd,rfl⟩⟩;have hcz16_0:w14.cell? ⟨gb2,0,none⟩=some (.slice A1_0 l1_0.length c1_0):=(Zo BK2.out 0).trans rfl;have hcz16_1:w14.cell? ⟨gb2,1,none⟩=some (.slice A1_1 l1_1.length c1_1):=(Zo BK2.out 1).trans rfl;have hfz16_0:=Zu BK2.out 0;have hfz16_1:=Zu BK2.out 1)|(go_at_call 56;(with_reducible refine(Z7.calls k _ _ l0_0 _ _ l0_1 a0_2 _ _ l1_0 _ _ l1_1 a2 t5 _ ?side1 ?side2 ?side3 ?side4 ?side5 ?side6 ?side7 ?side8 A8.out).mono ?_);(case side1=>repeat(first|exact(Zb HR0_0.out (by repeat(first|(with_reducible first|exact HB.out|apply Zn|apply Zm|apply Zp|refine Zq ?_ GE1.out|refine Zq ?_ GE2.out)|exact HB.out)))|(with_reducible refine Kd.C_alloc ?_ _)|(with_reducible refine Kd.C_drewN ?_ _)|(with_reducible refine Kd.C_drew ?_)));(case side2=>exact HC0_0.out);(case side3=>repeat(first|exact(Zb HR0_1.out (by repeat(first|(with_reducible first|exact HB.out|apply Zn|apply Zm|apply Zp|refine Zq ?_ GE1.out|refine Zq ?_ GE2.out)|exact HB.out)))|(with_reducible refine Kd.C_alloc ?_ _)|(with_reducible refine Kd.C_drewN ?_ _)|(with_reducible refine Kd.C_drew ?_)));(case side4=>exact HC0_1.out);(case side5=>repeat(first|exact(Zb HR1_0.out (by repeat(first|(with_reducible first|exact HB.out|apply Zn|apply Zm|apply Zp|refine Zq ?_ GE1.out|refine Zq ?_ GE2.out)|exact HB.out)))|(with_reducible refine Kd.C_alloc ?_ _)|(with_reducible refine Kd.C_drewN ?_ _)|(with_reducible refine Kd.C_drew ?_)));(case side6=>exact HC1_0.out);(case side7=>repeat(first|exact(Zb HR1_1.out (by repeat(first|(with_reducible first|exact HB.out|apply Zn|apply Zm|apply Zp|refine Zq ?_ GE1.out|refine Zq ?_ GE2.out)|exact HB.out)))|(with_reducible refine Kd.C_alloc ?_ _)|(with_reducible refine Kd.C_drewN ?_ _)|(with_reducible refine Kd.C_drew ?_)));(case side8=>exact HC1_1.out);rintro e w17 ⟨rfl,hb⟩;replace BK1:=Za (Zw (g:=gb1) (o:=.cells #[.slice A0_0 l0_0.length c0_0,.slice A0_1 l0_1.length c0_1,.int .i64 a0_2] 39 (0,0)) (by(with_reducible repeat(first|refine Zs ?_ _|refine Zt ?_|refine Zr ?_ _));exact BK1.out) hb);replace BK2:=Za (Zw (g:=gb2) (o:=.cells #[.slice A1_0 l1_0.length c1_0,.slice A1_1 l1_1.length c1_1] 44 (0,0)) (by(with_reducible repeat(first|refine Zs ?_ _|refine Zt ?_|refine Zr ?_ _));exact BK2.out) hb);replace HB:=Za (Zx (by repeat(first|(with_reducible first|exact HB.out|apply Zn|apply Zm|apply Zp|refine Zq ?_ GE1.out|refine Zq ?_ GE2.out)|exact HB.out)) hb);(try clear hb);(try clear hb2);(try clear hk);(try clear hi)))
   go_ret
   exact⟨by first|rfl|(simp[ZD,ZC] <;> rfl)|(simp[*,ZD,ZC] <;> rfl),by repeat(first|(with_reducible first|exact HB.out|apply Zn|apply Zm|apply Zp|refine Zq ?_ GE1.out|refine Zq ?_ GE2.out)|exact HB.out)⟩
  ·replace c7:=Bool.eq_false_iff.mpr c7
   subst c7
   have H1:(some false)=some r:=by rw[if_neg (show ¬(false=true) by decide)] at H;exact H
   clear H
   have H:=H1
   clear H1
   obtain rfl:=Zg H
   go_enter Tryd.func22,Tryd.ntmps22
   go_wp2_with (first|((with_reducible refine ZK (N:=3) rfl ?_);(try(refine Za6 (by rfl) ?_;dsimp only));refine ZN ?hg (N:=3) ?hd (cs:=#[.slice A0_0 l0_0.length c0_0,.slice A0_1 l0_1.length c0_1,.int .i64 a0_2]) (t:=39) ?hr ?_;(case hd=>rfl);(case hg=>rfl);(case hr=>first|(go_simp;done)|(go_simp;rfl));intro gb1 hg w18 hbox hb;have BK1:=Za (hbox);have GW1:=Za ((by rw[hg];exact(ZA (by repeat(first|(with_reducible first|exact HB.out|apply Zn|apply Zm|apply Zp)|exact HB.out))):w.heap.size≤gb1));have GE1:=Za ((by rw[hg];exact(ZA (by repeat(first|(with_reducible first|exact HB.out|apply Zn|apply Zm|apply Zp)|exact HB.out))):w.heap.size≤gb1));replace HB:=Za (Zx (by repeat(first|(with_reducible first|exact HB.out|apply Zn|apply Zm|apply Zp)|exact HB.out)) hb);clear hb hbox hg)|((with_reducible refine ZK (N:=4) rfl ?_);(try(refine Za6 (by rfl) ?_;dsimp only));refine ZN ?hg (N:=4) ?hd (cs:=#[.slice A1_0 l1_0.length c1_0,.slice A1_1 l1_1.length c1_1]) (t:=44) ?hr ?_;(case hd=>rfl);(case hg=>rfl);(case hr=>first|(go_simp;done)|(go_simp;rfl));intro gb2 hg w19 hbox hb;have BK2:=Za (hbox);have GW2:=Za ((by rw[hg];exact(ZA (by repeat(first|(with_reducible first|exact HB.out|apply Zn|apply Zm|apply Zp|refine Zq ?_ GE1.out)|exact HB.out))):w.heap.size≤gb2));have GE2:=Za ((by rw[hg];exact(ZA (by repeat(first|(with_reducible first|exact HB.out|apply Zn|apply Zm|apply Zp|refine Zq ?_ GE1.out)|exact HB.out))):w.heap.size≤gb2));have NB1_2:=Za ((by rw[hg];exact Nat.ne_of_lt (ZR (g:=gb1) (o:=.cells #[.slice A0_0 l0_0.length c0_0,.slice A0_1 l0_1.length c0_1,.int .i64 a0_2] 39 (0,0)) (by(with_reducible repeat(first|refine Zs ?_ _|refine Zt ?_|refine Zr ?_ _));exact BK1.out)):gb1≠gb2));have NB2_1:=Za ((by rw[hg];exact Nat.ne_of_gt (ZR (g:=gb1) (o:=.cells #[.slice A0_0 l0_0.length c0_0,.slice A0_1 l0_1.length c0_1,.int .i64 a0_2] 39 (0,0)) (by(with_reducible repeat(first|refine Zs ?_ _|refine Zt ?_|refine Zr ?_ _));exact BK1.out)):gb2≠gb1));replace BK1:=Za (Zw (g:=gb1) (o:=.cells #[.slice A0_0 l0_0.length c0_0,.slice A0_1 l0_1.length c0_1,.int .i64 a0_2] 39 (0,0)) (by(with_reducible repeat(first|refine Zs ?_ _|refine Zt ?_|refine Zr ?_ _));exact BK1.out) hb);replace HB:=Za (Zx (by repeat(first|(with_reducible first|exact HB.out|apply Zn|apply Zm|apply Zp|refine Zq ?_ GE1.out)|exact HB.out)) hb);clear hb hbox hg;have hnb20:=NB1_2.out;have hnc20:=NB2_1.out;have hcz21_0:w19.cell? ⟨gb1,0,none⟩=some (.slice A0_0 l0_0.length c0_0):=(Zo BK1.out 0).trans rfl;have hcz21_1:w19.cell? ⟨gb1,1,none⟩=some (.slice A0_1 l0_1.length c0_1):=(Zo BK1.out 1).trans rfl;have hcz21_2:w19.cell? ⟨gb1,2,none⟩=some (.int .i64 a0_2):=(Zo BK1.out 2).trans rfl;have hfz21_0:=Zu BK1.out 0;have hfz21_1:=Zu BK1.out 1;have hfz21_2:=Zu BK1.out 2;have hcz22_0:w19.cell? ⟨gb2,0,none⟩=some (.slice A1_0 l1_0.length c1_0):=(Zo BK2.out 0).trans rfl;have hcz22_1:w19.cell? ⟨gb2,1,none⟩=some (.slice A1_1 l1_1.length c1_1):=(Zo BK2.out 1).trans rfl;have hfz22_0:=Zu BK2.out 0;have hfz22_1:=Zu BK2.out 1)|((with_reducible refine ZU (f:=19) rfl ?_);refine Zaj (some 9) rfl rfl Tryd.func19 (by kernel_rfl) rfl #[.agg #[.slice A0_0 l0_0.length c0_0,.slice A0_1 l0_1.length c0_1,.int .i64 a0_2],.agg #[.slice A1_0 l1_0.length c1_0,.slice A1_1 l1_1.length c1_1]] rfl (by(try simp only[List.map_toArray,List.map_cons,List.map_nil]);first|done|rfl|(simp only[Zk,Zj];rfl)) ?_;(with_reducible refine(ZP.calls k _ _ l0_0 _ _ l0_1 a0_2 _ _ l1_0 _ _ l1_1 true _ ?side1 ?side2 ?side3 ?side4 ?side5 ?side6 ?side7 ?side8 A4.out).mono ?_);(case side1=>repeat(first|exact(Zb HR0_0.out HB.out)|(with_reducible refine Kd.C_alloc ?_ _)|(with_reducible refine Kd.C_drewN ?_ _)|(with_reducible refine Kd.C_drew ?_)));(case side2=>exact HC0_0.out);(case side3=>repeat(first|exact(Zb HR0_1.out HB.out)|(with_reducible refine Kd.C_alloc ?_ _)|(with_reducible refine Kd.C_drewN ?_ _)|(with_reducible refine Kd.C_drew ?_)));(case side4=>exact HC0_1.out);(case side5=>repeat(first|exact(Zb HR1_0.out HB.out)|(with_reducible refine Kd.C_alloc ?_ _)|(with_reducible refine Kd.C_drewN ?_ _)|(with_reducible refine Kd.C_drew ?_)));(case side6=>exact HC1_0.out);(case side7=>repeat(first|exact(Zb HR1_1.out HB.out)|(with_reducible refine Kd.C_alloc ?_ _)|(with_reducible refine Kd.C_drewN ?_ _)|(with_reducible refine Kd.C_drew ?_)));(case side8=>exact HC1_1.out);rintro e w23 ⟨rfl,hb⟩;refine⟨_,rfl,?_⟩;replace BK1:=Za (Zw (g:=gb1) (o:=.cells #[.slice A0_0 l0_0.length c0_0,.slice A0_1 l0_1.length c0_1,.int .i64 a0_2] 39 (0,0)) (by(with_reducible repeat(first|refine Zs ?_ _|refine Zt ?_|refine Zr ?_ _));exact BK1.out) hb);replace BK2:=Za (Zw (g:=gb2) (o:=.cells #[.slice A1_0 l1_0.length c1_0,.slice A1_1 l1_1.length c1_1] 44 (0,0)) (by(with_reducible repeat(first|refine Zs ?_ _|refine Zt ?_|refine Zr ?_ _));exact BK2.out) hb);replace HB:=Za (Zx (by repeat(first|(with_reducible first|exact HB.out|apply Zn|apply Zm|apply Zp|refine Zq ?_ GE1.out|refine Zq ?_ GE2.out)|exact HB.out)) hb);(try clear hb);(try clear hb2);(try clear hk);(try clear hi);have hcz24_0:w23.cell? ⟨gb1,0,none⟩=some (.slice A0_0 l0_0.length c0_0):=(Zo BK1.out 0).trans rfl;have hcz24_1:w23.cell? ⟨gb1,1,none⟩=some (.slice A0_1 l0_1.length c0_1):=(Zo BK1.out 1).trans rfl;have hcz24_2:w23.cell? ⟨gb1,2,none⟩=some (.int .i64 a0_2):=(Zo BK1.out 2).trans rfl;have hfz24_0:=Zu BK1.out 0;have hfz24_1:=Zu BK1.out 1;have hfz24_2:=Zu BK1.out 2)|(go_at_call 55;(with_reducible refine(ZaE.calls (l0_0.length:Int) a2 false _ A6.out).mono ?_);rintro e w' ⟨rfl,⟨nd,rfl⟩⟩))
   go_ret
   exact⟨by first|rfl|(simp[ZD,ZC] <;> rfl)|(simp[*,ZD,ZC] <;> rfl),by repeat(first|(with_reducible first|exact HB.out|apply Zn|apply Zm|apply Zp|refine Zq ?_ GE1.out|refine Zq ?_ GE2.out)|exact HB.out)⟩
 ·replace c5:=Bool.eq_false_iff.mpr c5
  subst c5
  have H1:(some false)=some r:=by rw[if_neg (show ¬(false=true) by decide)] at H;exact H
  clear H
  have H:=H1
  clear H1
  obtain rfl:=Zg H
  go_enter Tryd.func22,Tryd.ntmps22
  go_wp2_with (first|((with_reducible refine ZK (N:=3) rfl ?_);(try(refine Za6 (by rfl) ?_;dsimp only));refine ZN ?hg (N:=3) ?hd (cs:=#[.slice A0_0 l0_0.length c0_0,.slice A0_1 l0_1.length c0_1,.int .i64 a0_2]) (t:=39) ?hr ?_;(case hd=>rfl);(case hg=>rfl);(case hr=>first|(go_simp;done)|(go_simp;rfl));intro gb1 hg w25 hbox hb;have BK1:=Za (hbox);have GW1:=Za ((by rw[hg];exact(ZA (by repeat(first|(with_reducible first|exact HB.out|apply Zn|apply Zm|apply Zp)|exact HB.out))):w.heap.size≤gb1));have GE1:=Za ((by rw[hg];exact(ZA (by repeat(first|(with_reducible first|exact HB.out|apply Zn|apply Zm|apply Zp)|exact HB.out))):w.heap.size≤gb1));replace HB:=Za (Zx (by repeat(first|(with_reducible first|exact HB.out|apply Zn|apply Zm|apply Zp)|exact HB.out)) hb);clear hb hbox hg)|((with_reducible refine ZK (N:=4) rfl ?_);(try(refine Za6 (by rfl) ?_;dsimp only));refine ZN ?hg (N:=4) ?hd (cs:=#[.slice A1_0 l1_0.length c1_0,.slice A1_1 l1_1.length c1_1]) (t:=44) ?hr ?_;(case hd=>rfl);(case hg=>rfl);(case hr=>first|(go_simp;done)|(go_simp;rfl));intro gb2 hg w26 hbox hb;have BK2:=Za (hbox);have GW2:=Za ((by rw[hg];exact(ZA (by repeat(first|(with_reducible first|exact HB.out|apply Zn|apply Zm|apply Zp|refine Zq ?_ GE1.out)|exact HB.out))):w.heap.size≤gb2));have GE2:=Za ((by rw[hg];exact(ZA (by repeat(first|(with_reducible first|exact HB.out|apply Zn|apply Zm|apply Zp|refine Zq ?_ GE1.out)|exact HB.out))):w.heap.size≤gb2));have NB1_2:=Za ((by rw[hg];exact Nat.ne_of_lt (ZR (g:=gb1) (o:=.cells #[.slice A0_0 l0_0.length c0_0,.slice A0_1 l0_1.length c0_1,.int .i64 a0_2] 39 (0,0)) (by(with_reducible repeat(first|refine Zs ?_ _|refine Zt ?_|refine Zr ?_ _));exact BK1.out)):gb1≠gb2));have NB2_1:=Za ((by rw[hg];exact Nat.ne_of_gt (ZR (g:=gb1) (o:=.cells #[.slice A0_0 l0_0.length c0_0,.slice A0_1 l0_1.length c0_1,.int .i64 a0_2] 39 (0,0)) (by(with_reducible repeat(first|refine Zs ?_ _|refine Zt ?_|refine Zr ?_ _));exact BK1.out)):gb2≠gb1));replace BK1:=Za (Zw (g:=gb1) (o:=.cells #[.slice A0_0 l0_0.length c0_0,.slice A0_1 l0_1.length c0_1,.int .i64 a0_2] 39 (0,0)) (by(with_reducible repeat(first|refine Zs ?_ _|refine Zt ?_|refine Zr ?_ _));exact BK1.out) hb);replace HB:=Za (Zx (by repeat(first|(with_reducible first|exact HB.out|apply Zn|apply Zm|apply Zp|refine Zq ?_ GE1.out)|exact HB.out)) hb);clear hb hbox hg;have hnb27:=NB1_2.out;have hnc27:=NB2_1.out;have hcz28_0:w26.cell? ⟨gb1,0,none⟩=some (.slice A0_0 l0_0.length c0_0):=(Zo BK1.out 0).trans rfl;have hcz28_1:w26.cell? ⟨gb1,1,none⟩=some (.slice A0_1 l0_1.length c0_1):=(Zo BK1.out 1).trans rfl;have hcz28_2:w26.cell? ⟨gb1,2,none⟩=some (.int .i64 a0_2):=(Zo BK1.out 2).trans rfl;have hfz28_0:=Zu BK1.out 0;have hfz28_1:=Zu BK1.out 1;have hfz28_2:=Zu BK1.out 2;have hcz29_0:w26.cell? ⟨gb2,0,none⟩=some (.slice A1_0 l1_0.length c1_0):=(Zo BK2.out 0).trans rfl;have hcz29_1:w26.cell? ⟨gb2,1,none⟩=some (.slice A1_1 l1_1.length c1_1):=(Zo BK2.out 1).trans rfl;have hfz29_0:=Zu BK2.out 0;have hfz29_1:=Zu BK2.out 1)|((with_reducible refine ZU (f:=19) rfl ?_);refine Zaj (some 9) rfl rfl Tryd.func19 (by kernel_rfl) rfl #[.agg #[.slice A0_0 l0_0.length c0_0,.slice A0_1 l0_1.length c0_1,.int .i64 a0_2],.agg #[.slice A1_0 l1_0.length c1_0,.slice A1_1 l1_1.length c1_1]] rfl (by(try simp only[List.map_toArray,List.map_cons,List.map_nil]);first|done|rfl|(simp only[Zk,Zj];rfl)) ?_;(with_reducible refine(ZP.calls k _ _ l0_0 _ _ l0_1 a0_2 _ _ l1_0 _ _ l1_1 false _ ?side1 ?side2 ?side3 ?side4 ?side5 ?side6 ?side7 ?side8 A4.out).mono ?_);(case side1=>repeat(first|exact(Zb HR0_0.out HB.out)|(with_reducible refine Kd.C_alloc ?_ _)|(with_reducible refine Kd.C_drewN ?_ _)|(with_reducible refine Kd.C_drew ?_)));(case side2=>exact HC0_0.out);(case side3=>repeat(first|exact(Zb HR0_1.out HB.out)|(with_reducible refine Kd.C_alloc ?_ _)|(with_reducible refine Kd.C_drewN ?_ _)|(with_reducible refine Kd.C_drew ?_)));(case side4=>exact HC0_1.out);(case side5=>repeat(first|exact(Zb HR1_0.out HB.out)|(with_reducible refine Kd.C_alloc ?_ _)|(with_reducible refine Kd.C_drewN ?_ _)|(with_reducible refine Kd.C_drew ?_)));(case side6=>exact HC1_0.out);(case side7=>repeat(first|exact(Zb HR1_1.out HB.out)|(with_reducible refine Kd.C_alloc ?_ _)|(with_reducible refine Kd.C_drewN ?_ _)|(with_reducible refine Kd.C_drew ?_)));(case side8=>exact HC1_1.out);rintro e w30 ⟨rfl,hb⟩;refine⟨_,rfl,?_⟩;replace BK1:=Za (Zw (g:=gb1) (o:=.cells #[.slice A0_0 l0_0.length c0_0,.slice A0_1 l0_1.length c0_1,.int .i64 a0_2] 39 (0,0)) (by(with_reducible repeat(first|refine Zs ?_ _|refine Zt ?_|refine Zr ?_ _));exact BK1.out) hb);replace BK2:=Za (Zw (g:=gb2) (o:=.cells #[.slice A1_0 l1_0.length c1_0,.slice A1_1 l1_1.length c1_1] 44 (0,0)) (by(with_reducible repeat(first|refine Zs ?_ _|refine Zt ?_|refine Zr ?_ _));exact BK2.out) hb);replace HB:=Za (Zx (by repeat(first|(with_reducible first|exact HB.out|apply Zn|apply Zm|apply Zp|refine Zq ?_ GE1.out|refine Zq ?_ GE2.out)|exact HB.out)) hb);(try clear hb);(try clear hb2);(try clear hk);(try clear hi)))
  go_ret
  exact⟨by first|rfl|(simp[ZD,ZC] <;> rfl)|(simp[*,ZD,ZC] <;> rfl),by repeat(first|(with_reducible first|exact HB.out|apply Zn|apply Zm|apply Zp|refine Zq ?_ GE1.out|refine Zq ?_ GE2.out)|exact HB.out)⟩
abbrev Zam:=S121
abbrev zE:Zam:=z121
theorem pigN:∀(n:Nat) (l:List Nat),l.Nodup→(∀x∈l,x<n)→l.length≤n
 | 0,l,_,h=>by
  cases l with
  | nil=>exact Nat.le_refl _
  | cons x l=>have:=h x (by simp);omega
 | n+1,l,hn,h=>by
  have h1:=pigN n (l.erase n) (hn.sublist (List.erase_sublist ..)) (fun x hx=>by
   have:=(hn.mem_erase_iff).1 hx
   have h2:=h x this.2
   omega)
  rw[List.length_erase] at h1
  split at h1 <;> omega
theorem pigF (n:Nat) (f:Nat→Nat) (h:∀i,i≤n→f i<n):∃i j,i<j∧j≤n∧f i=f j:=by
 apply Classical.byContradiction
 intro hc
 have hd:((List.range (n+1)).map f).Nodup:=by
  unfold List.Nodup
  rw[List.pairwise_map]
  refine List.pairwise_lt_range.imp_of_mem ?_
  intro a b _ hb hab e
  have:=List.mem_range.1 hb
  exact hc ⟨a,b,hab,by omega,e⟩
 have:=pigN n _ hd (fun x hx=>by
  obtain⟨i,hi,rfl⟩:=List.mem_map.1 hx
  have:=List.mem_range.1 hi
  exact h i (by omega))
 simp at this
 omega
abbrev BSt:=List Int×List Int×Int
def relax (s:BSt) (i:Nat) (e:Zam):BSt:=
 if wrap64 (rd s.1 e.f0+e.f2)<rd s.1 e.f1 then(s.1.set e.f1.toNat (wrap64 (rd s.1 e.f0+e.f2)),s.2.1.set e.f1.toNat (i:Int),(i:Int)) else s
def rnd:List Zam→Nat→BSt→BSt
 | [],_,s=>s
 | e :: t,i,s=>rnd t (i+1) (relax s i e)
def rounds (E:List Zam):Nat→BSt→BSt
 | 0,s=>s
 | n+1,s=>rounds E n (rnd E 0 (s.1,s.2.1,-1))
def Zb6 (E:List Zam) (N:Nat):Prop:=∀e∈E,0≤e.f0∧e.f0<N∧0≤e.f1∧e.f1<N
structure BInv (E:List Zam) (N k i:Nat) (s:BSt) (rk:Nat→Nat):Prop where
 ld:s.1.length=N
 ll:s.2.1.length=N
 k1:1≤k
 R:∀v,rk v≤k
 A:∀j e,E[j]? = some e→rk e.f0.toNat<(if j<i then k else k - 1)→rd s.1 e.f1≤wrap64 (rd s.1 e.f0+e.f2)
 B:∀v,v<N→(s.2.1.getD v 0=-1∧rk v=0)∨∃j e,E[j]? = some e∧s.2.1.getD v 0=((j:Nat):Int)∧e.f1.toNat=v∧1≤rk v∧rk v≤rk e.f0.toNat+1
 C:s.2.2=-1∨∃j e,E[j]? = some e∧s.2.2=((j:Nat):Int)∧rk e.f1.toNat=k
theorem getD_set_ne {l:List Int} {i j:Nat} (h:i≠j) (x d:Int):(l.set i x).getD j d=l.getD j d:=by
 rw[List.getD_eq_getElem?_getD,List.getD_eq_getElem?_getD,List.getElem?_set_ne h]
theorem ZaS {l:List Int} {i:Nat} (h:i<l.length) (x d:Int):(l.set i x).getD i d=x:=by
 rw[List.getD_eq_getElem?_getD,List.getElem?_set_self h];rfl
theorem BInv.step {E:List Zam} {N k i:Nat} {s:BSt} {rk:Nat→Nat} (hE:Zb6 E N) (h:BInv E N k i s rk) {e:Zam} (he:E[i]? = some e):∃rk',BInv E N k (i+1) (relax s i e) rk':=by
 obtain⟨d,l,ch⟩:=s
 obtain⟨ld,ll,k1,R,A,B,C⟩:=h
 dsimp only at ld ll A B C
 have hin:=hE e (List.mem_of_getElem? he)
 unfold relax
 dsimp only
 by_cases c:wrap64 (rd d e.f0+e.f2)<rd d e.f1
 ·rw[if_pos c]
  refine⟨fun x=>if x=e.f1.toNat then k else rk x,?_,?_,k1,?_,?_,?_,?_⟩
  ·simpa using ld
  ·simpa using ll
  ·intro v;show(if v=e.f1.toNat then k else rk v)≤k;split
   ·exact Nat.le_refl _
   ·exact R v
  ·intro j e' hj hlt
   simp only at hlt ⊢
   have hin':=hE e' (List.mem_of_getElem? hj)
   by_cases c0:e'.f0.toNat=e.f1.toNat
   ·rw[if_pos c0] at hlt;split at hlt <;> omega
   ·rw[if_neg c0] at hlt
    have e0:rd (d.set e.f1.toNat (wrap64 (rd d e.f0+e.f2))) e'.f0=rd d e'.f0:=getD_set_ne (Ne.symm c0) _ _
    rw[e0]
    by_cases hji:j=i
    ·subst hji
     rw[he] at hj
     cases hj
     have e1:rd (d.set e.f1.toNat (wrap64 (rd d e.f0+e.f2))) e.f1=wrap64 (rd d e.f0+e.f2):=ZaS (by omega) _ _
     rw[e1];exact Int.le_refl _
    ·have hA:=A j e' hj (by split at hlt <;> split <;> omega)
     by_cases c1:e'.f1.toNat=e.f1.toNat
     ·have e1:rd (d.set e.f1.toNat (wrap64 (rd d e.f0+e.f2))) e'.f1=wrap64 (rd d e.f0+e.f2):=by unfold rd;rw[c1];exact ZaS (by omega) _ _
      have e2:rd d e'.f1=rd d e.f1:=by unfold rd;rw[c1]
      rw[e1];omega
     ·have e1:rd (d.set e.f1.toNat (wrap64 (rd d e.f0+e.f2))) e'.f1=rd d e'.f1:=getD_set_ne (Ne.symm c1) _ _
      rw[e1];exact hA
  ·intro v hv
   simp only
   by_cases cv:v=e.f1.toNat
   ·right
    refine⟨i,e,he,?_,cv.symm,?_,?_⟩
    ·rw[cv];exact ZaS (by omega) _ _
    ·rw[if_pos cv];exact k1
    ·rw[if_pos cv]
     split
     ·omega
     ·by_cases c2:rk e.f0.toNat<k - 1
      ·have:=A i e he (by rw[if_neg (by omega)];exact c2);omega
      ·omega
   ·rw[if_neg cv,getD_set_ne (Ne.symm cv)]
    rcases B v hv with hb|⟨j,e',h1,h2,h3,h4,h5⟩
    ·exact Or.inl hb
    ·right
     refine⟨j,e',h1,h2,h3,h4,?_⟩
     split
     ·have:=R v;omega
     ·exact h5
  ·right
   exact⟨i,e,he,rfl,by simp only;rw[if_pos trivial]⟩
 ·rw[if_neg c]
  refine⟨rk,ld,ll,k1,R,?_,B,C⟩
  intro j e' hj hlt
  by_cases hji:j=i
  ·subst hji
   rw[he] at hj
   cases hj
   simp only;omega
  ·exact A j e' hj (by split at hlt <;> split <;> omega)
theorem BInv.rnd {E:List Zam} {N k:Nat} (hE:Zb6 E N):∀(n i:Nat) (s:BSt) (rk:Nat→Nat),i+n=E.length→BInv E N k i s rk→∃rk',BInv E N k E.length (rnd (E.drop i) i s) rk':=by
 intro n
 induction n with
 | zero=>
  intro i s rk hn h
  obtain rfl:i=E.length:=by omega
  rw[List.drop_length];exact⟨rk,h⟩
 | succ n ih=>
  intro i s rk hn h
  have hi:i<E.length:=by omega
  rw[List.drop_eq_getElem_cons hi]
  obtain⟨rk',h'⟩:=h.step hE (Zl hi)
  exact ih (i+1) _ _ (by omega) h'
theorem BInv.next {E:List Zam} {N k:Nat} {s:BSt} {rk:Nat→Nat} (h:BInv E N k E.length s rk):BInv E N (k+1) 0 (s.1,s.2.1,-1) rk:=by
 refine⟨h.ld,h.ll,by omega,fun v=>by have:=h.R v;omega,?_,h.B,Or.inl rfl⟩
 intro j e hj hlt
 have hjl:=(List.getElem?_eq_some_iff.1 hj).1
 rw[if_neg (by omega)] at hlt
 exact h.A j e hj (by rw[if_pos hjl];omega)
theorem BInv.rnds {E:List Zam} {N:Nat} (hE:Zb6 E N):∀(n k:Nat) (s:BSt) (rk:Nat→Nat),BInv E N k E.length s rk→∃rk',BInv E N (k+n) E.length (rounds E n s) rk':=by
 intro n
 induction n with
 | zero=>intro k s rk h;exact⟨rk,h⟩
 | succ n ih=>
  intro k s rk h
  obtain⟨rk',h'⟩:=BInv.rnd hE E.length 0 _ rk (by omega) h.next
  obtain⟨rk2,h2⟩:=ih (k+1) _ _ h'
  refine⟨rk2,?_⟩
  rw[show k+(n+1)=k+1+n by omega]
  exact h2
def bst0 (N:Nat):BSt:=(List.replicate N 0,List.replicate N (-1),-1)
theorem BInv.start {E:List Zam} {N:Nat}:BInv E N 1 0 (bst0 N) (fun _=>0):=by
 refine⟨by simp[bst0],by simp[bst0],Nat.le_refl _,fun _=>by omega,?_,?_,Or.inl rfl⟩
 ·intro j e _ hlt;rw[if_neg (by omega)] at hlt;omega
 ·intro v hv;left
  refine⟨?_,rfl⟩
  simp[bst0,List.getD_eq_getElem?_getD,hv]
theorem BInv.all {E:List Zam} {N:Nat} (hE:Zb6 E N) (hN:1≤N):∃rk,BInv E N N E.length (rounds E N (bst0 N)) rk:=by
 obtain⟨m,rfl⟩:∃m,N=m+1:=⟨N - 1,by omega⟩
 obtain⟨rk',h'⟩:=BInv.rnd hE E.length 0 _ _ (by omega) (BInv.start (E:=E) (N:=m+1))
 obtain⟨rk2,h2⟩:=BInv.rnds hE m 1 _ _ h'
 refine⟨rk2,?_⟩
 rw[Nat.add_comm 1 m] at h2
 exact h2
def Good (E:List Zam) (N:Nat) (l:List Int) (v:Nat):Prop:=v<N∧∃j e,E[j]? = some e∧l.getD v 0=((j:Nat):Int)∧e.f1.toNat=v
def bnxt (E:List Zam) (l:List Int) (v:Nat):Nat:=(E.getD (l.getD v 0).toNat zE).f0.toNat
def bit (E:List Zam) (l:List Int):Nat→Nat→Nat
 | 0,v=>v
 | n+1,v=>bnxt E l (bit E l n v)
theorem Zb7 (E:List Zam) (l:List Int) (m:Nat):∀n v,bit E l (n+m) v=bit E l n (bit E l m v)
 | 0,v=>by rw[Nat.zero_add];rfl
 | n+1,v=>by rw[show n+1+m=(n+m)+1 by omega];show bnxt E l _=bnxt E l _;rw[Zb7 E l m n v]
theorem bnxt_at {E:List Zam} {l:List Int} {v j:Nat} {e:Zam} (hj:E[j]? = some e) (hl:l.getD v 0=((j:Nat):Int)):bnxt E l v=e.f0.toNat:=by
 unfold bnxt
 rw[hl,Int.toNat_natCast,List.getD_eq_getElem?_getD,hj];rfl
theorem bf_circle {E:List Zam} {N:Nat} (hE:Zb6 E N) (hN:1≤N) (hc:(rounds E N (bst0 N)).2.2≠-1) :
  let l:=(rounds E N (bst0 N)).2.1
  ∃c e,E[c]? = some e∧(rounds E N (bst0 N)).2.2=((c:Nat):Int)∧(∀i,i≤N→bit E l i e.f1.toNat<N)∧(∀i,i<N→Good E N l (bit E l i e.f1.toNat)) ∧
   (∀m,Good E N l (bit E l m (bit E l N e.f1.toNat)))∧∃q,1≤q∧q≤N∧bit E l q (bit E l N e.f1.toNat)=bit E l N e.f1.toNat:=by
 obtain⟨rk,h⟩:=BInv.all hE hN
 revert hc h
 generalize rounds E N (bst0 N)=s
 obtain⟨d,l,ch⟩:=s
 intro hc h
 dsimp only at hc ⊢
 obtain⟨c,e,he,hce,hk⟩:∃j e,E[j]? = some e∧ch=((j:Nat):Int)∧rk e.f1.toNat=N:=by
  rcases h.C with h0|h0
  ·exact absurd h0 hc
  ·exact h0
 have hin:=hE e (List.mem_of_getElem? he)
 have key:∀i,i≤N→bit E l i e.f1.toNat<N∧N≤rk (bit E l i e.f1.toNat)+i:=by
  intro i
  induction i with
  | zero=>intro _;exact⟨by simp only[bit];omega,by simp only[bit];omega⟩
  | succ i ih=>
   intro hi
   obtain⟨h1,h2⟩:=ih (by omega)
   rcases h.B _ h1 with ⟨_,h3⟩|⟨j,e',hj,hl,_,_,h5⟩
   ·omega
   ·have hin':=hE e' (List.mem_of_getElem? hj)
    show bnxt E l _<N∧N≤rk (bnxt E l _)+_
    rw[bnxt_at hj hl]
    exact⟨by omega,by omega⟩
 have good:∀i,i<N→Good E N l (bit E l i e.f1.toNat):=by
  intro i hi
  obtain⟨h1,h2⟩:=key i (by omega)
  rcases h.B _ h1 with ⟨_,h3⟩|⟨j,e',hj,hl,hv,_,_⟩
  ·omega
  ·exact⟨h1,j,e',hj,hl,hv⟩
 obtain⟨a,b,hab,hbN,hf⟩:=pigF N (fun i=>bit E l i e.f1.toNat) (fun i hi=>(key i hi).1)
 have per:∀m,bit E l (a+m+(b - a)) e.f1.toNat=bit E l (a+m) e.f1.toNat:=by
  intro m
  rw[show a+m+(b - a)=m+b by omega,show a+m=m+a by omega,Zb7,Zb7,hf]
 have goodall:∀m,Good E N l (bit E l m e.f1.toNat):=by
  intro m
  induction m using Nat.strongRecOn with
  | ind m ih=>
   by_cases hm:m<N
   ·exact good m hm
   ·have:=per (m - b)
    rw[show a+(m - b)+(b - a)=m by omega] at this
    rw[this]
    exact ih _ (by omega)
 refine⟨c,e,he,hce,fun i hi=>(key i hi).1,good,fun m=>?_,b - a,by omega,by omega,?_⟩
 ·rw[← Zb7];exact goodall _
 ·rw[← Zb7]
  have:=per (N - a)
  rw[show a+(N - a)=N by omega] at this
  rw[show b - a+N=N+(b - a) by omega]
  exact this
abbrev KSt:=List Int×List Bool×Bool
def rb (l:List Bool) (i:Int):Bool:=l.getD i.toNat false
def krelax (s:KSt) (e:Zam):KSt:=
 if rb s.2.1 e.f0=true∧(rb s.2.1 e.f1=false∨wrap64 (rd s.1 e.f0+e.f2)<rd s.1 e.f1) then(s.1.set e.f1.toNat (wrap64 (rd s.1 e.f0+e.f2)),s.2.1.set e.f1.toNat true,true) else s
def krnd:List Zam→KSt→KSt
 | [],s=>s
 | e :: t,s=>krnd t (krelax s e)
structure KInv (E:List Zam) (N k i t:Nat) (s:KSt) (lst:Nat→Option Nat) (rk T:Nat→Nat):Prop where
 ld:s.1.length=N
 ll:s.2.1.length=N
 k1:1≤k
 R:∀v,rk v≤k
 TT:∀v,T v≤t
 bd:∀v,v<N→-((t:Int) * 1000000)≤s.1.getD v 0∧s.1.getD v 0≤(t:Int) * 1000000
 A:∀j e,E[j]? = some e→rb s.2.1 e.f0=true→rk e.f0.toNat<(if j<i then k else k - 1)→rb s.2.1 e.f1=true∧rd s.1 e.f1≤rd s.1 e.f0+e.f2
 B:∀v,v<N→s.2.1.getD v false=true→(rk v=0)∨∃j e,lst v=some j∧E[j]? = some e∧e.f1.toNat=v∧rb s.2.1 e.f0=true∧1≤rk v∧rk v≤rk e.f0.toNat+1∧rd s.1 e.f0+e.f2≤s.1.getD v 0∧(T e.f0.toNat<T v∨rd s.1 e.f0+e.f2<s.1.getD v 0)
 C:s.2.2=false∨∃v,v<N∧s.2.1.getD v false=true∧rk v=k
def weightsIn (E:List Zam):Prop:=∀e∈E,-1000000≤e.f2∧e.f2≤1000000
theorem ZcW {l:List Bool} {i j:Nat} (h:i≠j) (x d:Bool):(l.set i x).getD j d=l.getD j d:=by
 rw[List.getD_eq_getElem?_getD,List.getD_eq_getElem?_getD,List.getElem?_set_ne h]
theorem ZdC {l:List Bool} {i:Nat} (h:i<l.length) (x d:Bool):(l.set i x).getD i d=x:=by
 rw[List.getD_eq_getElem?_getD,List.getElem?_set_self h];rfl
theorem Zdh {l:List Bool} {i j:Nat} (h:l.getD j false=true):(l.set i true).getD j false=true:=by
 by_cases e:i=j
 ·subst e
  have:i<l.length:=by
   rcases Nat.lt_or_ge i l.length with h0|h0
   ·exact h0
   ·rw[List.getD_eq_getElem?_getD,List.getElem?_eq_none h0] at h;cases h
  exact ZdC this _ _
 ·rw[ZcW e];exact h
theorem w64_id {i:Int} (h0 : -9223372036854775808≤i) (h:i≤9223372036854775807):wrap64 i=i:=by
 unfold wrap64;omega
theorem KInv.step {E:List Zam} {N k i t:Nat} {s:KSt} {lst rk T} (hE:Zb6 E N) (hw:weightsIn E) (ht:t≤1000000) (h:KInv E N k i t s lst rk T) {e:Zam} (he:E[i]? = some e):∃lst' rk' T',KInv E N k (i+1) (t+1) (krelax s e) lst' rk' T':=by
 obtain⟨d,l,ch⟩:=s
 obtain⟨ld,ll,k1,R,TT,bd,A,B,C⟩:=h
 dsimp only at ld ll A B C bd
 have hin:=hE e (List.mem_of_getElem? he)
 have hwe:=hw e (List.mem_of_getElem? he)
 have hb0:=bd e.f0.toNat (by omega)
 have hww:wrap64 (rd d e.f0+e.f2)=rd d e.f0+e.f2:=by
  have:rd d e.f0=d.getD e.f0.toNat 0:=rfl
  rw[this];exact w64_id (by omega) (by omega)
 unfold krelax
 dsimp only
 rw[hww]
 by_cases c:rb l e.f0=true∧(rb l e.f1=false∨rd d e.f0+e.f2<rd d e.f1)
 ·rw[if_pos c]
  obtain⟨cu,cv⟩:=c
  have eq1:rd (d.set e.f1.toNat (rd d e.f0+e.f2)) e.f1=rd d e.f0+e.f2:=ZaS (by omega) _ _
  have ne1:∀x:Int,x.toNat≠e.f1.toNat→rd (d.set e.f1.toNat (rd d e.f0+e.f2)) x=rd d x:=fun x hx=>getD_set_ne (Ne.symm hx) _ _
  have eqb:rb (l.set e.f1.toNat true) e.f1=true:=ZdC (by omega) _ _
  have neb:∀x:Int,x.toNat≠e.f1.toNat→rb (l.set e.f1.toNat true) x=rb l x:=fun x hx=>ZcW (Ne.symm hx) _ _
  refine⟨fun x=>if x=e.f1.toNat then some i else lst x,fun x=>if x=e.f1.toNat then k else rk x,fun x=>if x=e.f1.toNat then t+1 else T x,?_,?_,k1,?_,?_,?_,?_,?_,?_⟩
  ·simpa using ld
  ·simpa using ll
  ·intro v;show(if v=e.f1.toNat then k else rk v)≤k;split
   ·exact Nat.le_refl _
   ·exact R v
  ·intro v;show(if v=e.f1.toNat then t+1 else T v)≤t+1;split
   ·exact Nat.le_refl _
   ·have:=TT v;omega
  ·intro v hv
   dsimp only
   by_cases c1:v=e.f1.toNat
   ·subst c1
    rw[ZaS (by omega)]
    have:rd d e.f0=d.getD e.f0.toNat 0:=rfl
    rw[this];omega
   ·rw[getD_set_ne (Ne.symm c1)]
    have:=bd v hv;omega
  ·intro j e' hj hkn hlt
   dsimp only at hlt hkn ⊢
   by_cases c0:e'.f0.toNat=e.f1.toNat
   ·rw[if_pos c0] at hlt;split at hlt <;> omega
   ·rw[if_neg c0] at hlt
    rw[neb _ c0] at hkn
    rw[ne1 _ c0]
    by_cases hji:j=i
    ·subst hji
     rw[he] at hj
     cases hj
     exact⟨eqb,by rw[eq1];exact Int.le_refl _⟩
    ·obtain⟨hA1,hA⟩:=A j e' hj hkn (by split at hlt <;> split <;> omega)
     refine⟨Zdh hA1,?_⟩
     by_cases c1:e'.f1.toNat=e.f1.toNat
     ·have e1:rd (d.set e.f1.toNat (rd d e.f0+e.f2)) e'.f1=rd d e.f0+e.f2:=by unfold rd;rw[c1];exact ZaS (by omega) _ _
      have e2:rd d e'.f1=rd d e.f1:=by unfold rd;rw[c1]
      have e3:rb l e'.f1=rb l e.f1:=by unfold rb;rw[c1]
      rw[e3] at hA1
      rcases cv with h0|h0
      ·rw[h0] at hA1;cases hA1
      ·rw[e1];omega
     ·rw[ne1 _ c1];exact hA
  ·intro v hv hkn
   dsimp only at hkn ⊢
   by_cases c1:v=e.f1.toNat
   ·right
    refine⟨i,e,by rw[if_pos c1],he,c1.symm,Zdh cu,by rw[if_pos c1];exact k1,?_,?_,?_⟩
    ·rw[if_pos c1]
     split
     ·omega
     ·by_cases c2:rk e.f0.toNat<k - 1
      ·obtain⟨a1,a2⟩:=A i e he cu (by rw[if_neg (by omega)];exact c2)
       rcases cv with h0|h0
       ·rw[h0] at a1;cases a1
       ·omega
      ·omega
    ·rw[c1,ZaS (by omega)]
     by_cases c2:e.f0.toNat=e.f1.toNat
     ·have e1:rd (d.set e.f1.toNat (rd d e.f0+e.f2)) e.f0=rd d e.f0+e.f2:=by unfold rd;rw[c2];exact ZaS (by omega) _ _
      have e2:rd d e.f0=rd d e.f1:=by unfold rd;rw[c2]
      have e3:rb l e.f0=rb l e.f1:=by unfold rb;rw[c2]
      rw[e1]
      rcases cv with h0|h0
      ·rw[← e3,cu] at h0;cases h0
      ·omega
     ·rw[ne1 _ c2];exact Int.le_refl _
    ·by_cases c2:e.f0.toNat=e.f1.toNat
     ·right
      have e1:rd (d.set e.f1.toNat (rd d e.f0+e.f2)) e.f0=rd d e.f0+e.f2:=by unfold rd;rw[c2];exact ZaS (by omega) _ _
      have e2:rd d e.f0=rd d e.f1:=by unfold rd;rw[c2]
      have e3:rb l e.f0=rb l e.f1:=by unfold rb;rw[c2]
      rw[c1,ZaS (by omega),e1]
      rcases cv with h0|h0
      ·rw[← e3,cu] at h0;cases h0
      ·omega
     ·left
      rw[if_neg c2,if_pos c1]
      have:=TT e.f0.toNat;omega
   ·rw[ZcW (Ne.symm c1)] at hkn
    rw[if_neg c1,if_neg c1,if_neg c1,getD_set_ne (Ne.symm c1)]
    rcases B v hv hkn with hb|⟨j,e',h1,h2,h3,h4,h5,h6,h7,h8⟩
    ·exact Or.inl hb
    ·right
     refine⟨j,e',h1,h2,h3,Zdh h4,h5,?_,?_,?_⟩
     ·split
      ·have:=R v;omega
      ·exact h6
     ·by_cases c2:e'.f0.toNat=e.f1.toNat
      ·have e1:rd (d.set e.f1.toNat (rd d e.f0+e.f2)) e'.f0=rd d e.f0+e.f2:=by unfold rd;rw[c2];exact ZaS (by omega) _ _
       have e2:rd d e'.f0=rd d e.f1:=by unfold rd;rw[c2]
       have e3:rb l e'.f0=rb l e.f1:=by unfold rb;rw[c2]
       rw[e3] at h4
       rw[e1]
       rcases cv with h0|h0
       ·rw[h0] at h4;cases h4
       ·omega
      ·rw[ne1 _ c2];exact h7
     ·by_cases c2:e'.f0.toNat=e.f1.toNat
      ·right
       have e1:rd (d.set e.f1.toNat (rd d e.f0+e.f2)) e'.f0=rd d e.f0+e.f2:=by unfold rd;rw[c2];exact ZaS (by omega) _ _
       have e2:rd d e'.f0=rd d e.f1:=by unfold rd;rw[c2]
       have e3:rb l e'.f0=rb l e.f1:=by unfold rb;rw[c2]
       rw[e3] at h4
       rw[e1]
       rcases cv with h0|h0
       ·rw[h0] at h4;cases h4
       ·omega
      ·rw[ne1 _ c2,if_neg c2];exact h8
  ·right
   exact⟨e.f1.toNat,by omega,eqb,if_pos rfl⟩
 ·rw[if_neg c]
  refine⟨lst,rk,T,ld,ll,k1,R,fun v=>by have:=TT v;omega,fun v hv=>by have:=bd v hv;show -(((t+1:Nat):Int) * 1000000)≤d.getD v 0∧d.getD v 0≤((t+1:Nat):Int) * 1000000;omega,?_,B,C⟩
  intro j e' hj hkn hlt
  by_cases hji:j=i
  ·subst hji
   rw[he] at hj
   cases hj
   dsimp only at hkn ⊢
   cases hv:rb l e.f1 with
   | false=>exact absurd ⟨hkn,Or.inl hv⟩ c
   | true=>
    refine⟨rfl,?_⟩
    apply Classical.byContradiction
    intro h0
    exact c ⟨hkn,Or.inr (by omega)⟩
  ·exact A j e' hj hkn (by split at hlt <;> split <;> omega)
theorem KInv.rnd {E:List Zam} {N k:Nat} (hE:Zb6 E N) (hw:weightsIn E):∀(n i t:Nat) (s:KSt) (lst rk T),i+n=E.length→t+n≤1000000→KInv E N k i t s lst rk T→∃lst' rk' T',KInv E N k E.length (t+n) (krnd (E.drop i) s) lst' rk' T':=by
 intro n
 induction n with
 | zero=>
  intro i t s lst rk T hn _ h
  obtain rfl:i=E.length:=by omega
  rw[List.drop_length];exact⟨lst,rk,T,h⟩
 | succ n ih=>
  intro i t s lst rk T hn ht h
  have hi:i<E.length:=by omega
  rw[List.drop_eq_getElem_cons hi]
  obtain⟨lst',rk',T',h'⟩:=h.step hE hw (by omega) (Zl hi)
  rw[show t+(n+1)=t+1+n by omega]
  exact ih (i+1) (t+1) _ _ _ _ (by omega) (by omega) h'
theorem KInv.next {E:List Zam} {N k t:Nat} {s:KSt} {lst rk T} (h:KInv E N k E.length t s lst rk T):KInv E N (k+1) 0 t (s.1,s.2.1,false) lst rk T:=by
 refine⟨h.ld,h.ll,by omega,fun v=>by have:=h.R v;omega,h.TT,h.bd,?_,h.B,Or.inl rfl⟩
 intro j e hj hkn hlt
 have hjl:=(List.getElem?_eq_some_iff.1 hj).1
 rw[if_neg (by omega)] at hlt
 exact h.A j e hj hkn (by rw[if_pos hjl];omega)
def kst0 (N:Nat) (a:Nat):KSt:=(List.replicate N 0,(List.replicate N false).set a true,false)
theorem KInv.start {E:List Zam} {N a:Nat}:KInv E N 1 0 0 (kst0 N a) (fun _=>none) (fun _=>0) (fun _=>0):=by
 refine⟨by simp[kst0],by simp[kst0],Nat.le_refl _,fun _=>by omega,fun _=>by omega,?_,?_,?_,Or.inl rfl⟩
 ·intro v hv;simp[kst0,List.getD_eq_getElem?_getD,hv]
 ·intro j e _ _ hlt;rw[if_neg (by omega)] at hlt;omega
 ·intro v _ _;exact Or.inl rfl
def turnB (E:List Zam) (l:List Int) (a N:Nat):Nat:=match (List.range N).find? (fun i=>bit E l (i+1) a == a) with|some i=>i+1|none=>0
theorem turnB_some {E:List Zam} {l:List Int} {a N:Nat} (h:∃q,1≤q∧q≤N∧bit E l q a=a):1≤turnB E l a N∧turnB E l a N≤N∧bit E l (turnB E l a N) a=a∧∀i,1≤i→i<turnB E l a N→bit E l i a≠a:=by
 unfold turnB
 cases hf:(List.range N).find? (fun i=>bit E l (i+1) a == a) with
 | none=>
  obtain⟨q,h1,h2,h3⟩:=h
  rw[List.find?_eq_none] at hf
  have:=hf (q - 1) (List.mem_range.2 (by omega))
  rw[show q - 1+1=q by omega,h3] at this
  simp at this
 | some i=>
  rw[List.find?_eq_some_iff_append] at hf
  obtain⟨hp,us,bs,he,hn⟩:=hf
  have hi:i=us.length∧i<N:=by
   have h1:(List.range N)[us.length]? = some i:=by rw[he];simp
   obtain⟨h2,h3⟩:=List.getElem?_eq_some_iff.1 h1
   rw[List.getElem_range] at h3
   rw[List.length_range] at h2
   omega
  refine⟨by simp,by simp only;omega,by simpa using hp,fun j h1 h2=>?_⟩
  simp only at h2
  have hm:j - 1∈us:=by
   have h3:(List.range N)[j - 1]? = some (j - 1):=by rw[List.getElem?_range (by omega)]
   rw[he,List.getElem?_append_left (by omega)] at h3
   exact List.mem_of_getElem? h3
  have:=hn _ hm
  rw[show j - 1+1=j by omega] at this
  simpa using this
def cycB (E:List Zam) (l:List Int) (a q:Nat):List Int:=(List.range q).map fun i=>l.getD (bit E l i a) 0
theorem cycB_succ (E:List Zam) (l:List Int) (a q:Nat):cycB E l a (q+1)=cycB E l a q ++ [l.getD (bit E l q a) 0]:=by
 unfold cycB
 rw[List.range_succ,List.map_append];rfl
theorem cycB_len (E:List Zam) (l:List Int) (a q:Nat):(cycB E l a q).length=q:=by simp[cycB]
def backB (E:List Zam) (N:Nat) (s:BSt):Nat:=bit E s.2.1 N (E.getD s.2.2.toNat zE).f1.toNat
def ncB (N:Nat) (E:List Zam):List Int:=let s:=rounds E N (bst0 N);if s.2.2<0 then[] else(cycB E s.2.1 (backB E N s) (turnB E s.2.1 (backB E N s) N)).reverse
theorem bf_after {E:List Zam} {N:Nat} (hE:Zb6 E N) (hN:1≤N) {d l:List Int} {ch:Int} (hs:(d,l,ch)=rounds E N (bst0 N)) :
  (ch=-1∧ncB N E=[])∨∃(c v q:Nat),ch=(c:Int)∧c<E.length∧v<N∧(E.getD c zE).f1=(v:Int)∧1≤q∧q≤N∧(∀m,bit E l m v<N∧0≤l.getD (bit E l m v) 0∧l.getD (bit E l m v) 0<E.length) ∧
   (∀m,bit E l (m+1) v=(E.getD (l.getD (bit E l m v) 0).toNat zE).f0.toNat)∧bit E l q (bit E l N v)=bit E l N v∧(∀i,1≤i→i<q→bit E l i (bit E l N v)≠bit E l N v)∧ncB N E=(cycB E l (bit E l N v) q).reverse:=by
 by_cases hc:ch=-1
 ·left
  refine⟨hc,?_⟩
  unfold ncB
  rw[← hs]
  simp[hc]
 ·right
  have hx:=bf_circle hE hN (by rw[← hs];exact hc)
  rw[← hs] at hx
  obtain⟨c,e,he,hce,hlt,hg,hga,hq⟩:=hx
  dsimp only at hce hlt hg hga hq
  have hcl:=(List.getElem?_eq_some_iff.1 he).1
  have hin:=hE e (List.mem_of_getElem? he)
  have hgd:E.getD c zE=e:=by rw[List.getD_eq_getElem?_getD,he];rfl
  have ht:=turnB_some hq
  have hall:∀m,Good E N l (bit E l m e.f1.toNat):=by
   intro m
   by_cases hm:m<N
   ·exact hg m hm
   ·have:=hga (m - N)
    rw[← Zb7,show m - N+N=m by omega] at this
    exact this
  refine⟨c,e.f1.toNat,turnB E l (bit E l N e.f1.toNat) N,hce,hcl,by omega,by rw[hgd];omega,ht.1,ht.2.1,fun m=>?_,fun m=>rfl,ht.2.2.1,ht.2.2.2,?_⟩
  ·obtain⟨h1,j,e',hj,hl,_⟩:=hall m
   have:=(List.getElem?_eq_some_iff.1 hj).1
   exact⟨h1,by omega,by omega⟩
  ·unfold ncB backB
   rw[← hs]
   simp only
   rw[if_neg (by omega),show ch.toNat=c by omega,hgd]
abbrev IR (w:World) (B g n c:Nat) (xs:List Int):Prop:=Kd.R (Kd.int .i64) 3 w B (fun k=>k=g) (.slice (some ⟨g,0,none⟩) n c) xs
theorem IR.of {w:World} {B g n c:Nat} {ok:Nat→Prop} {xs:List Int} (h:Kd.R (Kd.int .i64) 3 w B ok (.slice (some ⟨g,0,none⟩) n c) xs):IR w B g n c xs:=
 ⟨fun k hk=>by simp[Value.ownBlock] at hk;exact hk.symm,h.2⟩
theorem IR.cell {w:World} {B g n c:Nat} {xs:List Int} (h:IR w B g n c xs) {i:Int} (h0:0≤i) (h1:i<n):w.cell? ⟨g,i.toNat,none⟩=some (.int .i64 (rd xs i))∧w.frozen? ⟨g,i.toNat,none⟩=false:=Kd.R_celln 0 h i h0 h1
theorem IR.put {w:World} {B g n c:Nat} {xs:List Int} (h:IR w B g n c xs) (i x:Int):IR (w.setCell ⟨g,i.toNat,none⟩ (.int .i64 x)) B g n c (xs.set i.toNat x):=Kd.R_putn h i x
theorem IR.far {w:World} {B g n c:Nat} {xs:List Int} (h:IR w B g n c xs) {p:Addr} (ne:g≠p.block) (u:Value):IR (w.setCell p u) B g n c xs:=Kd.R_far h (fun k hk=>by subst hk;exact ne) u
theorem IR.low {w w1:World} {B g n c:Nat} {xs:List Int} (h:IR w B g n c xs) (hb:Below w.heap.size w w1):IR w1 B g n c xs:=Kd.R_below h hb
theorem IR.lt {w:World} {B g n c:Nat} {xs:List Int} (h:IR w B g n c xs):g<w.heap.size:=Kd.R_lt h g (by simp[Value.ownBlock])
theorem IR.base {w:World} {B g n c:Nat} {xs:List Int} (h:IR w B g n c xs):B≤g:=Kd.R_base h g (by simp[Value.ownBlock])
theorem IR.reads {w:World} {B g n c:Nat} {xs:List Int} (h:IR w B g n c xs):n=xs.length∧n≤c∧Kd.C (Kd.int .i64) w (some ⟨g,0,none⟩) xs.length xs:=Kd.R_reads' h
abbrev BR (w:World) (B g n c:Nat) (xs:List Bool):Prop:=Kd.R Kd.bool 4 w B (fun k=>k=g) (.slice (some ⟨g,0,none⟩) n c) xs
theorem BR.of {w:World} {B g n c:Nat} {ok:Nat→Prop} {xs:List Bool} (h:Kd.R Kd.bool 4 w B ok (.slice (some ⟨g,0,none⟩) n c) xs):BR w B g n c xs:=
 ⟨fun k hk=>by simp[Value.ownBlock] at hk;exact hk.symm,h.2⟩
theorem BR.cell {w:World} {B g n c:Nat} {xs:List Bool} (h:BR w B g n c xs) {i:Int} (h0:0≤i) (h1:i<n):w.cell? ⟨g,i.toNat,none⟩=some (.bool (xs.getD i.toNat false))∧w.frozen? ⟨g,i.toNat,none⟩=false:=Kd.R_celln false h i h0 h1
theorem BR.put {w:World} {B g n c:Nat} {xs:List Bool} (h:BR w B g n c xs) (i:Int) (x:Bool):BR (w.setCell ⟨g,i.toNat,none⟩ (.bool x)) B g n c (xs.set i.toNat x):=Kd.R_putn h i x
theorem BR.far {w:World} {B g n c:Nat} {xs:List Bool} (h:BR w B g n c xs) {p:Addr} (ne:g≠p.block) (u:Value):BR (w.setCell p u) B g n c xs:=Kd.R_far h (fun k hk=>by subst hk;exact ne) u
theorem BR.low {w w1:World} {B g n c:Nat} {xs:List Bool} (h:BR w B g n c xs) (hb:Below w.heap.size w w1):BR w1 B g n c xs:=Kd.R_below h hb
theorem BR.lt {w:World} {B g n c:Nat} {xs:List Bool} (h:BR w B g n c xs):g<w.heap.size:=Kd.R_lt h g (by simp[Value.ownBlock])
theorem BR.base {w:World} {B g n c:Nat} {xs:List Bool} (h:BR w B g n c xs):B≤g:=Kd.R_base h g (by simp[Value.ownBlock])
theorem Zfg.any (p:S121→Bool) (g:Nat) (lb:Array Value) (eg:∀args w,(callFunc g args).run Tryd.prog w=.ok (.enter g args) w) (A0:Option Addr) (c0:Nat) (l0:List S121) (w:World) (hr0:Kd.C k121 w A0 l0.length l0)
  (hp:∀(W:World) (x:S121),x∈l0→Below w.heap.size w W→Calls Tryd.prog g (#[.agg #[.int .i64 x.f0,.int .i64 x.f1,.int .i64 x.f2]] ++ lb) W fun e w'=>e=.returned (.bool (p x))∧Below W.heap.size W w') :
  Calls Tryd.prog 133 #[.slice A0 l0.length c0,.func (.func g) #[] lb] w fun e w'=>e=.returned (.int .i64 (ZaK p l0))∧Below w.heap.size w w':=by
 have HR0:=Za hr0;have HP:=Za hp;clear hr0 hp
 have HL:l0.length≤9223372036854775807:=HR0.out.2.1
 go_enter Tryd.func133,Tryd.ntmps133
 go_wp2
 go_loopg [5,8] l0.length (fun gg _ s8 wr=>∃kk:Nat,Aside0 (kk≤l0.length)∧Aside0 (l0.length - kk≤gg)∧s8=.int .i64 kk∧Aside0 (Below w.heap.size w wr)∧Aside0 (∀j y,j<kk→l0[j]? = some y→p y=false))
 case atStart=>exact⟨0,⟨Nat.zero_le _⟩,⟨by omega⟩,rfl,⟨Below.refl _ _⟩,⟨fun j y hj=>absurd hj (Nat.not_lt_zero _)⟩⟩
 case round=>
  obtain⟨kk,HK,HG,rfl,HB,HN⟩:=hrel
  by_cases hlt:kk<l0.length
  ·have hltz:(kk:Int)<(l0.length:Int):=by omega
   obtain⟨ad,e1,hx0,hx1,hx2⟩:=Zda HR0.out (kk:Int) (by omega) hltz
   cases e1
   replace hx0:=(HB.out.cell (Zc w _ hx0)).trans hx0
   rw[Int.toNat_natCast] at hx0
   replace hx1:=(HB.out.cell (Zc w _ hx1)).trans hx1
   rw[Int.toNat_natCast] at hx1
   replace hx2:=(HB.out.cell (Zc w _ hx2)).trans hx2
   rw[Int.toNat_natCast] at hx2
   have hxe:l0[kk]? = some (Zbz l0 (kk:Int)):=by
    unfold Zbz
    rw[Int.toNat_natCast,List.getD_eq_getElem?_getD,Zl hlt];rfl
   generalize Zbz l0 (kk:Int)=y at hx0 hx1 hx2 hxe
   have HX:=Za hxe;clear hxe
   have hcall:=HP.out wr y (List.mem_of_getElem? HX.out) HB.out
   cases hq:p y with
   | true=>
    have HQ:=Za hq
    rw[hq] at hcall
    clear hq
    go_wp2_with (go_at_fn g;refine hcall.mono ?_;rintro e w' ⟨rfl,hb⟩)
    go_ret
    exact⟨by rw[ZbZ p l0 kk y HX.out HQ.out HN.out];rfl,HB.out.trans (hb.mono HB.out.size)⟩
   | false=>
    have HQ:=Za hq
    rw[hq] at hcall
    clear hq
    go_wp2_with (go_at_fn g;refine hcall.mono ?_;rintro e w' ⟨rfl,hb⟩)
    go_roundg (l0.length - (kk+1))
    case measure=>have:=HG.out;omega
    case rel=>
     refine⟨kk+1,⟨by omega⟩,⟨by omega⟩,by go_num,⟨HB.out.trans (hb.mono HB.out.size)⟩,⟨fun j y' hj hy=>?_⟩⟩
     by_cases e:j=kk
     ·subst e
      rw[HX.out] at hy
      cases hy
      exact HQ.out
     ·exact HN.out j y' (by omega) hy
  ·have hltz:¬(kk:Int)<(l0.length:Int):=by omega
   have:kk=l0.length:=by have:=HK.out;omega
   subst this
   go_wp2
   go_ret
   exact⟨by rw[ZbP p l0 HN.out];rfl,HB.out⟩
theorem Zfh.any (p:S121→Bool) (g:Nat) (lb:Array Value) (eg:∀args w,(callFunc g args).run Tryd.prog w=.ok (.enter g args) w) (A0:Option Addr) (c0:Nat) (l0:List S121) (w:World) (hr0:Kd.C k121 w A0 l0.length l0)
  (hp:∀(W:World) (x:S121),x∈l0→Below w.heap.size w W→Calls Tryd.prog g (#[.agg #[.int .i64 x.f0,.int .i64 x.f1,.int .i64 x.f2]] ++ lb) W fun e w'=>e=.returned (.bool (p x))∧Below W.heap.size W w') :
  Calls Tryd.prog 113 #[.slice A0 l0.length c0,.func (.func g) #[] lb] w fun e w'=>e=.returned (.bool (l0.any p))∧Below w.heap.size w w':=by
 have HI:=Za (Zfg.any p g lb eg A0 c0 l0 w hr0 hp)
 clear hr0 hp
 have HE:=Za (Zce p l0)
 go_enter Tryd.func113,Tryd.ntmps113
 go_wp2_with (go_at_call 133;refine HI.out.mono ?_;rintro e w' ⟨rfl,hb⟩)
 go_ret
 exact⟨by rw[← HE.out];rfl,hb⟩
def ZbR.f (a0:Int):Option (Bool):=if a0 > (-1000000) then(some (decide (a0<1000000))) else(some false)
theorem ZbR.calls (a0:Int) (r:Bool) (w:World) (h:ZbR.f a0=some r) :
  Calls Tryd.prog 115 #[.int .i64 a0] w fun e w'=>e=.returned (.bool r)∧ZQ w w':=by
 have H:(if a0 > (-1000000) then(some (decide (a0<1000000))) else(some false))=some r:=h
 clear h
 by_cases c2:a0 > (-1000000)
 ·rw[if_pos c2] at H
  have c2b0:decide ((-1000000)<a0)=true:=Ze c2
  clear c2
  obtain rfl:=Zg H
  go_enter Tryd.func115,Tryd.ntmps115
  go_wp2
  go_ret
  exact⟨by first|rfl|(simp;done)|(simp[*];done),by repeat(first|exact ZQ.refl _|apply ZQ.step)⟩
 ·rw[if_neg c2] at H
  have c2b0:decide ((-1000000)<a0)=false:=Zf c2
  clear c2
  obtain rfl:=Zg H
  go_enter Tryd.func115,Tryd.ntmps115
  go_wp2
  go_ret
  exact⟨by first|rfl|(simp;done)|(simp[*];done),by repeat(first|exact ZQ.refl _|apply ZQ.step)⟩
def wgtB (x:Int):Bool:=decide (-1000000<x) && decide (x<1000000)
theorem wgt_f (x:Int):ZbR.f x=some (wgtB x):=by
 unfold ZbR.f wgtB
 by_cases h:x > -1000000
 ·rw[if_pos h,Ze (show(-1000000:Int)<x from h),Bool.true_and]
 ·rw[if_neg h,Zf (show ¬(-1000000:Int)<x from h),Bool.false_and]
theorem isWeight_q (x:Int) (w:World):Calls Tryd.prog 115 #[.int .i64 x] w fun e w'=>e=.returned (.bool (wgtB x))∧∃m,w'=w.drewN m:=
 (ZbR.calls x _ w (wgt_f x)).mono fun _ _ ⟨he,hd⟩=>⟨he,hd.out⟩
def ZbU (n:Int) (x:S121):Bool:=inN n x.f0 && (inN n x.f1 && wgtB x.f2)
def ZbE (n:Int) (ls:List S121):Bool:=!(decide (n<0)) && (!(decide (8<n)) && (!(decide (80<ls.length)) && !(ls.any fun x=>!ZbU n x)))
def ZcV.f (a0_0:Int) (l0_1:List (S121)):Option Bool:=some (ZbE a0_0 l0_1)
theorem ZeR.clo (B:Nat) (n:Int) (W:World) (hB:W.cell? ⟨B,0,none⟩=some (.int .i64 n)) (x:S121) :
  Calls Tryd.prog 114 #[.agg #[.int .i64 x.f0,.int .i64 x.f1,.int .i64 x.f2],.pointer (some ⟨B,0,none⟩)] W fun e w'=>e=.returned (.bool (!ZbU n x))∧Below W.heap.size W w':=by
 have hlt:B<W.heap.size:=Zc W _ hB
 have hu:=Tryd.underlying121
 have hu3:=Tryd.underlying91
 obtain⟨f0,f1,f2⟩:=x
 have HE:=Za (show ZbU n ⟨f0,f1,f2⟩=(inN n f0 && (inN n f1 && wgtB f2)) from rfl)
 cases b1:inN n f0 with
 | false=>
  have HF:=Za (show ZbU n ⟨f0,f1,f2⟩=false by rw[HE.out,b1];rfl)
  clear HE
  go_enter Tryd.func114,Tryd.ntmps114
  go_wp2_with (go_at_call 55;refine(Zcq _ _ _).mono ?_;rintro e w' ⟨rfl,nd,rfl⟩)
  go_ret
  exact⟨by rw[HF.out];rfl,by repeat(first|exact Below.refl _ _|apply Zn|apply Zm|apply Zbc)⟩
 | true=>
 cases b2:inN n f1 with
 | false=>
  have HF:=Za (show ZbU n ⟨f0,f1,f2⟩=false by rw[HE.out,b1,b2];rfl)
  clear HE
  go_enter Tryd.func114,Tryd.ntmps114
  go_wp2_with (go_at_call 55;refine(Zcq _ _ _).mono ?_;rintro e w' ⟨rfl,nd,rfl⟩)
  go_ret
  exact⟨by rw[HF.out];rfl,by repeat(first|exact Below.refl _ _|apply Zn|apply Zm|apply Zbc)⟩
 | true=>
 have HF:=Za (show ZbU n ⟨f0,f1,f2⟩=wgtB f2 by rw[HE.out,b1,b2];rfl)
 clear HE
 go_enter Tryd.func114,Tryd.ntmps114
 go_wp2_with (first|(go_at_call 55;refine(Zcq _ _ _).mono ?_;rintro e w' ⟨rfl,nd,rfl⟩)|(go_at_call 115;refine(isWeight_q _ _).mono ?_;rintro e w' ⟨rfl,nd,rfl⟩))
 go_ret
 exact⟨by rw[HF.out];rfl,by repeat(first|exact Below.refl _ _|apply Zn|apply Zm|apply Zbc)⟩
theorem ZcV.calls (a0_0:Int) (A0_1:Option Addr) (c0_1:Nat) (l0_1:List (S121)) (r:Bool) (w:World) (hr0_1:Kd.C k121 w A0_1 l0_1.length l0_1) (hc0_1:l0_1.length≤c0_1) (h:ZcV.f a0_0 l0_1=some r) :
  Calls Tryd.prog 84 #[.agg #[.int .i64 a0_0,.slice A0_1 l0_1.length c0_1]] w fun e w'=>e=.returned (.bool r)∧Below w.heap.size w w':=by
 obtain rfl:=Zg h
 have hL:l0_1.length≤9223372036854775807:=hr0_1.2.1
 have HC:=Za fun (W:World) (B:Nat) (hb:Below w.heap.size w W) (hcell:W.cell? ⟨B,0,none⟩=some (.int .i64 a0_0))=>Zfh.any (fun x=>!ZbU a0_0 x) 114 #[.pointer (some ⟨B,0,none⟩)] (enters_of Tryd.func114 (by kernel_rfl) rfl) A0_1 c0_1 l0_1 W (Zb hr0_1 hb)
    (fun W' x _ hb'=>ZeR.clo B a0_0 W' (ZE hb' hcell) x)
 have hu:=Tryd.underlying91
 have HB:=Za (Zn (Below.refl w.heap.size w) (.cells #[.int .i64 a0_0,.slice A0_1 l0_1.length c0_1] 91))
 clear hr0_1 h
 cases b1:decide (a0_0<0) with
 | true=>
  have HF:=Za (show ZbE a0_0 l0_1=false by unfold ZbE;rw[b1];rfl)
  go_enter Tryd.func84,Tryd.ntmps84
  go_wp2
  go_ret
  exact⟨by rw[HF.out];rfl,HB.out⟩
 | false=>
 cases b2:decide (8<a0_0) with
 | true=>
  have HF:=Za (show ZbE a0_0 l0_1=false by unfold ZbE;rw[b1,b2];rfl)
  go_enter Tryd.func84,Tryd.ntmps84
  go_wp2
  go_ret
  exact⟨by rw[HF.out];rfl,HB.out⟩
 | false=>
 by_cases q3:80<l0_1.length
 ·have b3:decide (80<l0_1.length)=true:=Ze q3
  have z3:(80:Int)<(l0_1.length:Int):=by omega
  have HF:=Za (show ZbE a0_0 l0_1=false by unfold ZbE;rw[b1,b2,b3];rfl)
  clear b3 q3
  go_enter Tryd.func84,Tryd.ntmps84
  go_wp2
  go_ret
  exact⟨by rw[HF.out];rfl,HB.out⟩
 ·have b3:decide (80<l0_1.length)=false:=Zf q3
  have z3:¬(80:Int)<(l0_1.length:Int):=by omega
  have HF:=Za (show ZbE a0_0 l0_1=!(l0_1.any fun x=>!ZbU a0_0 x) by unfold ZbE;rw[b1,b2,b3];rfl)
  clear b3 q3
  generalize l0_1.any (fun x=>!ZbU a0_0 x)=q at HC HF
  go_enter Tryd.func84,Tryd.ntmps84
  go_wp2_with fail
  refine(HC.out _ _ HB.out (by go_simp)).mono ?_
  rintro e w' ⟨rfl,hb⟩
  go_wp2
  go_ret
  exact⟨by rw[HF.out];rfl,HB.out.trans (hb.mono HB.out.size)⟩
theorem graphB_in {n:Int} {E:List Zam} (h:ZbE n E=true):0≤n∧n≤8∧E.length≤80∧∀e∈E,0≤e.f0∧e.f0<n∧0≤e.f1∧e.f1<n∧-1000000<e.f2∧e.f2<1000000:=by
 unfold ZbE at h
 simp only[Bool.and_eq_true,Bool.not_eq_true',decide_eq_false_iff_not] at h
 obtain⟨h1,h2,h3,h4⟩:=h
 refine⟨by omega,by omega,by omega,fun e he=>?_⟩
 have:=List.any_eq_false.1 h4 e he
 unfold ZbU wgtB inN at this
 simp at this
 omega
def ZL.l0:Nat→List Int→Int→Int→Option (List Int)
 | 0,_,_,_=>none
 | k+1,x0,x2,x3=>if x2<x3 then(if 0≤x3 then(if x3<(x0.length:Int) then(if 0≤x2 then(if x2<(x0.length:Int) then(ZL.l0 k ((x0.set (x2:Int).toNat (rd x0 x3)).set (x3:Int).toNat (rd x0 x2)) (wrap64 (x2+1)) (wrap64 (x3 - 1))) else(none)) else(none)) else(none)) else(none)) else(some x0)
def ZL.f (k:Nat) (l0:List Int):Option (List Int):=ZL.l0 k l0 0 (wrap64 ((l0.length:Int) - 1))
def ZL.T3:Bool×List (List Nat×List Nat):=(true,[([],[]),([],[]),([],[]),([],[]),([],[]),([],[]),([4,5],[4,5]),([6],[6]),([],[]),([],[]),([8,9],[8,9]),([10],[10]),([0,1,0,1,4,5,6,7,11],[0,1]),([12,7,0,1,4,5,6,7,11],[7,12]),([2,3,0,1,2,3,4,5,6,7,8,9,10,11,12,13],[2,3]),([14,11,13,0,1,2,3,4,5,6,7,8,9,10,11,12,13],[11,14])])
def ZL.B3:List Nat:=[0,0,0,0,0,0,48,112,0,0,768,1792,4083,8179,16383,32767]
theorem ZL.tab3:rtab .any (opsOf Tryd.f86 3)=ZL.T3:=by kernel_rfl
theorem ZL.bits3:ZcI ZL.T3.2 ZL.B3=true:=by kernel_rfl
theorem ZL.calls (k:Nat) (P0_:Nat→Prop) (u9000_:Value) (l0:List Int) (r:List Int) (w0 w:World) (hB:Below w0.heap.size w0 w) (ho0:Kd.R (Kd.int .i64) 3 w w0.heap.size P0_ u9000_ l0) (h:ZL.f k l0=some r) :
  Calls Tryd.prog 86 #[u9000_] w fun e w'=>e=.returned (.tuple #[])∧Kd.R (Kd.int .i64) 3 w' w0.heap.size (fun k_=>(P0_ k_∨w.heap.size≤k_)) u9000_ r∧Below w0.heap.size w0 w'∧Kept w w' (fun k_=>P0_ k_):=by
 have HO0:=Za (show Kd.R (Kd.int .i64) 3 w w0.heap.size (fun k_=>(P0_ k_∨w.heap.size≤k_)) u9000_ l0 from Kd.R_mono ho0 (fun k_ hk=>(.inl hk)))
 have HK:=Za (Kept.refl w (fun k_=>P0_ k_))
 have HW0:=Za hB.size
 have HB:=Za hB;clear hB
 have H:(ZL.l0 k l0 0 (wrap64 ((l0.length:Int) - 1)))=some r:=h
 clear h
 have H':=Za H
 clear H
 obtain⟨Ao2,co2,eo2⟩:=Kd.R_slice HO0.out
 subst eo2
 go_enter Tryd.func86,Tryd.ntmps86
 go_wp2
 go_loopg [2,3] k (fun kq v2 v3 w'=>∃(x0_1:List Int) (x2_1:Int) (x3_1:Int),v2=.int .i64 x2_1∧v3=.int .i64 x3_1∧Aside0 (ZL.l0 kq x0_1 x2_1 x3_1=some r)∧Aside0 (kq≤k)∧Aside0 (Kd.R (Kd.int .i64) 3 w' w0.heap.size (fun k_=>(P0_ k_∨w.heap.size≤k_)) (.slice Ao2 l0.length co2) x0_1)∧Aside0 (Kept w w' (fun k_=>P0_ k_))∧Aside0 (Below w0.heap.size w0 w'))
 case atStart=>exact⟨(l0),(0),(wrap64 ((l0.length:Int) - 1)),(by first|rfl|(simp;done)|(simp[*];done)),(by first|rfl|(simp;done)|(simp[*];done)),H',⟨Nat.le_refl _⟩,⟨by(with_reducible repeat(first|apply Kd.R_alloc|apply Kd.R_drewN|apply Kd.R_drew));exact HO0.out⟩,⟨by repeat(first|(with_reducible first|exact HK.out|apply Kept.alloc|apply Kept.drewN|apply Kept.drew)|exact HK.out)⟩,⟨by repeat(first|(with_reducible first|exact HB.out|apply Zn|apply Zm|apply Zp)|exact HB.out)⟩⟩
 case round=>
  clear H'
  try clear p2
  obtain⟨x0_1,x2_1,x3_1,rfl,rfl,HA,HK1,HO_0,HK,HB⟩:=hrel
  have hl0_1:=(Kd.R_reads' HO_0.out).1
  rw[hl0_1] at HO_0
  (try simp only[hl0_1])
  cases gk with
  | zero=>exact absurd HA.out (by simp[ZL.l0])
  | succ k1=>
   have H:=HA.out
   clear HA
   simp only[ZL.l0] at H
   by_cases c3:x2_1<x3_1
   ·rw[if_pos c3] at H
    have c3b0:decide (x2_1<x3_1)=true:=Ze c3
    clear c3
    by_cases c4:0≤x3_1
    ·rw[if_pos c4] at H
     have c4b0:decide (0≤x3_1)=true:=Ze c4
     clear c4
     by_cases c5:x3_1<(x0_1.length:Int)
     ·rw[if_pos c5] at H
      have c5b0:decide (x3_1<(x0_1.length:Int))=true:=Ze c5
      clear c5
      by_cases c6:0≤x2_1
      ·rw[if_pos c6] at H
       have c6b0:decide (0≤x2_1)=true:=Ze c6
       clear c6
       by_cases c7:x2_1<(x0_1.length:Int)
       ·rw[if_pos c7] at H
        have c7b0:decide (x2_1<(x0_1.length:Int))=true:=Ze c7
        clear c7
        obtain⟨y3,hy3⟩:∃y_:List Int,y_=(x0_1.set (x2_1:Int).toNat (rd x0_1 x3_1)):=⟨_,rfl⟩
        replace H:(ZL.l0 k1 (y3.set (x3_1:Int).toNat (rd x0_1 x2_1)) (wrap64 (x2_1+1)) (wrap64 (x3_1 - 1)))=some r:=by first|(rw[hy3];with_reducible exact H)|(have H2_:=(Zi _ _).symm.trans H;rw[hy3];with_reducible exact H2_)|(have H2_:=(Zi _ _).symm.trans H;with_reducible exact H2_)|with_reducible exact H|(rw[hy3];exact H)|exact H
        have Ny3:=Za hy3;clear hy3
        obtain⟨y4,hy4⟩:∃y_:List Int,y_=(y3.set (x3_1:Int).toNat (rd x0_1 x2_1)):=⟨_,rfl⟩
        replace H:(ZL.l0 k1 y4 (wrap64 (x2_1+1)) (wrap64 (x3_1 - 1)))=some r:=by first|(rw[hy4];with_reducible exact H)|(have H2_:=(Zi _ _).symm.trans H;rw[hy4];with_reducible exact H2_)|(have H2_:=(Zi _ _).symm.trans H;with_reducible exact H2_)|with_reducible exact H|(rw[hy4];exact H)|exact H
        have Ny4:=Za hy4;clear hy4
        have H':=Za H
        clear H
        try go_wp2
        replace HO_0:=Za (Kd.R_drew HO_0.out);replace HK:=Za (Kept.drew HK.out);replace HB:=Za (Zp HB.out)
        have p1:0≤(x3_1:Int):=Zd (by first|(with_reducible assumption)|assumption)
        have q1:x3_1<(x0_1.length:Int):=Zd (by first|(with_reducible assumption)|assumption)
        obtain⟨ad1,e1,hx1_0⟩:=Kd.at_int (Kd.R_reads' HO_0.out).2.2 x3_1 p1 q1
        cases e1
        replace p1:=eq_true p1
        replace q1:=eq_true q1
        have p86002:0≤(x2_1:Int):=Zd (by first|(with_reducible assumption)|assumption)
        have q2:x2_1<(x0_1.length:Int):=Zd (by first|(with_reducible assumption)|assumption)
        obtain⟨ad2,e2,hx2_0⟩:=Kd.at_int (Kd.R_reads' HO_0.out).2.2 x2_1 p86002 q2
        obtain rfl:ad1=ad2:=(by injection e2)
        replace p86002:=eq_true p86002
        replace q2:=eq_true q2
        have p8:0≤(x2_1:Int):=Zd (by first|(with_reducible assumption)|assumption)
        have q8:(x2_1:Int)<((x0_1.length:Int):Int):=Zd (by first|(with_reducible assumption)|assumption)
        obtain⟨go8,co8,eo8,gb8,gl8,cl8,HG8⟩:=Kd.R_form HO_0.out (by omega)
        (first|cases eo8|(injection eo8 with ea_ en_ ec_;(first|subst ea_|(injection ea_ with ea_;subst ea_));subst ec_;clear en_))
        have GB8:=Za gb8;have GG8:=Za HG8;clear gb8 gl8 HG8
        have HMgo8:=Za (show(P0_ go8∨w.heap.size≤go8) from(HO_0.out.1 _ rfl))
        (first|simp only[Zc3] at hx1_0|skip)
        (first|simp only[Zc3] at hx2_0|skip)
        obtain⟨hx8_0,hf8_0⟩:=Kd.R_celln 0 HO_0.out (x2_1:Int) p8 q8
        replace p8:=eq_true p8
        replace q8:=eq_true q8
        have HP11:=Kd.R_putn HO_0.out (x2_1:Int) (rd x0_1 x3_1)
        rw[← Ny3.out] at HP11
        have HQ11:=Za HP11;clear HP11
        have p9:0≤(x3_1:Int):=Zd (by first|(with_reducible assumption)|assumption)
        have q9:(x3_1:Int)<((x0_1.length:Int):Int):=Zd (by first|(with_reducible assumption)|assumption)
        obtain⟨hx9_0,hf9_0⟩:=Kd.R_celln 0 HQ11.out (x3_1:Int) p9 q9
        replace p9:=eq_true p9
        replace q9:=eq_true q9
        have HP12:=Kd.R_putn HQ11.out (x3_1:Int) (rd x0_1 x2_1)
        rw[← Ny4.out] at HP12
        have HQ12:=Za HP12;clear HP12
        refine Za9 (n:=16) (S:=fun w'=>w'.cell? ⟨go8,(x3_1).toNat,none⟩=some (.int .i64 (rd x0_1 x3_1))∧w'.cell? ⟨go8,(x2_1).toNat,none⟩=some (.int .i64 (rd x0_1 x2_1))) (ds:=[13,15]) #[false,false,false,false,false,false,false,false,false,false,false,false,false,false,false,false] (by kernel_rfl) rfl rfl ⟨hx1_0,hx2_0⟩ (fun hHeld=>?_);refine Zc1 ZL.tab3 ZL.bits3 (fun HT_ HW_=>?_)
        generalize wr.drew=w10 at HO_0 HK HB GG8 HQ11 HQ12 hf8_0 hf9_0 hx1_0 hx2_0 hx8_0 hx9_0 hHeld ⊢
        refine pu (N:=some 14) 0 ?_
        refine pu (N:=some 15) 1 ?_
        refine pu (N:=some 16) 2 ?_
        refine pu (N:=some 17) 3 ?_
        refine pu (N:=some 18) 4 ?_
        refine pu (N:=some 19) 5 ?_
        refine pu (N:=some 20) 6 ?_
        refine pu (N:=some 22) 8 ?_
        refine pu (N:=some 23) 9 ?_
        refine pu (N:=some 24) 10 ?_
        refine tk (N:=some 21) 7 hHeld ?_
        refine tk (N:=some 25) 11 hHeld ?_
        refine pu (N:=some 26) 12 ?_
        refine Zb3 (i:=13) (N:=none) #[true,true,true,true,true,true,true,true,true,true,true,true,true,true,false,false] rfl rfl (one_of HT_.out (by kernel_rfl)) (by decide) (fun K hK=>?_)
        refine Zcf (w1:=?_) (by rfl) rfl ?_ ?_
        rotate_left
        ·go_simp
         rfl
        refine hK.out _ _ ?_
        clear hK K
        refine pu (N:=some 27) 14 ?_
        refine Zb3 (i:=15) (N:=none) #[true,true,true,true,true,true,true,true,true,true,true,true,true,true,true,true] rfl rfl (one_of HT_.out (by kernel_rfl)) (by decide) (fun K hK=>?_)
        refine Zcf (w1:=?_) (by rfl) rfl ?_ ?_
        rotate_left
        ·go_simp
         rfl
        refine hK.out _ _ ?_
        clear hK K
        refine Zbu (ZdO HT_.out (by kernel_rfl)) ?_
        try go_wp2
        (try simp only[← hl0_1])
        go_roundg k1
        case measure=>have:=HK1.out;omega
        case rel=>exact⟨(y4),(wrap64 (x2_1+1)),(wrap64 (x3_1 - 1)),(by first|rfl|(simp;done)|(simp[*];done)),(by first|rfl|(simp;done)|(simp[*];done)),H',⟨by have:=HK1.out;omega⟩,⟨by(try simp only[hl0_1]);(with_reducible repeat(first|apply Kd.R_alloc|apply Kd.R_drewN|apply Kd.R_drew));exact HQ12.out⟩,⟨by repeat(first|(with_reducible first|exact HK.out|apply Kept.alloc|apply Kept.drewN|apply Kept.drew|refine Kept.setCell ?_ HMgo8.out _|refine Kept.setCell ?_ HMgo8.out _)|exact HK.out)⟩,⟨by repeat(first|(with_reducible first|exact HB.out|apply Zn|apply Zm|apply Zp|refine Zq ?_ GB8.out|refine Zq ?_ GB8.out)|exact HB.out)⟩⟩
       ·rw[if_neg c7] at H
        exact absurd H (by simp)
      ·rw[if_neg c6] at H
       exact absurd H (by simp)
     ·rw[if_neg c5] at H
      exact absurd H (by simp)
    ·rw[if_neg c4] at H
     exact absurd H (by simp)
   ·rw[if_neg c3] at H
    have c3b0:decide (x2_1<x3_1)=false:=Zf c3
    clear c3
    obtain rfl:=Zg H
    go_wp2
    first|go_end0|((try simp only[Exit.inBlock,Exit.then]);refine bodyPost_ret (results_none rfl _ _ _) rfl ?_)
    exact⟨by first|rfl|(simp[ZD,ZC] <;> rfl)|(simp[*,ZD,ZC] <;> rfl),(by first|exact(by(with_reducible repeat(first|apply Kd.R_alloc|apply Kd.R_drewN|apply Kd.R_drew));exact HO_0.out)|(simp only[hl0_1];exact(by(with_reducible repeat(first|apply Kd.R_alloc|apply Kd.R_drewN|apply Kd.R_drew));exact HO_0.out))),by repeat(first|(with_reducible first|exact HB.out|apply Zn|apply Zm|apply Zp)|exact HB.out),by repeat(first|(with_reducible first|exact HK.out|apply Kept.alloc|apply Kept.drewN|apply Kept.drew)|exact HK.out)⟩
theorem rd_mid (pre:List Int) (x:Int) (post:List Int):rd (pre ++ x :: post) (pre.length:Int)=x:=by
 rw[Zbq,List.getD_eq_getElem?_getD,List.getElem?_append_right (Nat.le_refl _),Nat.sub_self];rfl
theorem rev_l:∀(n:Nat) (M pre post:List Int) (k:Nat),M.length=n→n<k→(pre ++ M ++ post).length≤4611686018427387904 →
  ZL.l0 k (pre ++ M ++ post) (pre.length:Int) ((pre.length:Int)+(M.length:Int) - 1)=some (pre ++ M.reverse ++ post):=by
 intro n
 induction n using Nat.strongRecOn with
 | ind n ih=>
  intro M pre post k hM hk hl
  obtain⟨k,rfl⟩:∃m,k=m+1:=⟨k - 1,by omega⟩
  simp only[ZL.l0]
  cases M with
  | nil=>rw[if_neg (by simp only[List.length_nil];omega)];rfl
  | cons a t=>
   rcases List.eq_nil_or_concat t with rfl|⟨u,b,rfl⟩
   ·rw[if_neg (by simp only[List.length_cons,List.length_nil];omega)];rfl
   ·rw[List.concat_eq_append] at *
    have e0:pre ++ a :: (u ++ [b]) ++ post=pre ++ a :: (u ++ b :: post):=by simp
    have e1:pre ++ a :: (u ++ b :: post)=(pre ++ a :: u) ++ b :: post:=by simp
    have x3:(pre.length:Int)+((a :: (u ++ [b])).length:Int) - 1=((pre ++ a :: u).length:Int):=by simp;omega
    have x4:(pre ++ a :: u).length=pre.length+u.length+1:=by simp;omega
    have x5:(pre ++ a :: (u ++ b :: post)).length=pre.length+u.length+2+post.length:=by simp;omega
    rw[e0] at hl ⊢
    rw[x5] at hl
    rw[x3,rd_mid,if_pos (by omega),if_pos (by omega),if_pos (by omega),if_pos (by omega),if_pos (by omega)]
    rw[show rd (pre ++ a :: (u ++ b :: post)) ((pre ++ a :: u).length:Int)=b by rw[e1,rd_mid]]
    rw[Int.toNat_natCast,Int.toNat_natCast,set_mid]
    rw[show pre ++ b :: (u ++ b :: post)=(pre ++ b :: u) ++ b :: post by simp,show(pre ++ a :: u).length=(pre ++ b :: u).length by simp,set_mid]
    have x6:(pre ++ b :: u).length=pre.length+u.length+1:=by simp;omega
    rw[show wrap64 ((pre.length:Int)+1)=((pre ++ [b]).length:Int) by rw[Z9 (n:=pre.length+u.length+2+post.length) (by omega) (by omega)];simp]
    rw[show wrap64 (((pre ++ b :: u).length:Int) - 1)=((pre ++ [b]).length:Int)+(u.length:Int) - 1 by rw[x6,Z1 (by omega) (by omega)];simp;omega]
    rw[show(pre ++ b :: u) ++ a :: post=(pre ++ [b]) ++ u ++ (a :: post) by simp]
    simp only[List.length_cons,List.length_append,List.length_nil] at hM
    rw[ih u.length (by omega) u (pre ++ [b]) (a :: post) k rfl (by omega) (by simp;omega)]
    simp
theorem rev_f (l:List Int) (k:Nat) (hl:l.length≤4611686018427387904) (hk:2 ^ 64≤k):ZL.f k l=some l.reverse:=by
 unfold ZL.f
 have:=rev_l l.length l [] [] k rfl (by omega) (by simpa using hl)
 rw[Z1 (by omega) (by omega)]
 simpa using this
def Zcj.f (a0:Int) (a1:Int):Option (Int×Int):=some (IntKind.u64.wrap ((IntKind.u64.wrap ((IntKind.u64.wrap ((a0 / 4294967296) * (a1 / 4294967296)))+((IntKind.u64.wrap ((IntKind.u64.wrap ((a0 / 4294967296) * (Go.bits .and .u64 a1 4294967295)))+((IntKind.u64.wrap ((Go.bits .and .u64 a0 4294967295) * (Go.bits .and .u64 a1 4294967295))) / 4294967296))) / 4294967296)))+((IntKind.u64.wrap ((Go.bits .and .u64 (IntKind.u64.wrap ((IntKind.u64.wrap ((a0 / 4294967296) * (Go.bits .and .u64 a1 4294967295)))+((IntKind.u64.wrap ((Go.bits .and .u64 a0 4294967295) * (Go.bits .and .u64 a1 4294967295))) / 4294967296))) 4294967295)+(IntKind.u64.wrap ((Go.bits .and .u64 a0 4294967295) * (a1 / 4294967296))))) / 4294967296)),IntKind.u64.wrap (a0 * a1))
theorem Zcj.calls (a0:Int) (a1:Int) (r1:Int) (r2:Int) (w:World) (h:Zcj.f a0 a1=some (r1,r2)) :
  Calls Tryd.prog 135 #[.int .u64 a0,.int .u64 a1] w fun e w'=>e=.returned (.tuple #[.int .u64 r1,.int .u64 r2])∧ZQ w w':=by
 have H:(some (IntKind.u64.wrap ((IntKind.u64.wrap ((IntKind.u64.wrap ((a0 / 4294967296) * (a1 / 4294967296)))+((IntKind.u64.wrap ((IntKind.u64.wrap ((a0 / 4294967296) * (Go.bits .and .u64 a1 4294967295)))+((IntKind.u64.wrap ((Go.bits .and .u64 a0 4294967295) * (Go.bits .and .u64 a1 4294967295))) / 4294967296))) / 4294967296)))+((IntKind.u64.wrap ((Go.bits .and .u64 (IntKind.u64.wrap ((IntKind.u64.wrap ((a0 / 4294967296) * (Go.bits .and .u64 a1 4294967295)))+((IntKind.u64.wrap ((Go.bits .and .u64 a0 4294967295) * (Go.bits .and .u64 a1 4294967295))) / 4294967296))) 4294967295)+(IntKind.u64.wrap ((Go.bits .and .u64 a0 4294967295) * (a1 / 4294967296))))) / 4294967296)),IntKind.u64.wrap (a0 * a1)))=some (r1,r2):=h
 clear h
 simp only[Option.some.injEq,Prod.mk.injEq] at H
 obtain⟨rfl,rfl⟩:=H
 go_enter Tryd.func135,Tryd.ntmps135
 go_wp2
 go_ret2
 exact⟨by first|rfl|(simp;done)|(simp[*];done),by repeat(first|exact ZQ.refl _|apply ZQ.step)⟩
def Zee.f (a0:Int) (a1:Int):Option (Int×Int):=(Zcj.f a0 a1).bind fun bt1=>(some (bt1.1,bt1.2))
theorem Zee.calls (a0:Int) (a1:Int) (r1:Int) (r2:Int) (w:World) (h:Zee.f a0 a1=some (r1,r2)) :
  Calls Tryd.prog 116 #[.int .u64 a0,.int .u64 a1] w fun e w'=>e=.returned (.tuple #[.int .u64 r1,.int .u64 r2])∧ZQ w w':=by
 have H:((Zcj.f a0 a1).bind fun bt1=>(some (bt1.1,bt1.2)))=some (r1,r2):=h
 clear h
 replace H:=Zh H
 obtain⟨⟨t1,t2⟩,A30,H⟩:=H
 replace H:(some (t1,t2))=some (r1,r2):=H
 have A3:=Za A30;clear A30
 simp only[Option.some.injEq,Prod.mk.injEq] at H
 obtain⟨rfl,rfl⟩:=H
 go_enter Tryd.func116,Tryd.ntmps116
 go_wp2_with (first|((with_reducible refine ZU (f:=135) rfl ?_);refine Zaj (some 25) rfl rfl Tryd.func135 (by kernel_rfl) rfl #[.int .u64 a0,.int .u64 a1] rfl (by(try simp only[List.map_toArray,List.map_cons,List.map_nil]);first|done|rfl|(simp only[Zk,Zj];rfl)) ?_;(with_reducible refine(Zcj.calls a0 a1 t1 t2 _ A3.out).mono ?_);rintro e w' ⟨rfl,⟨nd,rfl⟩⟩;refine⟨_,rfl,?_⟩))
 go_ret2
 exact⟨by first|rfl|(simp;done)|(simp[*];done),by repeat(first|exact ZQ.refl _|apply ZQ.step)⟩
end Go.Proofs.YtoeimopgoaffcaaDoor.Pr
