/- The texts of one claim, put together by a program of this session. -/
import Derived.WalkSpells
import Derived.Deep.LoopGhost
import Derived.Shelf.Abstract
import Derived.Test.YtpoffpdaadhkgaaBNtc1x1
import Derived.Test.YtpoffpdaadhkgaaBNtc1x4
import Derived.Test.YtpoffpdaadhkgaaBNtc1x5
import Derived.Test.YtpoffpdaadhkgaaBNtc1x7
namespace Go.Proofs.Ytpoffpdaadhkgaa.Pr
open Go.RowKit Go.Proofs.YtpoffpdaadhkgaaW.PrintWords Go.Proofs.YtpoffpdaadhkgaaW.PrintLast Go.Proofs.YtpoffpdaadhkgaaW.PrintMore
attribute [local go_sem] Zaj Zah Zaq Zap Zac Zab Zai Zag
set_option linter.unusedVariables false
set_option linter.unusedSimpArgs false
open Go.Proofs.Ytpoffpdaadhkgaa.Ni
def Zav.f (k:Nat) (a0_0:Int) (l0_1:List (S101)):Option Bool:=(Z8.f a0_0 l0_1).bind fun b=>if b=true then(ZaT.f k a0_0 l0_1).bind fun g=>(Zan.f g.1 g.2).bind fun c=>some c.isEmpty else some false
set_option maxHeartbeats 4000000 in
set_option maxRecDepth 100000 in
theorem Zav.calls (k:Nat) (a0_0:Int) (A0_1:Option Addr) (c0_1:Nat) (l0_1:List (S101)) (r:Bool) (w:World) (hr0_1:Kd.C k101 w A0_1 l0_1.length l0_1) (hc0_1:l0_1.length≤c0_1) (h:Zav.f k a0_0 l0_1=some r) :
  Calls Try.prog 18 #[.agg #[.int .i64 a0_0,.slice A0_1 l0_1.length c0_1]] w fun e w'=>e=.returned (.bool r)∧Below w.heap.size w w':=by
 unfold Zav.f at h
 obtain⟨b,hb_,h⟩:=Option.bind_eq_some_iff.1 h
 have HS:=Za fun (W:World) (hb:Below w.heap.size w W)=>Z8.calls a0_0 A0_1 c0_1 l0_1 b W (Zb hr0_1 hb) hc0_1 hb_
 have B1:=Za (Zr (Below.refl w.heap.size w) (.cells #[.int .i64 a0_0,.slice A0_1 l0_1.length c0_1] 25))
 have K0:=Za (show(w.alloc (.cells #[.int .i64 a0_0,.slice A0_1 l0_1.length c0_1] 25)).cell? ⟨w.heap.size,0,none⟩=some (.int .i64 a0_0) by go_simp)
 have K1:=Za (show(w.alloc (.cells #[.int .i64 a0_0,.slice A0_1 l0_1.length c0_1] 25)).cell? ⟨w.heap.size,1,none⟩=some (.slice A0_1 l0_1.length c0_1) by go_simp)
 have hu:=Try.underlying25
 cases b with
 | false=>
  rw[if_neg (by simp)] at h
  obtain rfl:=Zg h
  clear hr0_1 hc0_1 hb_ h
  go_enter Try.func18,Try.ntmps18
  go_wp2_with (go_at_call 19;refine(HS.out _ B1.out).mono ?_;rintro e w1 ⟨rfl,hb⟩)
  go_ret
  exact⟨rfl,B1.out.trans (hb.mono B1.out.size)⟩
 | true=>
 rw[if_pos rfl] at h
 obtain⟨⟨g1,g2⟩,hg,h⟩:=Option.bind_eq_some_iff.1 h
 obtain⟨c,hc,h⟩:=Option.bind_eq_some_iff.1 h
 obtain rfl:=Zg h
 have HG:=Za fun (W:World) (hb:Below w.heap.size w W)=>ZaT.calls k a0_0 A0_1 c0_1 l0_1 g1 g2 W (Zb hr0_1 hb) hc0_1 hg
 have HNC:=Za fun (W:World) (A:Option Addr) (cc:Nat) (hr:Kd.C k148 W A g2.length g2) (hcc:g2.length≤cc)=>Zan.own g1 A cc g2 c W hr hcc hc
 clear hr0_1 hc0_1 hb_ hg hc h
 have hsn:=fun (W:World) (A:Option Addr) (n c:Nat)=>Lib.run_eql_slice_nil (P:=Try.prog) W 33 3 A n c 0 0 Try.underlying33
 cases hce:c with
 | nil=>
  rw[hce] at HNC
  clear hce
  go_enter Try.func18,Try.ntmps18
  go_wp2_with (first|(go_at_call 19;refine(HS.out _ B1.out).mono ?_;rintro e w1 ⟨rfl,hb⟩;have hk0:=ZO hb K0.out;have hk1:=ZO hb K1.out;have hlt:=Zc _ _ hk0;have HB:=Za (B1.out.trans (hb.mono B1.out.size));clear hb)|(go_at_call 66;refine(HG.out _ HB.out).mono ?_;rintro e w2 ⟨v1,rfl,hr,hb⟩;obtain⟨Ag,cg,rfl,hcg,hrg⟩:=Kd.R_reads hr;replace HB:=Za (HB.out.trans (hb.mono HB.out.size));have HRG:=Za (And.intro hcg hrg);clear hb hr hcg hrg hk0 hk1 hlt)|(go_at_call 68;refine(HNC.out _ Ag cg HRG.out.2 HRG.out.1).mono ?_;rintro e w3 ⟨v2,rfl,_,hnil,hb⟩;obtain rfl:=hnil.out (by first|rfl|trivial);replace HB:=Za (HB.out.trans (hb.mono HB.out.size));clear hb hnil))
  go_ret
  exact⟨rfl,HB.out⟩
 | cons x t=>
  rw[hce] at HNC
  clear hce
  go_enter Try.func18,Try.ntmps18
  go_wp2_with (first|(go_at_call 19;refine(HS.out _ B1.out).mono ?_;rintro e w1 ⟨rfl,hb⟩;have hk0:=ZO hb K0.out;have hk1:=ZO hb K1.out;have hlt:=Zc _ _ hk0;have HB:=Za (B1.out.trans (hb.mono B1.out.size));clear hb)|(go_at_call 66;refine(HG.out _ HB.out).mono ?_;rintro e w2 ⟨v1,rfl,hr,hb⟩;obtain⟨Ag,cg,rfl,hcg,hrg⟩:=Kd.R_reads hr;replace HB:=Za (HB.out.trans (hb.mono HB.out.size));have HRG:=Za (And.intro hcg hrg);clear hb hr hcg hrg hk0 hk1 hlt)|(go_at_call 68;refine(HNC.out _ Ag cg HRG.out.2 HRG.out.1).mono ?_;rintro e w3 ⟨v2,rfl,hr,_,hb⟩;obtain⟨g3,cap3,e3,_⟩:=Kd.R_form hr (by simp);rw[e3];replace HB:=Za (HB.out.trans (hb.mono HB.out.size));clear hb hr e3))
  go_ret
  exact⟨rfl,HB.out⟩
end Go.Proofs.Ytpoffpdaadhkgaa.Pr
namespace Go.Proofs.Ytpoffpdaadhkgaa.Pr
open Go.RowKit Go.Proofs.YtpoffpdaadhkgaaW.PrintWords Go.Proofs.YtpoffpdaadhkgaaW.PrintLast Go.Proofs.YtpoffpdaadhkgaaW.PrintMore
attribute [local go_sem] Zaj Zah Zaq Zap Zac Zab Zai Zag
set_option linter.unusedVariables false
set_option linter.unusedSimpArgs false
def Zbz.f (a0:Int):Option (Bool):=if a0≥0 then(some (decide (a0<1000000))) else(some false)
set_option maxHeartbeats 8000000 in
set_option maxRecDepth 100000 in
theorem Zbz.calls (a0:Int) (r:Bool) (w:World) (h:Zbz.f a0=some r) :
  Calls Try.prog 76 #[.int .i64 a0] w fun e w'=>e=.returned (.bool r)∧Z1 w w':=by
 have H:(if a0≥0 then(some (decide (a0<1000000))) else(some false))=some r:=h
 clear h
 by_cases c2:a0≥0
 ·rw[if_pos c2] at H
  have c2b0:decide (0≤a0)=true:=Ze c2
  clear c2
  obtain rfl:=Zg H
  go_enter Try.func76,Try.ntmps76
  go_wp2
  go_ret
  exact⟨by first|rfl|(simp;done)|(simp[*];done),by repeat(first|exact Z1.refl _|apply Z1.step)⟩
 ·rw[if_neg c2] at H
  have c2b0:decide (0≤a0)=false:=Zf c2
  clear c2
  obtain rfl:=Zg H
  go_enter Try.func76,Try.ntmps76
  go_wp2
  go_ret
  exact⟨by first|rfl|(simp;done)|(simp[*];done),by repeat(first|exact Z1.refl _|apply Z1.step)⟩
end Go.Proofs.Ytpoffpdaadhkgaa.Pr
namespace Go.Proofs.Ytpoffpdaadhkgaa.Pr
open Go.RowKit Go.Proofs.YtpoffpdaadhkgaaW.PrintWords Go.Proofs.YtpoffpdaadhkgaaW.PrintLast Go.Proofs.YtpoffpdaadhkgaaW.PrintMore
attribute [local go_sem] Zaj Zah Zaq Zap Zac Zab Zai Zag
set_option linter.unusedVariables false
set_option linter.unusedSimpArgs false
open Go.Proofs.Ytpoffpdaadhkgaa.Ni
set_option maxHeartbeats 4000000 in
theorem Zcb.any (p:Int→Bool) (g:Nat) (lb:Array Value) (eg:∀args w,(callFunc g args).run Try.prog w=.ok (.enter g args) w) (A0:Option Addr) (c0:Nat) (l0:List Int) (w:World) (hr0:Kd.C (Kd.int .i64) w A0 l0.length l0)
  (hp:∀(W:World) (x:Int),x∈l0→Below w.heap.size w W→Calls Try.prog g (#[.int .i64 x] ++ lb) W fun e w'=>e=.returned (.bool (p x))∧Below W.heap.size W w') :
  Calls Try.prog 124 #[.slice A0 l0.length c0,.func (.func g) #[] lb] w fun e w'=>e=.returned (.int .i64 (ZbK p l0))∧Below w.heap.size w w':=by
 have HR0:=Za hr0;have HP:=Za hp;clear hr0 hp
 have HL:l0.length≤9223372036854775807:=HR0.out.2.1
 go_enter Try.func124,Try.ntmps124
 go_wp2
 go_loopg [5,8] l0.length (fun gg _ s8 wr=>∃kk:Nat,Aside0 (kk≤l0.length)∧Aside0 (l0.length - kk≤gg)∧s8=.int .i64 kk∧Aside0 (Below w.heap.size w wr)∧Aside0 (∀j y,j<kk→l0[j]? = some y→p y=false))
 case atStart=>exact⟨0,⟨Nat.zero_le _⟩,⟨by omega⟩,rfl,⟨Below.refl _ _⟩,⟨fun j y hj=>absurd hj (Nat.not_lt_zero _)⟩⟩
 case round=>
  obtain⟨kk,HK,HG,rfl,HB,HN⟩:=hrel
  by_cases hlt:kk<l0.length
  ·have hltz:(kk:Int)<(l0.length:Int):=by omega
   obtain⟨ad,e1,hx0⟩:=Kd.at_int HR0.out (kk:Int) (by omega) hltz
   cases e1
   replace hx0:=(HB.out.cell (Zc w _ hx0)).trans hx0
   rw[Int.toNat_natCast] at hx0
   have hxe:l0[kk]? = some (rd l0 (kk:Int)):=by
    unfold rd
    rw[Int.toNat_natCast,List.getD_eq_getElem?_getD,Zl hlt];rfl
   generalize rd l0 (kk:Int)=y at hx0 hxe
   have HX:=Za hxe;clear hxe
   have hcall:=HP.out wr y (List.mem_of_getElem? HX.out) HB.out
   cases hq:p y with
   | true=>
    have HQ:=Za hq
    rw[hq] at hcall
    clear hq
    go_wp2_with (go_at_fn g;refine hcall.mono ?_;rintro e w' ⟨rfl,hb⟩)
    go_ret
    exact⟨by rw[ZcM p l0 kk y HX.out HQ.out HN.out];rfl,HB.out.trans (hb.mono HB.out.size)⟩
   | false=>
    have HQ:=Za hq
    rw[hq] at hcall
    clear hq
    go_wp2_with (go_at_fn g;refine hcall.mono ?_;rintro e w' ⟨rfl,hb⟩)
    go_roundg (l0.length - (kk+1))
    case measure=>have:=HG.out;omega
    case rel=>
     refine⟨kk+1,⟨by omega⟩,⟨by omega⟩,by go_num,⟨HB.out.trans (hb.mono HB.out.size)⟩,⟨fun j y' hj hy=>?_⟩⟩
     by_cases e:j=kk
     ·subst e
      rw[HX.out] at hy
      cases hy
      exact HQ.out
     ·exact HN.out j y' (by omega) hy
  ·have hltz:¬(kk:Int)<(l0.length:Int):=by omega
   have:kk=l0.length:=by have:=HK.out;omega
   subst this
   go_wp2
   go_ret
   exact⟨by rw[ZcE p l0 HN.out];rfl,HB.out⟩
set_option maxHeartbeats 4000000 in
theorem Zb1.any (p:Int→Bool) (g:Nat) (lb:Array Value) (eg:∀args w,(callFunc g args).run Try.prog w=.ok (.enter g args) w) (A0:Option Addr) (c0:Nat) (l0:List Int) (w:World) (hr0:Kd.C (Kd.int .i64) w A0 l0.length l0)
  (hp:∀(W:World) (x:Int),x∈l0→Below w.heap.size w W→Calls Try.prog g (#[.int .i64 x] ++ lb) W fun e w'=>e=.returned (.bool (p x))∧Below W.heap.size W w') :
  Calls Try.prog 77 #[.slice A0 l0.length c0,.func (.func g) #[] lb] w fun e w'=>e=.returned (.bool (l0.any p))∧Below w.heap.size w w':=by
 have HI:=Za (Zcb.any p g lb eg A0 c0 l0 w hr0 hp)
 clear hr0 hp
 have HE:=Za (ZcN p l0)
 go_enter Try.func77,Try.ntmps77
 go_wp2_with (go_at_call 124;refine HI.out.mono ?_;rintro e w' ⟨rfl,hb⟩)
 go_ret
 exact⟨by rw[← HE.out];rfl,hb⟩
end Go.Proofs.Ytpoffpdaadhkgaa.Pr
namespace Go.Proofs.Ytpoffpdaadhkgaa.Pr
open Go.RowKit Go.Proofs.YtpoffpdaadhkgaaW.PrintWords Go.Proofs.YtpoffpdaadhkgaaW.PrintLast Go.Proofs.YtpoffpdaadhkgaaW.PrintMore
attribute [local go_sem] Zaj Zah Zaq Zap Zac Zab Zai Zag
set_option linter.unusedVariables false
set_option linter.unusedSimpArgs false
def Zbn.f (a0:Int):Option (Bool):=if a0=(-1) then(some false) else((Zbz.f a0).bind fun t78001=>(some (!t78001)))
set_option maxHeartbeats 8000000 in
set_option maxRecDepth 100000 in
theorem Zbn.calls (a0:Int) (r:Bool) (w:World) (h:Zbn.f a0=some r) :
  Calls Try.prog 78 #[.int .i64 a0] w fun e w'=>e=.returned (.bool r)∧Z1 w w':=by
 have H:(if a0=(-1) then(some false) else((Zbz.f a0).bind fun t78001=>(some (!t78001))))=some r:=h
 clear h
 by_cases c2:a0=(-1)
 ·rw[if_pos c2] at H
  have c2b0:(a0 == (-1))=true:=beq_iff_eq.mpr c2
  have c2b1:(a0 != (-1))=false:=bne_eq_false_iff_eq.mpr c2
  clear c2
  obtain rfl:=Zg H
  go_enter Try.func78,Try.ntmps78
  go_wp2
  go_ret
  exact⟨by first|rfl|(simp;done)|(simp[*];done),by repeat(first|exact Z1.refl _|apply Z1.step)⟩
 ·rw[if_neg c2] at H
  have c2b0:(a0 == (-1))=false:=beq_eq_false_iff_ne.mpr c2
  have c2b1:(a0 != (-1))=true:=bne_iff_ne.mpr c2
  replace H:=Zh H
  obtain⟨t78001,A30,H⟩:=H
  replace H:(some (!t78001))=some r:=H
  have A3:=Za A30;clear A30
  obtain rfl:=Zg H
  go_enter Try.func78,Try.ntmps78
  go_wp2_with (first|(go_at_call 76;(with_reducible refine(Zbz.calls a0 t78001 _ A3.out).mono ?_);rintro e w' ⟨rfl,⟨nd,rfl⟩⟩))
  go_ret
  exact⟨by first|rfl|(simp;done)|(simp[*];done),by repeat(first|exact Z1.refl _|apply Z1.step)⟩
end Go.Proofs.Ytpoffpdaadhkgaa.Pr
namespace Go.Proofs.Ytpoffpdaadhkgaa.Pr
open Go.RowKit Go.Proofs.YtpoffpdaadhkgaaW.PrintWords Go.Proofs.YtpoffpdaadhkgaaW.PrintLast Go.Proofs.YtpoffpdaadhkgaaW.PrintMore
attribute [local go_sem] Zaj Zah Zaq Zap Zac Zab Zai Zag
set_option linter.unusedVariables false
set_option linter.unusedSimpArgs false
open Go.Proofs.Ytpoffpdaadhkgaa.Ni
def Zbj (x:Int):Bool:=decide (-1≤x) && decide (x<1000000)
def partB (n:Int) (L:List S101) (tm:List Int):Bool:=Zao n L && (decide ((tm.length:Int)=n) && (decide (tm.getD 0 0=0) && !(tm.any fun x=>!Zbj x)))
def ZaV.f (a0_0:Int) (l0_1:List (S101)) (l1:List Int):Option Bool:=some (partB a0_0 l0_1 l1)
theorem ZaV.t (x:Int):Zbn.f x=some (!Zbj x):=by
 unfold Zbn.f Zbj
 simp only[Zbz.f]
 by_cases h1:x=-1
 ·subst h1;rfl
 ·by_cases h2:x≥0
  ·by_cases h3:x<1000000
   ·simp[h1,h2,h3];omega
   ·simp[h1,h2,h3]
  ·simp[h1,h2];omega
set_option maxHeartbeats 4000000 in
set_option maxRecDepth 100000 in
theorem ZaV.calls (a0_0:Int) (A0_1:Option Addr) (c0_1:Nat) (l0_1:List (S101)) (A1:Option Addr) (c1:Nat) (l1:List Int) (r:Bool) (w:World) (hr0_1:Kd.C k101 w A0_1 l0_1.length l0_1) (hc0_1:l0_1.length≤c0_1) (hr1:Kd.C (Kd.int .i64) w A1 l1.length l1) (hc1:l1.length≤c1) (h:ZaV.f a0_0 l0_1 l1=some r) :
  Calls Try.prog 26 #[.agg #[.int .i64 a0_0,.slice A0_1 l0_1.length c0_1],.slice A1 l1.length c1] w fun e w'=>e=.returned (.bool r)∧Below w.heap.size w w':=by
 have h':=Zg h
 have HN:=Za h'
 have HS:=Za fun (W:World) (hb:Below w.heap.size w W)=>Z8.calls a0_0 A0_1 c0_1 l0_1 _ W (Zb hr0_1 hb) hc0_1 rfl
 have B1:=Za (Zr (Below.refl w.heap.size w) (.cells #[.int .i64 a0_0,.slice A0_1 l0_1.length c0_1] 25))
 have K0:=Za (show(w.alloc (.cells #[.int .i64 a0_0,.slice A0_1 l0_1.length c0_1] 25)).cell? ⟨w.heap.size,0,none⟩=some (.int .i64 a0_0) by go_simp)
 have HC:=Za fun (W:World) (hb:Below w.heap.size w W)=>(Zb1.any (fun x=>!Zbj x) 78 #[] (enters_of Try.func78 (by kernel_rfl) rfl) A1 c1 l1 W (Zb hr1 hb)
  (fun W' x _ _=>(Zbn.calls x _ W' (ZaV.t x)).mono fun _ _ ⟨he,hd⟩=>⟨he,by first|exact hd|exact hd.below⟩))
 have hu:=Try.underlying25
 have HR1:=Za hr1
 have hL1:l1.length≤9223372036854775807:=hr1.2.1
 clear hr0_1 hc0_1 hr1 hc1 h h'
 have HA:=Za (show partB a0_0 l0_1 l1=(Zao a0_0 l0_1 && (decide ((l1.length:Int)=a0_0) && (decide (l1.getD 0 0=0) && !(l1.any fun x=>!Zbj x)))) from rfl)
 cases hs:Zao a0_0 l0_1 with
 | false=>
  rw[hs] at HS HA
  have HF:=Za (show false=r by rw[← HN.out,HA.out];rfl)
  clear hs
  go_enter Try.func26,Try.ntmps26
  go_wp2_with (go_at_call 19;refine(HS.out _ B1.out).mono ?_;rintro e w1 ⟨rfl,hb⟩)
  go_ret
  exact⟨by rw[← HF.out];rfl,B1.out.trans (hb.mono B1.out.size)⟩
 | true=>
 rw[hs] at HS HA
 have hpos:1≤a0_0:=by
  unfold Zao at hs
  simp only[Bool.and_eq_true,Bool.not_eq_true',decide_eq_false_iff_not] at hs
  omega
 have HPOS:=Za hpos;clear hs hpos
 by_cases hl:(l1.length:Int)=a0_0
 case neg=>
  have hd:((l1.length:Int) != a0_0)=true:=by simpa using hl
  have HF:=Za (show false=r by rw[← HN.out,HA.out,Zf hl];rfl)
  clear hl
  go_enter Try.func26,Try.ntmps26
  go_wp2_with (go_at_call 19;refine(HS.out _ B1.out).mono ?_;rintro e w1 ⟨rfl,hb⟩;have hk0:=ZO hb K0.out;have hlt:=Zc _ _ hk0)
  go_ret
  exact⟨by rw[← HF.out];rfl,B1.out.trans (hb.mono B1.out.size)⟩
 have hd:((l1.length:Int) != a0_0)=false:=by simpa using hl
 have h0z:(0:Int)<(l1.length:Int):=by have:=HPOS.out;omega
 rw[Ze hl] at HA
 clear hl
 obtain⟨ad,e1,hx⟩:=Kd.at_int HR1.out 0 (Int.le_refl 0) h0z
 cases e1
 replace hx:w.cell? (ad.add 0)=some (.int .i64 (rd l1 0)):=hx
 rw[show rd l1 0=l1.getD 0 0 from rfl,Addr.add_zero'] at hx
 have h0n:0<l1.length:=by omega
 have HX:=Za hx;clear hx
 generalize l1.getD 0 0=z at HX HA
 by_cases hz:z=0
 case neg=>
  have hzd:(z != 0)=true:=by simpa using hz
  have HF:=Za (show false=r by rw[← HN.out,HA.out,Zf hz];rfl)
  clear hz
  go_enter Try.func26,Try.ntmps26
  go_wp2_with (go_at_call 19;refine(HS.out _ B1.out).mono ?_;rintro e w1 ⟨rfl,hb⟩;have hk0:=ZO hb K0.out;have hlt:=Zc _ _ hk0;have hx1:=ZO (B1.out.trans (hb.mono B1.out.size)) HX.out)
  go_ret
  exact⟨by rw[← HF.out];rfl,B1.out.trans (hb.mono B1.out.size)⟩
 subst hz
 have HF:=Za (show(!(l1.any fun x=>!Zbj x))=r by rw[← HN.out,HA.out];simp)
 generalize l1.any (fun x=>!Zbj x)=q at HC HF
 go_enter Try.func26,Try.ntmps26
 go_wp2_with (first|(go_at_call 19;refine(HS.out _ B1.out).mono ?_;rintro e w1 ⟨rfl,hb⟩;have hk0:=ZO hb K0.out;have hlt:=Zc _ _ hk0;have hx1:=ZO (B1.out.trans (hb.mono B1.out.size)) HX.out;have HB:=Za (B1.out.trans (hb.mono B1.out.size));clear hb)|(go_at_call 77;refine(HC.out _ HB.out).mono ?_;rintro e w2 ⟨rfl,hb⟩))
 go_ret
 exact⟨by rw[← HF.out];rfl,HB.out.trans (hb.mono HB.out.size)⟩
end Go.Proofs.Ytpoffpdaadhkgaa.Pr
namespace Go.Proofs.Ytpoffpdaadhkgaa.Pr
open Go.RowKit Go.Proofs.YtpoffpdaadhkgaaW.PrintWords Go.Proofs.YtpoffpdaadhkgaaW.PrintLast Go.Proofs.YtpoffpdaadhkgaaW.PrintMore
attribute [local go_sem] Zaj Zah Zaq Zap Zac Zab Zai Zag
set_option linter.unusedVariables false
set_option linter.unusedSimpArgs false
def ZaS.f (l0:List S101):Option (List S101):=if l0.length<4398046511104 then some l0 else none
set_option maxHeartbeats 4000000 in
set_option maxRecDepth 100000 in
theorem ZaS.calls (A0:Option Addr) (c0:Nat) (l0:List S101) (r:List S101) (w:World) (hr0:Kd.C k101 w A0 l0.length l0) (hc0:l0.length≤c0) (h:ZaS.f l0=some r) :
  Calls Try.prog 73 #[.slice A0 l0.length c0] w fun e w'=>∃v0_:Value,e=.returned (v0_)∧Kd.R k101 101 w' w.heap.size (fun _=>True) v0_ r∧Below w.heap.size w w':=by
 unfold ZaS.f at h
 by_cases hl:l0.length<4398046511104
 case neg=>rw[if_neg hl] at h;exact absurd h (by simp)
 rw[if_pos hl] at h
 obtain rfl:=Zg h
 have HR0:=Za hr0;have HLM:=Za hl
 have hsn:=fun (W:World) (A:Option Addr) (n c:Nat)=>Lib.run_eql_slice_nil (P:=Try.prog) W 23 101 A n c 0 0 Try.underlying23
 clear hr0 hc0 hl h
 cases A0 with
 | none=>
  have hn:l0=[]:=by
   cases l0 with
   | nil=>rfl
   | cons a l=>
    obtain⟨ad,he,_⟩:=HR0.out.2.2 (by simp)
    cases he
  have HN:=Za hn;clear hn
  generalize hq:l0.length=n
  clear hq
  go_enter Try.func73,Try.ntmps73
  go_wp2
  go_ret
  exact⟨_,rfl,by rw[HN.out];exact Kd.R_nil _ _ _ _ _,Below.refl _ _⟩
 | some A0=>
  go_enter Try.func73,Try.ntmps73
  go_wp2_with (first|((with_reducible refine ZD (N:=5) rfl ?_);refine Kd.R_lit k101 _ 101 ?hg (N:=5) ?hd (xs:=([]:List S101)) (inner:=[]) (ok:=fun _=>True) (okp:=fun _=>True) ?hr ?hp (fun _ hk=>hk) trivial (Below.refl _ _) (Nat.le_refl _) (by simp) ?_;(case hd=>rfl);(case hg=>rfl);(case hr=>first|(go_simp;done)|(go_simp;rfl));(case hp=>exact(Reps.none _ _));intro v1 w3 ho hb _ _;have HO:=Za ho;have HB:=Za hb;clear ho hb)|((with_reducible refine Zae (b:=.append) (xs:=#[.tmp 5,.tmp 6]) rfl ?_);at_builtin;refine Kd.R_append_rows k101 (w0:=w) w.heap.size rfl (.tmp 5) (.tmp 6) 23 101 (.agg #[(.int .i64 0),(.int .i64 0),(.int .i64 0),(.int .i64 0)]) 32 rfl Try.underlying23 Zcu rfl (by decide) (by omega) v1 [] l0 _ _ _ (fun _=>True) (fun _=>False) rfl rfl ?aO ?aR (fun _ _ h=>h) (fun _ h=>h.elim) ?aF ?aB ?aS ?aL ?_;(case aR=>exact Zb HR0.out HB.out);(case aB=>exact HB.out);(case aF=>exact(fun _ _=>trivial));(case aO=>exact HO.out);(case aS=>exact HB.out.size);(case aL=>have:=HLM.out;simp only[List.length_nil];omega);intro v2 w5 ho hb hg hat;have HO2:=Za ho;have HB2:=Za hb;clear ho hb hg hat))
  go_ret
  exact⟨_,rfl,HO2.out,HB2.out⟩
def ZX.l0:Nat→List Int→Int→Int→Int→List (S101)→Option (Int×(List (S101))×Bool)
 | 0,_,_,_,_,_=>none
 | k+1,x20,x21,x22,x20008000,x20008001=>if x22<x21 then(if 0≤x22 then(if x22<(x20.length:Int) then(if x22 > 0 then(if (rd x20 x22)=(-1) then(ZX.l0 k x20 x21 (wrap64 (x22+1)) x20008000 x20008001) else(if x20008001.length<4398046511104 then(ZX.l0 k x20 x21 (wrap64 (x22+1)) x20008000 (x20008001 ++ [(⟨0,x22,(⟨rd x20 x22,rd x20 x22⟩:S29)⟩:S101)])) else(none))) else(ZX.l0 k x20 x21 (wrap64 (x22+1)) x20008000 x20008001)) else(none)) else(none)) else((Z8.f x20008000 x20008001).bind fun t20012=>(if t20012=true then(some (x20008000,x20008001,true)) else(some (0,([]:List (S101)),false))))
def ZX.f (k:Nat) (a0_0:Int) (l0_1:List (S101)) (l1:List Int):Option (Int×(List (S101))×Bool):=(ZaV.f a0_0 l0_1 l1).bind fun t20003=>(if t20003=true then((ZaS.f l0_1).bind fun t20004=>(ZX.l0 k l1 (l1.length:Int) 0 a0_0 t20004)) else(some (0,([]:List (S101)),false)))
def ZX.T3:Bool×List (List Nat×List Nat):=(true,[([],[]),([0],[0]),([],[]),([2],[2]),([3],[3]),([1,4],[1,4]),([],[]),([6,5,4,0,1,2,3,4,5,6],[5,6])])
def ZX.B3:List Nat:=[0,1,0,4,12,31,0,127]
theorem ZX.tab3:rtab .any (opsOf Try.f20 3)=ZX.T3:=by kernel_rfl
theorem ZX.bits3:Zbr ZX.T3.2 ZX.B3=true:=by kernel_rfl
set_option maxHeartbeats 8000000 in
set_option maxRecDepth 100000 in
theorem ZX.calls (k:Nat) (a0_0:Int) (A0_1:Option Addr) (c0_1:Nat) (l0_1:List (S101)) (A1:Option Addr) (c1:Nat) (l1:List Int) (r1:Int) (r2:List (S101)) (r3:Bool) (w:World) (hr0_1:Kd.C k101 w A0_1 l0_1.length l0_1) (hc0_1:l0_1.length≤c0_1) (hr1:Kd.C (Kd.int .i64) w A1 l1.length l1) (hc1:l1.length≤c1) (h:ZX.f k a0_0 l0_1 l1=some (r1,r2,r3)) :
  Calls Try.prog 20 #[.agg #[.int .i64 a0_0,.slice A0_1 l0_1.length c0_1],.slice A1 l1.length c1] w fun e w'=>∃v1_:Value,e=.returned (.tuple #[.agg #[.int .i64 r1,v1_],.bool r3])∧Kd.R k101 101 w' w.heap.size (fun _=>True) v1_ r2∧Below w.heap.size w w':=by
 have hu25:=Try.underlying25
 have hu29:=Try.underlying29
 have hu101:=Try.underlying101
 have HR0_1:=Za hr0_1;have HC0_1:=Za hc0_1;clear hr0_1 hc0_1;have HR1:=Za hr1;have HC1:=Za hc1;clear hr1 hc1
 have HB:=Za (Below.refl w.heap.size w)
 have H:((ZaV.f a0_0 l0_1 l1).bind fun t20003=>(if t20003=true then((ZaS.f l0_1).bind fun t20004=>(ZX.l0 k l1 (l1.length:Int) 0 a0_0 t20004)) else(some (0,([]:List (S101)),false))))=some (r1,r2,r3):=h
 clear h
 replace H:=Zh H
 obtain⟨t20003,A30,H⟩:=H
 replace H:(if t20003=true then((ZaS.f l0_1).bind fun t20004=>(ZX.l0 k l1 (l1.length:Int) 0 a0_0 t20004)) else(some (0,([]:List (S101)),false)))=some (r1,r2,r3):=H
 have A3:=Za A30;clear A30
 by_cases c4:t20003=true
 ·subst c4
  have H1:((ZaS.f l0_1).bind fun t20004=>(ZX.l0 k l1 (l1.length:Int) 0 a0_0 t20004))=some (r1,r2,r3):=by rw[if_pos rfl] at H;exact H
  clear H
  have H:=H1
  clear H1
  replace H:=Zh H
  obtain⟨t20004,A50,H⟩:=H
  replace H:(ZX.l0 k l1 (l1.length:Int) 0 a0_0 t20004)=some (r1,r2,r3):=H
  have A5:=Za A50;clear A50
  have H':=Za H
  clear H
  go_enter Try.func20,Try.ntmps20
  try go_wp2_with (first|((with_reducible refine ZD (N:=2) rfl ?_);refine ZE ?hg (N:=2) ?hd (cs:=#[.int .i64 a0_0,.slice A0_1 l0_1.length c0_1]) (t:=25) ?hr ?_;(case hd=>rfl);(case hg=>rfl);(case hr=>first|(go_simp;done)|(go_simp;rfl));intro gb20001 hg w6 hbox hb;have n0_:=Za (Zy (by repeat(first|(with_reducible first|exact HB.out|apply Zr|apply Zm|apply Zs)|exact HB.out)) hb);have n1_:=Za (hbox);have n2_:=Za ((by rw[hg];exact(Zv (by repeat(first|(with_reducible first|exact HB.out|apply Zr|apply Zm|apply Zs)|exact HB.out))):w.heap.size≤gb20001));have n3_:=Za ((by rw[hg];exact(Zv (by repeat(first|(with_reducible first|exact HB.out|apply Zr|apply Zm|apply Zs)|exact HB.out))):w.heap.size≤gb20001));clear HB;have HB:=n0_;have BK20001:=n1_;have GW20001:=n2_;have GE20001:=n3_;clear n0_ n1_ n2_ n3_;clear hb hbox hg)|((with_reducible refine ZD (N:=4) rfl ?_);refine ZE ?hg (N:=4) ?hd (cs:=#[.int .i64 0,.slice none 0 0]) (t:=25) ?hr ?_;(case hd=>rfl);(case hg=>rfl);(case hr=>first|(go_simp;done)|(go_simp;rfl));intro gb20002 hg w7 hbox hb;have n0_:=Za (Zx (g:=gb20001) (o:=.cells #[.int .i64 a0_0,.slice A0_1 l0_1.length c0_1] 25 (0,0)) (by(with_reducible repeat(first|refine Zo ?_ _|refine Zq ?_|refine Zn ?_ _));exact BK20001.out) hb);have n1_:=Za (Zy (by repeat(first|(with_reducible first|exact HB.out|apply Zr|apply Zm|apply Zs|refine Zp ?_ GE20001.out)|exact HB.out)) hb);have n2_:=Za (hbox);have n3_:=Za ((by rw[hg];exact(Zv (by repeat(first|(with_reducible first|exact HB.out|apply Zr|apply Zm|apply Zs|refine Zp ?_ GE20001.out)|exact HB.out))):w.heap.size≤gb20002));have n4_:=Za ((by rw[hg];exact(Zv (by repeat(first|(with_reducible first|exact HB.out|apply Zr|apply Zm|apply Zs|refine Zp ?_ GE20001.out)|exact HB.out))):w.heap.size≤gb20002));have n5_:=Za ((by rw[hg];exact Nat.ne_of_lt (ZB (g:=gb20001) (o:=.cells #[.int .i64 a0_0,.slice A0_1 l0_1.length c0_1] 25 (0,0)) (by(with_reducible repeat(first|refine Zo ?_ _|refine Zq ?_|refine Zn ?_ _));exact BK20001.out)):gb20001≠gb20002));have n6_:=Za ((by rw[hg];exact Nat.ne_of_gt (ZB (g:=gb20001) (o:=.cells #[.int .i64 a0_0,.slice A0_1 l0_1.length c0_1] 25 (0,0)) (by(with_reducible repeat(first|refine Zo ?_ _|refine Zq ?_|refine Zn ?_ _));exact BK20001.out)):gb20002≠gb20001));clear BK20001;clear HB;have BK20001:=n0_;have HB:=n1_;have BK20002:=n2_;have GW20002:=n3_;have GE20002:=n4_;have NB20001_20002:=n5_;have NB20002_20001:=n6_;clear n0_ n1_ n2_ n3_ n4_ n5_ n6_;clear hb hbox hg;have hnb8:=NB20001_20002.out;have hnc8:=NB20002_20001.out;have hcz9_0:w7.cell? ⟨gb20001,0,none⟩=some (.int .i64 a0_0):=(Zu BK20001.out 0).trans rfl;have hcz9_1:w7.cell? ⟨gb20001,1,none⟩=some (.slice A0_1 l0_1.length c0_1):=(Zu BK20001.out 1).trans rfl;have hfz9_0:=Zt BK20001.out 0;have hfz9_1:=Zt BK20001.out 1)|((with_reducible refine ZG (f:=26) rfl ?_);refine ZV (some 11) rfl rfl Try.func26 (by kernel_rfl) rfl #[.agg #[.int .i64 a0_0,.slice A0_1 l0_1.length c0_1],.slice A1 l1.length c1] rfl (by(try simp only[List.map_toArray,List.map_cons,List.map_nil]);first|done|rfl|(simp only[Zk,Zj];rfl)) ?_;(with_reducible refine(ZaV.calls a0_0 _ _ l0_1 _ _ l1 true _ ?side1 ?side2 ?side3 ?side4 A3.out).mono ?_);(case side1=>repeat(first|exact(Zb HR0_1.out HB.out)|(with_reducible refine Kd.C_alloc ?_ _)|(with_reducible refine Kd.C_drewN ?_ _)|(with_reducible refine Kd.C_drew ?_)));(case side2=>exact HC0_1.out);(case side3=>repeat(first|exact(Zb HR1.out HB.out)|(with_reducible refine Kd.C_alloc ?_ _)|(with_reducible refine Kd.C_drewN ?_ _)|(with_reducible refine Kd.C_drew ?_)));(case side4=>exact HC1.out);rintro e w10 ⟨rfl,hb⟩;refine⟨_,rfl,?_⟩;have n0_:=Za (Zx (g:=gb20001) (o:=.cells #[.int .i64 a0_0,.slice A0_1 l0_1.length c0_1] 25 (0,0)) (by(with_reducible repeat(first|refine Zo ?_ _|refine Zq ?_|refine Zn ?_ _));exact BK20001.out) hb);have n1_:=Za (Zx (g:=gb20002) (o:=.cells #[.int .i64 0,.slice none 0 0] 25 (0,0)) (by(with_reducible repeat(first|refine Zo ?_ _|refine Zq ?_|refine Zn ?_ _));exact BK20002.out) hb);have n2_:=Za (Zy (by repeat(first|(with_reducible first|exact HB.out|apply Zr|apply Zm|apply Zs|refine Zp ?_ GE20001.out|refine Zp ?_ GE20002.out)|exact HB.out)) hb);clear BK20001;clear BK20002;clear HB;have BK20001:=n0_;have BK20002:=n1_;have HB:=n2_;clear n0_ n1_ n2_;(try clear hb);(try clear hb2);(try clear hk);(try clear hi)))
  have n0_:=Za (Zq BK20001.out)
  have n1_:=Za (Zq BK20002.out)
  have n2_:=Za (Zs HB.out)
  clear BK20001 BK20002 HB;have BK20001:=n0_;have BK20002:=n1_;have HB:=n2_;clear n0_ n1_ n2_
  refine ZbI (n:=8) (S:=fun w'=>w'.cell? ⟨gb20001,0,none⟩=some (.int .i64 a0_0)∧w'.cell? ⟨gb20001,1,none⟩=some (.slice A0_1 l0_1.length c0_1)) (ds:=[]) #[false,false,false,false,false,false,false,false] (by kernel_rfl) rfl rfl ⟨(Zu BK20001.out 0).trans rfl,(Zu BK20001.out 1).trans rfl⟩ (fun hHeld=>?_);refine Zbt ZX.tab3 ZX.bits3 (fun HT_ HW_=>?_)
  generalize w10.drew=w11 at BK20001 BK20002 HB hHeld ⊢
  refine Z9 (i:=0) (N:=some 14) (v:=?_) (a':=?_) #[true,false,false,false,false,false,false,false] rfl rfl (Z6 HT_.out (by kernel_rfl)) (fun _ _ _ h=>h) (Or.inl ⟨by rfl,?_⟩) ?_ ?_
  rotate_left
  ·intro w'
   go_simp
   with_reducible rfl
  rotate_left
  ·simp only[Act.put,List.setIfInBounds_toArray,List.set_cons_zero,List.set_cons_succ,ZN,ZP]
   rfl
  refine Z9 (i:=2) (N:=some 16) (v:=?_) (a':=?_) #[true,false,true,false,false,false,false,false] rfl rfl (Z6 HT_.out (by kernel_rfl)) (fun _ _ _ h=>h) (Or.inl ⟨by rfl,?_⟩) ?_ ?_
  rotate_left
  ·intro w'
   go_simp
   with_reducible rfl
  rotate_left
  ·simp only[Act.put,List.setIfInBounds_toArray,List.set_cons_zero,List.set_cons_succ,ZN,ZP]
   rfl
  refine take_ (i:=1) (N:=some 15) (v:=?_) (a':=?_) #[true,true,true,false,false,false,false,false] rfl rfl (Za3 HT_.out HW_.out (by kernel_rfl)) (fun _ _ _ h=>h) (Or.inl ⟨by rfl,?_⟩) hHeld ?_ ?_
  rotate_left
  ·rintro w' ⟨s0,s1⟩
   go_simp
   with_reducible rfl
  rotate_left
  ·simp only[Act.put,List.setIfInBounds_toArray,List.set_cons_zero,List.set_cons_succ,ZN,ZP]
   rfl
  refine take_ (i:=3) (N:=some 17) (v:=?_) (a':=?_) #[true,true,true,true,false,false,false,false] rfl rfl (Za3 HT_.out HW_.out (by kernel_rfl)) (fun _ _ _ h=>h) (Or.inl ⟨by rfl,?_⟩) hHeld ?_ ?_
  rotate_left
  ·rintro w' ⟨s0,s1⟩
   go_simp
   with_reducible rfl
  rotate_left
  ·simp only[Act.put,List.setIfInBounds_toArray,List.set_cons_zero,List.set_cons_succ,ZN,ZP]
   rfl
  refine join_ (σ:=Value×Nat) 1 #[true,true,true,true,true,true,true,false] (fun s_=>[(18,s_.1),(6,.pointer (some ⟨s_.2,0,none⟩)),(19,.agg #[.int .i64 a0_0,s_.1])]) (fun s_ w'=>(w'.cell? ⟨gb20001,0,none⟩=some (.int .i64 a0_0)∧w'.cell? ⟨gb20001,1,none⟩=some (.slice A0_1 l0_1.length c0_1))∧(Kd.R k101 101 w' w.heap.size (fun _=>True) s_.1 t20004)∧(w'.heap[gb20001]? = some (.cells #[.int .i64 a0_0,.slice A0_1 l0_1.length c0_1] 25 (0,0)))∧(w'.heap[gb20002]? = some (.cells #[.int .i64 0,.slice none 0 0] 25 (0,0)))∧(w'.heap[s_.2]? = some (.cells #[.int .i64 0,.slice none 0 0] 25 (0,0)))∧(w.heap.size≤s_.2)∧(w.heap.size≤s_.2)∧(gb20001≠s_.2)∧(s_.2≠gb20001)∧(gb20002≠s_.2)∧(s_.2≠gb20002)∧(Below w.heap.size w w')) ?_ ?_
  rotate_left
  ·intro hCont
   refine two_ (i:=4) (j:=6) (Ni:=some 18) (Nj:=some 6) #[true,true,true,true,true,false,false,false] #[true,true,true,true,false,false,true,false] rfl rfl rfl rfl (two_of HT_.out (by kernel_rfl)) (by decide) (by decide) (fun K hK=>?_) (fun K hK=>?_)
   ·skip
    refine Zbg Try.func73 (by kernel_rfl) rfl #[.slice A0_1 l0_1.length c0_1] (by rfl) rfl rfl (by(try simp only[List.map_toArray,List.map_cons,List.map_nil]);first|done|rfl|(simp only[Zk,Zj];rfl)) ?_
    with_reducible refine(ZaS.calls _ _ l0_1 t20004 _ ?side1 ?side2 A5.out).mono ?_
    (case side1=>repeat(first|exact(Zb HR0_1.out HB.out)|(with_reducible refine Kd.C_alloc ?_ _)|(with_reducible refine Kd.C_drewN ?_ _)|(with_reducible refine Kd.C_drew ?_)))
    (case side2=>exact HC0_1.out)
    rintro e w12 ⟨v20005,rfl,ho0,hb⟩
    refine⟨_,rfl,?_⟩
    have n0_:=Za (Kd.R_lower ho0 (Zv (by repeat(first|(with_reducible first|exact HB.out|apply Zr|apply Zm|apply Zs|refine Zp ?_ GE20001.out|refine Zp ?_ GE20002.out)|exact HB.out))))
    have n1_:=Za (Zx (g:=gb20001) (o:=.cells #[.int .i64 a0_0,.slice A0_1 l0_1.length c0_1] 25 (0,0)) (by(with_reducible repeat(first|refine Zo ?_ _|refine Zq ?_|refine Zn ?_ _));exact BK20001.out) hb)
    have n2_:=Za (Zx (g:=gb20002) (o:=.cells #[.int .i64 0,.slice none 0 0] 25 (0,0)) (by(with_reducible repeat(first|refine Zo ?_ _|refine Zq ?_|refine Zn ?_ _));exact BK20002.out) hb)
    have n3_:=Za (Zy (by repeat(first|(with_reducible first|exact HB.out|apply Zr|apply Zm|apply Zs|refine Zp ?_ GE20001.out|refine Zp ?_ GE20002.out)|exact HB.out)) hb)
    clear BK20001 BK20002 HB;have HO20006:=n0_;have BK20001:=n1_;have BK20002:=n2_;have HB:=n3_;clear n0_ n1_ n2_ n3_
    (try clear hb)
    (try clear hb2)
    (try clear hk)
    (try clear hi)
    (try clear ho0)
    obtain⟨Ao13,co13,eo13⟩:=Kd.R_slice HO20006.out
    (first|subst eo13|(injection eo13 with f1_ f2_ f3_;have f4_:=f1_.symm;have f5_:=f3_.symm;clear f1_ f2_ f3_;subst f4_;subst f5_))
    refine hK.out _ _ ⟨(Zu BK20001.out 0).trans rfl,(Zu BK20001.out 1).trans rfl⟩ (fun hHeld=>?_)
    clear hK K
    refine Zaa (a':=?_) ?_ ?_
    rotate_left
    ·show Act.put _ (some 18) _=_
     simp only[Act.put,List.setIfInBounds_toArray,List.set_cons_zero,List.set_cons_succ,ZN,ZP]
     rfl
    refine Z9 (i:=5) (N:=some 19) (v:=?_) (a':=?_) #[true,true,true,true,true,true,false,false] rfl rfl (Z6 HT_.out (by kernel_rfl)) (fun _ _ _ h=>h) (Or.inl ⟨by rfl,?_⟩) ?_ ?_
    rotate_left
    ·intro w'
     go_simp
     with_reducible rfl
    rotate_left
    ·simp only[Act.put,List.setIfInBounds_toArray,List.set_cons_zero,List.set_cons_succ,ZN,ZP]
     rfl
    refine one_ (i:=6) (N:=some 6) #[true,true,true,true,true,true,true,false] rfl rfl (ZaB HT_.out (by kernel_rfl)) (by decide) (fun K hK=>?_)
    refine ZbG ?hg (N:=6) ?hd (cs:=#[.int .i64 0,.slice none 0 0]) (t:=25) ?hr ?_;(case hd=>rfl);(case hg=>rfl);(case hr=>first|(go_simp;done)|(go_simp;rfl))
    intro gb20007 hg w14 hbox hb
    have n0_:=Za (Kd.R_below (by(with_reducible repeat(first|apply Kd.R_alloc|apply Kd.R_drewN|apply Kd.R_drew));exact HO20006.out) hb)
    have n1_:=Za (Zx (g:=gb20001) (o:=.cells #[.int .i64 a0_0,.slice A0_1 l0_1.length c0_1] 25 (0,0)) (by(with_reducible repeat(first|refine Zo ?_ _|refine Zq ?_|refine Zn ?_ _));exact BK20001.out) hb)
    have n2_:=Za (Zx (g:=gb20002) (o:=.cells #[.int .i64 0,.slice none 0 0] 25 (0,0)) (by(with_reducible repeat(first|refine Zo ?_ _|refine Zq ?_|refine Zn ?_ _));exact BK20002.out) hb)
    have n3_:=Za (Zy (by repeat(first|(with_reducible first|exact HB.out|apply Zr|apply Zm|apply Zs|refine Zp ?_ GE20001.out|refine Zp ?_ GE20002.out)|exact HB.out)) hb)
    have n4_:=Za (hbox)
    have n5_:=Za ((by rw[hg];exact(Zv (by repeat(first|(with_reducible first|exact HB.out|apply Zr|apply Zm|apply Zs|refine Zp ?_ GE20001.out|refine Zp ?_ GE20002.out)|exact HB.out))):w.heap.size≤gb20007))
    have n6_:=Za ((by rw[hg];exact(Zv (by repeat(first|(with_reducible first|exact HB.out|apply Zr|apply Zm|apply Zs|refine Zp ?_ GE20001.out|refine Zp ?_ GE20002.out)|exact HB.out))):w.heap.size≤gb20007))
    have n7_:=Za ((by rw[hg];exact Nat.ne_of_lt (ZB (g:=gb20001) (o:=.cells #[.int .i64 a0_0,.slice A0_1 l0_1.length c0_1] 25 (0,0)) (by(with_reducible repeat(first|refine Zo ?_ _|refine Zq ?_|refine Zn ?_ _));exact BK20001.out)):gb20001≠gb20007))
    have n8_:=Za ((by rw[hg];exact Nat.ne_of_gt (ZB (g:=gb20001) (o:=.cells #[.int .i64 a0_0,.slice A0_1 l0_1.length c0_1] 25 (0,0)) (by(with_reducible repeat(first|refine Zo ?_ _|refine Zq ?_|refine Zn ?_ _));exact BK20001.out)):gb20007≠gb20001))
    have n9_:=Za ((by rw[hg];exact Nat.ne_of_lt (ZB (g:=gb20002) (o:=.cells #[.int .i64 0,.slice none 0 0] 25 (0,0)) (by(with_reducible repeat(first|refine Zo ?_ _|refine Zq ?_|refine Zn ?_ _));exact BK20002.out)):gb20002≠gb20007))
    have n10_:=Za ((by rw[hg];exact Nat.ne_of_gt (ZB (g:=gb20002) (o:=.cells #[.int .i64 0,.slice none 0 0] 25 (0,0)) (by(with_reducible repeat(first|refine Zo ?_ _|refine Zq ?_|refine Zn ?_ _));exact BK20002.out)):gb20007≠gb20002))
    clear HO20006 BK20001 BK20002 HB;have HO20006:=n0_;have BK20001:=n1_;have BK20002:=n2_;have HB:=n3_;have BK20007:=n4_;have GW20007:=n5_;have GE20007:=n6_;have NB20001_20007:=n7_;have NB20007_20001:=n8_;have NB20002_20007:=n9_;have NB20007_20002:=n10_;clear n0_ n1_ n2_ n3_ n4_ n5_ n6_ n7_ n8_ n9_ n10_ hb hbox hg
    refine hK.out _ _ ⟨(Zu BK20001.out 0).trans rfl,(Zu BK20001.out 1).trans rfl⟩ (fun hHeld=>?_)
    clear hK K
    refine Zaa (a':=?_) ?_ ?_
    rotate_left
    ·show Act.put _ (some 6) _=_
     simp only[Act.put,List.setIfInBounds_toArray,List.set_cons_zero,List.set_cons_succ,ZN,ZP]
     rfl
    exact Zaa (by simp only[Za1,Act.put,List.setIfInBounds_toArray,List.set_cons_zero,List.set_cons_succ]) (hCont (.slice Ao13 t20004.length co13,gb20007) _ ⟨hHeld,(by(with_reducible repeat(first|apply Kd.R_alloc|apply Kd.R_drewN|apply Kd.R_drew));exact HO20006.out),(by(with_reducible repeat(first|refine Zo ?_ _|refine Zq ?_|refine Zn ?_ _));exact BK20001.out),(by(with_reducible repeat(first|refine Zo ?_ _|refine Zq ?_|refine Zn ?_ _));exact BK20002.out),(by(with_reducible repeat(first|refine Zo ?_ _|refine Zq ?_|refine Zn ?_ _));exact BK20007.out),GW20007.out,GE20007.out,NB20001_20007.out,NB20007_20001.out,NB20002_20007.out,NB20007_20002.out,(by repeat(first|(with_reducible first|exact HB.out|apply Zr|apply Zm|apply Zs|refine Zp ?_ GE20001.out|refine Zp ?_ GE20002.out|refine Zp ?_ GE20007.out)|exact HB.out))⟩)
   ·skip
    refine ZbG ?hg (N:=6) ?hd (cs:=#[.int .i64 0,.slice none 0 0]) (t:=25) ?hr ?_;(case hd=>rfl);(case hg=>rfl);(case hr=>first|(go_simp;done)|(go_simp;rfl))
    intro gb20007 hg w12 hbox hb
    have n0_:=Za (Zx (g:=gb20001) (o:=.cells #[.int .i64 a0_0,.slice A0_1 l0_1.length c0_1] 25 (0,0)) (by(with_reducible repeat(first|refine Zo ?_ _|refine Zq ?_|refine Zn ?_ _));exact BK20001.out) hb)
    have n1_:=Za (Zx (g:=gb20002) (o:=.cells #[.int .i64 0,.slice none 0 0] 25 (0,0)) (by(with_reducible repeat(first|refine Zo ?_ _|refine Zq ?_|refine Zn ?_ _));exact BK20002.out) hb)
    have n2_:=Za (Zy (by repeat(first|(with_reducible first|exact HB.out|apply Zr|apply Zm|apply Zs|refine Zp ?_ GE20001.out|refine Zp ?_ GE20002.out)|exact HB.out)) hb)
    have n3_:=Za (hbox)
    have n4_:=Za ((by rw[hg];exact(Zv (by repeat(first|(with_reducible first|exact HB.out|apply Zr|apply Zm|apply Zs|refine Zp ?_ GE20001.out|refine Zp ?_ GE20002.out)|exact HB.out))):w.heap.size≤gb20007))
    have n5_:=Za ((by rw[hg];exact(Zv (by repeat(first|(with_reducible first|exact HB.out|apply Zr|apply Zm|apply Zs|refine Zp ?_ GE20001.out|refine Zp ?_ GE20002.out)|exact HB.out))):w.heap.size≤gb20007))
    have n6_:=Za ((by rw[hg];exact Nat.ne_of_lt (ZB (g:=gb20001) (o:=.cells #[.int .i64 a0_0,.slice A0_1 l0_1.length c0_1] 25 (0,0)) (by(with_reducible repeat(first|refine Zo ?_ _|refine Zq ?_|refine Zn ?_ _));exact BK20001.out)):gb20001≠gb20007))
    have n7_:=Za ((by rw[hg];exact Nat.ne_of_gt (ZB (g:=gb20001) (o:=.cells #[.int .i64 a0_0,.slice A0_1 l0_1.length c0_1] 25 (0,0)) (by(with_reducible repeat(first|refine Zo ?_ _|refine Zq ?_|refine Zn ?_ _));exact BK20001.out)):gb20007≠gb20001))
    have n8_:=Za ((by rw[hg];exact Nat.ne_of_lt (ZB (g:=gb20002) (o:=.cells #[.int .i64 0,.slice none 0 0] 25 (0,0)) (by(with_reducible repeat(first|refine Zo ?_ _|refine Zq ?_|refine Zn ?_ _));exact BK20002.out)):gb20002≠gb20007))
    have n9_:=Za ((by rw[hg];exact Nat.ne_of_gt (ZB (g:=gb20002) (o:=.cells #[.int .i64 0,.slice none 0 0] 25 (0,0)) (by(with_reducible repeat(first|refine Zo ?_ _|refine Zq ?_|refine Zn ?_ _));exact BK20002.out)):gb20007≠gb20002))
    clear BK20001 BK20002 HB;have BK20001:=n0_;have BK20002:=n1_;have HB:=n2_;have BK20007:=n3_;have GW20007:=n4_;have GE20007:=n5_;have NB20001_20007:=n6_;have NB20007_20001:=n7_;have NB20002_20007:=n8_;have NB20007_20002:=n9_;clear n0_ n1_ n2_ n3_ n4_ n5_ n6_ n7_ n8_ n9_ hb hbox hg
    refine hK.out _ _ ⟨(Zu BK20001.out 0).trans rfl,(Zu BK20001.out 1).trans rfl⟩ (fun hHeld=>?_)
    clear hK K
    refine Zaa (a':=?_) ?_ ?_
    rotate_left
    ·show Act.put _ (some 6) _=_
     simp only[Act.put,List.setIfInBounds_toArray,List.set_cons_zero,List.set_cons_succ,ZN,ZP]
     rfl
    refine one_ (i:=4) (N:=some 18) #[true,true,true,true,true,false,true,false] rfl rfl (ZaB HT_.out (by kernel_rfl)) (by decide) (fun K hK=>?_)
    refine Zbg Try.func73 (by kernel_rfl) rfl #[.slice A0_1 l0_1.length c0_1] (by rfl) rfl rfl (by(try simp only[List.map_toArray,List.map_cons,List.map_nil]);first|done|rfl|(simp only[Zk,Zj];rfl)) ?_
    with_reducible refine(ZaS.calls _ _ l0_1 t20004 _ ?side1 ?side2 A5.out).mono ?_
    (case side1=>repeat(first|exact(Zb HR0_1.out HB.out)|(with_reducible refine Kd.C_alloc ?_ _)|(with_reducible refine Kd.C_drewN ?_ _)|(with_reducible refine Kd.C_drew ?_)))
    (case side2=>exact HC0_1.out)
    rintro e w13 ⟨v20005,rfl,ho0,hb⟩
    refine⟨_,rfl,?_⟩
    have n0_:=Za (Kd.R_lower ho0 (Zv (by repeat(first|(with_reducible first|exact HB.out|apply Zr|apply Zm|apply Zs|refine Zp ?_ GE20001.out|refine Zp ?_ GE20002.out|refine Zp ?_ GE20007.out)|exact HB.out))))
    have n1_:=Za (Zx (g:=gb20001) (o:=.cells #[.int .i64 a0_0,.slice A0_1 l0_1.length c0_1] 25 (0,0)) (by(with_reducible repeat(first|refine Zo ?_ _|refine Zq ?_|refine Zn ?_ _));exact BK20001.out) hb)
    have n2_:=Za (Zx (g:=gb20002) (o:=.cells #[.int .i64 0,.slice none 0 0] 25 (0,0)) (by(with_reducible repeat(first|refine Zo ?_ _|refine Zq ?_|refine Zn ?_ _));exact BK20002.out) hb)
    have n3_:=Za (Zx (g:=gb20007) (o:=.cells #[.int .i64 0,.slice none 0 0] 25 (0,0)) (by(with_reducible repeat(first|refine Zo ?_ _|refine Zq ?_|refine Zn ?_ _));exact BK20007.out) hb)
    have n4_:=Za (Zy (by repeat(first|(with_reducible first|exact HB.out|apply Zr|apply Zm|apply Zs|refine Zp ?_ GE20001.out|refine Zp ?_ GE20002.out|refine Zp ?_ GE20007.out)|exact HB.out)) hb)
    clear BK20001 BK20002 BK20007 HB;have HO20006:=n0_;have BK20001:=n1_;have BK20002:=n2_;have BK20007:=n3_;have HB:=n4_;clear n0_ n1_ n2_ n3_ n4_
    (try clear hb)
    (try clear hb2)
    (try clear hk)
    (try clear hi)
    (try clear ho0)
    obtain⟨Ao14,co14,eo14⟩:=Kd.R_slice HO20006.out
    (first|subst eo14|(injection eo14 with f1_ f2_ f3_;have f4_:=f1_.symm;have f5_:=f3_.symm;clear f1_ f2_ f3_;subst f4_;subst f5_))
    refine hK.out _ _ ⟨(Zu BK20001.out 0).trans rfl,(Zu BK20001.out 1).trans rfl⟩ (fun hHeld=>?_)
    clear hK K
    refine Zaa (a':=?_) ?_ ?_
    rotate_left
    ·show Act.put _ (some 18) _=_
     simp only[Act.put,List.setIfInBounds_toArray,List.set_cons_zero,List.set_cons_succ,ZN,ZP]
     rfl
    refine Z9 (i:=5) (N:=some 19) (v:=?_) (a':=?_) #[true,true,true,true,true,true,true,false] rfl rfl (Z6 HT_.out (by kernel_rfl)) (fun _ _ _ h=>h) (Or.inl ⟨by rfl,?_⟩) ?_ ?_
    rotate_left
    ·intro w'
     go_simp
     with_reducible rfl
    rotate_left
    ·simp only[Act.put,List.setIfInBounds_toArray,List.set_cons_zero,List.set_cons_succ,ZN,ZP]
     rfl
    exact Zaa (by simp only[Za1,Act.put,List.setIfInBounds_toArray,List.set_cons_zero,List.set_cons_succ]) (hCont (.slice Ao14 t20004.length co14,gb20007) _ ⟨hHeld,(by(with_reducible repeat(first|apply Kd.R_alloc|apply Kd.R_drewN|apply Kd.R_drew));exact HO20006.out),(by(with_reducible repeat(first|refine Zo ?_ _|refine Zq ?_|refine Zn ?_ _));exact BK20001.out),(by(with_reducible repeat(first|refine Zo ?_ _|refine Zq ?_|refine Zn ?_ _));exact BK20002.out),(by(with_reducible repeat(first|refine Zo ?_ _|refine Zq ?_|refine Zn ?_ _));exact BK20007.out),GW20007.out,GE20007.out,NB20001_20007.out,NB20007_20001.out,NB20002_20007.out,NB20007_20002.out,(by repeat(first|(with_reducible first|exact HB.out|apply Zr|apply Zm|apply Zs|refine Zp ?_ GE20001.out|refine Zp ?_ GE20002.out|refine Zp ?_ GE20007.out)|exact HB.out))⟩)
  rintro⟨v20005,gb20007⟩ w15 ⟨hS_,h0_,h1_,h2_,h3_,h4_,h5_,h6_,h7_,h8_,h9_,h10_⟩
  have n0_:Aside0 (Kd.R k101 101 w15 w.heap.size (fun _=>True) v20005 t20004):=⟨h0_⟩
  have n1_:Aside0 (w15.heap[gb20001]? = some (.cells #[.int .i64 a0_0,.slice A0_1 l0_1.length c0_1] 25 (0,0))):=⟨h1_⟩
  have n2_:Aside0 (w15.heap[gb20002]? = some (.cells #[.int .i64 0,.slice none 0 0] 25 (0,0))):=⟨h2_⟩
  have n3_:Aside0 (w15.heap[gb20007]? = some (.cells #[.int .i64 0,.slice none 0 0] 25 (0,0))):=⟨h3_⟩
  have n4_:Aside0 (w.heap.size≤gb20007):=⟨h4_⟩
  have n5_:Aside0 (w.heap.size≤gb20007):=⟨h5_⟩
  have n6_:Aside0 (gb20001≠gb20007):=⟨h6_⟩
  have n7_:Aside0 (gb20007≠gb20001):=⟨h7_⟩
  have n8_:Aside0 (gb20002≠gb20007):=⟨h8_⟩
  have n9_:Aside0 (gb20007≠gb20002):=⟨h9_⟩
  have n10_:Aside0 (Below w.heap.size w w15):=⟨h10_⟩
  clear BK20001 BK20002 HB h0_ h1_ h2_ h3_ h4_ h5_ h6_ h7_ h8_ h9_ h10_;have HO20006:=n0_;have BK20001:=n1_;have BK20002:=n2_;have BK20007:=n3_;have GW20007:=n4_;have GE20007:=n5_;have NB20001_20007:=n6_;have NB20007_20001:=n7_;have NB20002_20007:=n8_;have NB20007_20002:=n9_;have HB:=n10_;clear n0_ n1_ n2_ n3_ n4_ n5_ n6_ n7_ n8_ n9_ n10_
  have hHeld:w15.cell? ⟨gb20001,0,none⟩=some (.int .i64 a0_0)∧w15.cell? ⟨gb20001,1,none⟩=some (.slice A0_1 l0_1.length c0_1):=hS_
  obtain⟨Ao16,co16,eo16⟩:=Kd.R_slice HO20006.out
  (first|subst eo16|(injection eo16 with f1_ f2_ f3_;have f4_:=f1_.symm;have f5_:=f3_.symm;clear f1_ f2_ f3_;subst f4_;subst f5_))
  refine Zaa (a':=?_) ?_ ?_
  rotate_left
  ·simp only[Za1,Act.put,List.setIfInBounds_toArray,List.set_cons_zero,List.set_cons_succ]
   rfl
  refine one_ (i:=7) (N:=none) #[true,true,true,true,true,true,true,true] rfl rfl (ZaB HT_.out (by kernel_rfl)) (by decide) (fun K hK=>?_)
  have hs17:w15.cell? ⟨gb20007,0,none⟩=some (.int .i64 0):=(Zu BK20007.out 0).trans rfl
  have hfs17:=Zt BK20007.out 0
  have hns17_0:=NB20001_20007.out
  have hns17_1:=NB20002_20007.out
  have hms17_0:=NB20007_20001.out
  have hms17_1:=NB20007_20002.out
  have hs18:w15.cell? ⟨gb20007,1,none⟩=some (.slice none 0 0):=(Zu BK20007.out 1).trans rfl
  have hfs18:=Zt BK20007.out 1
  have hns18_0:=NB20001_20007.out
  have hns18_1:=NB20002_20007.out
  have hms18_0:=NB20007_20001.out
  have hms18_1:=NB20007_20002.out
  refine Zb6 (w1:=?_) (by rfl) rfl ?_ ?_
  rotate_left
  ·go_simp
   rfl
  refine hK.out _ _ ⟨((Zaf (p:=⟨gb20007,_,none⟩) NB20001_20007.out _).trans (((Zaf (p:=⟨gb20007,_,none⟩) NB20001_20007.out _).trans (hHeld.1)))),((Zaf (p:=⟨gb20007,_,none⟩) NB20001_20007.out _).trans (((Zaf (p:=⟨gb20007,_,none⟩) NB20001_20007.out _).trans (hHeld.2))))⟩ (fun hHeld=>?_)
  clear hK K
  refine ZbZ (ZbP HT_.out (by kernel_rfl)) ?_
  try go_wp2
  go_loopg [22] k (fun kq v22 w'=>∃(x22_1:Int) (x20008001_1:List (S101)) (u20008001:Value),v22=.int .i64 x22_1∧Aside0 (ZX.l0 kq l1 (l1.length:Int) x22_1 a0_0 x20008001_1=some (r1,r2,r3))∧Aside0 (kq≤k)∧Aside0 (Kd.R k101 101 w' w.heap.size (fun _=>True) u20008001 x20008001_1)∧Aside0 (w'.heap[gb20001]? = some (.cells #[.int .i64 a0_0,(.slice A0_1 l0_1.length c0_1)] 25 (0,0)))∧Aside0 (w'.heap[gb20002]? = some (.cells #[.int .i64 0,(.slice none 0 0)] 25 (0,0)))∧Aside0 (w'.heap[gb20007]? = some (.cells #[.int .i64 a0_0,u20008001] 25 (0,0)))∧Aside0 (Below w.heap.size w w'))
  case atStart=>exact⟨(0),(t20004),(.slice Ao16 t20004.length co16),(by first|rfl|(simp;done)|(simp[*];done)),H',⟨Nat.le_refl _⟩,⟨by(with_reducible repeat(first|apply Kd.R_alloc|apply Kd.R_drewN|apply Kd.R_drew));exact Kd.R_mono (Kd.R_far (p:=⟨gb20007,1,none⟩) (Kd.R_far (p:=⟨gb20007,0,none⟩) (Kd.R_types HO20006.out BK20007.out (by decide)) (fun _ hk=>hk.2) (.int .i64 a0_0)) (fun _ hk=>hk.2) (.slice Ao16 t20004.length co16)) (fun _ hk=>trivial)⟩,⟨by(with_reducible repeat(first|refine Zo ?_ _|refine Zq ?_|refine Zn ?_ _));refine ZC ?_ NB20001_20007.out _;(with_reducible repeat(first|refine Zo ?_ _|refine Zq ?_|refine Zn ?_ _));refine ZC ?_ NB20001_20007.out _;(with_reducible repeat(first|refine Zo ?_ _|refine Zq ?_|refine Zn ?_ _));exact BK20001.out⟩,⟨by(with_reducible repeat(first|refine Zo ?_ _|refine Zq ?_|refine Zn ?_ _));refine ZC ?_ NB20002_20007.out _;(with_reducible repeat(first|refine Zo ?_ _|refine Zq ?_|refine Zn ?_ _));refine ZC ?_ NB20002_20007.out _;(with_reducible repeat(first|refine Zo ?_ _|refine Zq ?_|refine Zn ?_ _));exact BK20002.out⟩,⟨by(with_reducible repeat(first|refine Zo ?_ _|refine Zq ?_|refine Zn ?_ _));refine ZF (cs:=#[.int .i64 a0_0,.slice none 0 0]) ?_ 1 _ rfl;(with_reducible repeat(first|refine Zo ?_ _|refine Zq ?_|refine Zn ?_ _));refine ZF (cs:=#[.int .i64 0,.slice none 0 0]) ?_ 0 _ rfl;(with_reducible repeat(first|refine Zo ?_ _|refine Zq ?_|refine Zn ?_ _));exact BK20007.out⟩,⟨by repeat(first|(with_reducible first|exact HB.out|apply Zr|apply Zm|apply Zs|refine Zp ?_ GE20001.out|refine Zp ?_ GE20002.out|refine Zp ?_ GE20007.out)|exact HB.out)⟩⟩
  case round=>
   clear H'
   try clear c1
   try clear c2
   try clear p2
   try clear c4
   try clear c7
   try clear c8
   try clear hcz9_0
   try clear hcz9_1
   try clear hfz9_0
   try clear hfz9_1
   obtain⟨x22_1,x20008001_1,u20008001,rfl,HA,HK1,HO_20008001,BK20001,BK20002,BK20007,HB⟩:=hrel
   cases gk with
   | zero=>exact absurd HA.out (by simp[ZX.l0])
   | succ k1=>
    have H:=HA.out
    clear HA
    simp only[ZX.l0] at H
    by_cases c19:x22_1<(l1.length:Int)
    ·rw[if_pos c19] at H
     have c19b0:decide (x22_1<(l1.length:Int))=true:=Ze c19
     clear c19
     by_cases c20:0≤x22_1
     ·rw[if_pos c20] at H
      have c20b0:decide (0≤x22_1)=true:=Ze c20
      clear c20
      by_cases c21:x22_1<(l1.length:Int)
      ·rw[if_pos c21] at H
       have c21b0:decide (x22_1<(l1.length:Int))=true:=Ze c21
       clear c21
       by_cases c22:x22_1 > 0
       ·rw[if_pos c22] at H
        have c22b0:decide (0<x22_1)=true:=Ze c22
        clear c22
        by_cases c23:(rd l1 x22_1)=(-1)
        ·rw[if_pos c23] at H
         have c23b0:((rd l1 x22_1) == (-1))=true:=beq_iff_eq.mpr c23
         have c23b1:((rd l1 x22_1) != (-1))=false:=bne_eq_false_iff_eq.mpr c23
         clear c23
         have H':=Za H
         clear H
         have p20008:0≤(x22_1:Int):=Zd (by first|(with_reducible assumption)|assumption)
         have q20008:x22_1<(l1.length:Int):=Zd (by first|(with_reducible assumption)|assumption)
         obtain⟨ad20008,e20008,hx20008_0⟩:=Kd.at_int HR1.out x22_1 p20008 q20008
         cases e20008
         replace hx20008_0:=(HB.out.cell (Zc w _ hx20008_0)).trans hx20008_0
         replace p20008:=eq_true p20008
         replace q20008:=eq_true q20008
         go_wp2
         go_roundg k1
         case measure=>have:=HK1.out;omega
         case rel=>exact⟨(wrap64 (x22_1+1)),(x20008001_1),(u20008001),(by first|rfl|(simp;done)|(simp[*];done)),H',⟨by have:=HK1.out;omega⟩,⟨by(with_reducible repeat(first|apply Kd.R_alloc|apply Kd.R_drewN|apply Kd.R_drew));exact HO_20008001.out⟩,⟨by(with_reducible repeat(first|refine Zo ?_ _|refine Zq ?_|refine Zn ?_ _));exact BK20001.out⟩,⟨by(with_reducible repeat(first|refine Zo ?_ _|refine Zq ?_|refine Zn ?_ _));exact BK20002.out⟩,⟨by(with_reducible repeat(first|refine Zo ?_ _|refine Zq ?_|refine Zn ?_ _));exact BK20007.out⟩,⟨by repeat(first|(with_reducible first|exact HB.out|apply Zr|apply Zm|apply Zs|refine Zp ?_ GE20001.out|refine Zp ?_ GE20002.out|refine Zp ?_ GE20007.out)|exact HB.out)⟩⟩
        ·rw[if_neg c23] at H
         have c23b0:((rd l1 x22_1) == (-1))=false:=beq_eq_false_iff_ne.mpr c23
         have c23b1:((rd l1 x22_1) != (-1))=true:=bne_iff_ne.mpr c23
         by_cases c24:x20008001_1.length<4398046511104
         ·rw[if_pos c24] at H
          have LMc24:=Za c24;clear c24
          obtain⟨y20009,hy20009⟩:∃y_:List (S101),y_=(x20008001_1 ++ [(⟨0,x22_1,(⟨rd l1 x22_1,rd l1 x22_1⟩:S29)⟩:S101)]):=⟨_,rfl⟩
          replace H:(ZX.l0 k1 l1 (l1.length:Int) (wrap64 (x22_1+1)) a0_0 y20009)=some (r1,r2,r3):=by first|(rw[hy20009];with_reducible exact H)|(have H2_:=(Zi _ _).symm.trans H;rw[hy20009];with_reducible exact H2_)|(have H2_:=(Zi _ _).symm.trans H;with_reducible exact H2_)|with_reducible exact H|(rw[hy20009];exact H)|exact H
          have Ny20009:=Za hy20009;clear hy20009
          have H':=Za H
          clear H
          have p20008:0≤(x22_1:Int):=Zd (by first|(with_reducible assumption)|assumption)
          have q20008:x22_1<(l1.length:Int):=Zd (by first|(with_reducible assumption)|assumption)
          obtain⟨ad20008,e20008,hx20008_0⟩:=Kd.at_int HR1.out x22_1 p20008 q20008
          cases e20008
          replace hx20008_0:=(HB.out.cell (Zc w _ hx20008_0)).trans hx20008_0
          replace p20008:=eq_true p20008
          replace q20008:=eq_true q20008
          have hnb25:=NB20007_20001.out
          have hnc25:=NB20001_20007.out
          have hnb26:=NB20007_20002.out
          have hnc26:=NB20002_20007.out
          have hcz27_0:wr.cell? ⟨gb20007,0,none⟩=some (.int .i64 a0_0):=(Zu BK20007.out 0).trans rfl
          have hcz27_1:wr.cell? ⟨gb20007,1,none⟩=some (u20008001):=(Zu BK20007.out 1).trans rfl
          have hfz27_0:=Zt BK20007.out 0
          have hfz27_1:=Zt BK20007.out 1
          go_wp2_with (first|((with_reducible refine Zae (b:=.append) (xs:=#[.tmp 34,.tmp 40]) rfl ?_);at_builtin;refine Kd.R_append k101 (w0:=w) w.heap.size rfl (.tmp 34) (.tmp 40) 23 101 (.agg #[(.int .i64 0),(.int .i64 0),(.int .i64 0),(.int .i64 0)]) 32 rfl Try.underlying23 Zcu rfl (by decide) (by omega) u20008001 x20008001_1 (⟨0,x22_1,(⟨rd l1 x22_1,rd l1 x22_1⟩:S29)⟩:S101) [.int .i64 0,.int .i64 x22_1,.int .i64 (rd l1 x22_1),.int .i64 (rd l1 x22_1)] (fun _=>True) (fun _=>False) rfl rfl ?aP (fun _ hk=>hk.elim) ?aF ?aO ?aB ?aS ?aL ?_;(case aP=>exact ZcD _ _ _ (⟨0,x22_1,(⟨rd l1 x22_1,rd l1 x22_1⟩:S29)⟩:S101));(case aB=>exact(by repeat(first|(with_reducible first|exact HB.out|apply Zr|apply Zm|apply Zs|refine Zp ?_ GE20001.out|refine Zp ?_ GE20002.out|refine Zp ?_ GE20007.out)|exact HB.out)));(case aF=>exact(fun _ _=>trivial));(case aO=>exact(by(with_reducible repeat(first|apply Kd.R_alloc|apply Kd.R_drewN|apply Kd.R_drew));exact HO_20008001.out));(case aS=>exact(Zv (by repeat(first|(with_reducible first|exact HB.out|apply Zr|apply Zm|apply Zs|refine Zp ?_ GE20001.out|refine Zp ?_ GE20002.out|refine Zp ?_ GE20007.out)|exact HB.out))));(case aL=>have:=LMc24.out;omega);intro v20010 w28 ho hb hg hat;rw[← Ny20009.out] at ho;have n0_:=Za (ZS (g:=gb20001) (o:=.cells #[.int .i64 a0_0,.slice A0_1 l0_1.length c0_1] 25 (0,0)) (by(with_reducible repeat(first|refine Zo ?_ _|refine Zq ?_|refine Zn ?_ _));exact BK20001.out) hg (Kd.R_ne HO_20008001.out BK20001.out (by decide)));have n1_:=Za (ZS (g:=gb20002) (o:=.cells #[.int .i64 0,.slice none 0 0] 25 (0,0)) (by(with_reducible repeat(first|refine Zo ?_ _|refine Zq ?_|refine Zn ?_ _));exact BK20002.out) hg (Kd.R_ne HO_20008001.out BK20002.out (by decide)));have n2_:=Za (ZS (g:=gb20007) (o:=.cells #[.int .i64 a0_0,u20008001] 25 (0,0)) (by(with_reducible repeat(first|refine Zo ?_ _|refine Zq ?_|refine Zn ?_ _));exact BK20007.out) hg (Kd.R_ne HO_20008001.out BK20007.out (by decide)));have n3_:=Za (hb);have n4_:=Za (ho);clear BK20001;clear BK20002;clear BK20007;clear HB;clear HO_20008001;have BK20001:=n0_;have BK20002:=n1_;have BK20007:=n2_;have HB:=n3_;have HO20011:=n4_;clear n0_ n1_ n2_ n3_ n4_;clear ho hb hg hat;obtain⟨Ao29,co29,eo29⟩:=Kd.R_slice HO20011.out;subst eo29;have hcz30_0:w28.cell? ⟨gb20007,0,none⟩=some (.int .i64 a0_0):=(Zu BK20007.out 0).trans rfl;have hcz30_1:w28.cell? ⟨gb20007,1,none⟩=some (u20008001):=(Zu BK20007.out 1).trans rfl;have hfz30_0:=Zt BK20007.out 0;have hfz30_1:=Zt BK20007.out 1))
          go_roundg k1
          case measure=>have:=HK1.out;omega
          case rel=>exact⟨(wrap64 (x22_1+1)),(y20009),(.slice Ao29 y20009.length co29),(by first|rfl|(simp;done)|(simp[*];done)),H',⟨by have:=HK1.out;omega⟩,⟨by(with_reducible repeat(first|apply Kd.R_alloc|apply Kd.R_drewN|apply Kd.R_drew));exact Kd.R_mono (Kd.R_far (p:=⟨gb20007,1,none⟩) (Kd.R_types HO20011.out BK20007.out (by decide)) (fun _ hk=>hk.2) (.slice Ao29 y20009.length co29)) (fun _ hk=>trivial)⟩,⟨by(with_reducible repeat(first|refine Zo ?_ _|refine Zq ?_|refine Zn ?_ _));refine ZC ?_ NB20001_20007.out _;(with_reducible repeat(first|refine Zo ?_ _|refine Zq ?_|refine Zn ?_ _));exact BK20001.out⟩,⟨by(with_reducible repeat(first|refine Zo ?_ _|refine Zq ?_|refine Zn ?_ _));refine ZC ?_ NB20002_20007.out _;(with_reducible repeat(first|refine Zo ?_ _|refine Zq ?_|refine Zn ?_ _));exact BK20002.out⟩,⟨by(with_reducible repeat(first|refine Zo ?_ _|refine Zq ?_|refine Zn ?_ _));refine ZF (cs:=#[.int .i64 a0_0,u20008001]) ?_ 1 _ rfl;(with_reducible repeat(first|refine Zo ?_ _|refine Zq ?_|refine Zn ?_ _));exact BK20007.out⟩,⟨by repeat(first|(with_reducible first|exact HB.out|apply Zr|apply Zm|apply Zs|refine Zp ?_ GE20001.out|refine Zp ?_ GE20002.out|refine Zp ?_ GE20007.out)|exact HB.out)⟩⟩
         ·rw[if_neg c24] at H
          exact absurd H (by simp)
       ·rw[if_neg c22] at H
        have c22b0:decide (0<x22_1)=false:=Zf c22
        clear c22
        have H':=Za H
        clear H
        have p20008:0≤(x22_1:Int):=Zd (by first|(with_reducible assumption)|assumption)
        have q20008:x22_1<(l1.length:Int):=Zd (by first|(with_reducible assumption)|assumption)
        obtain⟨ad20008,e20008,hx20008_0⟩:=Kd.at_int HR1.out x22_1 p20008 q20008
        cases e20008
        replace hx20008_0:=(HB.out.cell (Zc w _ hx20008_0)).trans hx20008_0
        replace p20008:=eq_true p20008
        replace q20008:=eq_true q20008
        go_wp2
        go_roundg k1
        case measure=>have:=HK1.out;omega
        case rel=>exact⟨(wrap64 (x22_1+1)),(x20008001_1),(u20008001),(by first|rfl|(simp;done)|(simp[*];done)),H',⟨by have:=HK1.out;omega⟩,⟨by(with_reducible repeat(first|apply Kd.R_alloc|apply Kd.R_drewN|apply Kd.R_drew));exact HO_20008001.out⟩,⟨by(with_reducible repeat(first|refine Zo ?_ _|refine Zq ?_|refine Zn ?_ _));exact BK20001.out⟩,⟨by(with_reducible repeat(first|refine Zo ?_ _|refine Zq ?_|refine Zn ?_ _));exact BK20002.out⟩,⟨by(with_reducible repeat(first|refine Zo ?_ _|refine Zq ?_|refine Zn ?_ _));exact BK20007.out⟩,⟨by repeat(first|(with_reducible first|exact HB.out|apply Zr|apply Zm|apply Zs|refine Zp ?_ GE20001.out|refine Zp ?_ GE20002.out|refine Zp ?_ GE20007.out)|exact HB.out)⟩⟩
      ·rw[if_neg c21] at H
       exact absurd H (by simp)
     ·rw[if_neg c20] at H
      exact absurd H (by simp)
    ·rw[if_neg c19] at H
     have c19b0:decide (x22_1<(l1.length:Int))=false:=Zf c19
     clear c19
     replace H:=Zh H
     obtain⟨t20012,A310,H⟩:=H
     replace H:(if t20012=true then(some (a0_0,x20008001_1,true)) else(some (0,([]:List (S101)),false)))=some (r1,r2,r3):=H
     have A31:=Za A310;clear A310
     by_cases c32:t20012=true
     ·subst c32
      have H1:(some (a0_0,x20008001_1,true))=some (r1,r2,r3):=by rw[if_pos rfl] at H;exact H
      clear H
      have H:=H1
      clear H1
      simp only[Option.some.injEq,Prod.mk.injEq] at H
      obtain⟨rfl,rfl,rfl⟩:=H
      have hnb33:=NB20007_20001.out
      have hnc33:=NB20001_20007.out
      have hnb34:=NB20007_20002.out
      have hnc34:=NB20002_20007.out
      have hcz35_0:wr.cell? ⟨gb20007,0,none⟩=some (.int .i64 a0_0):=(Zu BK20007.out 0).trans rfl
      have hcz35_1:wr.cell? ⟨gb20007,1,none⟩=some (u20008001):=(Zu BK20007.out 1).trans rfl
      have hfz35_0:=Zt BK20007.out 0
      have hfz35_1:=Zt BK20007.out 1
      obtain⟨Ao36,co36,eo36⟩:=Kd.R_slice HO_20008001.out
      subst eo36
      go_wp2_with (first|((with_reducible refine ZG (f:=19) rfl ?_);refine ZV (some 45) rfl rfl Try.func19 (by kernel_rfl) rfl #[.agg #[.int .i64 a0_0,.slice Ao36 x20008001_1.length co36]] rfl (by(try simp only[List.map_toArray,List.map_cons,List.map_nil]);first|done|rfl|(simp only[Zk,Zj];rfl)) ?_;(with_reducible refine(Z8.calls a0_0 _ _ x20008001_1 true _ ?side1 ?side2 A31.out).mono ?_);(case side1=>repeat(first|exact(Kd.R_reads' HO_20008001.out).2.2|(with_reducible refine Kd.C_alloc ?_ _)|(with_reducible refine Kd.C_drewN ?_ _)|(with_reducible refine Kd.C_drew ?_)));(case side2=>exact(Kd.R_reads' HO_20008001.out).2.1);rintro e w37 ⟨rfl,hb⟩;refine⟨_,rfl,?_⟩;have n0_:=Za (Kd.R_below (by(with_reducible repeat(first|apply Kd.R_alloc|apply Kd.R_drewN|apply Kd.R_drew));exact HO_20008001.out) hb);have n1_:=Za (Zx (g:=gb20001) (o:=.cells #[.int .i64 a0_0,.slice A0_1 l0_1.length c0_1] 25 (0,0)) (by(with_reducible repeat(first|refine Zo ?_ _|refine Zq ?_|refine Zn ?_ _));exact BK20001.out) hb);have n2_:=Za (Zx (g:=gb20002) (o:=.cells #[.int .i64 0,.slice none 0 0] 25 (0,0)) (by(with_reducible repeat(first|refine Zo ?_ _|refine Zq ?_|refine Zn ?_ _));exact BK20002.out) hb);have n3_:=Za (Zx (g:=gb20007) (o:=.cells #[.int .i64 a0_0,.slice Ao36 x20008001_1.length co36] 25 (0,0)) (by(with_reducible repeat(first|refine Zo ?_ _|refine Zq ?_|refine Zn ?_ _));exact BK20007.out) hb);have n4_:=Za (Zy (by repeat(first|(with_reducible first|exact HB.out|apply Zr|apply Zm|apply Zs|refine Zp ?_ GE20001.out|refine Zp ?_ GE20002.out|refine Zp ?_ GE20007.out)|exact HB.out)) hb);clear HO_20008001;clear BK20001;clear BK20002;clear BK20007;clear HB;have HO_20008001:=n0_;have BK20001:=n1_;have BK20002:=n2_;have BK20007:=n3_;have HB:=n4_;clear n0_ n1_ n2_ n3_ n4_;(try clear hb);(try clear hb2);(try clear hk);(try clear hi);have hcz38_0:w37.cell? ⟨gb20007,0,none⟩=some (.int .i64 a0_0):=(Zu BK20007.out 0).trans rfl;have hcz38_1:w37.cell? ⟨gb20007,1,none⟩=some (.slice Ao36 x20008001_1.length co36):=(Zu BK20007.out 1).trans rfl;have hfz38_0:=Zt BK20007.out 0;have hfz38_1:=Zt BK20007.out 1;have hnb39:=NB20002_20001.out;have hnc39:=NB20001_20002.out;have hcz40_0:w37.cell? ⟨gb20002,0,none⟩=some (.int .i64 0):=(Zu BK20002.out 0).trans rfl;have hcz40_1:w37.cell? ⟨gb20002,1,none⟩=some (.slice none 0 0):=(Zu BK20002.out 1).trans rfl;have hfz40_0:=Zt BK20002.out 0;have hfz40_1:=Zt BK20002.out 1))
      refine bodyPost_ret (Z5 rfl _ _ gb20002 25 #[.int .i64 a0_0,.slice Ao36 x20008001_1.length co36] (0,0) _ rfl (by(with_reducible repeat(first|refine Zo ?_ _|refine Zq ?_|refine Zn ?_ _));refine ZF (cs:=#[.int .i64 a0_0,.slice none 0 0]) ?_ 1 _ rfl;(with_reducible repeat(first|refine Zo ?_ _|refine Zq ?_|refine Zn ?_ _));refine ZF (cs:=#[.int .i64 0,.slice none 0 0]) ?_ 0 _ rfl;(with_reducible repeat(first|refine Zo ?_ _|refine Zq ?_|refine Zn ?_ _));exact BK20002.out) Try.underlying25 rfl (by kernel_rfl)) rfl ?_
      exact⟨_,by first|rfl|(simp[ZA,Zz] <;> rfl)|(simp[*,ZA,Zz] <;> rfl),by(with_reducible repeat(first|apply Kd.R_alloc|apply Kd.R_drewN|apply Kd.R_drew));exact Kd.R_mono (Kd.R_far (p:=⟨gb20002,1,none⟩) (Kd.R_far (p:=⟨gb20002,0,none⟩) (Kd.R_types HO_20008001.out BK20002.out (by decide)) (fun _ hk=>hk.2) (.int .i64 a0_0)) (fun _ hk=>hk.2) (.slice Ao36 x20008001_1.length co36)) (fun _ hk=>trivial),by repeat(first|(with_reducible first|exact HB.out|apply Zr|apply Zm|apply Zs|refine Zp ?_ GE20001.out|refine Zp ?_ GE20002.out|refine Zp ?_ GE20007.out)|exact HB.out)⟩
     ·replace c32:=Bool.eq_false_iff.mpr c32
      subst c32
      have H1:(some (0,([]:List (S101)),false))=some (r1,r2,r3):=by rw[if_neg (show ¬(false=true) by decide)] at H;exact H
      clear H
      have H:=H1
      clear H1
      simp only[Option.some.injEq,Prod.mk.injEq] at H
      obtain⟨rfl,rfl,rfl⟩:=H
      have hnb41:=NB20007_20001.out
      have hnc41:=NB20001_20007.out
      have hnb42:=NB20007_20002.out
      have hnc42:=NB20002_20007.out
      have hcz43_0:wr.cell? ⟨gb20007,0,none⟩=some (.int .i64 a0_0):=(Zu BK20007.out 0).trans rfl
      have hcz43_1:wr.cell? ⟨gb20007,1,none⟩=some (u20008001):=(Zu BK20007.out 1).trans rfl
      have hfz43_0:=Zt BK20007.out 0
      have hfz43_1:=Zt BK20007.out 1
      obtain⟨Ao44,co44,eo44⟩:=Kd.R_slice HO_20008001.out
      subst eo44
      go_wp2_with (first|((with_reducible refine ZG (f:=19) rfl ?_);refine ZV (some 45) rfl rfl Try.func19 (by kernel_rfl) rfl #[.agg #[.int .i64 a0_0,.slice Ao44 x20008001_1.length co44]] rfl (by(try simp only[List.map_toArray,List.map_cons,List.map_nil]);first|done|rfl|(simp only[Zk,Zj];rfl)) ?_;(with_reducible refine(Z8.calls a0_0 _ _ x20008001_1 false _ ?side1 ?side2 A31.out).mono ?_);(case side1=>repeat(first|exact(Kd.R_reads' HO_20008001.out).2.2|(with_reducible refine Kd.C_alloc ?_ _)|(with_reducible refine Kd.C_drewN ?_ _)|(with_reducible refine Kd.C_drew ?_)));(case side2=>exact(Kd.R_reads' HO_20008001.out).2.1);rintro e w45 ⟨rfl,hb⟩;refine⟨_,rfl,?_⟩;have n0_:=Za (Kd.R_below (by(with_reducible repeat(first|apply Kd.R_alloc|apply Kd.R_drewN|apply Kd.R_drew));exact HO_20008001.out) hb);have n1_:=Za (Zx (g:=gb20001) (o:=.cells #[.int .i64 a0_0,.slice A0_1 l0_1.length c0_1] 25 (0,0)) (by(with_reducible repeat(first|refine Zo ?_ _|refine Zq ?_|refine Zn ?_ _));exact BK20001.out) hb);have n2_:=Za (Zx (g:=gb20002) (o:=.cells #[.int .i64 0,.slice none 0 0] 25 (0,0)) (by(with_reducible repeat(first|refine Zo ?_ _|refine Zq ?_|refine Zn ?_ _));exact BK20002.out) hb);have n3_:=Za (Zx (g:=gb20007) (o:=.cells #[.int .i64 a0_0,.slice Ao44 x20008001_1.length co44] 25 (0,0)) (by(with_reducible repeat(first|refine Zo ?_ _|refine Zq ?_|refine Zn ?_ _));exact BK20007.out) hb);have n4_:=Za (Zy (by repeat(first|(with_reducible first|exact HB.out|apply Zr|apply Zm|apply Zs|refine Zp ?_ GE20001.out|refine Zp ?_ GE20002.out|refine Zp ?_ GE20007.out)|exact HB.out)) hb);clear HO_20008001;clear BK20001;clear BK20002;clear BK20007;clear HB;have HO_20008001:=n0_;have BK20001:=n1_;have BK20002:=n2_;have BK20007:=n3_;have HB:=n4_;clear n0_ n1_ n2_ n3_ n4_;(try clear hb);(try clear hb2);(try clear hk);(try clear hi);have hnb46:=NB20002_20001.out;have hnc46:=NB20001_20002.out;have hcz47_0:w45.cell? ⟨gb20002,0,none⟩=some (.int .i64 0):=(Zu BK20002.out 0).trans rfl;have hcz47_1:w45.cell? ⟨gb20002,1,none⟩=some (.slice none 0 0):=(Zu BK20002.out 1).trans rfl;have hfz47_0:=Zt BK20002.out 0;have hfz47_1:=Zt BK20002.out 1))
      refine bodyPost_ret (Z5 rfl _ _ gb20002 25 #[.int .i64 0,.slice none 0 0] (0,0) _ rfl (by(with_reducible repeat(first|refine Zo ?_ _|refine Zq ?_|refine Zn ?_ _));refine ZF (cs:=#[.int .i64 0,.slice none 0 0]) ?_ 1 _ rfl;(with_reducible repeat(first|refine Zo ?_ _|refine Zq ?_|refine Zn ?_ _));refine ZF (cs:=#[.int .i64 0,.slice none 0 0]) ?_ 0 _ rfl;(with_reducible repeat(first|refine Zo ?_ _|refine Zq ?_|refine Zn ?_ _));exact BK20002.out) Try.underlying25 rfl (by kernel_rfl)) rfl ?_
      exact⟨_,by first|rfl|(simp[ZA,Zz] <;> rfl)|(simp[*,ZA,Zz] <;> rfl),by first|exact Kd.R_nil _ _ _ _ _|exact Kd.N_nil _ _ _ _ _|exact Kd.V_nil _ _ _ _ _|exact Kd.Q_nil _ _ _ _ _|exact Kd.S_nil _ _ _ _ _,by repeat(first|(with_reducible first|exact HB.out|apply Zr|apply Zm|apply Zs|refine Zp ?_ GE20001.out|refine Zp ?_ GE20002.out|refine Zp ?_ GE20007.out)|exact HB.out)⟩
 ·replace c4:=Bool.eq_false_iff.mpr c4
  subst c4
  have H1:(some (0,([]:List (S101)),false))=some (r1,r2,r3):=by rw[if_neg (show ¬(false=true) by decide)] at H;exact H
  clear H
  have H:=H1
  clear H1
  simp only[Option.some.injEq,Prod.mk.injEq] at H
  obtain⟨rfl,rfl,rfl⟩:=H
  go_enter Try.func20,Try.ntmps20
  go_wp2_with (first|((with_reducible refine ZD (N:=2) rfl ?_);refine ZE ?hg (N:=2) ?hd (cs:=#[.int .i64 a0_0,.slice A0_1 l0_1.length c0_1]) (t:=25) ?hr ?_;(case hd=>rfl);(case hg=>rfl);(case hr=>first|(go_simp;done)|(go_simp;rfl));intro gb20001 hg w48 hbox hb;have n0_:=Za (Zy (by repeat(first|(with_reducible first|exact HB.out|apply Zr|apply Zm|apply Zs)|exact HB.out)) hb);have n1_:=Za (hbox);have n2_:=Za ((by rw[hg];exact(Zv (by repeat(first|(with_reducible first|exact HB.out|apply Zr|apply Zm|apply Zs)|exact HB.out))):w.heap.size≤gb20001));have n3_:=Za ((by rw[hg];exact(Zv (by repeat(first|(with_reducible first|exact HB.out|apply Zr|apply Zm|apply Zs)|exact HB.out))):w.heap.size≤gb20001));clear HB;have HB:=n0_;have BK20001:=n1_;have GW20001:=n2_;have GE20001:=n3_;clear n0_ n1_ n2_ n3_;clear hb hbox hg)|((with_reducible refine ZD (N:=4) rfl ?_);refine ZE ?hg (N:=4) ?hd (cs:=#[.int .i64 0,.slice none 0 0]) (t:=25) ?hr ?_;(case hd=>rfl);(case hg=>rfl);(case hr=>first|(go_simp;done)|(go_simp;rfl));intro gb20002 hg w49 hbox hb;have n0_:=Za (Zx (g:=gb20001) (o:=.cells #[.int .i64 a0_0,.slice A0_1 l0_1.length c0_1] 25 (0,0)) (by(with_reducible repeat(first|refine Zo ?_ _|refine Zq ?_|refine Zn ?_ _));exact BK20001.out) hb);have n1_:=Za (Zy (by repeat(first|(with_reducible first|exact HB.out|apply Zr|apply Zm|apply Zs|refine Zp ?_ GE20001.out)|exact HB.out)) hb);have n2_:=Za (hbox);have n3_:=Za ((by rw[hg];exact(Zv (by repeat(first|(with_reducible first|exact HB.out|apply Zr|apply Zm|apply Zs|refine Zp ?_ GE20001.out)|exact HB.out))):w.heap.size≤gb20002));have n4_:=Za ((by rw[hg];exact(Zv (by repeat(first|(with_reducible first|exact HB.out|apply Zr|apply Zm|apply Zs|refine Zp ?_ GE20001.out)|exact HB.out))):w.heap.size≤gb20002));have n5_:=Za ((by rw[hg];exact Nat.ne_of_lt (ZB (g:=gb20001) (o:=.cells #[.int .i64 a0_0,.slice A0_1 l0_1.length c0_1] 25 (0,0)) (by(with_reducible repeat(first|refine Zo ?_ _|refine Zq ?_|refine Zn ?_ _));exact BK20001.out)):gb20001≠gb20002));have n6_:=Za ((by rw[hg];exact Nat.ne_of_gt (ZB (g:=gb20001) (o:=.cells #[.int .i64 a0_0,.slice A0_1 l0_1.length c0_1] 25 (0,0)) (by(with_reducible repeat(first|refine Zo ?_ _|refine Zq ?_|refine Zn ?_ _));exact BK20001.out)):gb20002≠gb20001));clear BK20001;clear HB;have BK20001:=n0_;have HB:=n1_;have BK20002:=n2_;have GW20002:=n3_;have GE20002:=n4_;have NB20001_20002:=n5_;have NB20002_20001:=n6_;clear n0_ n1_ n2_ n3_ n4_ n5_ n6_;clear hb hbox hg;have hnb50:=NB20001_20002.out;have hnc50:=NB20002_20001.out;have hcz51_0:w49.cell? ⟨gb20001,0,none⟩=some (.int .i64 a0_0):=(Zu BK20001.out 0).trans rfl;have hcz51_1:w49.cell? ⟨gb20001,1,none⟩=some (.slice A0_1 l0_1.length c0_1):=(Zu BK20001.out 1).trans rfl;have hfz51_0:=Zt BK20001.out 0;have hfz51_1:=Zt BK20001.out 1)|((with_reducible refine ZG (f:=26) rfl ?_);refine ZV (some 11) rfl rfl Try.func26 (by kernel_rfl) rfl #[.agg #[.int .i64 a0_0,.slice A0_1 l0_1.length c0_1],.slice A1 l1.length c1] rfl (by(try simp only[List.map_toArray,List.map_cons,List.map_nil]);first|done|rfl|(simp only[Zk,Zj];rfl)) ?_;(with_reducible refine(ZaV.calls a0_0 _ _ l0_1 _ _ l1 false _ ?side1 ?side2 ?side3 ?side4 A3.out).mono ?_);(case side1=>repeat(first|exact(Zb HR0_1.out HB.out)|(with_reducible refine Kd.C_alloc ?_ _)|(with_reducible refine Kd.C_drewN ?_ _)|(with_reducible refine Kd.C_drew ?_)));(case side2=>exact HC0_1.out);(case side3=>repeat(first|exact(Zb HR1.out HB.out)|(with_reducible refine Kd.C_alloc ?_ _)|(with_reducible refine Kd.C_drewN ?_ _)|(with_reducible refine Kd.C_drew ?_)));(case side4=>exact HC1.out);rintro e w52 ⟨rfl,hb⟩;refine⟨_,rfl,?_⟩;have n0_:=Za (Zx (g:=gb20001) (o:=.cells #[.int .i64 a0_0,.slice A0_1 l0_1.length c0_1] 25 (0,0)) (by(with_reducible repeat(first|refine Zo ?_ _|refine Zq ?_|refine Zn ?_ _));exact BK20001.out) hb);have n1_:=Za (Zx (g:=gb20002) (o:=.cells #[.int .i64 0,.slice none 0 0] 25 (0,0)) (by(with_reducible repeat(first|refine Zo ?_ _|refine Zq ?_|refine Zn ?_ _));exact BK20002.out) hb);have n2_:=Za (Zy (by repeat(first|(with_reducible first|exact HB.out|apply Zr|apply Zm|apply Zs|refine Zp ?_ GE20001.out|refine Zp ?_ GE20002.out)|exact HB.out)) hb);clear BK20001;clear BK20002;clear HB;have BK20001:=n0_;have BK20002:=n1_;have HB:=n2_;clear n0_ n1_ n2_;(try clear hb);(try clear hb2);(try clear hk);(try clear hi);have hcz53_0:w52.cell? ⟨gb20002,0,none⟩=some (.int .i64 0):=(Zu BK20002.out 0).trans rfl;have hcz53_1:w52.cell? ⟨gb20002,1,none⟩=some (.slice none 0 0):=(Zu BK20002.out 1).trans rfl;have hfz53_0:=Zt BK20002.out 0;have hfz53_1:=Zt BK20002.out 1))
  refine bodyPost_ret (Z5 rfl _ _ gb20002 25 #[.int .i64 0,.slice none 0 0] (0,0) _ rfl (by(with_reducible repeat(first|refine Zo ?_ _|refine Zq ?_|refine Zn ?_ _));refine ZF (cs:=#[.int .i64 0,.slice none 0 0]) ?_ 1 _ rfl;(with_reducible repeat(first|refine Zo ?_ _|refine Zq ?_|refine Zn ?_ _));refine ZF (cs:=#[.int .i64 0,.slice none 0 0]) ?_ 0 _ rfl;(with_reducible repeat(first|refine Zo ?_ _|refine Zq ?_|refine Zn ?_ _));exact BK20002.out) Try.underlying25 rfl (by kernel_rfl)) rfl ?_
  exact⟨_,by first|rfl|(simp[ZA,Zz] <;> rfl)|(simp[*,ZA,Zz] <;> rfl),by first|exact Kd.R_nil _ _ _ _ _|exact Kd.N_nil _ _ _ _ _|exact Kd.V_nil _ _ _ _ _|exact Kd.Q_nil _ _ _ _ _|exact Kd.S_nil _ _ _ _ _,by repeat(first|(with_reducible first|exact HB.out|apply Zr|apply Zm|apply Zs|refine Zp ?_ GE20001.out|refine Zp ?_ GE20002.out)|exact HB.out)⟩
def Zbl.f (k:Nat) (a0_0:Int) (l0_1:List (S101)) (l1:List Int) (a2:Int):Option (Int×Int×Bool):=(ZX.f k a0_0 l0_1 l1).bind fun bt27003=>(if bt27003.2.2=true then((Zav.f k bt27003.1 bt27003.2.1).bind fun t27009=>(if t27009=true then((ZaN.f k bt27003.1 bt27003.2.1 a2).bind fun bt27010=>(some (bt27010.1,bt27010.2.1,bt27010.2.2))) else(some (0,0,false)))) else(some (0,0,false)))
set_option maxHeartbeats 8000000 in
set_option maxRecDepth 100000 in
theorem Zbl.calls (k:Nat) (a0_0:Int) (A0_1:Option Addr) (c0_1:Nat) (l0_1:List (S101)) (A1:Option Addr) (c1:Nat) (l1:List Int) (a2:Int) (r1:Int) (r2:Int) (r3:Bool) (w:World) (hr0_1:Kd.C k101 w A0_1 l0_1.length l0_1) (hc0_1:l0_1.length≤c0_1) (hr1:Kd.C (Kd.int .i64) w A1 l1.length l1) (hc1:l1.length≤c1) (h:Zbl.f k a0_0 l0_1 l1 a2=some (r1,r2,r3)) :
  Calls Try.prog 27 #[.agg #[.int .i64 a0_0,.slice A0_1 l0_1.length c0_1],.slice A1 l1.length c1,.int .i64 a2] w fun e w'=>e=.returned (.tuple #[.agg #[.int .i64 r1,.int .i64 r2],.bool r3])∧Below w.heap.size w w':=by
 have hu25:=Try.underlying25
 have hu29:=Try.underlying29
 have HR0_1:=Za hr0_1;have HC0_1:=Za hc0_1;clear hr0_1 hc0_1;have HR1:=Za hr1;have HC1:=Za hc1;clear hr1 hc1
 have HB:=Za (Below.refl w.heap.size w)
 have H:((ZX.f k a0_0 l0_1 l1).bind fun bt27003=>(if bt27003.2.2=true then((Zav.f k bt27003.1 bt27003.2.1).bind fun t27009=>(if t27009=true then((ZaN.f k bt27003.1 bt27003.2.1 a2).bind fun bt27010=>(some (bt27010.1,bt27010.2.1,bt27010.2.2))) else(some (0,0,false)))) else(some (0,0,false))))=some (r1,r2,r3):=h
 clear h
 replace H:=Zh H
 obtain⟨⟨t27003,t27004,t27007⟩,A40,H⟩:=H
 replace H:(if t27007=true then((Zav.f k t27003 t27004).bind fun t27009=>(if t27009=true then((ZaN.f k t27003 t27004 a2).bind fun bt27010=>(some (bt27010.1,bt27010.2.1,bt27010.2.2))) else(some (0,0,false)))) else(some (0,0,false)))=some (r1,r2,r3):=H
 have A4:=Za A40;clear A40
 by_cases c5:t27007=true
 ·subst c5
  have H1:((Zav.f k t27003 t27004).bind fun t27009=>(if t27009=true then((ZaN.f k t27003 t27004 a2).bind fun bt27010=>(some (bt27010.1,bt27010.2.1,bt27010.2.2))) else(some (0,0,false))))=some (r1,r2,r3):=by rw[if_pos rfl] at H;exact H
  clear H
  have H:=H1
  clear H1
  replace H:=Zh H
  obtain⟨t27009,A60,H⟩:=H
  replace H:(if t27009=true then((ZaN.f k t27003 t27004 a2).bind fun bt27010=>(some (bt27010.1,bt27010.2.1,bt27010.2.2))) else(some (0,0,false)))=some (r1,r2,r3):=H
  have A6:=Za A60;clear A60
  by_cases c7:t27009=true
  ·subst c7
   have H1:((ZaN.f k t27003 t27004 a2).bind fun bt27010=>(some (bt27010.1,bt27010.2.1,bt27010.2.2)))=some (r1,r2,r3):=by rw[if_pos rfl] at H;exact H
   clear H
   have H:=H1
   clear H1
   replace H:=Zh H
   obtain⟨⟨t27010,t27011,t27012⟩,A80,H⟩:=H
   replace H:(some (t27010,t27011,t27012))=some (r1,r2,r3):=H
   have A8:=Za A80;clear A80
   simp only[Option.some.injEq,Prod.mk.injEq] at H
   obtain⟨rfl,rfl,rfl⟩:=H
   go_enter Try.func27,Try.ntmps27
   go_wp2_with (first|((with_reducible refine ZD (N:=3) rfl ?_);refine ZE ?hg (N:=3) ?hd (cs:=#[.int .i64 a0_0,.slice A0_1 l0_1.length c0_1]) (t:=25) ?hr ?_;(case hd=>rfl);(case hg=>rfl);(case hr=>first|(go_simp;done)|(go_simp;rfl));intro gb27001 hg w9 hbox hb;have n0_:=Za (Zy (by repeat(first|(with_reducible first|exact HB.out|apply Zr|apply Zm|apply Zs)|exact HB.out)) hb);have n1_:=Za (hbox);have n2_:=Za ((by rw[hg];exact(Zv (by repeat(first|(with_reducible first|exact HB.out|apply Zr|apply Zm|apply Zs)|exact HB.out))):w.heap.size≤gb27001));have n3_:=Za ((by rw[hg];exact(Zv (by repeat(first|(with_reducible first|exact HB.out|apply Zr|apply Zm|apply Zs)|exact HB.out))):w.heap.size≤gb27001));clear HB;have HB:=n0_;have BK27001:=n1_;have GW27001:=n2_;have GE27001:=n3_;clear n0_ n1_ n2_ n3_;clear hb hbox hg)|((with_reducible refine ZD (N:=6) rfl ?_);refine ZE ?hg (N:=6) ?hd (cs:=#[.int .i64 0,.int .i64 0]) (t:=29) ?hr ?_;(case hd=>rfl);(case hg=>rfl);(case hr=>first|(go_simp;done)|(go_simp;rfl));intro gb27002 hg w10 hbox hb;have n0_:=Za (Zx (g:=gb27001) (o:=.cells #[.int .i64 a0_0,.slice A0_1 l0_1.length c0_1] 25 (0,0)) (by(with_reducible repeat(first|refine Zo ?_ _|refine Zq ?_|refine Zn ?_ _));exact BK27001.out) hb);have n1_:=Za (Zy (by repeat(first|(with_reducible first|exact HB.out|apply Zr|apply Zm|apply Zs|refine Zp ?_ GE27001.out)|exact HB.out)) hb);have n2_:=Za (hbox);have n3_:=Za ((by rw[hg];exact(Zv (by repeat(first|(with_reducible first|exact HB.out|apply Zr|apply Zm|apply Zs|refine Zp ?_ GE27001.out)|exact HB.out))):w.heap.size≤gb27002));have n4_:=Za ((by rw[hg];exact(Zv (by repeat(first|(with_reducible first|exact HB.out|apply Zr|apply Zm|apply Zs|refine Zp ?_ GE27001.out)|exact HB.out))):w.heap.size≤gb27002));have n5_:=Za ((by rw[hg];exact Nat.ne_of_lt (ZB (g:=gb27001) (o:=.cells #[.int .i64 a0_0,.slice A0_1 l0_1.length c0_1] 25 (0,0)) (by(with_reducible repeat(first|refine Zo ?_ _|refine Zq ?_|refine Zn ?_ _));exact BK27001.out)):gb27001≠gb27002));have n6_:=Za ((by rw[hg];exact Nat.ne_of_gt (ZB (g:=gb27001) (o:=.cells #[.int .i64 a0_0,.slice A0_1 l0_1.length c0_1] 25 (0,0)) (by(with_reducible repeat(first|refine Zo ?_ _|refine Zq ?_|refine Zn ?_ _));exact BK27001.out)):gb27002≠gb27001));clear BK27001;clear HB;have BK27001:=n0_;have HB:=n1_;have BK27002:=n2_;have GW27002:=n3_;have GE27002:=n4_;have NB27001_27002:=n5_;have NB27002_27001:=n6_;clear n0_ n1_ n2_ n3_ n4_ n5_ n6_;clear hb hbox hg;have hnb11:=NB27001_27002.out;have hnc11:=NB27002_27001.out;have hcz12_0:w10.cell? ⟨gb27001,0,none⟩=some (.int .i64 a0_0):=(Zu BK27001.out 0).trans rfl;have hcz12_1:w10.cell? ⟨gb27001,1,none⟩=some (.slice A0_1 l0_1.length c0_1):=(Zu BK27001.out 1).trans rfl;have hfz12_0:=Zt BK27001.out 0;have hfz12_1:=Zt BK27001.out 1)|((with_reducible refine ZG (f:=20) rfl ?_);refine ZV (some 13) rfl rfl Try.func20 (by kernel_rfl) rfl #[.agg #[.int .i64 a0_0,.slice A0_1 l0_1.length c0_1],.slice A1 l1.length c1] rfl (by(try simp only[List.map_toArray,List.map_cons,List.map_nil]);first|done|rfl|(simp only[Zk,Zj];rfl)) ?_;(with_reducible refine(ZX.calls k a0_0 _ _ l0_1 _ _ l1 t27003 t27004 true _ ?side1 ?side2 ?side3 ?side4 A4.out).mono ?_);(case side1=>repeat(first|exact(Zb HR0_1.out HB.out)|(with_reducible refine Kd.C_alloc ?_ _)|(with_reducible refine Kd.C_drewN ?_ _)|(with_reducible refine Kd.C_drew ?_)));(case side2=>exact HC0_1.out);(case side3=>repeat(first|exact(Zb HR1.out HB.out)|(with_reducible refine Kd.C_alloc ?_ _)|(with_reducible refine Kd.C_drewN ?_ _)|(with_reducible refine Kd.C_drew ?_)));(case side4=>exact HC1.out);rintro e w13 ⟨v27005,rfl,ho0,hb⟩;refine⟨_,rfl,?_⟩;have n0_:=Za (Kd.R_lower ho0 (Zv (by repeat(first|(with_reducible first|exact HB.out|apply Zr|apply Zm|apply Zs|refine Zp ?_ GE27001.out|refine Zp ?_ GE27002.out)|exact HB.out))));have n1_:=Za (Zx (g:=gb27001) (o:=.cells #[.int .i64 a0_0,.slice A0_1 l0_1.length c0_1] 25 (0,0)) (by(with_reducible repeat(first|refine Zo ?_ _|refine Zq ?_|refine Zn ?_ _));exact BK27001.out) hb);have n2_:=Za (Zx (g:=gb27002) (o:=.cells #[.int .i64 0,.int .i64 0] 29 (0,0)) (by(with_reducible repeat(first|refine Zo ?_ _|refine Zq ?_|refine Zn ?_ _));exact BK27002.out) hb);have n3_:=Za (Zy (by repeat(first|(with_reducible first|exact HB.out|apply Zr|apply Zm|apply Zs|refine Zp ?_ GE27001.out|refine Zp ?_ GE27002.out)|exact HB.out)) hb);clear BK27001;clear BK27002;clear HB;have HO27006:=n0_;have BK27001:=n1_;have BK27002:=n2_;have HB:=n3_;clear n0_ n1_ n2_ n3_;(try clear hb);(try clear hb2);(try clear hk);(try clear hi);(try clear ho0))|((with_reducible refine ZD (N:=8) rfl ?_);refine ZE ?hg (N:=8) ?hd (cs:=#[.int .i64 0,.slice none 0 0]) (t:=25) ?hr ?_;(case hd=>rfl);(case hg=>rfl);(case hr=>first|(go_simp;done)|(go_simp;rfl));intro gb27008 hg w14 hbox hb;have n0_:=Za (Kd.R_below (by(with_reducible repeat(first|apply Kd.R_alloc|apply Kd.R_drewN|apply Kd.R_drew));exact HO27006.out) hb);have n1_:=Za (Zx (g:=gb27001) (o:=.cells #[.int .i64 a0_0,.slice A0_1 l0_1.length c0_1] 25 (0,0)) (by(with_reducible repeat(first|refine Zo ?_ _|refine Zq ?_|refine Zn ?_ _));exact BK27001.out) hb);have n2_:=Za (Zx (g:=gb27002) (o:=.cells #[.int .i64 0,.int .i64 0] 29 (0,0)) (by(with_reducible repeat(first|refine Zo ?_ _|refine Zq ?_|refine Zn ?_ _));exact BK27002.out) hb);have n3_:=Za (Zy (by repeat(first|(with_reducible first|exact HB.out|apply Zr|apply Zm|apply Zs|refine Zp ?_ GE27001.out|refine Zp ?_ GE27002.out)|exact HB.out)) hb);have n4_:=Za (hbox);have n5_:=Za ((by rw[hg];exact(Zv (by repeat(first|(with_reducible first|exact HB.out|apply Zr|apply Zm|apply Zs|refine Zp ?_ GE27001.out|refine Zp ?_ GE27002.out)|exact HB.out))):w.heap.size≤gb27008));have n6_:=Za ((by rw[hg];exact(Zv (by repeat(first|(with_reducible first|exact HB.out|apply Zr|apply Zm|apply Zs|refine Zp ?_ GE27001.out|refine Zp ?_ GE27002.out)|exact HB.out))):w.heap.size≤gb27008));have n7_:=Za ((by rw[hg];exact Nat.ne_of_lt (ZB (g:=gb27001) (o:=.cells #[.int .i64 a0_0,.slice A0_1 l0_1.length c0_1] 25 (0,0)) (by(with_reducible repeat(first|refine Zo ?_ _|refine Zq ?_|refine Zn ?_ _));exact BK27001.out)):gb27001≠gb27008));have n8_:=Za ((by rw[hg];exact Nat.ne_of_gt (ZB (g:=gb27001) (o:=.cells #[.int .i64 a0_0,.slice A0_1 l0_1.length c0_1] 25 (0,0)) (by(with_reducible repeat(first|refine Zo ?_ _|refine Zq ?_|refine Zn ?_ _));exact BK27001.out)):gb27008≠gb27001));have n9_:=Za ((by rw[hg];exact Nat.ne_of_lt (ZB (g:=gb27002) (o:=.cells #[.int .i64 0,.int .i64 0] 29 (0,0)) (by(with_reducible repeat(first|refine Zo ?_ _|refine Zq ?_|refine Zn ?_ _));exact BK27002.out)):gb27002≠gb27008));have n10_:=Za ((by rw[hg];exact Nat.ne_of_gt (ZB (g:=gb27002) (o:=.cells #[.int .i64 0,.int .i64 0] 29 (0,0)) (by(with_reducible repeat(first|refine Zo ?_ _|refine Zq ?_|refine Zn ?_ _));exact BK27002.out)):gb27008≠gb27002));clear HO27006;clear BK27001;clear BK27002;clear HB;have HO27006:=n0_;have BK27001:=n1_;have BK27002:=n2_;have HB:=n3_;have BK27008:=n4_;have GW27008:=n5_;have GE27008:=n6_;have NB27001_27008:=n7_;have NB27008_27001:=n8_;have NB27002_27008:=n9_;have NB27008_27002:=n10_;clear n0_ n1_ n2_ n3_ n4_ n5_ n6_ n7_ n8_ n9_ n10_;clear hb hbox hg;have hnb15:=NB27008_27001.out;have hnc15:=NB27001_27008.out;have hnb16:=NB27008_27002.out;have hnc16:=NB27002_27008.out;have hcz17_0:w14.cell? ⟨gb27008,0,none⟩=some (.int .i64 0):=(Zu BK27008.out 0).trans rfl;have hcz17_1:w14.cell? ⟨gb27008,1,none⟩=some (.slice none 0 0):=(Zu BK27008.out 1).trans rfl;have hfz17_0:=Zt BK27008.out 0;have hfz17_1:=Zt BK27008.out 1;obtain⟨Ao18,co18,eo18⟩:=Kd.R_slice HO27006.out;subst eo18)|(go_at_call 18;(with_reducible refine(Zav.calls k t27003 _ _ t27004 true _ ?side1 ?side2 A6.out).mono ?_);(case side1=>refine(Kd.R_reads' (e:=101) (base:=w.heap.size) (ok:=fun k_=>True) (n:=t27004.length) (c:=co18) ?_).2.2;exact(by(with_reducible repeat(first|apply Kd.R_alloc|apply Kd.R_drewN|apply Kd.R_drew));exact(Kd.R_mono (Kd.R_far (p:=⟨gb27008,1,none⟩) (Kd.R_far (p:=⟨gb27008,0,none⟩) (Kd.R_types HO27006.out BK27008.out (by decide)) (fun _ hk=>hk.2) (.int .i64 t27003)) (fun _ hk=>hk.2) (.slice Ao18 t27004.length co18)) (fun _ h_=>h_.1))));(case side2=>exact(Kd.R_reads' HO27006.out).2.1);rintro e w19 ⟨rfl,hb⟩;have n0_:=Za (Kd.R_below (by(with_reducible repeat(first|apply Kd.R_alloc|apply Kd.R_drewN|apply Kd.R_drew));exact(Kd.R_mono (Kd.R_far (p:=⟨gb27008,1,none⟩) (Kd.R_far (p:=⟨gb27008,0,none⟩) (Kd.R_types HO27006.out BK27008.out (by decide)) (fun _ hk=>hk.2) (.int .i64 t27003)) (fun _ hk=>hk.2) (.slice Ao18 t27004.length co18)) (fun _ h_=>h_.1))) hb);have n1_:=Za (Zx (g:=gb27001) (o:=.cells #[.int .i64 a0_0,.slice A0_1 l0_1.length c0_1] 25 (0,0)) (by(with_reducible repeat(first|refine Zo ?_ _|refine Zq ?_|refine Zn ?_ _));refine ZC ?_ NB27001_27008.out _;(with_reducible repeat(first|refine Zo ?_ _|refine Zq ?_|refine Zn ?_ _));refine ZC ?_ NB27001_27008.out _;(with_reducible repeat(first|refine Zo ?_ _|refine Zq ?_|refine Zn ?_ _));exact BK27001.out) hb);have n2_:=Za (Zx (g:=gb27002) (o:=.cells #[.int .i64 0,.int .i64 0] 29 (0,0)) (by(with_reducible repeat(first|refine Zo ?_ _|refine Zq ?_|refine Zn ?_ _));refine ZC ?_ NB27002_27008.out _;(with_reducible repeat(first|refine Zo ?_ _|refine Zq ?_|refine Zn ?_ _));refine ZC ?_ NB27002_27008.out _;(with_reducible repeat(first|refine Zo ?_ _|refine Zq ?_|refine Zn ?_ _));exact BK27002.out) hb);have n3_:=Za (Zx (g:=gb27008) (o:=.cells #[.int .i64 t27003,.slice Ao18 t27004.length co18] 25 (0,0)) (by(with_reducible repeat(first|refine Zo ?_ _|refine Zq ?_|refine Zn ?_ _));refine ZF (cs:=#[.int .i64 t27003,.slice none 0 0]) ?_ 1 _ rfl;(with_reducible repeat(first|refine Zo ?_ _|refine Zq ?_|refine Zn ?_ _));refine ZF (cs:=#[.int .i64 0,.slice none 0 0]) ?_ 0 _ rfl;(with_reducible repeat(first|refine Zo ?_ _|refine Zq ?_|refine Zn ?_ _));exact BK27008.out) hb);have n4_:=Za (Zy (by repeat(first|(with_reducible first|exact HB.out|apply Zr|apply Zm|apply Zs|refine Zp ?_ GE27001.out|refine Zp ?_ GE27002.out|refine Zp ?_ GE27008.out)|exact HB.out)) hb);clear HO27006;clear BK27001;clear BK27002;clear BK27008;clear HB;have HO27006:=n0_;have BK27001:=n1_;have BK27002:=n2_;have BK27008:=n3_;have HB:=n4_;clear n0_ n1_ n2_ n3_ n4_;(try clear hb);(try clear hb2);(try clear hk);(try clear hi);have hcz20_0:w19.cell? ⟨gb27008,0,none⟩=some (.int .i64 t27003):=(Zu BK27008.out 0).trans rfl;have hcz20_1:w19.cell? ⟨gb27008,1,none⟩=some (.slice Ao18 t27004.length co18):=(Zu BK27008.out 1).trans rfl;have hfz20_0:=Zt BK27008.out 0;have hfz20_1:=Zt BK27008.out 1)|((with_reducible refine ZG (f:=17) rfl ?_);refine ZV (some 26) rfl rfl Try.func17 (by kernel_rfl) rfl #[.agg #[.int .i64 t27003,.slice Ao18 t27004.length co18],.int .i64 a2] rfl (by(try simp only[List.map_toArray,List.map_cons,List.map_nil]);first|done|rfl|(simp only[Zk,Zj];rfl)) ?_;(with_reducible refine(ZaN.calls k t27003 _ _ t27004 a2 t27010 t27011 t27012 _ ?side1 ?side2 A8.out).mono ?_);(case side1=>repeat(first|exact(Kd.R_reads' HO27006.out).2.2|(with_reducible refine Kd.C_alloc ?_ _)|(with_reducible refine Kd.C_drewN ?_ _)|(with_reducible refine Kd.C_drew ?_)));(case side2=>exact(Kd.R_reads' HO27006.out).2.1);rintro e w21 ⟨rfl,hb⟩;refine⟨_,rfl,?_⟩;have n0_:=Za (Kd.R_below (by(with_reducible repeat(first|apply Kd.R_alloc|apply Kd.R_drewN|apply Kd.R_drew));exact HO27006.out) hb);have n1_:=Za (Zx (g:=gb27001) (o:=.cells #[.int .i64 a0_0,.slice A0_1 l0_1.length c0_1] 25 (0,0)) (by(with_reducible repeat(first|refine Zo ?_ _|refine Zq ?_|refine Zn ?_ _));exact BK27001.out) hb);have n2_:=Za (Zx (g:=gb27002) (o:=.cells #[.int .i64 0,.int .i64 0] 29 (0,0)) (by(with_reducible repeat(first|refine Zo ?_ _|refine Zq ?_|refine Zn ?_ _));exact BK27002.out) hb);have n3_:=Za (Zx (g:=gb27008) (o:=.cells #[.int .i64 t27003,.slice Ao18 t27004.length co18] 25 (0,0)) (by(with_reducible repeat(first|refine Zo ?_ _|refine Zq ?_|refine Zn ?_ _));exact BK27008.out) hb);have n4_:=Za (Zy (by repeat(first|(with_reducible first|exact HB.out|apply Zr|apply Zm|apply Zs|refine Zp ?_ GE27001.out|refine Zp ?_ GE27002.out|refine Zp ?_ GE27008.out)|exact HB.out)) hb);clear HO27006;clear BK27001;clear BK27002;clear BK27008;clear HB;have HO27006:=n0_;have BK27001:=n1_;have BK27002:=n2_;have BK27008:=n3_;have HB:=n4_;clear n0_ n1_ n2_ n3_ n4_;(try clear hb);(try clear hb2);(try clear hk);(try clear hi);have hcz22_0:w21.cell? ⟨gb27002,0,none⟩=some (.int .i64 0):=(Zu BK27002.out 0).trans rfl;have hcz22_1:w21.cell? ⟨gb27002,1,none⟩=some (.int .i64 0):=(Zu BK27002.out 1).trans rfl;have hfz22_0:=Zt BK27002.out 0;have hfz22_1:=Zt BK27002.out 1))
   refine bodyPost_ret (Z5 rfl _ _ gb27002 29 #[.int .i64 t27010,.int .i64 t27011] (0,0) _ rfl (by(with_reducible repeat(first|refine Zo ?_ _|refine Zq ?_|refine Zn ?_ _));refine ZF (cs:=#[.int .i64 t27010,.int .i64 0]) ?_ 1 _ rfl;(with_reducible repeat(first|refine Zo ?_ _|refine Zq ?_|refine Zn ?_ _));refine ZF (cs:=#[.int .i64 0,.int .i64 0]) ?_ 0 _ rfl;(with_reducible repeat(first|refine Zo ?_ _|refine Zq ?_|refine Zn ?_ _));exact BK27002.out) Try.underlying29 rfl (by kernel_rfl)) rfl ?_
   exact⟨by first|rfl|(simp[ZA,Zz] <;> rfl)|(simp[*,ZA,Zz] <;> rfl),by repeat(first|(with_reducible first|exact HB.out|apply Zr|apply Zm|apply Zs|refine Zp ?_ GE27001.out|refine Zp ?_ GE27002.out|refine Zp ?_ GE27008.out)|exact HB.out)⟩
  ·replace c7:=Bool.eq_false_iff.mpr c7
   subst c7
   have H1:(some (0,0,false))=some (r1,r2,r3):=by rw[if_neg (show ¬(false=true) by decide)] at H;exact H
   clear H
   have H:=H1
   clear H1
   simp only[Option.some.injEq,Prod.mk.injEq] at H
   obtain⟨rfl,rfl,rfl⟩:=H
   go_enter Try.func27,Try.ntmps27
   go_wp2_with (first|((with_reducible refine ZD (N:=3) rfl ?_);refine ZE ?hg (N:=3) ?hd (cs:=#[.int .i64 a0_0,.slice A0_1 l0_1.length c0_1]) (t:=25) ?hr ?_;(case hd=>rfl);(case hg=>rfl);(case hr=>first|(go_simp;done)|(go_simp;rfl));intro gb27001 hg w23 hbox hb;have n0_:=Za (Zy (by repeat(first|(with_reducible first|exact HB.out|apply Zr|apply Zm|apply Zs)|exact HB.out)) hb);have n1_:=Za (hbox);have n2_:=Za ((by rw[hg];exact(Zv (by repeat(first|(with_reducible first|exact HB.out|apply Zr|apply Zm|apply Zs)|exact HB.out))):w.heap.size≤gb27001));have n3_:=Za ((by rw[hg];exact(Zv (by repeat(first|(with_reducible first|exact HB.out|apply Zr|apply Zm|apply Zs)|exact HB.out))):w.heap.size≤gb27001));clear HB;have HB:=n0_;have BK27001:=n1_;have GW27001:=n2_;have GE27001:=n3_;clear n0_ n1_ n2_ n3_;clear hb hbox hg)|((with_reducible refine ZD (N:=6) rfl ?_);refine ZE ?hg (N:=6) ?hd (cs:=#[.int .i64 0,.int .i64 0]) (t:=29) ?hr ?_;(case hd=>rfl);(case hg=>rfl);(case hr=>first|(go_simp;done)|(go_simp;rfl));intro gb27002 hg w24 hbox hb;have n0_:=Za (Zx (g:=gb27001) (o:=.cells #[.int .i64 a0_0,.slice A0_1 l0_1.length c0_1] 25 (0,0)) (by(with_reducible repeat(first|refine Zo ?_ _|refine Zq ?_|refine Zn ?_ _));exact BK27001.out) hb);have n1_:=Za (Zy (by repeat(first|(with_reducible first|exact HB.out|apply Zr|apply Zm|apply Zs|refine Zp ?_ GE27001.out)|exact HB.out)) hb);have n2_:=Za (hbox);have n3_:=Za ((by rw[hg];exact(Zv (by repeat(first|(with_reducible first|exact HB.out|apply Zr|apply Zm|apply Zs|refine Zp ?_ GE27001.out)|exact HB.out))):w.heap.size≤gb27002));have n4_:=Za ((by rw[hg];exact(Zv (by repeat(first|(with_reducible first|exact HB.out|apply Zr|apply Zm|apply Zs|refine Zp ?_ GE27001.out)|exact HB.out))):w.heap.size≤gb27002));have n5_:=Za ((by rw[hg];exact Nat.ne_of_lt (ZB (g:=gb27001) (o:=.cells #[.int .i64 a0_0,.slice A0_1 l0_1.length c0_1] 25 (0,0)) (by(with_reducible repeat(first|refine Zo ?_ _|refine Zq ?_|refine Zn ?_ _));exact BK27001.out)):gb27001≠gb27002));have n6_:=Za ((by rw[hg];exact Nat.ne_of_gt (ZB (g:=gb27001) (o:=.cells #[.int .i64 a0_0,.slice A0_1 l0_1.length c0_1] 25 (0,0)) (by(with_reducible repeat(first|refine Zo ?_ _|refine Zq ?_|refine Zn ?_ _));exact BK27001.out)):gb27002≠gb27001));clear BK27001;clear HB;have BK27001:=n0_;have HB:=n1_;have BK27002:=n2_;have GW27002:=n3_;have GE27002:=n4_;have NB27001_27002:=n5_;have NB27002_27001:=n6_;clear n0_ n1_ n2_ n3_ n4_ n5_ n6_;clear hb hbox hg;have hnb25:=NB27001_27002.out;have hnc25:=NB27002_27001.out;have hcz26_0:w24.cell? ⟨gb27001,0,none⟩=some (.int .i64 a0_0):=(Zu BK27001.out 0).trans rfl;have hcz26_1:w24.cell? ⟨gb27001,1,none⟩=some (.slice A0_1 l0_1.length c0_1):=(Zu BK27001.out 1).trans rfl;have hfz26_0:=Zt BK27001.out 0;have hfz26_1:=Zt BK27001.out 1)|((with_reducible refine ZG (f:=20) rfl ?_);refine ZV (some 13) rfl rfl Try.func20 (by kernel_rfl) rfl #[.agg #[.int .i64 a0_0,.slice A0_1 l0_1.length c0_1],.slice A1 l1.length c1] rfl (by(try simp only[List.map_toArray,List.map_cons,List.map_nil]);first|done|rfl|(simp only[Zk,Zj];rfl)) ?_;(with_reducible refine(ZX.calls k a0_0 _ _ l0_1 _ _ l1 t27003 t27004 true _ ?side1 ?side2 ?side3 ?side4 A4.out).mono ?_);(case side1=>repeat(first|exact(Zb HR0_1.out HB.out)|(with_reducible refine Kd.C_alloc ?_ _)|(with_reducible refine Kd.C_drewN ?_ _)|(with_reducible refine Kd.C_drew ?_)));(case side2=>exact HC0_1.out);(case side3=>repeat(first|exact(Zb HR1.out HB.out)|(with_reducible refine Kd.C_alloc ?_ _)|(with_reducible refine Kd.C_drewN ?_ _)|(with_reducible refine Kd.C_drew ?_)));(case side4=>exact HC1.out);rintro e w27 ⟨v27005,rfl,ho0,hb⟩;refine⟨_,rfl,?_⟩;have n0_:=Za (Kd.R_lower ho0 (Zv (by repeat(first|(with_reducible first|exact HB.out|apply Zr|apply Zm|apply Zs|refine Zp ?_ GE27001.out|refine Zp ?_ GE27002.out)|exact HB.out))));have n1_:=Za (Zx (g:=gb27001) (o:=.cells #[.int .i64 a0_0,.slice A0_1 l0_1.length c0_1] 25 (0,0)) (by(with_reducible repeat(first|refine Zo ?_ _|refine Zq ?_|refine Zn ?_ _));exact BK27001.out) hb);have n2_:=Za (Zx (g:=gb27002) (o:=.cells #[.int .i64 0,.int .i64 0] 29 (0,0)) (by(with_reducible repeat(first|refine Zo ?_ _|refine Zq ?_|refine Zn ?_ _));exact BK27002.out) hb);have n3_:=Za (Zy (by repeat(first|(with_reducible first|exact HB.out|apply Zr|apply Zm|apply Zs|refine Zp ?_ GE27001.out|refine Zp ?_ GE27002.out)|exact HB.out)) hb);clear BK27001;clear BK27002;clear HB;have HO27006:=n0_;have BK27001:=n1_;have BK27002:=n2_;have HB:=n3_;clear n0_ n1_ n2_ n3_;(try clear hb);(try clear hb2);(try clear hk);(try clear hi);(try clear ho0))|((with_reducible refine ZD (N:=8) rfl ?_);refine ZE ?hg (N:=8) ?hd (cs:=#[.int .i64 0,.slice none 0 0]) (t:=25) ?hr ?_;(case hd=>rfl);(case hg=>rfl);(case hr=>first|(go_simp;done)|(go_simp;rfl));intro gb27008 hg w28 hbox hb;have n0_:=Za (Kd.R_below (by(with_reducible repeat(first|apply Kd.R_alloc|apply Kd.R_drewN|apply Kd.R_drew));exact HO27006.out) hb);have n1_:=Za (Zx (g:=gb27001) (o:=.cells #[.int .i64 a0_0,.slice A0_1 l0_1.length c0_1] 25 (0,0)) (by(with_reducible repeat(first|refine Zo ?_ _|refine Zq ?_|refine Zn ?_ _));exact BK27001.out) hb);have n2_:=Za (Zx (g:=gb27002) (o:=.cells #[.int .i64 0,.int .i64 0] 29 (0,0)) (by(with_reducible repeat(first|refine Zo ?_ _|refine Zq ?_|refine Zn ?_ _));exact BK27002.out) hb);have n3_:=Za (Zy (by repeat(first|(with_reducible first|exact HB.out|apply Zr|apply Zm|apply Zs|refine Zp ?_ GE27001.out|refine Zp ?_ GE27002.out)|exact HB.out)) hb);have n4_:=Za (hbox);have n5_:=Za ((by rw[hg];exact(Zv (by repeat(first|(with_reducible first|exact HB.out|apply Zr|apply Zm|apply Zs|refine Zp ?_ GE27001.out|refine Zp ?_ GE27002.out)|exact HB.out))):w.heap.size≤gb27008));have n6_:=Za ((by rw[hg];exact(Zv (by repeat(first|(with_reducible first|exact HB.out|apply Zr|apply Zm|apply Zs|refine Zp ?_ GE27001.out|refine Zp ?_ GE27002.out)|exact HB.out))):w.heap.size≤gb27008));have n7_:=Za ((by rw[hg];exact Nat.ne_of_lt (ZB (g:=gb27001) (o:=.cells #[.int .i64 a0_0,.slice A0_1 l0_1.length c0_1] 25 (0,0)) (by(with_reducible repeat(first|refine Zo ?_ _|refine Zq ?_|refine Zn ?_ _));exact BK27001.out)):gb27001≠gb27008));have n8_:=Za ((by rw[hg];exact Nat.ne_of_gt (ZB (g:=gb27001) (o:=.cells #[.int .i64 a0_0,.slice A0_1 l0_1.length c0_1] 25 (0,0)) (by(with_reducible repeat(first|refine Zo ?_ _|refine Zq ?_|refine Zn ?_ _));exact BK27001.out)):gb27008≠gb27001));have n9_:=Za ((by rw[hg];exact Nat.ne_of_lt (ZB (g:=gb27002) (o:=.cells #[.int .i64 0,.int .i64 0] 29 (0,0)) (by(with_reducible repeat(first|refine Zo ?_ _|refine Zq ?_|refine Zn ?_ _));exact BK27002.out)):gb27002≠gb27008));have n10_:=Za ((by rw[hg];exact Nat.ne_of_gt (ZB (g:=gb27002) (o:=.cells #[.int .i64 0,.int .i64 0] 29 (0,0)) (by(with_reducible repeat(first|refine Zo ?_ _|refine Zq ?_|refine Zn ?_ _));exact BK27002.out)):gb27008≠gb27002));clear HO27006;clear BK27001;clear BK27002;clear HB;have HO27006:=n0_;have BK27001:=n1_;have BK27002:=n2_;have HB:=n3_;have BK27008:=n4_;have GW27008:=n5_;have GE27008:=n6_;have NB27001_27008:=n7_;have NB27008_27001:=n8_;have NB27002_27008:=n9_;have NB27008_27002:=n10_;clear n0_ n1_ n2_ n3_ n4_ n5_ n6_ n7_ n8_ n9_ n10_;clear hb hbox hg;have hnb29:=NB27008_27001.out;have hnc29:=NB27001_27008.out;have hnb30:=NB27008_27002.out;have hnc30:=NB27002_27008.out;have hcz31_0:w28.cell? ⟨gb27008,0,none⟩=some (.int .i64 0):=(Zu BK27008.out 0).trans rfl;have hcz31_1:w28.cell? ⟨gb27008,1,none⟩=some (.slice none 0 0):=(Zu BK27008.out 1).trans rfl;have hfz31_0:=Zt BK27008.out 0;have hfz31_1:=Zt BK27008.out 1;obtain⟨Ao32,co32,eo32⟩:=Kd.R_slice HO27006.out;subst eo32)|(go_at_call 18;(with_reducible refine(Zav.calls k t27003 _ _ t27004 false _ ?side1 ?side2 A6.out).mono ?_);(case side1=>refine(Kd.R_reads' (e:=101) (base:=w.heap.size) (ok:=fun k_=>True) (n:=t27004.length) (c:=co32) ?_).2.2;exact(by(with_reducible repeat(first|apply Kd.R_alloc|apply Kd.R_drewN|apply Kd.R_drew));exact(Kd.R_mono (Kd.R_far (p:=⟨gb27008,1,none⟩) (Kd.R_far (p:=⟨gb27008,0,none⟩) (Kd.R_types HO27006.out BK27008.out (by decide)) (fun _ hk=>hk.2) (.int .i64 t27003)) (fun _ hk=>hk.2) (.slice Ao32 t27004.length co32)) (fun _ h_=>h_.1))));(case side2=>exact(Kd.R_reads' HO27006.out).2.1);rintro e w33 ⟨rfl,hb⟩;have n0_:=Za (Kd.R_below (by(with_reducible repeat(first|apply Kd.R_alloc|apply Kd.R_drewN|apply Kd.R_drew));exact(Kd.R_mono (Kd.R_far (p:=⟨gb27008,1,none⟩) (Kd.R_far (p:=⟨gb27008,0,none⟩) (Kd.R_types HO27006.out BK27008.out (by decide)) (fun _ hk=>hk.2) (.int .i64 t27003)) (fun _ hk=>hk.2) (.slice Ao32 t27004.length co32)) (fun _ h_=>h_.1))) hb);have n1_:=Za (Zx (g:=gb27001) (o:=.cells #[.int .i64 a0_0,.slice A0_1 l0_1.length c0_1] 25 (0,0)) (by(with_reducible repeat(first|refine Zo ?_ _|refine Zq ?_|refine Zn ?_ _));refine ZC ?_ NB27001_27008.out _;(with_reducible repeat(first|refine Zo ?_ _|refine Zq ?_|refine Zn ?_ _));refine ZC ?_ NB27001_27008.out _;(with_reducible repeat(first|refine Zo ?_ _|refine Zq ?_|refine Zn ?_ _));exact BK27001.out) hb);have n2_:=Za (Zx (g:=gb27002) (o:=.cells #[.int .i64 0,.int .i64 0] 29 (0,0)) (by(with_reducible repeat(first|refine Zo ?_ _|refine Zq ?_|refine Zn ?_ _));refine ZC ?_ NB27002_27008.out _;(with_reducible repeat(first|refine Zo ?_ _|refine Zq ?_|refine Zn ?_ _));refine ZC ?_ NB27002_27008.out _;(with_reducible repeat(first|refine Zo ?_ _|refine Zq ?_|refine Zn ?_ _));exact BK27002.out) hb);have n3_:=Za (Zx (g:=gb27008) (o:=.cells #[.int .i64 t27003,.slice Ao32 t27004.length co32] 25 (0,0)) (by(with_reducible repeat(first|refine Zo ?_ _|refine Zq ?_|refine Zn ?_ _));refine ZF (cs:=#[.int .i64 t27003,.slice none 0 0]) ?_ 1 _ rfl;(with_reducible repeat(first|refine Zo ?_ _|refine Zq ?_|refine Zn ?_ _));refine ZF (cs:=#[.int .i64 0,.slice none 0 0]) ?_ 0 _ rfl;(with_reducible repeat(first|refine Zo ?_ _|refine Zq ?_|refine Zn ?_ _));exact BK27008.out) hb);have n4_:=Za (Zy (by repeat(first|(with_reducible first|exact HB.out|apply Zr|apply Zm|apply Zs|refine Zp ?_ GE27001.out|refine Zp ?_ GE27002.out|refine Zp ?_ GE27008.out)|exact HB.out)) hb);clear HO27006;clear BK27001;clear BK27002;clear BK27008;clear HB;have HO27006:=n0_;have BK27001:=n1_;have BK27002:=n2_;have BK27008:=n3_;have HB:=n4_;clear n0_ n1_ n2_ n3_ n4_;(try clear hb);(try clear hb2);(try clear hk);(try clear hi);have hcz34_0:w33.cell? ⟨gb27002,0,none⟩=some (.int .i64 0):=(Zu BK27002.out 0).trans rfl;have hcz34_1:w33.cell? ⟨gb27002,1,none⟩=some (.int .i64 0):=(Zu BK27002.out 1).trans rfl;have hfz34_0:=Zt BK27002.out 0;have hfz34_1:=Zt BK27002.out 1))
   refine bodyPost_ret (Z5 rfl _ _ gb27002 29 #[.int .i64 0,.int .i64 0] (0,0) _ rfl (by(with_reducible repeat(first|refine Zo ?_ _|refine Zq ?_|refine Zn ?_ _));refine ZF (cs:=#[.int .i64 0,.int .i64 0]) ?_ 1 _ rfl;(with_reducible repeat(first|refine Zo ?_ _|refine Zq ?_|refine Zn ?_ _));refine ZF (cs:=#[.int .i64 0,.int .i64 0]) ?_ 0 _ rfl;(with_reducible repeat(first|refine Zo ?_ _|refine Zq ?_|refine Zn ?_ _));exact BK27002.out) Try.underlying29 rfl (by kernel_rfl)) rfl ?_
   exact⟨by first|rfl|(simp[ZA,Zz] <;> rfl)|(simp[*,ZA,Zz] <;> rfl),by repeat(first|(with_reducible first|exact HB.out|apply Zr|apply Zm|apply Zs|refine Zp ?_ GE27001.out|refine Zp ?_ GE27002.out|refine Zp ?_ GE27008.out)|exact HB.out)⟩
 ·replace c5:=Bool.eq_false_iff.mpr c5
  subst c5
  have H1:(some (0,0,false))=some (r1,r2,r3):=by rw[if_neg (show ¬(false=true) by decide)] at H;exact H
  clear H
  have H:=H1
  clear H1
  simp only[Option.some.injEq,Prod.mk.injEq] at H
  obtain⟨rfl,rfl,rfl⟩:=H
  go_enter Try.func27,Try.ntmps27
  go_wp2_with (first|((with_reducible refine ZD (N:=3) rfl ?_);refine ZE ?hg (N:=3) ?hd (cs:=#[.int .i64 a0_0,.slice A0_1 l0_1.length c0_1]) (t:=25) ?hr ?_;(case hd=>rfl);(case hg=>rfl);(case hr=>first|(go_simp;done)|(go_simp;rfl));intro gb27001 hg w35 hbox hb;have n0_:=Za (Zy (by repeat(first|(with_reducible first|exact HB.out|apply Zr|apply Zm|apply Zs)|exact HB.out)) hb);have n1_:=Za (hbox);have n2_:=Za ((by rw[hg];exact(Zv (by repeat(first|(with_reducible first|exact HB.out|apply Zr|apply Zm|apply Zs)|exact HB.out))):w.heap.size≤gb27001));have n3_:=Za ((by rw[hg];exact(Zv (by repeat(first|(with_reducible first|exact HB.out|apply Zr|apply Zm|apply Zs)|exact HB.out))):w.heap.size≤gb27001));clear HB;have HB:=n0_;have BK27001:=n1_;have GW27001:=n2_;have GE27001:=n3_;clear n0_ n1_ n2_ n3_;clear hb hbox hg)|((with_reducible refine ZD (N:=6) rfl ?_);refine ZE ?hg (N:=6) ?hd (cs:=#[.int .i64 0,.int .i64 0]) (t:=29) ?hr ?_;(case hd=>rfl);(case hg=>rfl);(case hr=>first|(go_simp;done)|(go_simp;rfl));intro gb27002 hg w36 hbox hb;have n0_:=Za (Zx (g:=gb27001) (o:=.cells #[.int .i64 a0_0,.slice A0_1 l0_1.length c0_1] 25 (0,0)) (by(with_reducible repeat(first|refine Zo ?_ _|refine Zq ?_|refine Zn ?_ _));exact BK27001.out) hb);have n1_:=Za (Zy (by repeat(first|(with_reducible first|exact HB.out|apply Zr|apply Zm|apply Zs|refine Zp ?_ GE27001.out)|exact HB.out)) hb);have n2_:=Za (hbox);have n3_:=Za ((by rw[hg];exact(Zv (by repeat(first|(with_reducible first|exact HB.out|apply Zr|apply Zm|apply Zs|refine Zp ?_ GE27001.out)|exact HB.out))):w.heap.size≤gb27002));have n4_:=Za ((by rw[hg];exact(Zv (by repeat(first|(with_reducible first|exact HB.out|apply Zr|apply Zm|apply Zs|refine Zp ?_ GE27001.out)|exact HB.out))):w.heap.size≤gb27002));have n5_:=Za ((by rw[hg];exact Nat.ne_of_lt (ZB (g:=gb27001) (o:=.cells #[.int .i64 a0_0,.slice A0_1 l0_1.length c0_1] 25 (0,0)) (by(with_reducible repeat(first|refine Zo ?_ _|refine Zq ?_|refine Zn ?_ _));exact BK27001.out)):gb27001≠gb27002));have n6_:=Za ((by rw[hg];exact Nat.ne_of_gt (ZB (g:=gb27001) (o:=.cells #[.int .i64 a0_0,.slice A0_1 l0_1.length c0_1] 25 (0,0)) (by(with_reducible repeat(first|refine Zo ?_ _|refine Zq ?_|refine Zn ?_ _));exact BK27001.out)):gb27002≠gb27001));clear BK27001;clear HB;have BK27001:=n0_;have HB:=n1_;have BK27002:=n2_;have GW27002:=n3_;have GE27002:=n4_;have NB27001_27002:=n5_;have NB27002_27001:=n6_;clear n0_ n1_ n2_ n3_ n4_ n5_ n6_;clear hb hbox hg;have hnb37:=NB27001_27002.out;have hnc37:=NB27002_27001.out;have hcz38_0:w36.cell? ⟨gb27001,0,none⟩=some (.int .i64 a0_0):=(Zu BK27001.out 0).trans rfl;have hcz38_1:w36.cell? ⟨gb27001,1,none⟩=some (.slice A0_1 l0_1.length c0_1):=(Zu BK27001.out 1).trans rfl;have hfz38_0:=Zt BK27001.out 0;have hfz38_1:=Zt BK27001.out 1)|((with_reducible refine ZG (f:=20) rfl ?_);refine ZV (some 13) rfl rfl Try.func20 (by kernel_rfl) rfl #[.agg #[.int .i64 a0_0,.slice A0_1 l0_1.length c0_1],.slice A1 l1.length c1] rfl (by(try simp only[List.map_toArray,List.map_cons,List.map_nil]);first|done|rfl|(simp only[Zk,Zj];rfl)) ?_;(with_reducible refine(ZX.calls k a0_0 _ _ l0_1 _ _ l1 t27003 t27004 false _ ?side1 ?side2 ?side3 ?side4 A4.out).mono ?_);(case side1=>repeat(first|exact(Zb HR0_1.out HB.out)|(with_reducible refine Kd.C_alloc ?_ _)|(with_reducible refine Kd.C_drewN ?_ _)|(with_reducible refine Kd.C_drew ?_)));(case side2=>exact HC0_1.out);(case side3=>repeat(first|exact(Zb HR1.out HB.out)|(with_reducible refine Kd.C_alloc ?_ _)|(with_reducible refine Kd.C_drewN ?_ _)|(with_reducible refine Kd.C_drew ?_)));(case side4=>exact HC1.out);rintro e w39 ⟨v27005,rfl,ho0,hb⟩;refine⟨_,rfl,?_⟩;have n0_:=Za (Kd.R_lower ho0 (Zv (by repeat(first|(with_reducible first|exact HB.out|apply Zr|apply Zm|apply Zs|refine Zp ?_ GE27001.out|refine Zp ?_ GE27002.out)|exact HB.out))));have n1_:=Za (Zx (g:=gb27001) (o:=.cells #[.int .i64 a0_0,.slice A0_1 l0_1.length c0_1] 25 (0,0)) (by(with_reducible repeat(first|refine Zo ?_ _|refine Zq ?_|refine Zn ?_ _));exact BK27001.out) hb);have n2_:=Za (Zx (g:=gb27002) (o:=.cells #[.int .i64 0,.int .i64 0] 29 (0,0)) (by(with_reducible repeat(first|refine Zo ?_ _|refine Zq ?_|refine Zn ?_ _));exact BK27002.out) hb);have n3_:=Za (Zy (by repeat(first|(with_reducible first|exact HB.out|apply Zr|apply Zm|apply Zs|refine Zp ?_ GE27001.out|refine Zp ?_ GE27002.out)|exact HB.out)) hb);clear BK27001;clear BK27002;clear HB;have HO27006:=n0_;have BK27001:=n1_;have BK27002:=n2_;have HB:=n3_;clear n0_ n1_ n2_ n3_;(try clear hb);(try clear hb2);(try clear hk);(try clear hi);(try clear ho0))|((with_reducible refine ZD (N:=8) rfl ?_);refine ZE ?hg (N:=8) ?hd (cs:=#[.int .i64 0,.slice none 0 0]) (t:=25) ?hr ?_;(case hd=>rfl);(case hg=>rfl);(case hr=>first|(go_simp;done)|(go_simp;rfl));intro gb27008 hg w40 hbox hb;have n0_:=Za (Kd.R_below (by(with_reducible repeat(first|apply Kd.R_alloc|apply Kd.R_drewN|apply Kd.R_drew));exact HO27006.out) hb);have n1_:=Za (Zx (g:=gb27001) (o:=.cells #[.int .i64 a0_0,.slice A0_1 l0_1.length c0_1] 25 (0,0)) (by(with_reducible repeat(first|refine Zo ?_ _|refine Zq ?_|refine Zn ?_ _));exact BK27001.out) hb);have n2_:=Za (Zx (g:=gb27002) (o:=.cells #[.int .i64 0,.int .i64 0] 29 (0,0)) (by(with_reducible repeat(first|refine Zo ?_ _|refine Zq ?_|refine Zn ?_ _));exact BK27002.out) hb);have n3_:=Za (Zy (by repeat(first|(with_reducible first|exact HB.out|apply Zr|apply Zm|apply Zs|refine Zp ?_ GE27001.out|refine Zp ?_ GE27002.out)|exact HB.out)) hb);have n4_:=Za (hbox);have n5_:=Za ((by rw[hg];exact(Zv (by repeat(first|(with_reducible first|exact HB.out|apply Zr|apply Zm|apply Zs|refine Zp ?_ GE27001.out|refine Zp ?_ GE27002.out)|exact HB.out))):w.heap.size≤gb27008));have n6_:=Za ((by rw[hg];exact(Zv (by repeat(first|(with_reducible first|exact HB.out|apply Zr|apply Zm|apply Zs|refine Zp ?_ GE27001.out|refine Zp ?_ GE27002.out)|exact HB.out))):w.heap.size≤gb27008));have n7_:=Za ((by rw[hg];exact Nat.ne_of_lt (ZB (g:=gb27001) (o:=.cells #[.int .i64 a0_0,.slice A0_1 l0_1.length c0_1] 25 (0,0)) (by(with_reducible repeat(first|refine Zo ?_ _|refine Zq ?_|refine Zn ?_ _));exact BK27001.out)):gb27001≠gb27008));have n8_:=Za ((by rw[hg];exact Nat.ne_of_gt (ZB (g:=gb27001) (o:=.cells #[.int .i64 a0_0,.slice A0_1 l0_1.length c0_1] 25 (0,0)) (by(with_reducible repeat(first|refine Zo ?_ _|refine Zq ?_|refine Zn ?_ _));exact BK27001.out)):gb27008≠gb27001));have n9_:=Za ((by rw[hg];exact Nat.ne_of_lt (ZB (g:=gb27002) (o:=.cells #[.int .i64 0,.int .i64 0] 29 (0,0)) (by(with_reducible repeat(first|refine Zo ?_ _|refine Zq ?_|refine Zn ?_ _));exact BK27002.out)):gb27002≠gb27008));have n10_:=Za ((by rw[hg];exact Nat.ne_of_gt (ZB (g:=gb27002) (o:=.cells #[.int .i64 0,.int .i64 0] 29 (0,0)) (by(with_reducible repeat(first|refine Zo ?_ _|refine Zq ?_|refine Zn ?_ _));exact BK27002.out)):gb27008≠gb27002));clear HO27006;clear BK27001;clear BK27002;clear HB;have HO27006:=n0_;have BK27001:=n1_;have BK27002:=n2_;have HB:=n3_;have BK27008:=n4_;have GW27008:=n5_;have GE27008:=n6_;have NB27001_27008:=n7_;have NB27008_27001:=n8_;have NB27002_27008:=n9_;have NB27008_27002:=n10_;clear n0_ n1_ n2_ n3_ n4_ n5_ n6_ n7_ n8_ n9_ n10_;clear hb hbox hg;have hnb41:=NB27008_27001.out;have hnc41:=NB27001_27008.out;have hnb42:=NB27008_27002.out;have hnc42:=NB27002_27008.out;have hcz43_0:w40.cell? ⟨gb27008,0,none⟩=some (.int .i64 0):=(Zu BK27008.out 0).trans rfl;have hcz43_1:w40.cell? ⟨gb27008,1,none⟩=some (.slice none 0 0):=(Zu BK27008.out 1).trans rfl;have hfz43_0:=Zt BK27008.out 0;have hfz43_1:=Zt BK27008.out 1;obtain⟨Ao44,co44,eo44⟩:=Kd.R_slice HO27006.out;subst eo44;have hcz45_0:w40.cell? ⟨gb27002,0,none⟩=some (.int .i64 0):=(Zu BK27002.out 0).trans rfl;have hcz45_1:w40.cell? ⟨gb27002,1,none⟩=some (.int .i64 0):=(Zu BK27002.out 1).trans rfl;have hfz45_0:=Zt BK27002.out 0;have hfz45_1:=Zt BK27002.out 1))
  refine bodyPost_ret (Z5 rfl _ _ gb27002 29 #[.int .i64 0,.int .i64 0] (0,0) _ rfl (by(with_reducible repeat(first|refine Zo ?_ _|refine Zq ?_|refine Zn ?_ _));refine ZF (cs:=#[.int .i64 0,.int .i64 0]) ?_ 1 _ rfl;(with_reducible repeat(first|refine Zo ?_ _|refine Zq ?_|refine Zn ?_ _));refine ZF (cs:=#[.int .i64 0,.int .i64 0]) ?_ 0 _ rfl;(with_reducible repeat(first|refine Zo ?_ _|refine Zq ?_|refine Zn ?_ _));refine ZC ?_ NB27002_27008.out _;(with_reducible repeat(first|refine Zo ?_ _|refine Zq ?_|refine Zn ?_ _));refine ZC ?_ NB27002_27008.out _;(with_reducible repeat(first|refine Zo ?_ _|refine Zq ?_|refine Zn ?_ _));exact BK27002.out) Try.underlying29 rfl (by kernel_rfl)) rfl ?_
  exact⟨by first|rfl|(simp[ZA,Zz] <;> rfl)|(simp[*,ZA,Zz] <;> rfl),by repeat(first|(with_reducible first|exact HB.out|apply Zr|apply Zm|apply Zs|refine Zp ?_ GE27001.out|refine Zp ?_ GE27002.out|refine Zp ?_ GE27008.out)|exact HB.out)⟩
def Zbm.f (l0:List (S156)) (a1:Int):Option (Int):=if (wrap64 (a1 - (l0.length:Int)))<0 then(some (-1)) else(some (wrap64 (a1 - (l0.length:Int))))
set_option maxHeartbeats 8000000 in
set_option maxRecDepth 100000 in
theorem Zbm.calls (A0:Option Addr) (c0:Nat) (l0:List (S156)) (a1:Int) (r:Int) (w:World) (hr0:Kd.C k156 w A0 l0.length l0) (hc0:l0.length≤c0) (h:Zbm.f l0 a1=some r) :
  Calls Try.prog 81 #[.slice A0 l0.length c0,.int .i64 a1] w fun e w'=>e=.returned (.int .i64 r)∧Z1 w w':=by
 have HR0:=Za hr0;have HC0:=Za hc0;clear hr0 hc0
 have H:(if (wrap64 (a1 - (l0.length:Int)))<0 then(some (-1)) else(some (wrap64 (a1 - (l0.length:Int)))))=some r:=h
 clear h
 by_cases c3:(wrap64 (a1 - (l0.length:Int)))<0
 ·rw[if_pos c3] at H
  have c3b0:decide ((wrap64 (a1 - (l0.length:Int)))<0)=true:=Ze c3
  clear c3
  obtain rfl:=Zg H
  go_enter Try.func81,Try.ntmps81
  go_wp2
  go_ret
  exact⟨by first|rfl|(simp;done)|(simp[*];done),by repeat(first|exact Z1.refl _|apply Z1.step)⟩
 ·rw[if_neg c3] at H
  have c3b0:decide ((wrap64 (a1 - (l0.length:Int)))<0)=false:=Zf c3
  clear c3
  obtain rfl:=Zg H
  go_enter Try.func81,Try.ntmps81
  go_wp2
  go_ret
  exact⟨by first|rfl|(simp;done)|(simp[*];done),by repeat(first|exact Z1.refl _|apply Z1.step)⟩
def Zbi.f (a0_0:Int) (l0_1:List (S156)) (a1:Int):Option (Int):=(Zbm.f l0_1 a1).bind fun t29002=>(if t29002<0 then(some (-1)) else(some t29002))
set_option maxHeartbeats 8000000 in
set_option maxRecDepth 100000 in
theorem Zbi.calls (a0_0:Int) (A0_1:Option Addr) (c0_1:Nat) (l0_1:List (S156)) (a1:Int) (r:Int) (w:World) (hr0_1:Kd.C k156 w A0_1 l0_1.length l0_1) (hc0_1:l0_1.length≤c0_1) (h:Zbi.f a0_0 l0_1 a1=some r) :
  Calls Try.prog 29 #[.agg #[.int .i64 a0_0,.slice A0_1 l0_1.length c0_1],.int .i64 a1] w fun e w'=>e=.returned (.int .i64 r)∧Below w.heap.size w w':=by
 have hu46:=Try.underlying46
 have HR0_1:=Za hr0_1;have HC0_1:=Za hc0_1;clear hr0_1 hc0_1
 have HB:=Za (Below.refl w.heap.size w)
 have H:((Zbm.f l0_1 a1).bind fun t29002=>(if t29002<0 then(some (-1)) else(some t29002)))=some r:=h
 clear h
 replace H:=Zh H
 obtain⟨t29002,A30,H⟩:=H
 replace H:(if t29002<0 then(some (-1)) else(some t29002))=some r:=H
 have A3:=Za A30;clear A30
 by_cases c4:t29002<0
 ·rw[if_pos c4] at H
  have c4b0:decide (t29002<0)=true:=Ze c4
  clear c4
  obtain rfl:=Zg H
  go_enter Try.func29,Try.ntmps29
  go_wp2_with (first|((with_reducible refine ZD (N:=2) rfl ?_);refine ZE ?hg (N:=2) ?hd (cs:=#[.int .i64 a0_0,.slice A0_1 l0_1.length c0_1]) (t:=46) ?hr ?_;(case hd=>rfl);(case hg=>rfl);(case hr=>first|(go_simp;done)|(go_simp;rfl));intro gb29001 hg w5 hbox hb;have n0_:=Za (Zy (by repeat(first|(with_reducible first|exact HB.out|apply Zr|apply Zm|apply Zs)|exact HB.out)) hb);have n1_:=Za (hbox);have n2_:=Za ((by rw[hg];exact(Zv (by repeat(first|(with_reducible first|exact HB.out|apply Zr|apply Zm|apply Zs)|exact HB.out))):w.heap.size≤gb29001));have n3_:=Za ((by rw[hg];exact(Zv (by repeat(first|(with_reducible first|exact HB.out|apply Zr|apply Zm|apply Zs)|exact HB.out))):w.heap.size≤gb29001));clear HB;have HB:=n0_;have BK29001:=n1_;have GW29001:=n2_;have GE29001:=n3_;clear n0_ n1_ n2_ n3_;clear hb hbox hg;have hcz6_0:w5.cell? ⟨gb29001,0,none⟩=some (.int .i64 a0_0):=(Zu BK29001.out 0).trans rfl;have hcz6_1:w5.cell? ⟨gb29001,1,none⟩=some (.slice A0_1 l0_1.length c0_1):=(Zu BK29001.out 1).trans rfl;have hfz6_0:=Zt BK29001.out 0;have hfz6_1:=Zt BK29001.out 1)|((with_reducible refine ZG (f:=81) rfl ?_);refine ZV (some 8) rfl rfl Try.func81 (by kernel_rfl) rfl #[.slice A0_1 l0_1.length c0_1,.int .i64 a1] rfl (by(try simp only[List.map_toArray,List.map_cons,List.map_nil]);first|done|rfl|(simp only[Zk,Zj];rfl)) ?_;(with_reducible refine(Zbm.calls _ _ l0_1 a1 t29002 _ ?side1 ?side2 A3.out).mono ?_);(case side1=>repeat(first|exact(Zb HR0_1.out HB.out)|(with_reducible refine Kd.C_alloc ?_ _)|(with_reducible refine Kd.C_drewN ?_ _)|(with_reducible refine Kd.C_drew ?_)));(case side2=>exact HC0_1.out);rintro e w' ⟨rfl,⟨nd,rfl⟩⟩;refine⟨_,rfl,?_⟩))
  go_ret
  exact⟨by first|rfl|(simp[ZA,Zz] <;> rfl)|(simp[*,ZA,Zz] <;> rfl),by repeat(first|(with_reducible first|exact HB.out|apply Zr|apply Zm|apply Zs|refine Zp ?_ GE29001.out)|exact HB.out)⟩
 ·rw[if_neg c4] at H
  have c4b0:decide (t29002<0)=false:=Zf c4
  clear c4
  obtain rfl:=Zg H
  go_enter Try.func29,Try.ntmps29
  go_wp2_with (first|((with_reducible refine ZD (N:=2) rfl ?_);refine ZE ?hg (N:=2) ?hd (cs:=#[.int .i64 a0_0,.slice A0_1 l0_1.length c0_1]) (t:=46) ?hr ?_;(case hd=>rfl);(case hg=>rfl);(case hr=>first|(go_simp;done)|(go_simp;rfl));intro gb29001 hg w7 hbox hb;have n0_:=Za (Zy (by repeat(first|(with_reducible first|exact HB.out|apply Zr|apply Zm|apply Zs)|exact HB.out)) hb);have n1_:=Za (hbox);have n2_:=Za ((by rw[hg];exact(Zv (by repeat(first|(with_reducible first|exact HB.out|apply Zr|apply Zm|apply Zs)|exact HB.out))):w.heap.size≤gb29001));have n3_:=Za ((by rw[hg];exact(Zv (by repeat(first|(with_reducible first|exact HB.out|apply Zr|apply Zm|apply Zs)|exact HB.out))):w.heap.size≤gb29001));clear HB;have HB:=n0_;have BK29001:=n1_;have GW29001:=n2_;have GE29001:=n3_;clear n0_ n1_ n2_ n3_;clear hb hbox hg;have hcz8_0:w7.cell? ⟨gb29001,0,none⟩=some (.int .i64 a0_0):=(Zu BK29001.out 0).trans rfl;have hcz8_1:w7.cell? ⟨gb29001,1,none⟩=some (.slice A0_1 l0_1.length c0_1):=(Zu BK29001.out 1).trans rfl;have hfz8_0:=Zt BK29001.out 0;have hfz8_1:=Zt BK29001.out 1)|((with_reducible refine ZG (f:=81) rfl ?_);refine ZV (some 8) rfl rfl Try.func81 (by kernel_rfl) rfl #[.slice A0_1 l0_1.length c0_1,.int .i64 a1] rfl (by(try simp only[List.map_toArray,List.map_cons,List.map_nil]);first|done|rfl|(simp only[Zk,Zj];rfl)) ?_;(with_reducible refine(Zbm.calls _ _ l0_1 a1 t29002 _ ?side1 ?side2 A3.out).mono ?_);(case side1=>repeat(first|exact(Zb HR0_1.out HB.out)|(with_reducible refine Kd.C_alloc ?_ _)|(with_reducible refine Kd.C_drewN ?_ _)|(with_reducible refine Kd.C_drew ?_)));(case side2=>exact HC0_1.out);rintro e w' ⟨rfl,⟨nd,rfl⟩⟩;refine⟨_,rfl,?_⟩))
  go_ret
  exact⟨by first|rfl|(simp[ZA,Zz] <;> rfl)|(simp[*,ZA,Zz] <;> rfl),by repeat(first|(with_reducible first|exact HB.out|apply Zr|apply Zm|apply Zs|refine Zp ?_ GE29001.out)|exact HB.out)⟩
def Zak.f (a0_0:Int) (a0_1:Int):Option (Bool):=if a0_0≥(-1000000) then(if a0_0≤a0_1 then(if a0_1≤1000000 then(if a0_0=1000000 then(some false) else(some (a0_1 != (-1000000)))) else(some false)) else(some false)) else(some false)
set_option maxHeartbeats 8000000 in
set_option maxRecDepth 100000 in
theorem Zak.calls (a0_0:Int) (a0_1:Int) (r:Bool) (w:World) (h:Zak.f a0_0 a0_1=some r) :
  Calls Try.prog 165 #[.agg #[.int .i64 a0_0,.int .i64 a0_1]] w fun e w'=>e=.returned (.bool r)∧Below w.heap.size w w':=by
 have hu29:=Try.underlying29
 have HB:=Za (Below.refl w.heap.size w)
 have H:(if a0_0≥(-1000000) then(if a0_0≤a0_1 then(if a0_1≤1000000 then(if a0_0=1000000 then(some false) else(some (a0_1 != (-1000000)))) else(some false)) else(some false)) else(some false))=some r:=h
 clear h
 by_cases c2:a0_0≥(-1000000)
 ·rw[if_pos c2] at H
  have c2b0:decide ((-1000000)≤a0_0)=true:=Ze c2
  clear c2
  by_cases c3:a0_0≤a0_1
  ·rw[if_pos c3] at H
   have c3b0:decide (a0_0≤a0_1)=true:=Ze c3
   clear c3
   by_cases c4:a0_1≤1000000
   ·rw[if_pos c4] at H
    have c4b0:decide (a0_1≤1000000)=true:=Ze c4
    clear c4
    by_cases c5:a0_0=1000000
    ·rw[if_pos c5] at H
     have c5b0:(a0_0 == 1000000)=true:=beq_iff_eq.mpr c5
     have c5b1:(a0_0 != 1000000)=false:=bne_eq_false_iff_eq.mpr c5
     clear c5
     obtain rfl:=Zg H
     go_enter Try.func165,Try.ntmps165
     go_wp2_with (first|((with_reducible refine ZD (N:=1) rfl ?_);refine ZE ?hg (N:=1) ?hd (cs:=#[.int .i64 a0_0,.int .i64 a0_1]) (t:=29) ?hr ?_;(case hd=>rfl);(case hg=>rfl);(case hr=>first|(go_simp;done)|(go_simp;rfl));intro gb165001 hg w6 hbox hb;have n0_:=Za (Zy (by repeat(first|(with_reducible first|exact HB.out|apply Zr|apply Zm|apply Zs)|exact HB.out)) hb);have n1_:=Za (hbox);have n2_:=Za ((by rw[hg];exact(Zv (by repeat(first|(with_reducible first|exact HB.out|apply Zr|apply Zm|apply Zs)|exact HB.out))):w.heap.size≤gb165001));have n3_:=Za ((by rw[hg];exact(Zv (by repeat(first|(with_reducible first|exact HB.out|apply Zr|apply Zm|apply Zs)|exact HB.out))):w.heap.size≤gb165001));clear HB;have HB:=n0_;have BK165001:=n1_;have GW165001:=n2_;have GE165001:=n3_;clear n0_ n1_ n2_ n3_;clear hb hbox hg;have hcz7_0:w6.cell? ⟨gb165001,0,none⟩=some (.int .i64 a0_0):=(Zu BK165001.out 0).trans rfl;have hcz7_1:w6.cell? ⟨gb165001,1,none⟩=some (.int .i64 a0_1):=(Zu BK165001.out 1).trans rfl;have hfz7_0:=Zt BK165001.out 0;have hfz7_1:=Zt BK165001.out 1))
     go_ret
     exact⟨by first|rfl|(simp[ZA,Zz] <;> rfl)|(simp[*,ZA,Zz] <;> rfl),by repeat(first|(with_reducible first|exact HB.out|apply Zr|apply Zm|apply Zs|refine Zp ?_ GE165001.out)|exact HB.out)⟩
    ·rw[if_neg c5] at H
     have c5b0:(a0_0 == 1000000)=false:=beq_eq_false_iff_ne.mpr c5
     have c5b1:(a0_0 != 1000000)=true:=bne_iff_ne.mpr c5
     obtain rfl:=Zg H
     go_enter Try.func165,Try.ntmps165
     go_wp2_with (first|((with_reducible refine ZD (N:=1) rfl ?_);refine ZE ?hg (N:=1) ?hd (cs:=#[.int .i64 a0_0,.int .i64 a0_1]) (t:=29) ?hr ?_;(case hd=>rfl);(case hg=>rfl);(case hr=>first|(go_simp;done)|(go_simp;rfl));intro gb165001 hg w8 hbox hb;have n0_:=Za (Zy (by repeat(first|(with_reducible first|exact HB.out|apply Zr|apply Zm|apply Zs)|exact HB.out)) hb);have n1_:=Za (hbox);have n2_:=Za ((by rw[hg];exact(Zv (by repeat(first|(with_reducible first|exact HB.out|apply Zr|apply Zm|apply Zs)|exact HB.out))):w.heap.size≤gb165001));have n3_:=Za ((by rw[hg];exact(Zv (by repeat(first|(with_reducible first|exact HB.out|apply Zr|apply Zm|apply Zs)|exact HB.out))):w.heap.size≤gb165001));clear HB;have HB:=n0_;have BK165001:=n1_;have GW165001:=n2_;have GE165001:=n3_;clear n0_ n1_ n2_ n3_;clear hb hbox hg;have hcz9_0:w8.cell? ⟨gb165001,0,none⟩=some (.int .i64 a0_0):=(Zu BK165001.out 0).trans rfl;have hcz9_1:w8.cell? ⟨gb165001,1,none⟩=some (.int .i64 a0_1):=(Zu BK165001.out 1).trans rfl;have hfz9_0:=Zt BK165001.out 0;have hfz9_1:=Zt BK165001.out 1))
     go_ret
     exact⟨by first|rfl|(simp[ZA,Zz] <;> rfl)|(simp[*,ZA,Zz] <;> rfl),by repeat(first|(with_reducible first|exact HB.out|apply Zr|apply Zm|apply Zs|refine Zp ?_ GE165001.out)|exact HB.out)⟩
   ·rw[if_neg c4] at H
    have c4b0:decide (a0_1≤1000000)=false:=Zf c4
    clear c4
    obtain rfl:=Zg H
    go_enter Try.func165,Try.ntmps165
    go_wp2_with (first|((with_reducible refine ZD (N:=1) rfl ?_);refine ZE ?hg (N:=1) ?hd (cs:=#[.int .i64 a0_0,.int .i64 a0_1]) (t:=29) ?hr ?_;(case hd=>rfl);(case hg=>rfl);(case hr=>first|(go_simp;done)|(go_simp;rfl));intro gb165001 hg w10 hbox hb;have n0_:=Za (Zy (by repeat(first|(with_reducible first|exact HB.out|apply Zr|apply Zm|apply Zs)|exact HB.out)) hb);have n1_:=Za (hbox);have n2_:=Za ((by rw[hg];exact(Zv (by repeat(first|(with_reducible first|exact HB.out|apply Zr|apply Zm|apply Zs)|exact HB.out))):w.heap.size≤gb165001));have n3_:=Za ((by rw[hg];exact(Zv (by repeat(first|(with_reducible first|exact HB.out|apply Zr|apply Zm|apply Zs)|exact HB.out))):w.heap.size≤gb165001));clear HB;have HB:=n0_;have BK165001:=n1_;have GW165001:=n2_;have GE165001:=n3_;clear n0_ n1_ n2_ n3_;clear hb hbox hg;have hcz11_0:w10.cell? ⟨gb165001,0,none⟩=some (.int .i64 a0_0):=(Zu BK165001.out 0).trans rfl;have hcz11_1:w10.cell? ⟨gb165001,1,none⟩=some (.int .i64 a0_1):=(Zu BK165001.out 1).trans rfl;have hfz11_0:=Zt BK165001.out 0;have hfz11_1:=Zt BK165001.out 1))
    go_ret
    exact⟨by first|rfl|(simp[ZA,Zz] <;> rfl)|(simp[*,ZA,Zz] <;> rfl),by repeat(first|(with_reducible first|exact HB.out|apply Zr|apply Zm|apply Zs|refine Zp ?_ GE165001.out)|exact HB.out)⟩
  ·rw[if_neg c3] at H
   have c3b0:decide (a0_0≤a0_1)=false:=Zf c3
   clear c3
   obtain rfl:=Zg H
   go_enter Try.func165,Try.ntmps165
   go_wp2_with (first|((with_reducible refine ZD (N:=1) rfl ?_);refine ZE ?hg (N:=1) ?hd (cs:=#[.int .i64 a0_0,.int .i64 a0_1]) (t:=29) ?hr ?_;(case hd=>rfl);(case hg=>rfl);(case hr=>first|(go_simp;done)|(go_simp;rfl));intro gb165001 hg w12 hbox hb;have n0_:=Za (Zy (by repeat(first|(with_reducible first|exact HB.out|apply Zr|apply Zm|apply Zs)|exact HB.out)) hb);have n1_:=Za (hbox);have n2_:=Za ((by rw[hg];exact(Zv (by repeat(first|(with_reducible first|exact HB.out|apply Zr|apply Zm|apply Zs)|exact HB.out))):w.heap.size≤gb165001));have n3_:=Za ((by rw[hg];exact(Zv (by repeat(first|(with_reducible first|exact HB.out|apply Zr|apply Zm|apply Zs)|exact HB.out))):w.heap.size≤gb165001));clear HB;have HB:=n0_;have BK165001:=n1_;have GW165001:=n2_;have GE165001:=n3_;clear n0_ n1_ n2_ n3_;clear hb hbox hg;have hcz13_0:w12.cell? ⟨gb165001,0,none⟩=some (.int .i64 a0_0):=(Zu BK165001.out 0).trans rfl;have hcz13_1:w12.cell? ⟨gb165001,1,none⟩=some (.int .i64 a0_1):=(Zu BK165001.out 1).trans rfl;have hfz13_0:=Zt BK165001.out 0;have hfz13_1:=Zt BK165001.out 1))
   go_ret
   exact⟨by first|rfl|(simp[ZA,Zz] <;> rfl)|(simp[*,ZA,Zz] <;> rfl),by repeat(first|(with_reducible first|exact HB.out|apply Zr|apply Zm|apply Zs|refine Zp ?_ GE165001.out)|exact HB.out)⟩
 ·rw[if_neg c2] at H
  have c2b0:decide ((-1000000)≤a0_0)=false:=Zf c2
  clear c2
  obtain rfl:=Zg H
  go_enter Try.func165,Try.ntmps165
  go_wp2_with (first|((with_reducible refine ZD (N:=1) rfl ?_);refine ZE ?hg (N:=1) ?hd (cs:=#[.int .i64 a0_0,.int .i64 a0_1]) (t:=29) ?hr ?_;(case hd=>rfl);(case hg=>rfl);(case hr=>first|(go_simp;done)|(go_simp;rfl));intro gb165001 hg w14 hbox hb;have n0_:=Za (Zy (by repeat(first|(with_reducible first|exact HB.out|apply Zr|apply Zm|apply Zs)|exact HB.out)) hb);have n1_:=Za (hbox);have n2_:=Za ((by rw[hg];exact(Zv (by repeat(first|(with_reducible first|exact HB.out|apply Zr|apply Zm|apply Zs)|exact HB.out))):w.heap.size≤gb165001));have n3_:=Za ((by rw[hg];exact(Zv (by repeat(first|(with_reducible first|exact HB.out|apply Zr|apply Zm|apply Zs)|exact HB.out))):w.heap.size≤gb165001));clear HB;have HB:=n0_;have BK165001:=n1_;have GW165001:=n2_;have GE165001:=n3_;clear n0_ n1_ n2_ n3_;clear hb hbox hg;have hcz15_0:w14.cell? ⟨gb165001,0,none⟩=some (.int .i64 a0_0):=(Zu BK165001.out 0).trans rfl;have hcz15_1:w14.cell? ⟨gb165001,1,none⟩=some (.int .i64 a0_1):=(Zu BK165001.out 1).trans rfl;have hfz15_0:=Zt BK165001.out 0;have hfz15_1:=Zt BK165001.out 1))
  go_ret
  exact⟨by first|rfl|(simp[ZA,Zz] <;> rfl)|(simp[*,ZA,Zz] <;> rfl),by repeat(first|(with_reducible first|exact HB.out|apply Zr|apply Zm|apply Zs|refine Zp ?_ GE165001.out)|exact HB.out)⟩
def ZJ.f (a0:Int) (a1:Int) (a2:Int):Option (Bool):=if a0≥a1 then(some (decide (a0≤a2))) else(some false)
set_option maxHeartbeats 8000000 in
set_option maxRecDepth 100000 in
theorem ZJ.calls (a0:Int) (a1:Int) (a2:Int) (r:Bool) (w:World) (h:ZJ.f a0 a1 a2=some r) :
  Calls Try.prog 87 #[.int .i64 a0,.int .i64 a1,.int .i64 a2] w fun e w'=>e=.returned (.bool r)∧Z1 w w':=by
 have H:(if a0≥a1 then(some (decide (a0≤a2))) else(some false))=some r:=h
 clear h
 by_cases c4:a0≥a1
 ·rw[if_pos c4] at H
  have c4b0:decide (a1≤a0)=true:=Ze c4
  clear c4
  obtain rfl:=Zg H
  go_enter Try.func87,Try.ntmps87
  go_wp2
  go_ret
  exact⟨by first|rfl|(simp;done)|(simp[*];done),by repeat(first|exact Z1.refl _|apply Z1.step)⟩
 ·rw[if_neg c4] at H
  have c4b0:decide (a1≤a0)=false:=Zf c4
  clear c4
  obtain rfl:=Zg H
  go_enter Try.func87,Try.ntmps87
  go_wp2
  go_ret
  exact⟨by first|rfl|(simp;done)|(simp[*];done),by repeat(first|exact Z1.refl _|apply Z1.step)⟩
end Go.Proofs.Ytpoffpdaadhkgaa.Pr
