/- The texts of one claim, put together by a program of this session. -/
import Derived.WalkSpells
import Derived.Deep.LoopGhost
import Derived.Shelf.Abstract
import Derived.Test.YthphnhmabieflabBCoc1x1
import Derived.Test.YthphnhmabieflabBCoc1x2
import Derived.Test.YthphnhmabieflabBCoc1x3
import Derived.Test.YthphnhmabieflabBCoc1x5
namespace Go.Proofs.Ythphnhmabieflab.Pr
open Go.RowKit Go.Proofs.YthphnhmabieflabW.PrintWords Go.Proofs.YthphnhmabieflabW.PrintLast Go.Proofs.YthphnhmabieflabW.PrintMore
attribute [local go_sem] Zaj Zah Zaq Zap Zab Zaa Zai Zag
set_option linter.unusedVariables false
set_option linter.unusedSimpArgs false
open Go.Proofs.Ythphnhmabieflab.Ni
def Zad.f (k:Nat) (a0_0:Int) (l0_1:List (S84)):Option Bool:=(Z8.f a0_0 l0_1).bind fun b=>if b=true then(ZaP.f k a0_0 l0_1).bind fun g=>(Zao.f g.1 g.2).bind fun c=>some c.isEmpty else some false
set_option maxHeartbeats 4000000 in
set_option maxRecDepth 100000 in
theorem Zad.calls (k:Nat) (a0_0:Int) (A0_1:Option Addr) (c0_1:Nat) (l0_1:List (S84)) (r:Bool) (w:World) (hr0_1:Kd.C k84 w A0_1 l0_1.length l0_1) (hc0_1:l0_1.length≤c0_1) (h:Zad.f k a0_0 l0_1=some r) :
  Calls Try.prog 16 #[.agg #[.int .i64 a0_0,.slice A0_1 l0_1.length c0_1]] w fun e w'=>e=.returned (.bool r)∧Below w.heap.size w w':=by
 unfold Zad.f at h
 obtain⟨b,hb_,h⟩:=Option.bind_eq_some_iff.1 h
 have HS:=Za fun (W:World) (hb:Below w.heap.size w W)=>Z8.calls a0_0 A0_1 c0_1 l0_1 b W (Zb hr0_1 hb) hc0_1 hb_
 have B1:=Za (Zq (Below.refl w.heap.size w) (.cells #[.int .i64 a0_0,.slice A0_1 l0_1.length c0_1] 31))
 have K0:=Za (show(w.alloc (.cells #[.int .i64 a0_0,.slice A0_1 l0_1.length c0_1] 31)).cell? ⟨w.heap.size,0,none⟩=some (.int .i64 a0_0) by go_simp)
 have K1:=Za (show(w.alloc (.cells #[.int .i64 a0_0,.slice A0_1 l0_1.length c0_1] 31)).cell? ⟨w.heap.size,1,none⟩=some (.slice A0_1 l0_1.length c0_1) by go_simp)
 have hu:=Try.underlying31
 cases b with
 | false=>
  rw[if_neg (by simp)] at h
  obtain rfl:=Zg h
  clear hr0_1 hc0_1 hb_ h
  go_enter Try.func16,Try.ntmps16
  go_wp2_with (go_at_call 17;refine(HS.out _ B1.out).mono ?_;rintro e w1 ⟨rfl,hb⟩)
  go_ret
  exact⟨rfl,B1.out.trans (hb.mono B1.out.size)⟩
 | true=>
 rw[if_pos rfl] at h
 obtain⟨⟨g1,g2⟩,hg,h⟩:=Option.bind_eq_some_iff.1 h
 obtain⟨c,hc,h⟩:=Option.bind_eq_some_iff.1 h
 obtain rfl:=Zg h
 have HG:=Za fun (W:World) (hb:Below w.heap.size w W)=>ZaP.calls k a0_0 A0_1 c0_1 l0_1 g1 g2 W (Zb hr0_1 hb) hc0_1 hg
 have HNC:=Za fun (W:World) (A:Option Addr) (cc:Nat) (hr:Kd.C k123 W A g2.length g2) (hcc:g2.length≤cc)=>Zao.own g1 A cc g2 c W hr hcc hc
 clear hr0_1 hc0_1 hb_ hg hc h
 have hsn:=fun (W:World) (A:Option Addr) (n c:Nat)=>Lib.run_eql_slice_nil (P:=Try.prog) W 22 3 A n c 0 0 Try.underlying22
 cases hce:c with
 | nil=>
  rw[hce] at HNC
  clear hce
  go_enter Try.func16,Try.ntmps16
  go_wp2_with (first|(go_at_call 17;refine(HS.out _ B1.out).mono ?_;rintro e w1 ⟨rfl,hb⟩;have hk0:=Z2 hb K0.out;have hk1:=Z2 hb K1.out;have hlt:=Zc _ _ hk0;have HB:=Za (B1.out.trans (hb.mono B1.out.size));clear hb)|(go_at_call 47;refine(HG.out _ HB.out).mono ?_;rintro e w2 ⟨v1,rfl,hr,hb⟩;obtain⟨Ag,cg,rfl,hcg,hrg⟩:=Kd.R_reads hr;replace HB:=Za (HB.out.trans (hb.mono HB.out.size));have HRG:=Za (And.intro hcg hrg);clear hb hr hcg hrg hk0 hk1 hlt)|(go_at_call 49;refine(HNC.out _ Ag cg HRG.out.2 HRG.out.1).mono ?_;rintro e w3 ⟨v2,rfl,_,hnil,hb⟩;obtain rfl:=hnil.out (by first|rfl|trivial);replace HB:=Za (HB.out.trans (hb.mono HB.out.size));clear hb hnil))
  go_ret
  exact⟨rfl,HB.out⟩
 | cons x t=>
  rw[hce] at HNC
  clear hce
  go_enter Try.func16,Try.ntmps16
  go_wp2_with (first|(go_at_call 17;refine(HS.out _ B1.out).mono ?_;rintro e w1 ⟨rfl,hb⟩;have hk0:=Z2 hb K0.out;have hk1:=Z2 hb K1.out;have hlt:=Zc _ _ hk0;have HB:=Za (B1.out.trans (hb.mono B1.out.size));clear hb)|(go_at_call 47;refine(HG.out _ HB.out).mono ?_;rintro e w2 ⟨v1,rfl,hr,hb⟩;obtain⟨Ag,cg,rfl,hcg,hrg⟩:=Kd.R_reads hr;replace HB:=Za (HB.out.trans (hb.mono HB.out.size));have HRG:=Za (And.intro hcg hrg);clear hb hr hcg hrg hk0 hk1 hlt)|(go_at_call 49;refine(HNC.out _ Ag cg HRG.out.2 HRG.out.1).mono ?_;rintro e w3 ⟨v2,rfl,hr,_,hb⟩;obtain⟨g3,cap3,e3,_⟩:=Kd.R_form hr (by simp);rw[e3];replace HB:=Za (HB.out.trans (hb.mono HB.out.size));clear hb hr e3))
  go_ret
  exact⟨rfl,HB.out⟩
end Go.Proofs.Ythphnhmabieflab.Pr
namespace Go.Proofs.Ythphnhmabieflab.Pr
open Go.RowKit Go.Proofs.YthphnhmabieflabW.PrintWords Go.Proofs.YthphnhmabieflabW.PrintLast Go.Proofs.YthphnhmabieflabW.PrintMore
attribute [local go_sem] Zaj Zah Zaq Zap Zab Zaa Zai Zag
set_option linter.unusedVariables false
set_option linter.unusedSimpArgs false
def Za8.f (a0:Int):Option (Bool):=if a0≥0 then(some (decide (a0<1000000))) else(some false)
set_option maxHeartbeats 8000000 in
set_option maxRecDepth 100000 in
theorem Za8.calls (a0:Int) (r:Bool) (w:World) (h:Za8.f a0=some r) :
  Calls Try.prog 57 #[.int .i64 a0] w fun e w'=>e=.returned (.bool r)∧Zam w w':=by
 have H:(if a0≥0 then(some (decide (a0<1000000))) else(some false))=some r:=h
 clear h
 by_cases c2:a0≥0
 ·rw[if_pos c2] at H
  have c2b0:decide (0≤a0)=true:=Ze c2
  clear c2
  obtain rfl:=Zg H
  go_enter Try.func57,Try.ntmps57
  go_wp2
  go_ret
  exact⟨by first|rfl|(simp;done)|(simp[*];done),by repeat(first|exact Zam.refl _|apply Zam.step)⟩
 ·rw[if_neg c2] at H
  have c2b0:decide (0≤a0)=false:=Zf c2
  clear c2
  obtain rfl:=Zg H
  go_enter Try.func57,Try.ntmps57
  go_wp2
  go_ret
  exact⟨by first|rfl|(simp;done)|(simp[*];done),by repeat(first|exact Zam.refl _|apply Zam.step)⟩
end Go.Proofs.Ythphnhmabieflab.Pr
namespace Go.Proofs.Ythphnhmabieflab.Pr
open Go.RowKit Go.Proofs.YthphnhmabieflabW.PrintWords Go.Proofs.YthphnhmabieflabW.PrintLast Go.Proofs.YthphnhmabieflabW.PrintMore
attribute [local go_sem] Zaj Zah Zaq Zap Zab Zaa Zai Zag
set_option linter.unusedVariables false
set_option linter.unusedSimpArgs false
open Go.Proofs.Ythphnhmabieflab.Ni
set_option maxHeartbeats 4000000 in
theorem Zca.any (p:Int→Bool) (g:Nat) (lb:Array Value) (eg:∀args w,(callFunc g args).run Try.prog w=.ok (.enter g args) w) (A0:Option Addr) (c0:Nat) (l0:List Int) (w:World) (hr0:Kd.C (Kd.int .i64) w A0 l0.length l0)
  (hp:∀(W:World) (x:Int),x∈l0→Below w.heap.size w W→Calls Try.prog g (#[.int .i64 x] ++ lb) W fun e w'=>e=.returned (.bool (p x))∧Below W.heap.size W w') :
  Calls Try.prog 91 #[.slice A0 l0.length c0,.func (.func g) #[] lb] w fun e w'=>e=.returned (.int .i64 (Zbq p l0))∧Below w.heap.size w w':=by
 have HR0:=Za hr0;have HP:=Za hp;clear hr0 hp
 have HL:l0.length≤9223372036854775807:=HR0.out.2.1
 go_enter Try.func91,Try.ntmps91
 go_wp2
 go_loopg [5,8] l0.length (fun gg _ s8 wr=>∃kk:Nat,Aside0 (kk≤l0.length)∧Aside0 (l0.length - kk≤gg)∧s8=.int .i64 kk∧Aside0 (Below w.heap.size w wr)∧Aside0 (∀j y,j<kk→l0[j]? = some y→p y=false))
 case atStart=>exact⟨0,⟨Nat.zero_le _⟩,⟨by omega⟩,rfl,⟨Below.refl _ _⟩,⟨fun j y hj=>absurd hj (Nat.not_lt_zero _)⟩⟩
 case round=>
  obtain⟨kk,HK,HG,rfl,HB,HN⟩:=hrel
  by_cases hlt:kk<l0.length
  ·have hltz:(kk:Int)<(l0.length:Int):=by omega
   obtain⟨ad,e1,hx0⟩:=Kd.at_int HR0.out (kk:Int) (by omega) hltz
   cases e1
   replace hx0:=(HB.out.cell (Zc w _ hx0)).trans hx0
   rw[Int.toNat_natCast] at hx0
   have hxe:l0[kk]? = some (rd l0 (kk:Int)):=by
    unfold rd
    rw[Int.toNat_natCast,List.getD_eq_getElem?_getD,Zl hlt];rfl
   generalize rd l0 (kk:Int)=y at hx0 hxe
   have HX:=Za hxe;clear hxe
   have hcall:=HP.out wr y (List.mem_of_getElem? HX.out) HB.out
   cases hq:p y with
   | true=>
    have HQ:=Za hq
    rw[hq] at hcall
    clear hq
    go_wp2_with (go_at_fn g;refine hcall.mono ?_;rintro e w' ⟨rfl,hb⟩)
    go_ret
    exact⟨by rw[ZcM p l0 kk y HX.out HQ.out HN.out];rfl,HB.out.trans (hb.mono HB.out.size)⟩
   | false=>
    have HQ:=Za hq
    rw[hq] at hcall
    clear hq
    go_wp2_with (go_at_fn g;refine hcall.mono ?_;rintro e w' ⟨rfl,hb⟩)
    go_roundg (l0.length - (kk+1))
    case measure=>have:=HG.out;omega
    case rel=>
     refine⟨kk+1,⟨by omega⟩,⟨by omega⟩,by go_num,⟨HB.out.trans (hb.mono HB.out.size)⟩,⟨fun j y' hj hy=>?_⟩⟩
     by_cases e:j=kk
     ·subst e
      rw[HX.out] at hy
      cases hy
      exact HQ.out
     ·exact HN.out j y' (by omega) hy
  ·have hltz:¬(kk:Int)<(l0.length:Int):=by omega
   have:kk=l0.length:=by have:=HK.out;omega
   subst this
   go_wp2
   go_ret
   exact⟨by rw[Zb2 p l0 HN.out];rfl,HB.out⟩
set_option maxHeartbeats 4000000 in
theorem Zbn.any (p:Int→Bool) (g:Nat) (lb:Array Value) (eg:∀args w,(callFunc g args).run Try.prog w=.ok (.enter g args) w) (A0:Option Addr) (c0:Nat) (l0:List Int) (w:World) (hr0:Kd.C (Kd.int .i64) w A0 l0.length l0)
  (hp:∀(W:World) (x:Int),x∈l0→Below w.heap.size w W→Calls Try.prog g (#[.int .i64 x] ++ lb) W fun e w'=>e=.returned (.bool (p x))∧Below W.heap.size W w') :
  Calls Try.prog 58 #[.slice A0 l0.length c0,.func (.func g) #[] lb] w fun e w'=>e=.returned (.bool (l0.any p))∧Below w.heap.size w w':=by
 have HI:=Za (Zca.any p g lb eg A0 c0 l0 w hr0 hp)
 clear hr0 hp
 have HE:=Za (ZcN p l0)
 go_enter Try.func58,Try.ntmps58
 go_wp2_with (go_at_call 91;refine HI.out.mono ?_;rintro e w' ⟨rfl,hb⟩)
 go_ret
 exact⟨by rw[← HE.out];rfl,hb⟩
end Go.Proofs.Ythphnhmabieflab.Pr
namespace Go.Proofs.Ythphnhmabieflab.Pr
open Go.RowKit Go.Proofs.YthphnhmabieflabW.PrintWords Go.Proofs.YthphnhmabieflabW.PrintLast Go.Proofs.YthphnhmabieflabW.PrintMore
attribute [local go_sem] Zaj Zah Zaq Zap Zab Zaa Zai Zag
set_option linter.unusedVariables false
set_option linter.unusedSimpArgs false
def Zba.f (a0:Int):Option (Bool):=if a0=(-1) then(some false) else((Za8.f a0).bind fun t59001=>(some (!t59001)))
set_option maxHeartbeats 8000000 in
set_option maxRecDepth 100000 in
theorem Zba.calls (a0:Int) (r:Bool) (w:World) (h:Zba.f a0=some r) :
  Calls Try.prog 59 #[.int .i64 a0] w fun e w'=>e=.returned (.bool r)∧Zam w w':=by
 have H:(if a0=(-1) then(some false) else((Za8.f a0).bind fun t59001=>(some (!t59001))))=some r:=h
 clear h
 by_cases c2:a0=(-1)
 ·rw[if_pos c2] at H
  have c2b0:(a0 == (-1))=true:=beq_iff_eq.mpr c2
  have c2b1:(a0 != (-1))=false:=bne_eq_false_iff_eq.mpr c2
  clear c2
  obtain rfl:=Zg H
  go_enter Try.func59,Try.ntmps59
  go_wp2
  go_ret
  exact⟨by first|rfl|(simp;done)|(simp[*];done),by repeat(first|exact Zam.refl _|apply Zam.step)⟩
 ·rw[if_neg c2] at H
  have c2b0:(a0 == (-1))=false:=beq_eq_false_iff_ne.mpr c2
  have c2b1:(a0 != (-1))=true:=bne_iff_ne.mpr c2
  replace H:=Zh H
  obtain⟨t59001,A30,H⟩:=H
  replace H:(some (!t59001))=some r:=H
  have A3:=Za A30;clear A30
  obtain rfl:=Zg H
  go_enter Try.func59,Try.ntmps59
  go_wp2_with (first|(go_at_call 57;(with_reducible refine(Za8.calls a0 t59001 _ A3.out).mono ?_);rintro e w' ⟨rfl,⟨nd,rfl⟩⟩))
  go_ret
  exact⟨by first|rfl|(simp;done)|(simp[*];done),by repeat(first|exact Zam.refl _|apply Zam.step)⟩
end Go.Proofs.Ythphnhmabieflab.Pr
namespace Go.Proofs.Ythphnhmabieflab.Pr
open Go.RowKit Go.Proofs.YthphnhmabieflabW.PrintWords Go.Proofs.YthphnhmabieflabW.PrintLast Go.Proofs.YthphnhmabieflabW.PrintMore
attribute [local go_sem] Zaj Zah Zaq Zap Zab Zaa Zai Zag
set_option linter.unusedVariables false
set_option linter.unusedSimpArgs false
open Go.Proofs.Ythphnhmabieflab.Ni
def Zbu (x:Int):Bool:=decide (-1≤x) && decide (x<1000000)
def Zb1 (n:Int) (L:List S84) (tm:List Int):Bool:=Zac n L && (decide ((tm.length:Int)=n) && (decide (tm.getD 0 0=0) && !(tm.any fun x=>!Zbu x)))
def Zas.f (a0_0:Int) (l0_1:List (S84)) (l1:List Int):Option Bool:=some (Zb1 a0_0 l0_1 l1)
theorem Zas.t (x:Int):Zba.f x=some (!Zbu x):=by
 unfold Zba.f Zbu
 simp only[Za8.f]
 by_cases h1:x=-1
 ·subst h1;rfl
 ·by_cases h2:x≥0
  ·by_cases h3:x<1000000
   ·simp[h1,h2,h3];omega
   ·simp[h1,h2,h3]
  ·simp[h1,h2];omega
set_option maxHeartbeats 4000000 in
set_option maxRecDepth 100000 in
theorem Zas.calls (a0_0:Int) (A0_1:Option Addr) (c0_1:Nat) (l0_1:List (S84)) (A1:Option Addr) (c1:Nat) (l1:List Int) (r:Bool) (w:World) (hr0_1:Kd.C k84 w A0_1 l0_1.length l0_1) (hc0_1:l0_1.length≤c0_1) (hr1:Kd.C (Kd.int .i64) w A1 l1.length l1) (hc1:l1.length≤c1) (h:Zas.f a0_0 l0_1 l1=some r) :
  Calls Try.prog 24 #[.agg #[.int .i64 a0_0,.slice A0_1 l0_1.length c0_1],.slice A1 l1.length c1] w fun e w'=>e=.returned (.bool r)∧Below w.heap.size w w':=by
 have h':=Zg h
 have HN:=Za h'
 have HS:=Za fun (W:World) (hb:Below w.heap.size w W)=>Z8.calls a0_0 A0_1 c0_1 l0_1 _ W (Zb hr0_1 hb) hc0_1 rfl
 have B1:=Za (Zq (Below.refl w.heap.size w) (.cells #[.int .i64 a0_0,.slice A0_1 l0_1.length c0_1] 31))
 have K0:=Za (show(w.alloc (.cells #[.int .i64 a0_0,.slice A0_1 l0_1.length c0_1] 31)).cell? ⟨w.heap.size,0,none⟩=some (.int .i64 a0_0) by go_simp)
 have HC:=Za fun (W:World) (hb:Below w.heap.size w W)=>(Zbn.any (fun x=>!Zbu x) 59 #[] (enters_of Try.func59 (by kernel_rfl) rfl) A1 c1 l1 W (Zb hr1 hb)
  (fun W' x _ _=>(Zba.calls x _ W' (Zas.t x)).mono fun _ _ ⟨he,hd⟩=>⟨he,by first|exact hd|exact hd.below⟩))
 have hu:=Try.underlying31
 have HR1:=Za hr1
 have hL1:l1.length≤9223372036854775807:=hr1.2.1
 clear hr0_1 hc0_1 hr1 hc1 h h'
 have HA:=Za (show Zb1 a0_0 l0_1 l1=(Zac a0_0 l0_1 && (decide ((l1.length:Int)=a0_0) && (decide (l1.getD 0 0=0) && !(l1.any fun x=>!Zbu x)))) from rfl)
 cases hs:Zac a0_0 l0_1 with
 | false=>
  rw[hs] at HS HA
  have HF:=Za (show false=r by rw[← HN.out,HA.out];rfl)
  clear hs
  go_enter Try.func24,Try.ntmps24
  go_wp2_with (go_at_call 17;refine(HS.out _ B1.out).mono ?_;rintro e w1 ⟨rfl,hb⟩)
  go_ret
  exact⟨by rw[← HF.out];rfl,B1.out.trans (hb.mono B1.out.size)⟩
 | true=>
 rw[hs] at HS HA
 have hpos:1≤a0_0:=by
  unfold Zac at hs
  simp only[Bool.and_eq_true,Bool.not_eq_true',decide_eq_false_iff_not] at hs
  omega
 have HPOS:=Za hpos;clear hs hpos
 by_cases hl:(l1.length:Int)=a0_0
 case neg=>
  have hd:((l1.length:Int) != a0_0)=true:=by simpa using hl
  have HF:=Za (show false=r by rw[← HN.out,HA.out,Zf hl];rfl)
  clear hl
  go_enter Try.func24,Try.ntmps24
  go_wp2_with (go_at_call 17;refine(HS.out _ B1.out).mono ?_;rintro e w1 ⟨rfl,hb⟩;have hk0:=Z2 hb K0.out;have hlt:=Zc _ _ hk0)
  go_ret
  exact⟨by rw[← HF.out];rfl,B1.out.trans (hb.mono B1.out.size)⟩
 have hd:((l1.length:Int) != a0_0)=false:=by simpa using hl
 have h0z:(0:Int)<(l1.length:Int):=by have:=HPOS.out;omega
 rw[Ze hl] at HA
 clear hl
 obtain⟨ad,e1,hx⟩:=Kd.at_int HR1.out 0 (Int.le_refl 0) h0z
 cases e1
 replace hx:w.cell? (ad.add 0)=some (.int .i64 (rd l1 0)):=hx
 rw[show rd l1 0=l1.getD 0 0 from rfl,Addr.add_zero'] at hx
 have h0n:0<l1.length:=by omega
 have HX:=Za hx;clear hx
 generalize l1.getD 0 0=z at HX HA
 by_cases hz:z=0
 case neg=>
  have hzd:(z != 0)=true:=by simpa using hz
  have HF:=Za (show false=r by rw[← HN.out,HA.out,Zf hz];rfl)
  clear hz
  go_enter Try.func24,Try.ntmps24
  go_wp2_with (go_at_call 17;refine(HS.out _ B1.out).mono ?_;rintro e w1 ⟨rfl,hb⟩;have hk0:=Z2 hb K0.out;have hlt:=Zc _ _ hk0;have hx1:=Z2 (B1.out.trans (hb.mono B1.out.size)) HX.out)
  go_ret
  exact⟨by rw[← HF.out];rfl,B1.out.trans (hb.mono B1.out.size)⟩
 subst hz
 have HF:=Za (show(!(l1.any fun x=>!Zbu x))=r by rw[← HN.out,HA.out];simp)
 generalize l1.any (fun x=>!Zbu x)=q at HC HF
 go_enter Try.func24,Try.ntmps24
 go_wp2_with (first|(go_at_call 17;refine(HS.out _ B1.out).mono ?_;rintro e w1 ⟨rfl,hb⟩;have hk0:=Z2 hb K0.out;have hlt:=Zc _ _ hk0;have hx1:=Z2 (B1.out.trans (hb.mono B1.out.size)) HX.out;have HB:=Za (B1.out.trans (hb.mono B1.out.size));clear hb)|(go_at_call 58;refine(HC.out _ HB.out).mono ?_;rintro e w2 ⟨rfl,hb⟩))
 go_ret
 exact⟨by rw[← HF.out];rfl,HB.out.trans (hb.mono HB.out.size)⟩
end Go.Proofs.Ythphnhmabieflab.Pr
namespace Go.Proofs.Ythphnhmabieflab.Pr
open Go.RowKit Go.Proofs.YthphnhmabieflabW.PrintWords Go.Proofs.YthphnhmabieflabW.PrintLast Go.Proofs.YthphnhmabieflabW.PrintMore
attribute [local go_sem] Zaj Zah Zaq Zap Zab Zaa Zai Zag
set_option linter.unusedVariables false
set_option linter.unusedSimpArgs false
def ZaO.f (l0:List S84):Option (List S84):=if l0.length<4398046511104 then some l0 else none
set_option maxHeartbeats 4000000 in
set_option maxRecDepth 100000 in
theorem ZaO.calls (A0:Option Addr) (c0:Nat) (l0:List S84) (r:List S84) (w:World) (hr0:Kd.C k84 w A0 l0.length l0) (hc0:l0.length≤c0) (h:ZaO.f l0=some r) :
  Calls Try.prog 54 #[.slice A0 l0.length c0] w fun e w'=>∃v0_:Value,e=.returned (v0_)∧Kd.R k84 84 w' w.heap.size (fun _=>True) v0_ r∧Below w.heap.size w w':=by
 unfold ZaO.f at h
 by_cases hl:l0.length<4398046511104
 case neg=>rw[if_neg hl] at h;exact absurd h (by simp)
 rw[if_pos hl] at h
 obtain rfl:=Zg h
 have HR0:=Za hr0;have HLM:=Za hl
 have hsn:=fun (W:World) (A:Option Addr) (n c:Nat)=>Lib.run_eql_slice_nil (P:=Try.prog) W 29 84 A n c 0 0 Try.underlying29
 clear hr0 hc0 hl h
 cases A0 with
 | none=>
  have hn:l0=[]:=by
   cases l0 with
   | nil=>rfl
   | cons a l=>
    obtain⟨ad,he,_⟩:=HR0.out.2.2 (by simp)
    cases he
  have HN:=Za hn;clear hn
  generalize hq:l0.length=n
  clear hq
  go_enter Try.func54,Try.ntmps54
  go_wp2
  go_ret
  exact⟨_,rfl,by rw[HN.out];exact Kd.R_nil _ _ _ _ _,Below.refl _ _⟩
 | some A0=>
  go_enter Try.func54,Try.ntmps54
  go_wp2_with (first|((with_reducible refine ZM (N:=5) rfl ?_);refine Kd.R_lit k84 _ 84 ?hg (N:=5) ?hd (xs:=([]:List S84)) (inner:=[]) (ok:=fun _=>True) (okp:=fun _=>True) ?hr ?hp (fun _ hk=>hk) trivial (Below.refl _ _) (Nat.le_refl _) (by simp) ?_;(case hd=>rfl);(case hg=>rfl);(case hr=>first|(go_simp;done)|(go_simp;rfl));(case hp=>exact(Reps.none _ _));intro v1 w3 ho hb _ _;have HO:=Za ho;have HB:=Za hb;clear ho hb)|((with_reducible refine ZaG (b:=.append) (xs:=#[.tmp 5,.tmp 6]) rfl ?_);at_builtin;refine Kd.R_append_rows k84 (w0:=w) w.heap.size rfl (.tmp 5) (.tmp 6) 29 84 (.agg #[(.int .i64 0),(.int .i64 0),(.int .i64 0),(.int .i64 0)]) 32 rfl Try.underlying29 info84 rfl (by decide) (by omega) v1 [] l0 _ _ _ (fun _=>True) (fun _=>False) rfl rfl ?aO ?aR (fun _ _ h=>h) (fun _ h=>h.elim) ?aF ?aB ?aS ?aL ?_;(case aR=>exact Zb HR0.out HB.out);(case aB=>exact HB.out);(case aF=>exact(fun _ _=>trivial));(case aO=>exact HO.out);(case aS=>exact HB.out.size);(case aL=>have:=HLM.out;simp only[List.length_nil];omega);intro v2 w5 ho hb hg hat;have HO2:=Za ho;have HB2:=Za hb;clear ho hb hg hat))
  go_ret
  exact⟨_,rfl,HO2.out,HB2.out⟩
def ZS.l0:Nat→List Int→Int→Int→Int→List (S84)→Option (Int×(List (S84))×Bool)
 | 0,_,_,_,_,_=>none
 | k+1,x20,x21,x22,x18008000,x18008001=>if x22<x21 then(if 0≤x22 then(if x22<(x20.length:Int) then(if x22 > 0 then(if (rd x20 x22)=(-1) then(ZS.l0 k x20 x21 (wrap64 (x22+1)) x18008000 x18008001) else(if x18008001.length<4398046511104 then(ZS.l0 k x20 x21 (wrap64 (x22+1)) x18008000 (x18008001 ++ [(⟨0,x22,(⟨rd x20 x22,rd x20 x22⟩:S35)⟩:S84)])) else(none))) else(ZS.l0 k x20 x21 (wrap64 (x22+1)) x18008000 x18008001)) else(none)) else(none)) else((Z8.f x18008000 x18008001).bind fun t18012=>(if t18012=true then(some (x18008000,x18008001,true)) else(some (0,([]:List (S84)),false))))
def ZS.f (k:Nat) (a0_0:Int) (l0_1:List (S84)) (l1:List Int):Option (Int×(List (S84))×Bool):=(Zas.f a0_0 l0_1 l1).bind fun t18003=>(if t18003=true then((ZaO.f l0_1).bind fun t18004=>(ZS.l0 k l1 (l1.length:Int) 0 a0_0 t18004)) else(some (0,([]:List (S84)),false)))
def ZS.T3:Bool×List (List Nat×List Nat):=(true,[([],[]),([0],[0]),([],[]),([2],[2]),([3],[3]),([1,4],[1,4]),([],[]),([6,5,4,0,1,2,3,4,5,6],[5,6])])
def ZS.B3:List Nat:=[0,1,0,4,12,31,0,127]
theorem ZS.tab3:rtab .any (opsOf Try.f18 3)=ZS.T3:=by kernel_rfl
theorem ZS.bits3:Zbi ZS.T3.2 ZS.B3=true:=by kernel_rfl
set_option maxHeartbeats 8000000 in
set_option maxRecDepth 100000 in
theorem ZS.calls (k:Nat) (a0_0:Int) (A0_1:Option Addr) (c0_1:Nat) (l0_1:List (S84)) (A1:Option Addr) (c1:Nat) (l1:List Int) (r1:Int) (r2:List (S84)) (r3:Bool) (w:World) (hr0_1:Kd.C k84 w A0_1 l0_1.length l0_1) (hc0_1:l0_1.length≤c0_1) (hr1:Kd.C (Kd.int .i64) w A1 l1.length l1) (hc1:l1.length≤c1) (h:ZS.f k a0_0 l0_1 l1=some (r1,r2,r3)) :
  Calls Try.prog 18 #[.agg #[.int .i64 a0_0,.slice A0_1 l0_1.length c0_1],.slice A1 l1.length c1] w fun e w'=>∃v1_:Value,e=.returned (.tuple #[.agg #[.int .i64 r1,v1_],.bool r3])∧Kd.R k84 84 w' w.heap.size (fun _=>True) v1_ r2∧Below w.heap.size w w':=by
 have hu31:=Try.underlying31
 have hu35:=Try.underlying35
 have hu84:=Try.underlying84
 have HR0_1:=Za hr0_1;have HC0_1:=Za hc0_1;clear hr0_1 hc0_1;have HR1:=Za hr1;have HC1:=Za hc1;clear hr1 hc1
 have HB:=Za (Below.refl w.heap.size w)
 have H:((Zas.f a0_0 l0_1 l1).bind fun t18003=>(if t18003=true then((ZaO.f l0_1).bind fun t18004=>(ZS.l0 k l1 (l1.length:Int) 0 a0_0 t18004)) else(some (0,([]:List (S84)),false))))=some (r1,r2,r3):=h
 clear h
 replace H:=Zh H
 obtain⟨t18003,A30,H⟩:=H
 replace H:(if t18003=true then((ZaO.f l0_1).bind fun t18004=>(ZS.l0 k l1 (l1.length:Int) 0 a0_0 t18004)) else(some (0,([]:List (S84)),false)))=some (r1,r2,r3):=H
 have A3:=Za A30;clear A30
 by_cases c4:t18003=true
 ·subst c4
  have H1:((ZaO.f l0_1).bind fun t18004=>(ZS.l0 k l1 (l1.length:Int) 0 a0_0 t18004))=some (r1,r2,r3):=by rw[if_pos rfl] at H;exact H
  clear H
  have H:=H1
  clear H1
  replace H:=Zh H
  obtain⟨t18004,A50,H⟩:=H
  replace H:(ZS.l0 k l1 (l1.length:Int) 0 a0_0 t18004)=some (r1,r2,r3):=H
  have A5:=Za A50;clear A50
  have H':=Za H
  clear H
  go_enter Try.func18,Try.ntmps18
  try go_wp2_with (first|((with_reducible refine ZM (N:=2) rfl ?_);refine ZK ?hg (N:=2) ?hd (cs:=#[.int .i64 a0_0,.slice A0_1 l0_1.length c0_1]) (t:=31) ?hr ?_;(case hd=>rfl);(case hg=>rfl);(case hr=>first|(go_simp;done)|(go_simp;rfl));intro gb18001 hg w6 hbox hb;have BK18001:=Za (hbox);have GW18001:=Za ((by rw[hg];exact(Zw (by repeat(first|(with_reducible first|exact HB.out|apply Zq|apply Zm|apply Zs)|exact HB.out))):w.heap.size≤gb18001));have GE18001:=Za ((by rw[hg];exact(Zw (by repeat(first|(with_reducible first|exact HB.out|apply Zq|apply Zm|apply Zs)|exact HB.out))):w.heap.size≤gb18001));replace HB:=Za (Zx (by repeat(first|(with_reducible first|exact HB.out|apply Zq|apply Zm|apply Zs)|exact HB.out)) hb);clear hb hbox hg)|((with_reducible refine ZM (N:=4) rfl ?_);refine ZK ?hg (N:=4) ?hd (cs:=#[.int .i64 0,.slice none 0 0]) (t:=31) ?hr ?_;(case hd=>rfl);(case hg=>rfl);(case hr=>first|(go_simp;done)|(go_simp;rfl));intro gb18002 hg w7 hbox hb;have BK18002:=Za (hbox);have GW18002:=Za ((by rw[hg];exact(Zw (by repeat(first|(with_reducible first|exact HB.out|apply Zq|apply Zm|apply Zs|refine Zp ?_ GE18001.out)|exact HB.out))):w.heap.size≤gb18002));have GE18002:=Za ((by rw[hg];exact(Zw (by repeat(first|(with_reducible first|exact HB.out|apply Zq|apply Zm|apply Zs|refine Zp ?_ GE18001.out)|exact HB.out))):w.heap.size≤gb18002));have NB18001_18002:=Za ((by rw[hg];exact Nat.ne_of_lt (ZH (g:=gb18001) (o:=.cells #[.int .i64 a0_0,.slice A0_1 l0_1.length c0_1] 31 (0,0)) (by(with_reducible repeat(first|refine Zo ?_ _|refine Zr ?_|refine Zn ?_ _));exact BK18001.out)):gb18001≠gb18002));have NB18002_18001:=Za ((by rw[hg];exact Nat.ne_of_gt (ZH (g:=gb18001) (o:=.cells #[.int .i64 a0_0,.slice A0_1 l0_1.length c0_1] 31 (0,0)) (by(with_reducible repeat(first|refine Zo ?_ _|refine Zr ?_|refine Zn ?_ _));exact BK18001.out)):gb18002≠gb18001));replace BK18001:=Za (Zy (g:=gb18001) (o:=.cells #[.int .i64 a0_0,.slice A0_1 l0_1.length c0_1] 31 (0,0)) (by(with_reducible repeat(first|refine Zo ?_ _|refine Zr ?_|refine Zn ?_ _));exact BK18001.out) hb);replace HB:=Za (Zx (by repeat(first|(with_reducible first|exact HB.out|apply Zq|apply Zm|apply Zs|refine Zp ?_ GE18001.out)|exact HB.out)) hb);clear hb hbox hg;have hnb8:=NB18001_18002.out;have hnc8:=NB18002_18001.out;have hcz9_0:w7.cell? ⟨gb18001,0,none⟩=some (.int .i64 a0_0):=(Zv BK18001.out 0).trans rfl;have hcz9_1:w7.cell? ⟨gb18001,1,none⟩=some (.slice A0_1 l0_1.length c0_1):=(Zv BK18001.out 1).trans rfl;have hfz9_0:=Zu BK18001.out 0;have hfz9_1:=Zu BK18001.out 1)|((with_reducible refine ZF (f:=24) rfl ?_);refine ZY (some 11) rfl rfl Try.func24 (by kernel_rfl) rfl #[.agg #[.int .i64 a0_0,.slice A0_1 l0_1.length c0_1],.slice A1 l1.length c1] rfl (by(try simp only[List.map_toArray,List.map_cons,List.map_nil]);first|done|rfl|(simp only[Zk,Zj];rfl)) ?_;(with_reducible refine(Zas.calls a0_0 _ _ l0_1 _ _ l1 true _ ?side1 ?side2 ?side3 ?side4 A3.out).mono ?_);(case side1=>repeat(first|exact(Zb HR0_1.out HB.out)|(with_reducible refine Kd.C_alloc ?_ _)|(with_reducible refine Kd.C_drewN ?_ _)|(with_reducible refine Kd.C_drew ?_)));(case side2=>exact HC0_1.out);(case side3=>repeat(first|exact(Zb HR1.out HB.out)|(with_reducible refine Kd.C_alloc ?_ _)|(with_reducible refine Kd.C_drewN ?_ _)|(with_reducible refine Kd.C_drew ?_)));(case side4=>exact HC1.out);rintro e w10 ⟨rfl,hb⟩;refine⟨_,rfl,?_⟩;replace BK18001:=Za (Zy (g:=gb18001) (o:=.cells #[.int .i64 a0_0,.slice A0_1 l0_1.length c0_1] 31 (0,0)) (by(with_reducible repeat(first|refine Zo ?_ _|refine Zr ?_|refine Zn ?_ _));exact BK18001.out) hb);replace BK18002:=Za (Zy (g:=gb18002) (o:=.cells #[.int .i64 0,.slice none 0 0] 31 (0,0)) (by(with_reducible repeat(first|refine Zo ?_ _|refine Zr ?_|refine Zn ?_ _));exact BK18002.out) hb);replace HB:=Za (Zx (by repeat(first|(with_reducible first|exact HB.out|apply Zq|apply Zm|apply Zs|refine Zp ?_ GE18001.out|refine Zp ?_ GE18002.out)|exact HB.out)) hb);(try clear hb);(try clear hb2);(try clear hk);(try clear hi)))
  replace BK18001:=Za (Zr BK18001.out);replace BK18002:=Za (Zr BK18002.out);replace HB:=Za (Zs HB.out)
  refine ZbL (n:=8) (S:=fun w'=>w'.cell? ⟨gb18001,0,none⟩=some (.int .i64 a0_0)∧w'.cell? ⟨gb18001,1,none⟩=some (.slice A0_1 l0_1.length c0_1)) (ds:=[]) #[false,false,false,false,false,false,false,false] (by kernel_rfl) rfl rfl ⟨(Zv BK18001.out 0).trans rfl,(Zv BK18001.out 1).trans rfl⟩ (fun hHeld=>?_);refine Zby ZS.tab3 ZS.bits3 (fun HT_ HW_=>?_)
  generalize w10.drew=w11 at BK18001 BK18002 HB hHeld ⊢
  refine Z7 (i:=0) (N:=some 14) (v:=?_) (a':=?_) #[true,false,false,false,false,false,false,false] rfl rfl (Z6 HT_.out (by kernel_rfl)) (fun _ _ _ h=>h) (Or.inl ⟨by rfl,?_⟩) ?_ ?_
  rotate_left
  ·intro w'
   go_simp
   with_reducible rfl
  rotate_left
  ·simp only[Act.put,List.setIfInBounds_toArray,List.set_cons_zero,List.set_cons_succ,ZQ,ZR]
   rfl
  refine Z7 (i:=2) (N:=some 16) (v:=?_) (a':=?_) #[true,false,true,false,false,false,false,false] rfl rfl (Z6 HT_.out (by kernel_rfl)) (fun _ _ _ h=>h) (Or.inl ⟨by rfl,?_⟩) ?_ ?_
  rotate_left
  ·intro w'
   go_simp
   with_reducible rfl
  rotate_left
  ·simp only[Act.put,List.setIfInBounds_toArray,List.set_cons_zero,List.set_cons_succ,ZQ,ZR]
   rfl
  refine take_ (i:=1) (N:=some 15) (v:=?_) (a':=?_) #[true,true,true,false,false,false,false,false] rfl rfl (ZaU HT_.out HW_.out (by kernel_rfl)) (fun _ _ _ h=>h) (Or.inl ⟨by rfl,?_⟩) hHeld ?_ ?_
  rotate_left
  ·rintro w' ⟨s0,s1⟩
   go_simp
   with_reducible rfl
  rotate_left
  ·simp only[Act.put,List.setIfInBounds_toArray,List.set_cons_zero,List.set_cons_succ,ZQ,ZR]
   rfl
  refine take_ (i:=3) (N:=some 17) (v:=?_) (a':=?_) #[true,true,true,true,false,false,false,false] rfl rfl (ZaU HT_.out HW_.out (by kernel_rfl)) (fun _ _ _ h=>h) (Or.inl ⟨by rfl,?_⟩) hHeld ?_ ?_
  rotate_left
  ·rintro w' ⟨s0,s1⟩
   go_simp
   with_reducible rfl
  rotate_left
  ·simp only[Act.put,List.setIfInBounds_toArray,List.set_cons_zero,List.set_cons_succ,ZQ,ZR]
   rfl
  refine join_ (σ:=Value×Nat) 1 #[true,true,true,true,true,true,true,false] (fun s_=>[(18,s_.1),(6,.pointer (some ⟨s_.2,0,none⟩)),(19,.agg #[.int .i64 a0_0,s_.1])]) (fun s_ w'=>(w'.cell? ⟨gb18001,0,none⟩=some (.int .i64 a0_0)∧w'.cell? ⟨gb18001,1,none⟩=some (.slice A0_1 l0_1.length c0_1))∧(Kd.R k84 84 w' w.heap.size (fun _=>True) s_.1 t18004)∧(w'.heap[gb18001]? = some (.cells #[.int .i64 a0_0,.slice A0_1 l0_1.length c0_1] 31 (0,0)))∧(w'.heap[gb18002]? = some (.cells #[.int .i64 0,.slice none 0 0] 31 (0,0)))∧(w'.heap[s_.2]? = some (.cells #[.int .i64 0,.slice none 0 0] 31 (0,0)))∧(w.heap.size≤s_.2)∧(w.heap.size≤s_.2)∧(gb18001≠s_.2)∧(s_.2≠gb18001)∧(gb18002≠s_.2)∧(s_.2≠gb18002)∧(Below w.heap.size w w')) ?_ ?_
  rotate_left
  ·intro hCont
   refine two_ (i:=4) (j:=6) (Ni:=some 18) (Nj:=some 6) #[true,true,true,true,true,false,false,false] #[true,true,true,true,false,false,true,false] rfl rfl rfl rfl (two_of HT_.out (by kernel_rfl)) (by decide) (by decide) (fun K hK=>?_) (fun K hK=>?_)
   ·skip
    refine Zbh Try.func54 (by kernel_rfl) rfl #[.slice A0_1 l0_1.length c0_1] (by rfl) rfl rfl (by(try simp only[List.map_toArray,List.map_cons,List.map_nil]);first|done|rfl|(simp only[Zk,Zj];rfl)) ?_
    with_reducible refine(ZaO.calls _ _ l0_1 t18004 _ ?side1 ?side2 A5.out).mono ?_
    (case side1=>repeat(first|exact(Zb HR0_1.out HB.out)|(with_reducible refine Kd.C_alloc ?_ _)|(with_reducible refine Kd.C_drewN ?_ _)|(with_reducible refine Kd.C_drew ?_)))
    (case side2=>exact HC0_1.out)
    rintro e w12 ⟨v18005,rfl,ho0,hb⟩
    refine⟨_,rfl,?_⟩
    have HO18006:=Za (Kd.R_lower ho0 (Zw (by repeat(first|(with_reducible first|exact HB.out|apply Zq|apply Zm|apply Zs|refine Zp ?_ GE18001.out|refine Zp ?_ GE18002.out)|exact HB.out))));replace BK18001:=Za (Zy (g:=gb18001) (o:=.cells #[.int .i64 a0_0,.slice A0_1 l0_1.length c0_1] 31 (0,0)) (by(with_reducible repeat(first|refine Zo ?_ _|refine Zr ?_|refine Zn ?_ _));exact BK18001.out) hb);replace BK18002:=Za (Zy (g:=gb18002) (o:=.cells #[.int .i64 0,.slice none 0 0] 31 (0,0)) (by(with_reducible repeat(first|refine Zo ?_ _|refine Zr ?_|refine Zn ?_ _));exact BK18002.out) hb);replace HB:=Za (Zx (by repeat(first|(with_reducible first|exact HB.out|apply Zq|apply Zm|apply Zs|refine Zp ?_ GE18001.out|refine Zp ?_ GE18002.out)|exact HB.out)) hb)
    (try clear hb)
    (try clear hb2)
    (try clear hk)
    (try clear hi)
    (try clear ho0)
    obtain⟨Ao13,co13,eo13⟩:=Kd.R_slice HO18006.out
    (first|subst eo13|(injection eo13 with f1_ f2_ f3_;have f4_:=f1_.symm;have f5_:=f3_.symm;clear f1_ f2_ f3_;subst f4_;subst f5_))
    refine hK.out _ _ ⟨(Zv BK18001.out 0).trans rfl,(Zv BK18001.out 1).trans rfl⟩ (fun hHeld=>?_)
    clear hK K
    refine Zau (a':=?_) ?_ ?_
    rotate_left
    ·show Act.put _ (some 18) _=_
     simp only[Act.put,List.setIfInBounds_toArray,List.set_cons_zero,List.set_cons_succ,ZQ,ZR]
     rfl
    refine Z7 (i:=5) (N:=some 19) (v:=?_) (a':=?_) #[true,true,true,true,true,true,false,false] rfl rfl (Z6 HT_.out (by kernel_rfl)) (fun _ _ _ h=>h) (Or.inl ⟨by rfl,?_⟩) ?_ ?_
    rotate_left
    ·intro w'
     go_simp
     with_reducible rfl
    rotate_left
    ·simp only[Act.put,List.setIfInBounds_toArray,List.set_cons_zero,List.set_cons_succ,ZQ,ZR]
     rfl
    refine one_ (i:=6) (N:=some 6) #[true,true,true,true,true,true,true,false] rfl rfl (ZaI HT_.out (by kernel_rfl)) (by decide) (fun K hK=>?_)
    refine box_step ?hg (N:=6) ?hd (cs:=#[.int .i64 0,.slice none 0 0]) (t:=31) ?hr ?_;(case hd=>rfl);(case hg=>rfl);(case hr=>first|(go_simp;done)|(go_simp;rfl))
    intro gb18007 hg w14 hbox hb
    have BK18007:=Za (hbox);have GW18007:=Za ((by rw[hg];exact(Zw (by repeat(first|(with_reducible first|exact HB.out|apply Zq|apply Zm|apply Zs|refine Zp ?_ GE18001.out|refine Zp ?_ GE18002.out)|exact HB.out))):w.heap.size≤gb18007));have GE18007:=Za ((by rw[hg];exact(Zw (by repeat(first|(with_reducible first|exact HB.out|apply Zq|apply Zm|apply Zs|refine Zp ?_ GE18001.out|refine Zp ?_ GE18002.out)|exact HB.out))):w.heap.size≤gb18007));have NB18001_18007:=Za ((by rw[hg];exact Nat.ne_of_lt (ZH (g:=gb18001) (o:=.cells #[.int .i64 a0_0,.slice A0_1 l0_1.length c0_1] 31 (0,0)) (by(with_reducible repeat(first|refine Zo ?_ _|refine Zr ?_|refine Zn ?_ _));exact BK18001.out)):gb18001≠gb18007));have NB18007_18001:=Za ((by rw[hg];exact Nat.ne_of_gt (ZH (g:=gb18001) (o:=.cells #[.int .i64 a0_0,.slice A0_1 l0_1.length c0_1] 31 (0,0)) (by(with_reducible repeat(first|refine Zo ?_ _|refine Zr ?_|refine Zn ?_ _));exact BK18001.out)):gb18007≠gb18001));have NB18002_18007:=Za ((by rw[hg];exact Nat.ne_of_lt (ZH (g:=gb18002) (o:=.cells #[.int .i64 0,.slice none 0 0] 31 (0,0)) (by(with_reducible repeat(first|refine Zo ?_ _|refine Zr ?_|refine Zn ?_ _));exact BK18002.out)):gb18002≠gb18007));have NB18007_18002:=Za ((by rw[hg];exact Nat.ne_of_gt (ZH (g:=gb18002) (o:=.cells #[.int .i64 0,.slice none 0 0] 31 (0,0)) (by(with_reducible repeat(first|refine Zo ?_ _|refine Zr ?_|refine Zn ?_ _));exact BK18002.out)):gb18007≠gb18002));replace HO18006:=Za (Kd.R_below (by(with_reducible repeat(first|apply Kd.R_alloc|apply Kd.R_drewN|apply Kd.R_drew));exact HO18006.out) hb);replace BK18001:=Za (Zy (g:=gb18001) (o:=.cells #[.int .i64 a0_0,.slice A0_1 l0_1.length c0_1] 31 (0,0)) (by(with_reducible repeat(first|refine Zo ?_ _|refine Zr ?_|refine Zn ?_ _));exact BK18001.out) hb);replace BK18002:=Za (Zy (g:=gb18002) (o:=.cells #[.int .i64 0,.slice none 0 0] 31 (0,0)) (by(with_reducible repeat(first|refine Zo ?_ _|refine Zr ?_|refine Zn ?_ _));exact BK18002.out) hb);replace HB:=Za (Zx (by repeat(first|(with_reducible first|exact HB.out|apply Zq|apply Zm|apply Zs|refine Zp ?_ GE18001.out|refine Zp ?_ GE18002.out)|exact HB.out)) hb)
    clear hb hbox hg
    refine hK.out _ _ ⟨(Zv BK18001.out 0).trans rfl,(Zv BK18001.out 1).trans rfl⟩ (fun hHeld=>?_)
    clear hK K
    refine Zau (a':=?_) ?_ ?_
    rotate_left
    ·show Act.put _ (some 6) _=_
     simp only[Act.put,List.setIfInBounds_toArray,List.set_cons_zero,List.set_cons_succ,ZQ,ZR]
     rfl
    exact Zau (by simp only[Zbj,Act.put,List.setIfInBounds_toArray,List.set_cons_zero,List.set_cons_succ]) (hCont (.slice Ao13 t18004.length co13,gb18007) _ ⟨hHeld,(by(with_reducible repeat(first|apply Kd.R_alloc|apply Kd.R_drewN|apply Kd.R_drew));exact HO18006.out),(by(with_reducible repeat(first|refine Zo ?_ _|refine Zr ?_|refine Zn ?_ _));exact BK18001.out),(by(with_reducible repeat(first|refine Zo ?_ _|refine Zr ?_|refine Zn ?_ _));exact BK18002.out),(by(with_reducible repeat(first|refine Zo ?_ _|refine Zr ?_|refine Zn ?_ _));exact BK18007.out),GW18007.out,GE18007.out,NB18001_18007.out,NB18007_18001.out,NB18002_18007.out,NB18007_18002.out,(by repeat(first|(with_reducible first|exact HB.out|apply Zq|apply Zm|apply Zs|refine Zp ?_ GE18001.out|refine Zp ?_ GE18002.out|refine Zp ?_ GE18007.out)|exact HB.out))⟩)
   ·skip
    refine box_step ?hg (N:=6) ?hd (cs:=#[.int .i64 0,.slice none 0 0]) (t:=31) ?hr ?_;(case hd=>rfl);(case hg=>rfl);(case hr=>first|(go_simp;done)|(go_simp;rfl))
    intro gb18007 hg w12 hbox hb
    have BK18007:=Za (hbox);have GW18007:=Za ((by rw[hg];exact(Zw (by repeat(first|(with_reducible first|exact HB.out|apply Zq|apply Zm|apply Zs|refine Zp ?_ GE18001.out|refine Zp ?_ GE18002.out)|exact HB.out))):w.heap.size≤gb18007));have GE18007:=Za ((by rw[hg];exact(Zw (by repeat(first|(with_reducible first|exact HB.out|apply Zq|apply Zm|apply Zs|refine Zp ?_ GE18001.out|refine Zp ?_ GE18002.out)|exact HB.out))):w.heap.size≤gb18007));have NB18001_18007:=Za ((by rw[hg];exact Nat.ne_of_lt (ZH (g:=gb18001) (o:=.cells #[.int .i64 a0_0,.slice A0_1 l0_1.length c0_1] 31 (0,0)) (by(with_reducible repeat(first|refine Zo ?_ _|refine Zr ?_|refine Zn ?_ _));exact BK18001.out)):gb18001≠gb18007));have NB18007_18001:=Za ((by rw[hg];exact Nat.ne_of_gt (ZH (g:=gb18001) (o:=.cells #[.int .i64 a0_0,.slice A0_1 l0_1.length c0_1] 31 (0,0)) (by(with_reducible repeat(first|refine Zo ?_ _|refine Zr ?_|refine Zn ?_ _));exact BK18001.out)):gb18007≠gb18001));have NB18002_18007:=Za ((by rw[hg];exact Nat.ne_of_lt (ZH (g:=gb18002) (o:=.cells #[.int .i64 0,.slice none 0 0] 31 (0,0)) (by(with_reducible repeat(first|refine Zo ?_ _|refine Zr ?_|refine Zn ?_ _));exact BK18002.out)):gb18002≠gb18007));have NB18007_18002:=Za ((by rw[hg];exact Nat.ne_of_gt (ZH (g:=gb18002) (o:=.cells #[.int .i64 0,.slice none 0 0] 31 (0,0)) (by(with_reducible repeat(first|refine Zo ?_ _|refine Zr ?_|refine Zn ?_ _));exact BK18002.out)):gb18007≠gb18002));replace BK18001:=Za (Zy (g:=gb18001) (o:=.cells #[.int .i64 a0_0,.slice A0_1 l0_1.length c0_1] 31 (0,0)) (by(with_reducible repeat(first|refine Zo ?_ _|refine Zr ?_|refine Zn ?_ _));exact BK18001.out) hb);replace BK18002:=Za (Zy (g:=gb18002) (o:=.cells #[.int .i64 0,.slice none 0 0] 31 (0,0)) (by(with_reducible repeat(first|refine Zo ?_ _|refine Zr ?_|refine Zn ?_ _));exact BK18002.out) hb);replace HB:=Za (Zx (by repeat(first|(with_reducible first|exact HB.out|apply Zq|apply Zm|apply Zs|refine Zp ?_ GE18001.out|refine Zp ?_ GE18002.out)|exact HB.out)) hb)
    clear hb hbox hg
    refine hK.out _ _ ⟨(Zv BK18001.out 0).trans rfl,(Zv BK18001.out 1).trans rfl⟩ (fun hHeld=>?_)
    clear hK K
    refine Zau (a':=?_) ?_ ?_
    rotate_left
    ·show Act.put _ (some 6) _=_
     simp only[Act.put,List.setIfInBounds_toArray,List.set_cons_zero,List.set_cons_succ,ZQ,ZR]
     rfl
    refine one_ (i:=4) (N:=some 18) #[true,true,true,true,true,false,true,false] rfl rfl (ZaI HT_.out (by kernel_rfl)) (by decide) (fun K hK=>?_)
    refine Zbh Try.func54 (by kernel_rfl) rfl #[.slice A0_1 l0_1.length c0_1] (by rfl) rfl rfl (by(try simp only[List.map_toArray,List.map_cons,List.map_nil]);first|done|rfl|(simp only[Zk,Zj];rfl)) ?_
    with_reducible refine(ZaO.calls _ _ l0_1 t18004 _ ?side1 ?side2 A5.out).mono ?_
    (case side1=>repeat(first|exact(Zb HR0_1.out HB.out)|(with_reducible refine Kd.C_alloc ?_ _)|(with_reducible refine Kd.C_drewN ?_ _)|(with_reducible refine Kd.C_drew ?_)))
    (case side2=>exact HC0_1.out)
    rintro e w13 ⟨v18005,rfl,ho0,hb⟩
    refine⟨_,rfl,?_⟩
    have HO18006:=Za (Kd.R_lower ho0 (Zw (by repeat(first|(with_reducible first|exact HB.out|apply Zq|apply Zm|apply Zs|refine Zp ?_ GE18001.out|refine Zp ?_ GE18002.out|refine Zp ?_ GE18007.out)|exact HB.out))));replace BK18001:=Za (Zy (g:=gb18001) (o:=.cells #[.int .i64 a0_0,.slice A0_1 l0_1.length c0_1] 31 (0,0)) (by(with_reducible repeat(first|refine Zo ?_ _|refine Zr ?_|refine Zn ?_ _));exact BK18001.out) hb);replace BK18002:=Za (Zy (g:=gb18002) (o:=.cells #[.int .i64 0,.slice none 0 0] 31 (0,0)) (by(with_reducible repeat(first|refine Zo ?_ _|refine Zr ?_|refine Zn ?_ _));exact BK18002.out) hb);replace BK18007:=Za (Zy (g:=gb18007) (o:=.cells #[.int .i64 0,.slice none 0 0] 31 (0,0)) (by(with_reducible repeat(first|refine Zo ?_ _|refine Zr ?_|refine Zn ?_ _));exact BK18007.out) hb);replace HB:=Za (Zx (by repeat(first|(with_reducible first|exact HB.out|apply Zq|apply Zm|apply Zs|refine Zp ?_ GE18001.out|refine Zp ?_ GE18002.out|refine Zp ?_ GE18007.out)|exact HB.out)) hb)
    (try clear hb)
    (try clear hb2)
    (try clear hk)
    (try clear hi)
    (try clear ho0)
    obtain⟨Ao14,co14,eo14⟩:=Kd.R_slice HO18006.out
    (first|subst eo14|(injection eo14 with f1_ f2_ f3_;have f4_:=f1_.symm;have f5_:=f3_.symm;clear f1_ f2_ f3_;subst f4_;subst f5_))
    refine hK.out _ _ ⟨(Zv BK18001.out 0).trans rfl,(Zv BK18001.out 1).trans rfl⟩ (fun hHeld=>?_)
    clear hK K
    refine Zau (a':=?_) ?_ ?_
    rotate_left
    ·show Act.put _ (some 18) _=_
     simp only[Act.put,List.setIfInBounds_toArray,List.set_cons_zero,List.set_cons_succ,ZQ,ZR]
     rfl
    refine Z7 (i:=5) (N:=some 19) (v:=?_) (a':=?_) #[true,true,true,true,true,true,true,false] rfl rfl (Z6 HT_.out (by kernel_rfl)) (fun _ _ _ h=>h) (Or.inl ⟨by rfl,?_⟩) ?_ ?_
    rotate_left
    ·intro w'
     go_simp
     with_reducible rfl
    rotate_left
    ·simp only[Act.put,List.setIfInBounds_toArray,List.set_cons_zero,List.set_cons_succ,ZQ,ZR]
     rfl
    exact Zau (by simp only[Zbj,Act.put,List.setIfInBounds_toArray,List.set_cons_zero,List.set_cons_succ]) (hCont (.slice Ao14 t18004.length co14,gb18007) _ ⟨hHeld,(by(with_reducible repeat(first|apply Kd.R_alloc|apply Kd.R_drewN|apply Kd.R_drew));exact HO18006.out),(by(with_reducible repeat(first|refine Zo ?_ _|refine Zr ?_|refine Zn ?_ _));exact BK18001.out),(by(with_reducible repeat(first|refine Zo ?_ _|refine Zr ?_|refine Zn ?_ _));exact BK18002.out),(by(with_reducible repeat(first|refine Zo ?_ _|refine Zr ?_|refine Zn ?_ _));exact BK18007.out),GW18007.out,GE18007.out,NB18001_18007.out,NB18007_18001.out,NB18002_18007.out,NB18007_18002.out,(by repeat(first|(with_reducible first|exact HB.out|apply Zq|apply Zm|apply Zs|refine Zp ?_ GE18001.out|refine Zp ?_ GE18002.out|refine Zp ?_ GE18007.out)|exact HB.out))⟩)
  rintro⟨v18005,gb18007⟩ w15 ⟨hS_,h0_,h1_,h2_,h3_,h4_,h5_,h6_,h7_,h8_,h9_,h10_⟩
  have HO18006:Aside0 (Kd.R k84 84 w15 w.heap.size (fun _=>True) v18005 t18004):=⟨h0_⟩;have BK18007:Aside0 (w15.heap[gb18007]? = some (.cells #[.int .i64 0,.slice none 0 0] 31 (0,0))):=⟨h3_⟩;have GW18007:Aside0 (w.heap.size≤gb18007):=⟨h4_⟩;have GE18007:Aside0 (w.heap.size≤gb18007):=⟨h5_⟩;have NB18001_18007:Aside0 (gb18001≠gb18007):=⟨h6_⟩;have NB18007_18001:Aside0 (gb18007≠gb18001):=⟨h7_⟩;have NB18002_18007:Aside0 (gb18002≠gb18007):=⟨h8_⟩;have NB18007_18002:Aside0 (gb18007≠gb18002):=⟨h9_⟩;replace BK18001:Aside0 (w15.heap[gb18001]? = some (.cells #[.int .i64 a0_0,.slice A0_1 l0_1.length c0_1] 31 (0,0))):=⟨h1_⟩;replace BK18002:Aside0 (w15.heap[gb18002]? = some (.cells #[.int .i64 0,.slice none 0 0] 31 (0,0))):=⟨h2_⟩;replace HB:Aside0 (Below w.heap.size w w15):=⟨h10_⟩;clear h0_ h1_ h2_ h3_ h4_ h5_ h6_ h7_ h8_ h9_ h10_
  have hHeld:w15.cell? ⟨gb18001,0,none⟩=some (.int .i64 a0_0)∧w15.cell? ⟨gb18001,1,none⟩=some (.slice A0_1 l0_1.length c0_1):=hS_
  obtain⟨Ao16,co16,eo16⟩:=Kd.R_slice HO18006.out
  (first|subst eo16|(injection eo16 with f1_ f2_ f3_;have f4_:=f1_.symm;have f5_:=f3_.symm;clear f1_ f2_ f3_;subst f4_;subst f5_))
  refine Zau (a':=?_) ?_ ?_
  rotate_left
  ·simp only[Zbj,Act.put,List.setIfInBounds_toArray,List.set_cons_zero,List.set_cons_succ]
   rfl
  refine one_ (i:=7) (N:=none) #[true,true,true,true,true,true,true,true] rfl rfl (ZaI HT_.out (by kernel_rfl)) (by decide) (fun K hK=>?_)
  have hs17:w15.cell? ⟨gb18007,0,none⟩=some (.int .i64 0):=(Zv BK18007.out 0).trans rfl
  have hfs17:=Zu BK18007.out 0
  have hns17_0:=NB18001_18007.out
  have hns17_1:=NB18002_18007.out
  have hms17_0:=NB18007_18001.out
  have hms17_1:=NB18007_18002.out
  have hs18:w15.cell? ⟨gb18007,1,none⟩=some (.slice none 0 0):=(Zv BK18007.out 1).trans rfl
  have hfs18:=Zu BK18007.out 1
  have hns18_0:=NB18001_18007.out
  have hns18_1:=NB18002_18007.out
  have hms18_0:=NB18007_18001.out
  have hms18_1:=NB18007_18002.out
  refine skip_ (w1:=?_) (by rfl) rfl ?_ ?_
  rotate_left
  ·go_simp
   rfl
  refine hK.out _ _ ⟨((ZaE (p:=⟨gb18007,_,none⟩) NB18001_18007.out _).trans (((ZaE (p:=⟨gb18007,_,none⟩) NB18001_18007.out _).trans (hHeld.1)))),((ZaE (p:=⟨gb18007,_,none⟩) NB18001_18007.out _).trans (((ZaE (p:=⟨gb18007,_,none⟩) NB18001_18007.out _).trans (hHeld.2))))⟩ (fun hHeld=>?_)
  clear hK K
  refine Zb5 (ZbT HT_.out (by kernel_rfl)) ?_
  try go_wp2
  go_loopg [22] k (fun kq v22 w'=>∃(x22_1:Int) (x18008001_1:List (S84)) (u18008001:Value),v22=.int .i64 x22_1∧Aside0 (ZS.l0 kq l1 (l1.length:Int) x22_1 a0_0 x18008001_1=some (r1,r2,r3))∧Aside0 (kq≤k)∧Aside0 (Kd.R k84 84 w' w.heap.size (fun _=>True) u18008001 x18008001_1)∧Aside0 (w'.heap[gb18001]? = some (.cells #[.int .i64 a0_0,(.slice A0_1 l0_1.length c0_1)] 31 (0,0)))∧Aside0 (w'.heap[gb18002]? = some (.cells #[.int .i64 0,(.slice none 0 0)] 31 (0,0)))∧Aside0 (w'.heap[gb18007]? = some (.cells #[.int .i64 a0_0,u18008001] 31 (0,0)))∧Aside0 (Below w.heap.size w w'))
  case atStart=>exact⟨(0),(t18004),(.slice Ao16 t18004.length co16),(by first|rfl|(simp;done)|(simp[*];done)),H',⟨Nat.le_refl _⟩,⟨by(with_reducible repeat(first|apply Kd.R_alloc|apply Kd.R_drewN|apply Kd.R_drew));exact Kd.R_mono (Kd.R_far (p:=⟨gb18007,1,none⟩) (Kd.R_far (p:=⟨gb18007,0,none⟩) (Kd.R_types HO18006.out BK18007.out (by decide)) (fun _ hk=>hk.2) (.int .i64 a0_0)) (fun _ hk=>hk.2) (.slice Ao16 t18004.length co16)) (fun _ hk=>trivial)⟩,⟨by(with_reducible repeat(first|refine Zo ?_ _|refine Zr ?_|refine Zn ?_ _));refine ZD ?_ NB18001_18007.out _;(with_reducible repeat(first|refine Zo ?_ _|refine Zr ?_|refine Zn ?_ _));refine ZD ?_ NB18001_18007.out _;(with_reducible repeat(first|refine Zo ?_ _|refine Zr ?_|refine Zn ?_ _));exact BK18001.out⟩,⟨by(with_reducible repeat(first|refine Zo ?_ _|refine Zr ?_|refine Zn ?_ _));refine ZD ?_ NB18002_18007.out _;(with_reducible repeat(first|refine Zo ?_ _|refine Zr ?_|refine Zn ?_ _));refine ZD ?_ NB18002_18007.out _;(with_reducible repeat(first|refine Zo ?_ _|refine Zr ?_|refine Zn ?_ _));exact BK18002.out⟩,⟨by(with_reducible repeat(first|refine Zo ?_ _|refine Zr ?_|refine Zn ?_ _));refine ZL (cs:=#[.int .i64 a0_0,.slice none 0 0]) ?_ 1 _ rfl;(with_reducible repeat(first|refine Zo ?_ _|refine Zr ?_|refine Zn ?_ _));refine ZL (cs:=#[.int .i64 0,.slice none 0 0]) ?_ 0 _ rfl;(with_reducible repeat(first|refine Zo ?_ _|refine Zr ?_|refine Zn ?_ _));exact BK18007.out⟩,⟨by repeat(first|(with_reducible first|exact HB.out|apply Zq|apply Zm|apply Zs|refine Zp ?_ GE18001.out|refine Zp ?_ GE18002.out|refine Zp ?_ GE18007.out)|exact HB.out)⟩⟩
  case round=>
   clear H'
   try clear c1
   try clear c2
   try clear p2
   try clear c4
   try clear c5
   try clear c8
   try clear c18
   try clear hcz9_0
   try clear hcz9_1
   try clear hfz9_0
   try clear hfz9_1
   obtain⟨x22_1,x18008001_1,u18008001,rfl,HA,HK1,HO_18008001,BK18001,BK18002,BK18007,HB⟩:=hrel
   cases gk with
   | zero=>exact absurd HA.out (by simp[ZS.l0])
   | succ k1=>
    have H:=HA.out
    clear HA
    simp only[ZS.l0] at H
    by_cases c19:x22_1<(l1.length:Int)
    ·rw[if_pos c19] at H
     have c19b0:decide (x22_1<(l1.length:Int))=true:=Ze c19
     clear c19
     by_cases c20:0≤x22_1
     ·rw[if_pos c20] at H
      have c20b0:decide (0≤x22_1)=true:=Ze c20
      clear c20
      by_cases c21:x22_1<(l1.length:Int)
      ·rw[if_pos c21] at H
       have c21b0:decide (x22_1<(l1.length:Int))=true:=Ze c21
       clear c21
       by_cases c22:x22_1 > 0
       ·rw[if_pos c22] at H
        have c22b0:decide (0<x22_1)=true:=Ze c22
        clear c22
        by_cases c23:(rd l1 x22_1)=(-1)
        ·rw[if_pos c23] at H
         have c23b0:((rd l1 x22_1) == (-1))=true:=beq_iff_eq.mpr c23
         have c23b1:((rd l1 x22_1) != (-1))=false:=bne_eq_false_iff_eq.mpr c23
         clear c23
         have H':=Za H
         clear H
         have p18008:0≤(x22_1:Int):=Zd (by first|(with_reducible assumption)|assumption)
         have q18008:x22_1<(l1.length:Int):=Zd (by first|(with_reducible assumption)|assumption)
         obtain⟨ad18008,e18008,hx18008_0⟩:=Kd.at_int HR1.out x22_1 p18008 q18008
         cases e18008
         replace hx18008_0:=(HB.out.cell (Zc w _ hx18008_0)).trans hx18008_0
         replace p18008:=eq_true p18008
         replace q18008:=eq_true q18008
         go_wp2
         go_roundg k1
         case measure=>have:=HK1.out;omega
         case rel=>exact⟨(wrap64 (x22_1+1)),(x18008001_1),(u18008001),(by first|rfl|(simp;done)|(simp[*];done)),H',⟨by have:=HK1.out;omega⟩,⟨by(with_reducible repeat(first|apply Kd.R_alloc|apply Kd.R_drewN|apply Kd.R_drew));exact HO_18008001.out⟩,⟨by(with_reducible repeat(first|refine Zo ?_ _|refine Zr ?_|refine Zn ?_ _));exact BK18001.out⟩,⟨by(with_reducible repeat(first|refine Zo ?_ _|refine Zr ?_|refine Zn ?_ _));exact BK18002.out⟩,⟨by(with_reducible repeat(first|refine Zo ?_ _|refine Zr ?_|refine Zn ?_ _));exact BK18007.out⟩,⟨by repeat(first|(with_reducible first|exact HB.out|apply Zq|apply Zm|apply Zs|refine Zp ?_ GE18001.out|refine Zp ?_ GE18002.out|refine Zp ?_ GE18007.out)|exact HB.out)⟩⟩
        ·rw[if_neg c23] at H
         have c23b0:((rd l1 x22_1) == (-1))=false:=beq_eq_false_iff_ne.mpr c23
         have c23b1:((rd l1 x22_1) != (-1))=true:=bne_iff_ne.mpr c23
         by_cases c24:x18008001_1.length<4398046511104
         ·rw[if_pos c24] at H
          have LMc24:=Za c24;clear c24
          obtain⟨y18009,hy18009⟩:∃y_:List (S84),y_=(x18008001_1 ++ [(⟨0,x22_1,(⟨rd l1 x22_1,rd l1 x22_1⟩:S35)⟩:S84)]):=⟨_,rfl⟩
          replace H:(ZS.l0 k1 l1 (l1.length:Int) (wrap64 (x22_1+1)) a0_0 y18009)=some (r1,r2,r3):=by first|(rw[hy18009];with_reducible exact H)|(have H2_:=(Zi _ _).symm.trans H;rw[hy18009];with_reducible exact H2_)|(have H2_:=(Zi _ _).symm.trans H;with_reducible exact H2_)|with_reducible exact H|(rw[hy18009];exact H)|exact H
          have Ny18009:=Za hy18009;clear hy18009
          have H':=Za H
          clear H
          have p18008:0≤(x22_1:Int):=Zd (by first|(with_reducible assumption)|assumption)
          have q18008:x22_1<(l1.length:Int):=Zd (by first|(with_reducible assumption)|assumption)
          obtain⟨ad18008,e18008,hx18008_0⟩:=Kd.at_int HR1.out x22_1 p18008 q18008
          cases e18008
          replace hx18008_0:=(HB.out.cell (Zc w _ hx18008_0)).trans hx18008_0
          replace p18008:=eq_true p18008
          replace q18008:=eq_true q18008
          have hnb25:=NB18007_18001.out
          have hnc25:=NB18001_18007.out
          have hnb26:=NB18007_18002.out
          have hnc26:=NB18002_18007.out
          have hcz27_0:wr.cell? ⟨gb18007,0,none⟩=some (.int .i64 a0_0):=(Zv BK18007.out 0).trans rfl
          have hcz27_1:wr.cell? ⟨gb18007,1,none⟩=some (u18008001):=(Zv BK18007.out 1).trans rfl
          have hfz27_0:=Zu BK18007.out 0
          have hfz27_1:=Zu BK18007.out 1
          go_wp2_with (first|((with_reducible refine ZaG (b:=.append) (xs:=#[.tmp 34,.tmp 40]) rfl ?_);at_builtin;refine Kd.R_append k84 (w0:=w) w.heap.size rfl (.tmp 34) (.tmp 40) 29 84 (.agg #[(.int .i64 0),(.int .i64 0),(.int .i64 0),(.int .i64 0)]) 32 rfl Try.underlying29 info84 rfl (by decide) (by omega) u18008001 x18008001_1 (⟨0,x22_1,(⟨rd l1 x22_1,rd l1 x22_1⟩:S35)⟩:S84) [.int .i64 0,.int .i64 x22_1,.int .i64 (rd l1 x22_1),.int .i64 (rd l1 x22_1)] (fun _=>True) (fun _=>False) rfl rfl ?aP (fun _ hk=>hk.elim) ?aF ?aO ?aB ?aS ?aL ?_;(case aP=>exact k84_mkM _ _ _ (⟨0,x22_1,(⟨rd l1 x22_1,rd l1 x22_1⟩:S35)⟩:S84));(case aB=>exact(by repeat(first|(with_reducible first|exact HB.out|apply Zq|apply Zm|apply Zs|refine Zp ?_ GE18001.out|refine Zp ?_ GE18002.out|refine Zp ?_ GE18007.out)|exact HB.out)));(case aF=>exact(fun _ _=>trivial));(case aO=>exact(by(with_reducible repeat(first|apply Kd.R_alloc|apply Kd.R_drewN|apply Kd.R_drew));exact HO_18008001.out));(case aS=>exact(Zw (by repeat(first|(with_reducible first|exact HB.out|apply Zq|apply Zm|apply Zs|refine Zp ?_ GE18001.out|refine Zp ?_ GE18002.out|refine Zp ?_ GE18007.out)|exact HB.out))));(case aL=>have:=LMc24.out;omega);intro v18010 w28 ho hb hg hat;rw[← Ny18009.out] at ho;have HO18011:=Za (ho);replace BK18001:=Za (Z0 (g:=gb18001) (o:=.cells #[.int .i64 a0_0,.slice A0_1 l0_1.length c0_1] 31 (0,0)) (by(with_reducible repeat(first|refine Zo ?_ _|refine Zr ?_|refine Zn ?_ _));exact BK18001.out) hg (Kd.R_ne HO_18008001.out BK18001.out (by decide)));replace BK18002:=Za (Z0 (g:=gb18002) (o:=.cells #[.int .i64 0,.slice none 0 0] 31 (0,0)) (by(with_reducible repeat(first|refine Zo ?_ _|refine Zr ?_|refine Zn ?_ _));exact BK18002.out) hg (Kd.R_ne HO_18008001.out BK18002.out (by decide)));replace BK18007:=Za (Z0 (g:=gb18007) (o:=.cells #[.int .i64 a0_0,u18008001] 31 (0,0)) (by(with_reducible repeat(first|refine Zo ?_ _|refine Zr ?_|refine Zn ?_ _));exact BK18007.out) hg (Kd.R_ne HO_18008001.out BK18007.out (by decide)));replace HB:=Za (hb);clear HO_18008001;clear ho hb hg hat;obtain⟨Ao29,co29,eo29⟩:=Kd.R_slice HO18011.out;subst eo29;have hcz30_0:w28.cell? ⟨gb18007,0,none⟩=some (.int .i64 a0_0):=(Zv BK18007.out 0).trans rfl;have hcz30_1:w28.cell? ⟨gb18007,1,none⟩=some (u18008001):=(Zv BK18007.out 1).trans rfl;have hfz30_0:=Zu BK18007.out 0;have hfz30_1:=Zu BK18007.out 1))
          go_roundg k1
          case measure=>have:=HK1.out;omega
          case rel=>exact⟨(wrap64 (x22_1+1)),(y18009),(.slice Ao29 y18009.length co29),(by first|rfl|(simp;done)|(simp[*];done)),H',⟨by have:=HK1.out;omega⟩,⟨by(with_reducible repeat(first|apply Kd.R_alloc|apply Kd.R_drewN|apply Kd.R_drew));exact Kd.R_mono (Kd.R_far (p:=⟨gb18007,1,none⟩) (Kd.R_types HO18011.out BK18007.out (by decide)) (fun _ hk=>hk.2) (.slice Ao29 y18009.length co29)) (fun _ hk=>trivial)⟩,⟨by(with_reducible repeat(first|refine Zo ?_ _|refine Zr ?_|refine Zn ?_ _));refine ZD ?_ NB18001_18007.out _;(with_reducible repeat(first|refine Zo ?_ _|refine Zr ?_|refine Zn ?_ _));exact BK18001.out⟩,⟨by(with_reducible repeat(first|refine Zo ?_ _|refine Zr ?_|refine Zn ?_ _));refine ZD ?_ NB18002_18007.out _;(with_reducible repeat(first|refine Zo ?_ _|refine Zr ?_|refine Zn ?_ _));exact BK18002.out⟩,⟨by(with_reducible repeat(first|refine Zo ?_ _|refine Zr ?_|refine Zn ?_ _));refine ZL (cs:=#[.int .i64 a0_0,u18008001]) ?_ 1 _ rfl;(with_reducible repeat(first|refine Zo ?_ _|refine Zr ?_|refine Zn ?_ _));exact BK18007.out⟩,⟨by repeat(first|(with_reducible first|exact HB.out|apply Zq|apply Zm|apply Zs|refine Zp ?_ GE18001.out|refine Zp ?_ GE18002.out|refine Zp ?_ GE18007.out)|exact HB.out)⟩⟩
         ·rw[if_neg c24] at H
          exact absurd H (by simp)
       ·rw[if_neg c22] at H
        have c22b0:decide (0<x22_1)=false:=Zf c22
        clear c22
        have H':=Za H
        clear H
        have p18008:0≤(x22_1:Int):=Zd (by first|(with_reducible assumption)|assumption)
        have q18008:x22_1<(l1.length:Int):=Zd (by first|(with_reducible assumption)|assumption)
        obtain⟨ad18008,e18008,hx18008_0⟩:=Kd.at_int HR1.out x22_1 p18008 q18008
        cases e18008
        replace hx18008_0:=(HB.out.cell (Zc w _ hx18008_0)).trans hx18008_0
        replace p18008:=eq_true p18008
        replace q18008:=eq_true q18008
        go_wp2
        go_roundg k1
        case measure=>have:=HK1.out;omega
        case rel=>exact⟨(wrap64 (x22_1+1)),(x18008001_1),(u18008001),(by first|rfl|(simp;done)|(simp[*];done)),H',⟨by have:=HK1.out;omega⟩,⟨by(with_reducible repeat(first|apply Kd.R_alloc|apply Kd.R_drewN|apply Kd.R_drew));exact HO_18008001.out⟩,⟨by(with_reducible repeat(first|refine Zo ?_ _|refine Zr ?_|refine Zn ?_ _));exact BK18001.out⟩,⟨by(with_reducible repeat(first|refine Zo ?_ _|refine Zr ?_|refine Zn ?_ _));exact BK18002.out⟩,⟨by(with_reducible repeat(first|refine Zo ?_ _|refine Zr ?_|refine Zn ?_ _));exact BK18007.out⟩,⟨by repeat(first|(with_reducible first|exact HB.out|apply Zq|apply Zm|apply Zs|refine Zp ?_ GE18001.out|refine Zp ?_ GE18002.out|refine Zp ?_ GE18007.out)|exact HB.out)⟩⟩
      ·rw[if_neg c21] at H
       exact absurd H (by simp)
     ·rw[if_neg c20] at H
      exact absurd H (by simp)
    ·rw[if_neg c19] at H
     have c19b0:decide (x22_1<(l1.length:Int))=false:=Zf c19
     clear c19
     replace H:=Zh H
     obtain⟨t18012,A310,H⟩:=H
     replace H:(if t18012=true then(some (a0_0,x18008001_1,true)) else(some (0,([]:List (S84)),false)))=some (r1,r2,r3):=H
     have A31:=Za A310;clear A310
     by_cases c32:t18012=true
     ·subst c32
      have H1:(some (a0_0,x18008001_1,true))=some (r1,r2,r3):=by rw[if_pos rfl] at H;exact H
      clear H
      have H:=H1
      clear H1
      simp only[Option.some.injEq,Prod.mk.injEq] at H
      obtain⟨rfl,rfl,rfl⟩:=H
      have hnb33:=NB18007_18001.out
      have hnc33:=NB18001_18007.out
      have hnb34:=NB18007_18002.out
      have hnc34:=NB18002_18007.out
      have hcz35_0:wr.cell? ⟨gb18007,0,none⟩=some (.int .i64 a0_0):=(Zv BK18007.out 0).trans rfl
      have hcz35_1:wr.cell? ⟨gb18007,1,none⟩=some (u18008001):=(Zv BK18007.out 1).trans rfl
      have hfz35_0:=Zu BK18007.out 0
      have hfz35_1:=Zu BK18007.out 1
      obtain⟨Ao36,co36,eo36⟩:=Kd.R_slice HO_18008001.out
      subst eo36
      go_wp2_with (first|((with_reducible refine ZF (f:=17) rfl ?_);refine ZY (some 45) rfl rfl Try.func17 (by kernel_rfl) rfl #[.agg #[.int .i64 a0_0,.slice Ao36 x18008001_1.length co36]] rfl (by(try simp only[List.map_toArray,List.map_cons,List.map_nil]);first|done|rfl|(simp only[Zk,Zj];rfl)) ?_;(with_reducible refine(Z8.calls a0_0 _ _ x18008001_1 true _ ?side1 ?side2 A31.out).mono ?_);(case side1=>repeat(first|exact(Kd.R_reads' HO_18008001.out).2.2|(with_reducible refine Kd.C_alloc ?_ _)|(with_reducible refine Kd.C_drewN ?_ _)|(with_reducible refine Kd.C_drew ?_)));(case side2=>exact(Kd.R_reads' HO_18008001.out).2.1);rintro e w37 ⟨rfl,hb⟩;refine⟨_,rfl,?_⟩;replace HO_18008001:=Za (Kd.R_below (by(with_reducible repeat(first|apply Kd.R_alloc|apply Kd.R_drewN|apply Kd.R_drew));exact HO_18008001.out) hb);replace BK18001:=Za (Zy (g:=gb18001) (o:=.cells #[.int .i64 a0_0,.slice A0_1 l0_1.length c0_1] 31 (0,0)) (by(with_reducible repeat(first|refine Zo ?_ _|refine Zr ?_|refine Zn ?_ _));exact BK18001.out) hb);replace BK18002:=Za (Zy (g:=gb18002) (o:=.cells #[.int .i64 0,.slice none 0 0] 31 (0,0)) (by(with_reducible repeat(first|refine Zo ?_ _|refine Zr ?_|refine Zn ?_ _));exact BK18002.out) hb);replace BK18007:=Za (Zy (g:=gb18007) (o:=.cells #[.int .i64 a0_0,.slice Ao36 x18008001_1.length co36] 31 (0,0)) (by(with_reducible repeat(first|refine Zo ?_ _|refine Zr ?_|refine Zn ?_ _));exact BK18007.out) hb);replace HB:=Za (Zx (by repeat(first|(with_reducible first|exact HB.out|apply Zq|apply Zm|apply Zs|refine Zp ?_ GE18001.out|refine Zp ?_ GE18002.out|refine Zp ?_ GE18007.out)|exact HB.out)) hb);(try clear hb);(try clear hb2);(try clear hk);(try clear hi);have hcz38_0:w37.cell? ⟨gb18007,0,none⟩=some (.int .i64 a0_0):=(Zv BK18007.out 0).trans rfl;have hcz38_1:w37.cell? ⟨gb18007,1,none⟩=some (.slice Ao36 x18008001_1.length co36):=(Zv BK18007.out 1).trans rfl;have hfz38_0:=Zu BK18007.out 0;have hfz38_1:=Zu BK18007.out 1;have hnb39:=NB18002_18001.out;have hnc39:=NB18001_18002.out;have hcz40_0:w37.cell? ⟨gb18002,0,none⟩=some (.int .i64 0):=(Zv BK18002.out 0).trans rfl;have hcz40_1:w37.cell? ⟨gb18002,1,none⟩=some (.slice none 0 0):=(Zv BK18002.out 1).trans rfl;have hfz40_0:=Zu BK18002.out 0;have hfz40_1:=Zu BK18002.out 1))
      refine bodyPost_ret (Zay rfl _ _ gb18002 31 #[.int .i64 a0_0,.slice Ao36 x18008001_1.length co36] (0,0) _ rfl (by(with_reducible repeat(first|refine Zo ?_ _|refine Zr ?_|refine Zn ?_ _));refine ZL (cs:=#[.int .i64 a0_0,.slice none 0 0]) ?_ 1 _ rfl;(with_reducible repeat(first|refine Zo ?_ _|refine Zr ?_|refine Zn ?_ _));refine ZL (cs:=#[.int .i64 0,.slice none 0 0]) ?_ 0 _ rfl;(with_reducible repeat(first|refine Zo ?_ _|refine Zr ?_|refine Zn ?_ _));exact BK18002.out) Try.underlying31 rfl (by kernel_rfl)) rfl ?_
      exact⟨_,by first|rfl|(simp[ZC,ZB] <;> rfl)|(simp[*,ZC,ZB] <;> rfl),by(with_reducible repeat(first|apply Kd.R_alloc|apply Kd.R_drewN|apply Kd.R_drew));exact Kd.R_mono (Kd.R_far (p:=⟨gb18002,1,none⟩) (Kd.R_far (p:=⟨gb18002,0,none⟩) (Kd.R_types HO_18008001.out BK18002.out (by decide)) (fun _ hk=>hk.2) (.int .i64 a0_0)) (fun _ hk=>hk.2) (.slice Ao36 x18008001_1.length co36)) (fun _ hk=>trivial),by repeat(first|(with_reducible first|exact HB.out|apply Zq|apply Zm|apply Zs|refine Zp ?_ GE18001.out|refine Zp ?_ GE18002.out|refine Zp ?_ GE18007.out)|exact HB.out)⟩
     ·replace c32:=Bool.eq_false_iff.mpr c32
      subst c32
      have H1:(some (0,([]:List (S84)),false))=some (r1,r2,r3):=by rw[if_neg (show ¬(false=true) by decide)] at H;exact H
      clear H
      have H:=H1
      clear H1
      simp only[Option.some.injEq,Prod.mk.injEq] at H
      obtain⟨rfl,rfl,rfl⟩:=H
      have hnb41:=NB18007_18001.out
      have hnc41:=NB18001_18007.out
      have hnb42:=NB18007_18002.out
      have hnc42:=NB18002_18007.out
      have hcz43_0:wr.cell? ⟨gb18007,0,none⟩=some (.int .i64 a0_0):=(Zv BK18007.out 0).trans rfl
      have hcz43_1:wr.cell? ⟨gb18007,1,none⟩=some (u18008001):=(Zv BK18007.out 1).trans rfl
      have hfz43_0:=Zu BK18007.out 0
      have hfz43_1:=Zu BK18007.out 1
      obtain⟨Ao44,co44,eo44⟩:=Kd.R_slice HO_18008001.out
      subst eo44
      go_wp2_with (first|((with_reducible refine ZF (f:=17) rfl ?_);refine ZY (some 45) rfl rfl Try.func17 (by kernel_rfl) rfl #[.agg #[.int .i64 a0_0,.slice Ao44 x18008001_1.length co44]] rfl (by(try simp only[List.map_toArray,List.map_cons,List.map_nil]);first|done|rfl|(simp only[Zk,Zj];rfl)) ?_;(with_reducible refine(Z8.calls a0_0 _ _ x18008001_1 false _ ?side1 ?side2 A31.out).mono ?_);(case side1=>repeat(first|exact(Kd.R_reads' HO_18008001.out).2.2|(with_reducible refine Kd.C_alloc ?_ _)|(with_reducible refine Kd.C_drewN ?_ _)|(with_reducible refine Kd.C_drew ?_)));(case side2=>exact(Kd.R_reads' HO_18008001.out).2.1);rintro e w45 ⟨rfl,hb⟩;refine⟨_,rfl,?_⟩;replace HO_18008001:=Za (Kd.R_below (by(with_reducible repeat(first|apply Kd.R_alloc|apply Kd.R_drewN|apply Kd.R_drew));exact HO_18008001.out) hb);replace BK18001:=Za (Zy (g:=gb18001) (o:=.cells #[.int .i64 a0_0,.slice A0_1 l0_1.length c0_1] 31 (0,0)) (by(with_reducible repeat(first|refine Zo ?_ _|refine Zr ?_|refine Zn ?_ _));exact BK18001.out) hb);replace BK18002:=Za (Zy (g:=gb18002) (o:=.cells #[.int .i64 0,.slice none 0 0] 31 (0,0)) (by(with_reducible repeat(first|refine Zo ?_ _|refine Zr ?_|refine Zn ?_ _));exact BK18002.out) hb);replace BK18007:=Za (Zy (g:=gb18007) (o:=.cells #[.int .i64 a0_0,.slice Ao44 x18008001_1.length co44] 31 (0,0)) (by(with_reducible repeat(first|refine Zo ?_ _|refine Zr ?_|refine Zn ?_ _));exact BK18007.out) hb);replace HB:=Za (Zx (by repeat(first|(with_reducible first|exact HB.out|apply Zq|apply Zm|apply Zs|refine Zp ?_ GE18001.out|refine Zp ?_ GE18002.out|refine Zp ?_ GE18007.out)|exact HB.out)) hb);(try clear hb);(try clear hb2);(try clear hk);(try clear hi);have hnb46:=NB18002_18001.out;have hnc46:=NB18001_18002.out;have hcz47_0:w45.cell? ⟨gb18002,0,none⟩=some (.int .i64 0):=(Zv BK18002.out 0).trans rfl;have hcz47_1:w45.cell? ⟨gb18002,1,none⟩=some (.slice none 0 0):=(Zv BK18002.out 1).trans rfl;have hfz47_0:=Zu BK18002.out 0;have hfz47_1:=Zu BK18002.out 1))
      refine bodyPost_ret (Zay rfl _ _ gb18002 31 #[.int .i64 0,.slice none 0 0] (0,0) _ rfl (by(with_reducible repeat(first|refine Zo ?_ _|refine Zr ?_|refine Zn ?_ _));refine ZL (cs:=#[.int .i64 0,.slice none 0 0]) ?_ 1 _ rfl;(with_reducible repeat(first|refine Zo ?_ _|refine Zr ?_|refine Zn ?_ _));refine ZL (cs:=#[.int .i64 0,.slice none 0 0]) ?_ 0 _ rfl;(with_reducible repeat(first|refine Zo ?_ _|refine Zr ?_|refine Zn ?_ _));exact BK18002.out) Try.underlying31 rfl (by kernel_rfl)) rfl ?_
      exact⟨_,by first|rfl|(simp[ZC,ZB] <;> rfl)|(simp[*,ZC,ZB] <;> rfl),by first|exact Kd.R_nil _ _ _ _ _|exact Kd.N_nil _ _ _ _ _|exact Kd.V_nil _ _ _ _ _|exact Kd.Q_nil _ _ _ _ _|exact Kd.S_nil _ _ _ _ _,by repeat(first|(with_reducible first|exact HB.out|apply Zq|apply Zm|apply Zs|refine Zp ?_ GE18001.out|refine Zp ?_ GE18002.out|refine Zp ?_ GE18007.out)|exact HB.out)⟩
 ·replace c4:=Bool.eq_false_iff.mpr c4
  subst c4
  have H1:(some (0,([]:List (S84)),false))=some (r1,r2,r3):=by rw[if_neg (show ¬(false=true) by decide)] at H;exact H
  clear H
  have H:=H1
  clear H1
  simp only[Option.some.injEq,Prod.mk.injEq] at H
  obtain⟨rfl,rfl,rfl⟩:=H
  go_enter Try.func18,Try.ntmps18
  go_wp2_with (first|((with_reducible refine ZM (N:=2) rfl ?_);refine ZK ?hg (N:=2) ?hd (cs:=#[.int .i64 a0_0,.slice A0_1 l0_1.length c0_1]) (t:=31) ?hr ?_;(case hd=>rfl);(case hg=>rfl);(case hr=>first|(go_simp;done)|(go_simp;rfl));intro gb18001 hg w48 hbox hb;have BK18001:=Za (hbox);have GW18001:=Za ((by rw[hg];exact(Zw (by repeat(first|(with_reducible first|exact HB.out|apply Zq|apply Zm|apply Zs)|exact HB.out))):w.heap.size≤gb18001));have GE18001:=Za ((by rw[hg];exact(Zw (by repeat(first|(with_reducible first|exact HB.out|apply Zq|apply Zm|apply Zs)|exact HB.out))):w.heap.size≤gb18001));replace HB:=Za (Zx (by repeat(first|(with_reducible first|exact HB.out|apply Zq|apply Zm|apply Zs)|exact HB.out)) hb);clear hb hbox hg)|((with_reducible refine ZM (N:=4) rfl ?_);refine ZK ?hg (N:=4) ?hd (cs:=#[.int .i64 0,.slice none 0 0]) (t:=31) ?hr ?_;(case hd=>rfl);(case hg=>rfl);(case hr=>first|(go_simp;done)|(go_simp;rfl));intro gb18002 hg w49 hbox hb;have BK18002:=Za (hbox);have GW18002:=Za ((by rw[hg];exact(Zw (by repeat(first|(with_reducible first|exact HB.out|apply Zq|apply Zm|apply Zs|refine Zp ?_ GE18001.out)|exact HB.out))):w.heap.size≤gb18002));have GE18002:=Za ((by rw[hg];exact(Zw (by repeat(first|(with_reducible first|exact HB.out|apply Zq|apply Zm|apply Zs|refine Zp ?_ GE18001.out)|exact HB.out))):w.heap.size≤gb18002));have NB18001_18002:=Za ((by rw[hg];exact Nat.ne_of_lt (ZH (g:=gb18001) (o:=.cells #[.int .i64 a0_0,.slice A0_1 l0_1.length c0_1] 31 (0,0)) (by(with_reducible repeat(first|refine Zo ?_ _|refine Zr ?_|refine Zn ?_ _));exact BK18001.out)):gb18001≠gb18002));have NB18002_18001:=Za ((by rw[hg];exact Nat.ne_of_gt (ZH (g:=gb18001) (o:=.cells #[.int .i64 a0_0,.slice A0_1 l0_1.length c0_1] 31 (0,0)) (by(with_reducible repeat(first|refine Zo ?_ _|refine Zr ?_|refine Zn ?_ _));exact BK18001.out)):gb18002≠gb18001));replace BK18001:=Za (Zy (g:=gb18001) (o:=.cells #[.int .i64 a0_0,.slice A0_1 l0_1.length c0_1] 31 (0,0)) (by(with_reducible repeat(first|refine Zo ?_ _|refine Zr ?_|refine Zn ?_ _));exact BK18001.out) hb);replace HB:=Za (Zx (by repeat(first|(with_reducible first|exact HB.out|apply Zq|apply Zm|apply Zs|refine Zp ?_ GE18001.out)|exact HB.out)) hb);clear hb hbox hg;have hnb50:=NB18001_18002.out;have hnc50:=NB18002_18001.out;have hcz51_0:w49.cell? ⟨gb18001,0,none⟩=some (.int .i64 a0_0):=(Zv BK18001.out 0).trans rfl;have hcz51_1:w49.cell? ⟨gb18001,1,none⟩=some (.slice A0_1 l0_1.length c0_1):=(Zv BK18001.out 1).trans rfl;have hfz51_0:=Zu BK18001.out 0;have hfz51_1:=Zu BK18001.out 1)|((with_reducible refine ZF (f:=24) rfl ?_);refine ZY (some 11) rfl rfl Try.func24 (by kernel_rfl) rfl #[.agg #[.int .i64 a0_0,.slice A0_1 l0_1.length c0_1],.slice A1 l1.length c1] rfl (by(try simp only[List.map_toArray,List.map_cons,List.map_nil]);first|done|rfl|(simp only[Zk,Zj];rfl)) ?_;(with_reducible refine(Zas.calls a0_0 _ _ l0_1 _ _ l1 false _ ?side1 ?side2 ?side3 ?side4 A3.out).mono ?_);(case side1=>repeat(first|exact(Zb HR0_1.out HB.out)|(with_reducible refine Kd.C_alloc ?_ _)|(with_reducible refine Kd.C_drewN ?_ _)|(with_reducible refine Kd.C_drew ?_)));(case side2=>exact HC0_1.out);(case side3=>repeat(first|exact(Zb HR1.out HB.out)|(with_reducible refine Kd.C_alloc ?_ _)|(with_reducible refine Kd.C_drewN ?_ _)|(with_reducible refine Kd.C_drew ?_)));(case side4=>exact HC1.out);rintro e w52 ⟨rfl,hb⟩;refine⟨_,rfl,?_⟩;replace BK18001:=Za (Zy (g:=gb18001) (o:=.cells #[.int .i64 a0_0,.slice A0_1 l0_1.length c0_1] 31 (0,0)) (by(with_reducible repeat(first|refine Zo ?_ _|refine Zr ?_|refine Zn ?_ _));exact BK18001.out) hb);replace BK18002:=Za (Zy (g:=gb18002) (o:=.cells #[.int .i64 0,.slice none 0 0] 31 (0,0)) (by(with_reducible repeat(first|refine Zo ?_ _|refine Zr ?_|refine Zn ?_ _));exact BK18002.out) hb);replace HB:=Za (Zx (by repeat(first|(with_reducible first|exact HB.out|apply Zq|apply Zm|apply Zs|refine Zp ?_ GE18001.out|refine Zp ?_ GE18002.out)|exact HB.out)) hb);(try clear hb);(try clear hb2);(try clear hk);(try clear hi);have hcz53_0:w52.cell? ⟨gb18002,0,none⟩=some (.int .i64 0):=(Zv BK18002.out 0).trans rfl;have hcz53_1:w52.cell? ⟨gb18002,1,none⟩=some (.slice none 0 0):=(Zv BK18002.out 1).trans rfl;have hfz53_0:=Zu BK18002.out 0;have hfz53_1:=Zu BK18002.out 1))
  refine bodyPost_ret (Zay rfl _ _ gb18002 31 #[.int .i64 0,.slice none 0 0] (0,0) _ rfl (by(with_reducible repeat(first|refine Zo ?_ _|refine Zr ?_|refine Zn ?_ _));refine ZL (cs:=#[.int .i64 0,.slice none 0 0]) ?_ 1 _ rfl;(with_reducible repeat(first|refine Zo ?_ _|refine Zr ?_|refine Zn ?_ _));refine ZL (cs:=#[.int .i64 0,.slice none 0 0]) ?_ 0 _ rfl;(with_reducible repeat(first|refine Zo ?_ _|refine Zr ?_|refine Zn ?_ _));exact BK18002.out) Try.underlying31 rfl (by kernel_rfl)) rfl ?_
  exact⟨_,by first|rfl|(simp[ZC,ZB] <;> rfl)|(simp[*,ZC,ZB] <;> rfl),by first|exact Kd.R_nil _ _ _ _ _|exact Kd.N_nil _ _ _ _ _|exact Kd.V_nil _ _ _ _ _|exact Kd.Q_nil _ _ _ _ _|exact Kd.S_nil _ _ _ _ _,by repeat(first|(with_reducible first|exact HB.out|apply Zq|apply Zm|apply Zs|refine Zp ?_ GE18001.out|refine Zp ?_ GE18002.out)|exact HB.out)⟩
def ZaK.f (k:Nat) (a0_0:Int) (l0_1:List (S84)) (l1:List Int):Option (Bool):=(ZS.f k a0_0 l0_1 l1).bind fun bt19002=>(if bt19002.2.2=true then((Zad.f k bt19002.1 bt19002.2.1).bind fun t19008=>(some t19008)) else(some false))
set_option maxHeartbeats 8000000 in
set_option maxRecDepth 100000 in
theorem ZaK.calls (k:Nat) (a0_0:Int) (A0_1:Option Addr) (c0_1:Nat) (l0_1:List (S84)) (A1:Option Addr) (c1:Nat) (l1:List Int) (r:Bool) (w:World) (hr0_1:Kd.C k84 w A0_1 l0_1.length l0_1) (hc0_1:l0_1.length≤c0_1) (hr1:Kd.C (Kd.int .i64) w A1 l1.length l1) (hc1:l1.length≤c1) (h:ZaK.f k a0_0 l0_1 l1=some r) :
  Calls Try.prog 19 #[.agg #[.int .i64 a0_0,.slice A0_1 l0_1.length c0_1],.slice A1 l1.length c1] w fun e w'=>e=.returned (.bool r)∧Below w.heap.size w w':=by
 have hu31:=Try.underlying31
 have HR0_1:=Za hr0_1;have HC0_1:=Za hc0_1;clear hr0_1 hc0_1;have HR1:=Za hr1;have HC1:=Za hc1;clear hr1 hc1
 have HB:=Za (Below.refl w.heap.size w)
 have H:((ZS.f k a0_0 l0_1 l1).bind fun bt19002=>(if bt19002.2.2=true then((Zad.f k bt19002.1 bt19002.2.1).bind fun t19008=>(some t19008)) else(some false)))=some r:=h
 clear h
 replace H:=Zh H
 obtain⟨⟨t19002,t19003,t19006⟩,A30,H⟩:=H
 replace H:(if t19006=true then((Zad.f k t19002 t19003).bind fun t19008=>(some t19008)) else(some false))=some r:=H
 have A3:=Za A30;clear A30
 by_cases c4:t19006=true
 ·subst c4
  have H1:((Zad.f k t19002 t19003).bind fun t19008=>(some t19008))=some r:=by rw[if_pos rfl] at H;exact H
  clear H
  have H:=H1
  clear H1
  replace H:=Zh H
  obtain⟨t19008,A50,H⟩:=H
  replace H:(some t19008)=some r:=H
  have A5:=Za A50;clear A50
  obtain rfl:=Zg H
  go_enter Try.func19,Try.ntmps19
  go_wp2_with (first|((with_reducible refine ZM (N:=2) rfl ?_);refine ZK ?hg (N:=2) ?hd (cs:=#[.int .i64 a0_0,.slice A0_1 l0_1.length c0_1]) (t:=31) ?hr ?_;(case hd=>rfl);(case hg=>rfl);(case hr=>first|(go_simp;done)|(go_simp;rfl));intro gb19001 hg w6 hbox hb;have BK19001:=Za (hbox);have GW19001:=Za ((by rw[hg];exact(Zw (by repeat(first|(with_reducible first|exact HB.out|apply Zq|apply Zm|apply Zs)|exact HB.out))):w.heap.size≤gb19001));have GE19001:=Za ((by rw[hg];exact(Zw (by repeat(first|(with_reducible first|exact HB.out|apply Zq|apply Zm|apply Zs)|exact HB.out))):w.heap.size≤gb19001));replace HB:=Za (Zx (by repeat(first|(with_reducible first|exact HB.out|apply Zq|apply Zm|apply Zs)|exact HB.out)) hb);clear hb hbox hg;have hcz7_0:w6.cell? ⟨gb19001,0,none⟩=some (.int .i64 a0_0):=(Zv BK19001.out 0).trans rfl;have hcz7_1:w6.cell? ⟨gb19001,1,none⟩=some (.slice A0_1 l0_1.length c0_1):=(Zv BK19001.out 1).trans rfl;have hfz7_0:=Zu BK19001.out 0;have hfz7_1:=Zu BK19001.out 1)|((with_reducible refine ZF (f:=18) rfl ?_);refine ZY (some 10) rfl rfl Try.func18 (by kernel_rfl) rfl #[.agg #[.int .i64 a0_0,.slice A0_1 l0_1.length c0_1],.slice A1 l1.length c1] rfl (by(try simp only[List.map_toArray,List.map_cons,List.map_nil]);first|done|rfl|(simp only[Zk,Zj];rfl)) ?_;(with_reducible refine(ZS.calls k a0_0 _ _ l0_1 _ _ l1 t19002 t19003 true _ ?side1 ?side2 ?side3 ?side4 A3.out).mono ?_);(case side1=>repeat(first|exact(Zb HR0_1.out HB.out)|(with_reducible refine Kd.C_alloc ?_ _)|(with_reducible refine Kd.C_drewN ?_ _)|(with_reducible refine Kd.C_drew ?_)));(case side2=>exact HC0_1.out);(case side3=>repeat(first|exact(Zb HR1.out HB.out)|(with_reducible refine Kd.C_alloc ?_ _)|(with_reducible refine Kd.C_drewN ?_ _)|(with_reducible refine Kd.C_drew ?_)));(case side4=>exact HC1.out);rintro e w8 ⟨v19004,rfl,ho0,hb⟩;refine⟨_,rfl,?_⟩;have HO19005:=Za (Kd.R_lower ho0 (Zw (by repeat(first|(with_reducible first|exact HB.out|apply Zq|apply Zm|apply Zs|refine Zp ?_ GE19001.out)|exact HB.out))));replace BK19001:=Za (Zy (g:=gb19001) (o:=.cells #[.int .i64 a0_0,.slice A0_1 l0_1.length c0_1] 31 (0,0)) (by(with_reducible repeat(first|refine Zo ?_ _|refine Zr ?_|refine Zn ?_ _));exact BK19001.out) hb);replace HB:=Za (Zx (by repeat(first|(with_reducible first|exact HB.out|apply Zq|apply Zm|apply Zs|refine Zp ?_ GE19001.out)|exact HB.out)) hb);(try clear hb);(try clear hb2);(try clear hk);(try clear hi);(try clear ho0))|((with_reducible refine ZM (N:=5) rfl ?_);refine ZK ?hg (N:=5) ?hd (cs:=#[.int .i64 0,.slice none 0 0]) (t:=31) ?hr ?_;(case hd=>rfl);(case hg=>rfl);(case hr=>first|(go_simp;done)|(go_simp;rfl));intro gb19007 hg w9 hbox hb;have BK19007:=Za (hbox);have GW19007:=Za ((by rw[hg];exact(Zw (by repeat(first|(with_reducible first|exact HB.out|apply Zq|apply Zm|apply Zs|refine Zp ?_ GE19001.out)|exact HB.out))):w.heap.size≤gb19007));have GE19007:=Za ((by rw[hg];exact(Zw (by repeat(first|(with_reducible first|exact HB.out|apply Zq|apply Zm|apply Zs|refine Zp ?_ GE19001.out)|exact HB.out))):w.heap.size≤gb19007));have NB19001_19007:=Za ((by rw[hg];exact Nat.ne_of_lt (ZH (g:=gb19001) (o:=.cells #[.int .i64 a0_0,.slice A0_1 l0_1.length c0_1] 31 (0,0)) (by(with_reducible repeat(first|refine Zo ?_ _|refine Zr ?_|refine Zn ?_ _));exact BK19001.out)):gb19001≠gb19007));have NB19007_19001:=Za ((by rw[hg];exact Nat.ne_of_gt (ZH (g:=gb19001) (o:=.cells #[.int .i64 a0_0,.slice A0_1 l0_1.length c0_1] 31 (0,0)) (by(with_reducible repeat(first|refine Zo ?_ _|refine Zr ?_|refine Zn ?_ _));exact BK19001.out)):gb19007≠gb19001));replace HO19005:=Za (Kd.R_below (by(with_reducible repeat(first|apply Kd.R_alloc|apply Kd.R_drewN|apply Kd.R_drew));exact HO19005.out) hb);replace BK19001:=Za (Zy (g:=gb19001) (o:=.cells #[.int .i64 a0_0,.slice A0_1 l0_1.length c0_1] 31 (0,0)) (by(with_reducible repeat(first|refine Zo ?_ _|refine Zr ?_|refine Zn ?_ _));exact BK19001.out) hb);replace HB:=Za (Zx (by repeat(first|(with_reducible first|exact HB.out|apply Zq|apply Zm|apply Zs|refine Zp ?_ GE19001.out)|exact HB.out)) hb);clear hb hbox hg;have hnb10:=NB19007_19001.out;have hnc10:=NB19001_19007.out;have hcz11_0:w9.cell? ⟨gb19007,0,none⟩=some (.int .i64 0):=(Zv BK19007.out 0).trans rfl;have hcz11_1:w9.cell? ⟨gb19007,1,none⟩=some (.slice none 0 0):=(Zv BK19007.out 1).trans rfl;have hfz11_0:=Zu BK19007.out 0;have hfz11_1:=Zu BK19007.out 1;obtain⟨Ao12,co12,eo12⟩:=Kd.R_slice HO19005.out;subst eo12)|(go_at_call 16;(with_reducible refine(Zad.calls k t19002 _ _ t19003 t19008 _ ?side1 ?side2 A5.out).mono ?_);(case side1=>refine(Kd.R_reads' (e:=84) (base:=w.heap.size) (ok:=fun k_=>True) (n:=t19003.length) (c:=co12) ?_).2.2;exact(by(with_reducible repeat(first|apply Kd.R_alloc|apply Kd.R_drewN|apply Kd.R_drew));exact(Kd.R_mono (Kd.R_far (p:=⟨gb19007,1,none⟩) (Kd.R_far (p:=⟨gb19007,0,none⟩) (Kd.R_types HO19005.out BK19007.out (by decide)) (fun _ hk=>hk.2) (.int .i64 t19002)) (fun _ hk=>hk.2) (.slice Ao12 t19003.length co12)) (fun _ h_=>h_.1))));(case side2=>exact(Kd.R_reads' HO19005.out).2.1);rintro e w13 ⟨rfl,hb⟩;replace HO19005:=Za (Kd.R_below (by(with_reducible repeat(first|apply Kd.R_alloc|apply Kd.R_drewN|apply Kd.R_drew));exact(Kd.R_mono (Kd.R_far (p:=⟨gb19007,1,none⟩) (Kd.R_far (p:=⟨gb19007,0,none⟩) (Kd.R_types HO19005.out BK19007.out (by decide)) (fun _ hk=>hk.2) (.int .i64 t19002)) (fun _ hk=>hk.2) (.slice Ao12 t19003.length co12)) (fun _ h_=>h_.1))) hb);replace BK19001:=Za (Zy (g:=gb19001) (o:=.cells #[.int .i64 a0_0,.slice A0_1 l0_1.length c0_1] 31 (0,0)) (by(with_reducible repeat(first|refine Zo ?_ _|refine Zr ?_|refine Zn ?_ _));refine ZD ?_ NB19001_19007.out _;(with_reducible repeat(first|refine Zo ?_ _|refine Zr ?_|refine Zn ?_ _));refine ZD ?_ NB19001_19007.out _;(with_reducible repeat(first|refine Zo ?_ _|refine Zr ?_|refine Zn ?_ _));exact BK19001.out) hb);replace BK19007:=Za (Zy (g:=gb19007) (o:=.cells #[.int .i64 t19002,.slice Ao12 t19003.length co12] 31 (0,0)) (by(with_reducible repeat(first|refine Zo ?_ _|refine Zr ?_|refine Zn ?_ _));refine ZL (cs:=#[.int .i64 t19002,.slice none 0 0]) ?_ 1 _ rfl;(with_reducible repeat(first|refine Zo ?_ _|refine Zr ?_|refine Zn ?_ _));refine ZL (cs:=#[.int .i64 0,.slice none 0 0]) ?_ 0 _ rfl;(with_reducible repeat(first|refine Zo ?_ _|refine Zr ?_|refine Zn ?_ _));exact BK19007.out) hb);replace HB:=Za (Zx (by repeat(first|(with_reducible first|exact HB.out|apply Zq|apply Zm|apply Zs|refine Zp ?_ GE19001.out|refine Zp ?_ GE19007.out)|exact HB.out)) hb);(try clear hb);(try clear hb2);(try clear hk);(try clear hi)))
  go_ret
  exact⟨by first|rfl|(simp[ZC,ZB] <;> rfl)|(simp[*,ZC,ZB] <;> rfl),by repeat(first|(with_reducible first|exact HB.out|apply Zq|apply Zm|apply Zs|refine Zp ?_ GE19001.out|refine Zp ?_ GE19007.out)|exact HB.out)⟩
 ·replace c4:=Bool.eq_false_iff.mpr c4
  subst c4
  have H1:(some false)=some r:=by rw[if_neg (show ¬(false=true) by decide)] at H;exact H
  clear H
  have H:=H1
  clear H1
  obtain rfl:=Zg H
  go_enter Try.func19,Try.ntmps19
  go_wp2_with (first|((with_reducible refine ZM (N:=2) rfl ?_);refine ZK ?hg (N:=2) ?hd (cs:=#[.int .i64 a0_0,.slice A0_1 l0_1.length c0_1]) (t:=31) ?hr ?_;(case hd=>rfl);(case hg=>rfl);(case hr=>first|(go_simp;done)|(go_simp;rfl));intro gb19001 hg w14 hbox hb;have BK19001:=Za (hbox);have GW19001:=Za ((by rw[hg];exact(Zw (by repeat(first|(with_reducible first|exact HB.out|apply Zq|apply Zm|apply Zs)|exact HB.out))):w.heap.size≤gb19001));have GE19001:=Za ((by rw[hg];exact(Zw (by repeat(first|(with_reducible first|exact HB.out|apply Zq|apply Zm|apply Zs)|exact HB.out))):w.heap.size≤gb19001));replace HB:=Za (Zx (by repeat(first|(with_reducible first|exact HB.out|apply Zq|apply Zm|apply Zs)|exact HB.out)) hb);clear hb hbox hg;have hcz15_0:w14.cell? ⟨gb19001,0,none⟩=some (.int .i64 a0_0):=(Zv BK19001.out 0).trans rfl;have hcz15_1:w14.cell? ⟨gb19001,1,none⟩=some (.slice A0_1 l0_1.length c0_1):=(Zv BK19001.out 1).trans rfl;have hfz15_0:=Zu BK19001.out 0;have hfz15_1:=Zu BK19001.out 1)|((with_reducible refine ZF (f:=18) rfl ?_);refine ZY (some 10) rfl rfl Try.func18 (by kernel_rfl) rfl #[.agg #[.int .i64 a0_0,.slice A0_1 l0_1.length c0_1],.slice A1 l1.length c1] rfl (by(try simp only[List.map_toArray,List.map_cons,List.map_nil]);first|done|rfl|(simp only[Zk,Zj];rfl)) ?_;(with_reducible refine(ZS.calls k a0_0 _ _ l0_1 _ _ l1 t19002 t19003 false _ ?side1 ?side2 ?side3 ?side4 A3.out).mono ?_);(case side1=>repeat(first|exact(Zb HR0_1.out HB.out)|(with_reducible refine Kd.C_alloc ?_ _)|(with_reducible refine Kd.C_drewN ?_ _)|(with_reducible refine Kd.C_drew ?_)));(case side2=>exact HC0_1.out);(case side3=>repeat(first|exact(Zb HR1.out HB.out)|(with_reducible refine Kd.C_alloc ?_ _)|(with_reducible refine Kd.C_drewN ?_ _)|(with_reducible refine Kd.C_drew ?_)));(case side4=>exact HC1.out);rintro e w16 ⟨v19004,rfl,ho0,hb⟩;refine⟨_,rfl,?_⟩;have HO19005:=Za (Kd.R_lower ho0 (Zw (by repeat(first|(with_reducible first|exact HB.out|apply Zq|apply Zm|apply Zs|refine Zp ?_ GE19001.out)|exact HB.out))));replace BK19001:=Za (Zy (g:=gb19001) (o:=.cells #[.int .i64 a0_0,.slice A0_1 l0_1.length c0_1] 31 (0,0)) (by(with_reducible repeat(first|refine Zo ?_ _|refine Zr ?_|refine Zn ?_ _));exact BK19001.out) hb);replace HB:=Za (Zx (by repeat(first|(with_reducible first|exact HB.out|apply Zq|apply Zm|apply Zs|refine Zp ?_ GE19001.out)|exact HB.out)) hb);(try clear hb);(try clear hb2);(try clear hk);(try clear hi);(try clear ho0))|((with_reducible refine ZM (N:=5) rfl ?_);refine ZK ?hg (N:=5) ?hd (cs:=#[.int .i64 0,.slice none 0 0]) (t:=31) ?hr ?_;(case hd=>rfl);(case hg=>rfl);(case hr=>first|(go_simp;done)|(go_simp;rfl));intro gb19007 hg w17 hbox hb;have BK19007:=Za (hbox);have GW19007:=Za ((by rw[hg];exact(Zw (by repeat(first|(with_reducible first|exact HB.out|apply Zq|apply Zm|apply Zs|refine Zp ?_ GE19001.out)|exact HB.out))):w.heap.size≤gb19007));have GE19007:=Za ((by rw[hg];exact(Zw (by repeat(first|(with_reducible first|exact HB.out|apply Zq|apply Zm|apply Zs|refine Zp ?_ GE19001.out)|exact HB.out))):w.heap.size≤gb19007));have NB19001_19007:=Za ((by rw[hg];exact Nat.ne_of_lt (ZH (g:=gb19001) (o:=.cells #[.int .i64 a0_0,.slice A0_1 l0_1.length c0_1] 31 (0,0)) (by(with_reducible repeat(first|refine Zo ?_ _|refine Zr ?_|refine Zn ?_ _));exact BK19001.out)):gb19001≠gb19007));have NB19007_19001:=Za ((by rw[hg];exact Nat.ne_of_gt (ZH (g:=gb19001) (o:=.cells #[.int .i64 a0_0,.slice A0_1 l0_1.length c0_1] 31 (0,0)) (by(with_reducible repeat(first|refine Zo ?_ _|refine Zr ?_|refine Zn ?_ _));exact BK19001.out)):gb19007≠gb19001));replace HO19005:=Za (Kd.R_below (by(with_reducible repeat(first|apply Kd.R_alloc|apply Kd.R_drewN|apply Kd.R_drew));exact HO19005.out) hb);replace BK19001:=Za (Zy (g:=gb19001) (o:=.cells #[.int .i64 a0_0,.slice A0_1 l0_1.length c0_1] 31 (0,0)) (by(with_reducible repeat(first|refine Zo ?_ _|refine Zr ?_|refine Zn ?_ _));exact BK19001.out) hb);replace HB:=Za (Zx (by repeat(first|(with_reducible first|exact HB.out|apply Zq|apply Zm|apply Zs|refine Zp ?_ GE19001.out)|exact HB.out)) hb);clear hb hbox hg;have hnb18:=NB19007_19001.out;have hnc18:=NB19001_19007.out;have hcz19_0:w17.cell? ⟨gb19007,0,none⟩=some (.int .i64 0):=(Zv BK19007.out 0).trans rfl;have hcz19_1:w17.cell? ⟨gb19007,1,none⟩=some (.slice none 0 0):=(Zv BK19007.out 1).trans rfl;have hfz19_0:=Zu BK19007.out 0;have hfz19_1:=Zu BK19007.out 1;obtain⟨Ao20,co20,eo20⟩:=Kd.R_slice HO19005.out;subst eo20))
  go_ret
  exact⟨by first|rfl|(simp[ZC,ZB] <;> rfl)|(simp[*,ZC,ZB] <;> rfl),by repeat(first|(with_reducible first|exact HB.out|apply Zq|apply Zm|apply Zs|refine Zp ?_ GE19001.out|refine Zp ?_ GE19007.out)|exact HB.out)⟩
def Zat.f (a0_0:Int) (a0_1:Int) (a1:Int):Option (Bool):=(Zae.f a0_0 a0_1).bind fun t20002=>(if t20002=true then(if a0_0=(-1000000) then(if a0_1=1000000 then(some true) else(some (decide (a1≤a0_1)))) else(if a1≥a0_0 then(if a0_1=1000000 then(some true) else(some (decide (a1≤a0_1)))) else(some false))) else(some false))
set_option maxHeartbeats 8000000 in
set_option maxRecDepth 100000 in
theorem Zat.calls (a0_0:Int) (a0_1:Int) (a1:Int) (r:Bool) (w:World) (h:Zat.f a0_0 a0_1 a1=some r) :
  Calls Try.prog 20 #[.agg #[.int .i64 a0_0,.int .i64 a0_1],.int .i64 a1] w fun e w'=>e=.returned (.bool r)∧Below w.heap.size w w':=by
 have hu35:=Try.underlying35
 have HB:=Za (Below.refl w.heap.size w)
 have H:((Zae.f a0_0 a0_1).bind fun t20002=>(if t20002=true then(if a0_0=(-1000000) then(if a0_1=1000000 then(some true) else(some (decide (a1≤a0_1)))) else(if a1≥a0_0 then(if a0_1=1000000 then(some true) else(some (decide (a1≤a0_1)))) else(some false))) else(some false)))=some r:=h
 clear h
 replace H:=Zh H
 obtain⟨t20002,A30,H⟩:=H
 replace H:(if t20002=true then(if a0_0=(-1000000) then(if a0_1=1000000 then(some true) else(some (decide (a1≤a0_1)))) else(if a1≥a0_0 then(if a0_1=1000000 then(some true) else(some (decide (a1≤a0_1)))) else(some false))) else(some false))=some r:=H
 have A3:=Za A30;clear A30
 by_cases c4:t20002=true
 ·subst c4
  have H1:(if a0_0=(-1000000) then(if a0_1=1000000 then(some true) else(some (decide (a1≤a0_1)))) else(if a1≥a0_0 then(if a0_1=1000000 then(some true) else(some (decide (a1≤a0_1)))) else(some false)))=some r:=by rw[if_pos rfl] at H;exact H
  clear H
  have H:=H1
  clear H1
  by_cases c5:a0_0=(-1000000)
  ·rw[if_pos c5] at H
   have c5b0:(a0_0 == (-1000000))=true:=beq_iff_eq.mpr c5
   have c5b1:(a0_0 != (-1000000))=false:=bne_eq_false_iff_eq.mpr c5
   clear c5
   by_cases c6:a0_1=1000000
   ·rw[if_pos c6] at H
    have c6b0:(a0_1 == 1000000)=true:=beq_iff_eq.mpr c6
    have c6b1:(a0_1 != 1000000)=false:=bne_eq_false_iff_eq.mpr c6
    clear c6
    obtain rfl:=Zg H
    go_enter Try.func20,Try.ntmps20
    go_wp2_with (first|((with_reducible refine ZM (N:=2) rfl ?_);refine ZK ?hg (N:=2) ?hd (cs:=#[.int .i64 a0_0,.int .i64 a0_1]) (t:=35) ?hr ?_;(case hd=>rfl);(case hg=>rfl);(case hr=>first|(go_simp;done)|(go_simp;rfl));intro gb20001 hg w7 hbox hb;have BK20001:=Za (hbox);have GW20001:=Za ((by rw[hg];exact(Zw (by repeat(first|(with_reducible first|exact HB.out|apply Zq|apply Zm|apply Zs)|exact HB.out))):w.heap.size≤gb20001));have GE20001:=Za ((by rw[hg];exact(Zw (by repeat(first|(with_reducible first|exact HB.out|apply Zq|apply Zm|apply Zs)|exact HB.out))):w.heap.size≤gb20001));replace HB:=Za (Zx (by repeat(first|(with_reducible first|exact HB.out|apply Zq|apply Zm|apply Zs)|exact HB.out)) hb);clear hb hbox hg;have hcz8_0:w7.cell? ⟨gb20001,0,none⟩=some (.int .i64 a0_0):=(Zv BK20001.out 0).trans rfl;have hcz8_1:w7.cell? ⟨gb20001,1,none⟩=some (.int .i64 a0_1):=(Zv BK20001.out 1).trans rfl;have hfz8_0:=Zu BK20001.out 0;have hfz8_1:=Zu BK20001.out 1)|((with_reducible refine ZF (f:=53) rfl ?_);refine ZY (some 6) rfl rfl Try.func53 (by kernel_rfl) rfl #[.agg #[.int .i64 a0_0,.int .i64 a0_1]] rfl (by(try simp only[List.map_toArray,List.map_cons,List.map_nil]);first|done|rfl|(simp only[Zk,Zj];rfl)) ?_;(with_reducible refine(Zae.calls a0_0 a0_1 true _ A3.out).mono ?_);rintro e w9 ⟨rfl,hb⟩;refine⟨_,rfl,?_⟩;replace BK20001:=Za (Zy (g:=gb20001) (o:=.cells #[.int .i64 a0_0,.int .i64 a0_1] 35 (0,0)) (by(with_reducible repeat(first|refine Zo ?_ _|refine Zr ?_|refine Zn ?_ _));exact BK20001.out) hb);replace HB:=Za (Zx (by repeat(first|(with_reducible first|exact HB.out|apply Zq|apply Zm|apply Zs|refine Zp ?_ GE20001.out)|exact HB.out)) hb);(try clear hb);(try clear hb2);(try clear hk);(try clear hi);have hcz10_0:w9.cell? ⟨gb20001,0,none⟩=some (.int .i64 a0_0):=(Zv BK20001.out 0).trans rfl;have hcz10_1:w9.cell? ⟨gb20001,1,none⟩=some (.int .i64 a0_1):=(Zv BK20001.out 1).trans rfl;have hfz10_0:=Zu BK20001.out 0;have hfz10_1:=Zu BK20001.out 1))
    go_ret
    exact⟨by first|rfl|(simp[ZC,ZB] <;> rfl)|(simp[*,ZC,ZB] <;> rfl),by repeat(first|(with_reducible first|exact HB.out|apply Zq|apply Zm|apply Zs|refine Zp ?_ GE20001.out)|exact HB.out)⟩
   ·rw[if_neg c6] at H
    have c6b0:(a0_1 == 1000000)=false:=beq_eq_false_iff_ne.mpr c6
    have c6b1:(a0_1 != 1000000)=true:=bne_iff_ne.mpr c6
    obtain rfl:=Zg H
    go_enter Try.func20,Try.ntmps20
    go_wp2_with (first|((with_reducible refine ZM (N:=2) rfl ?_);refine ZK ?hg (N:=2) ?hd (cs:=#[.int .i64 a0_0,.int .i64 a0_1]) (t:=35) ?hr ?_;(case hd=>rfl);(case hg=>rfl);(case hr=>first|(go_simp;done)|(go_simp;rfl));intro gb20001 hg w11 hbox hb;have BK20001:=Za (hbox);have GW20001:=Za ((by rw[hg];exact(Zw (by repeat(first|(with_reducible first|exact HB.out|apply Zq|apply Zm|apply Zs)|exact HB.out))):w.heap.size≤gb20001));have GE20001:=Za ((by rw[hg];exact(Zw (by repeat(first|(with_reducible first|exact HB.out|apply Zq|apply Zm|apply Zs)|exact HB.out))):w.heap.size≤gb20001));replace HB:=Za (Zx (by repeat(first|(with_reducible first|exact HB.out|apply Zq|apply Zm|apply Zs)|exact HB.out)) hb);clear hb hbox hg;have hcz12_0:w11.cell? ⟨gb20001,0,none⟩=some (.int .i64 a0_0):=(Zv BK20001.out 0).trans rfl;have hcz12_1:w11.cell? ⟨gb20001,1,none⟩=some (.int .i64 a0_1):=(Zv BK20001.out 1).trans rfl;have hfz12_0:=Zu BK20001.out 0;have hfz12_1:=Zu BK20001.out 1)|((with_reducible refine ZF (f:=53) rfl ?_);refine ZY (some 6) rfl rfl Try.func53 (by kernel_rfl) rfl #[.agg #[.int .i64 a0_0,.int .i64 a0_1]] rfl (by(try simp only[List.map_toArray,List.map_cons,List.map_nil]);first|done|rfl|(simp only[Zk,Zj];rfl)) ?_;(with_reducible refine(Zae.calls a0_0 a0_1 true _ A3.out).mono ?_);rintro e w13 ⟨rfl,hb⟩;refine⟨_,rfl,?_⟩;replace BK20001:=Za (Zy (g:=gb20001) (o:=.cells #[.int .i64 a0_0,.int .i64 a0_1] 35 (0,0)) (by(with_reducible repeat(first|refine Zo ?_ _|refine Zr ?_|refine Zn ?_ _));exact BK20001.out) hb);replace HB:=Za (Zx (by repeat(first|(with_reducible first|exact HB.out|apply Zq|apply Zm|apply Zs|refine Zp ?_ GE20001.out)|exact HB.out)) hb);(try clear hb);(try clear hb2);(try clear hk);(try clear hi);have hcz14_0:w13.cell? ⟨gb20001,0,none⟩=some (.int .i64 a0_0):=(Zv BK20001.out 0).trans rfl;have hcz14_1:w13.cell? ⟨gb20001,1,none⟩=some (.int .i64 a0_1):=(Zv BK20001.out 1).trans rfl;have hfz14_0:=Zu BK20001.out 0;have hfz14_1:=Zu BK20001.out 1))
    go_ret
    exact⟨by first|rfl|(simp[ZC,ZB] <;> rfl)|(simp[*,ZC,ZB] <;> rfl),by repeat(first|(with_reducible first|exact HB.out|apply Zq|apply Zm|apply Zs|refine Zp ?_ GE20001.out)|exact HB.out)⟩
  ·rw[if_neg c5] at H
   have c5b0:(a0_0 == (-1000000))=false:=beq_eq_false_iff_ne.mpr c5
   have c5b1:(a0_0 != (-1000000))=true:=bne_iff_ne.mpr c5
   by_cases c15:a1≥a0_0
   ·rw[if_pos c15] at H
    have c15b0:decide (a0_0≤a1)=true:=Ze c15
    clear c15
    by_cases c16:a0_1=1000000
    ·rw[if_pos c16] at H
     have c16b0:(a0_1 == 1000000)=true:=beq_iff_eq.mpr c16
     have c16b1:(a0_1 != 1000000)=false:=bne_eq_false_iff_eq.mpr c16
     clear c16
     obtain rfl:=Zg H
     go_enter Try.func20,Try.ntmps20
     go_wp2_with (first|((with_reducible refine ZM (N:=2) rfl ?_);refine ZK ?hg (N:=2) ?hd (cs:=#[.int .i64 a0_0,.int .i64 a0_1]) (t:=35) ?hr ?_;(case hd=>rfl);(case hg=>rfl);(case hr=>first|(go_simp;done)|(go_simp;rfl));intro gb20001 hg w17 hbox hb;have BK20001:=Za (hbox);have GW20001:=Za ((by rw[hg];exact(Zw (by repeat(first|(with_reducible first|exact HB.out|apply Zq|apply Zm|apply Zs)|exact HB.out))):w.heap.size≤gb20001));have GE20001:=Za ((by rw[hg];exact(Zw (by repeat(first|(with_reducible first|exact HB.out|apply Zq|apply Zm|apply Zs)|exact HB.out))):w.heap.size≤gb20001));replace HB:=Za (Zx (by repeat(first|(with_reducible first|exact HB.out|apply Zq|apply Zm|apply Zs)|exact HB.out)) hb);clear hb hbox hg;have hcz18_0:w17.cell? ⟨gb20001,0,none⟩=some (.int .i64 a0_0):=(Zv BK20001.out 0).trans rfl;have hcz18_1:w17.cell? ⟨gb20001,1,none⟩=some (.int .i64 a0_1):=(Zv BK20001.out 1).trans rfl;have hfz18_0:=Zu BK20001.out 0;have hfz18_1:=Zu BK20001.out 1)|((with_reducible refine ZF (f:=53) rfl ?_);refine ZY (some 6) rfl rfl Try.func53 (by kernel_rfl) rfl #[.agg #[.int .i64 a0_0,.int .i64 a0_1]] rfl (by(try simp only[List.map_toArray,List.map_cons,List.map_nil]);first|done|rfl|(simp only[Zk,Zj];rfl)) ?_;(with_reducible refine(Zae.calls a0_0 a0_1 true _ A3.out).mono ?_);rintro e w19 ⟨rfl,hb⟩;refine⟨_,rfl,?_⟩;replace BK20001:=Za (Zy (g:=gb20001) (o:=.cells #[.int .i64 a0_0,.int .i64 a0_1] 35 (0,0)) (by(with_reducible repeat(first|refine Zo ?_ _|refine Zr ?_|refine Zn ?_ _));exact BK20001.out) hb);replace HB:=Za (Zx (by repeat(first|(with_reducible first|exact HB.out|apply Zq|apply Zm|apply Zs|refine Zp ?_ GE20001.out)|exact HB.out)) hb);(try clear hb);(try clear hb2);(try clear hk);(try clear hi);have hcz20_0:w19.cell? ⟨gb20001,0,none⟩=some (.int .i64 a0_0):=(Zv BK20001.out 0).trans rfl;have hcz20_1:w19.cell? ⟨gb20001,1,none⟩=some (.int .i64 a0_1):=(Zv BK20001.out 1).trans rfl;have hfz20_0:=Zu BK20001.out 0;have hfz20_1:=Zu BK20001.out 1))
     go_ret
     exact⟨by first|rfl|(simp[ZC,ZB] <;> rfl)|(simp[*,ZC,ZB] <;> rfl),by repeat(first|(with_reducible first|exact HB.out|apply Zq|apply Zm|apply Zs|refine Zp ?_ GE20001.out)|exact HB.out)⟩
    ·rw[if_neg c16] at H
     have c16b0:(a0_1 == 1000000)=false:=beq_eq_false_iff_ne.mpr c16
     have c16b1:(a0_1 != 1000000)=true:=bne_iff_ne.mpr c16
     obtain rfl:=Zg H
     go_enter Try.func20,Try.ntmps20
     go_wp2_with (first|((with_reducible refine ZM (N:=2) rfl ?_);refine ZK ?hg (N:=2) ?hd (cs:=#[.int .i64 a0_0,.int .i64 a0_1]) (t:=35) ?hr ?_;(case hd=>rfl);(case hg=>rfl);(case hr=>first|(go_simp;done)|(go_simp;rfl));intro gb20001 hg w21 hbox hb;have BK20001:=Za (hbox);have GW20001:=Za ((by rw[hg];exact(Zw (by repeat(first|(with_reducible first|exact HB.out|apply Zq|apply Zm|apply Zs)|exact HB.out))):w.heap.size≤gb20001));have GE20001:=Za ((by rw[hg];exact(Zw (by repeat(first|(with_reducible first|exact HB.out|apply Zq|apply Zm|apply Zs)|exact HB.out))):w.heap.size≤gb20001));replace HB:=Za (Zx (by repeat(first|(with_reducible first|exact HB.out|apply Zq|apply Zm|apply Zs)|exact HB.out)) hb);clear hb hbox hg;have hcz22_0:w21.cell? ⟨gb20001,0,none⟩=some (.int .i64 a0_0):=(Zv BK20001.out 0).trans rfl;have hcz22_1:w21.cell? ⟨gb20001,1,none⟩=some (.int .i64 a0_1):=(Zv BK20001.out 1).trans rfl;have hfz22_0:=Zu BK20001.out 0;have hfz22_1:=Zu BK20001.out 1)|((with_reducible refine ZF (f:=53) rfl ?_);refine ZY (some 6) rfl rfl Try.func53 (by kernel_rfl) rfl #[.agg #[.int .i64 a0_0,.int .i64 a0_1]] rfl (by(try simp only[List.map_toArray,List.map_cons,List.map_nil]);first|done|rfl|(simp only[Zk,Zj];rfl)) ?_;(with_reducible refine(Zae.calls a0_0 a0_1 true _ A3.out).mono ?_);rintro e w23 ⟨rfl,hb⟩;refine⟨_,rfl,?_⟩;replace BK20001:=Za (Zy (g:=gb20001) (o:=.cells #[.int .i64 a0_0,.int .i64 a0_1] 35 (0,0)) (by(with_reducible repeat(first|refine Zo ?_ _|refine Zr ?_|refine Zn ?_ _));exact BK20001.out) hb);replace HB:=Za (Zx (by repeat(first|(with_reducible first|exact HB.out|apply Zq|apply Zm|apply Zs|refine Zp ?_ GE20001.out)|exact HB.out)) hb);(try clear hb);(try clear hb2);(try clear hk);(try clear hi);have hcz24_0:w23.cell? ⟨gb20001,0,none⟩=some (.int .i64 a0_0):=(Zv BK20001.out 0).trans rfl;have hcz24_1:w23.cell? ⟨gb20001,1,none⟩=some (.int .i64 a0_1):=(Zv BK20001.out 1).trans rfl;have hfz24_0:=Zu BK20001.out 0;have hfz24_1:=Zu BK20001.out 1))
     go_ret
     exact⟨by first|rfl|(simp[ZC,ZB] <;> rfl)|(simp[*,ZC,ZB] <;> rfl),by repeat(first|(with_reducible first|exact HB.out|apply Zq|apply Zm|apply Zs|refine Zp ?_ GE20001.out)|exact HB.out)⟩
   ·rw[if_neg c15] at H
    have c15b0:decide (a0_0≤a1)=false:=Zf c15
    clear c15
    obtain rfl:=Zg H
    go_enter Try.func20,Try.ntmps20
    go_wp2_with (first|((with_reducible refine ZM (N:=2) rfl ?_);refine ZK ?hg (N:=2) ?hd (cs:=#[.int .i64 a0_0,.int .i64 a0_1]) (t:=35) ?hr ?_;(case hd=>rfl);(case hg=>rfl);(case hr=>first|(go_simp;done)|(go_simp;rfl));intro gb20001 hg w25 hbox hb;have BK20001:=Za (hbox);have GW20001:=Za ((by rw[hg];exact(Zw (by repeat(first|(with_reducible first|exact HB.out|apply Zq|apply Zm|apply Zs)|exact HB.out))):w.heap.size≤gb20001));have GE20001:=Za ((by rw[hg];exact(Zw (by repeat(first|(with_reducible first|exact HB.out|apply Zq|apply Zm|apply Zs)|exact HB.out))):w.heap.size≤gb20001));replace HB:=Za (Zx (by repeat(first|(with_reducible first|exact HB.out|apply Zq|apply Zm|apply Zs)|exact HB.out)) hb);clear hb hbox hg;have hcz26_0:w25.cell? ⟨gb20001,0,none⟩=some (.int .i64 a0_0):=(Zv BK20001.out 0).trans rfl;have hcz26_1:w25.cell? ⟨gb20001,1,none⟩=some (.int .i64 a0_1):=(Zv BK20001.out 1).trans rfl;have hfz26_0:=Zu BK20001.out 0;have hfz26_1:=Zu BK20001.out 1)|((with_reducible refine ZF (f:=53) rfl ?_);refine ZY (some 6) rfl rfl Try.func53 (by kernel_rfl) rfl #[.agg #[.int .i64 a0_0,.int .i64 a0_1]] rfl (by(try simp only[List.map_toArray,List.map_cons,List.map_nil]);first|done|rfl|(simp only[Zk,Zj];rfl)) ?_;(with_reducible refine(Zae.calls a0_0 a0_1 true _ A3.out).mono ?_);rintro e w27 ⟨rfl,hb⟩;refine⟨_,rfl,?_⟩;replace BK20001:=Za (Zy (g:=gb20001) (o:=.cells #[.int .i64 a0_0,.int .i64 a0_1] 35 (0,0)) (by(with_reducible repeat(first|refine Zo ?_ _|refine Zr ?_|refine Zn ?_ _));exact BK20001.out) hb);replace HB:=Za (Zx (by repeat(first|(with_reducible first|exact HB.out|apply Zq|apply Zm|apply Zs|refine Zp ?_ GE20001.out)|exact HB.out)) hb);(try clear hb);(try clear hb2);(try clear hk);(try clear hi);have hcz28_0:w27.cell? ⟨gb20001,0,none⟩=some (.int .i64 a0_0):=(Zv BK20001.out 0).trans rfl;have hcz28_1:w27.cell? ⟨gb20001,1,none⟩=some (.int .i64 a0_1):=(Zv BK20001.out 1).trans rfl;have hfz28_0:=Zu BK20001.out 0;have hfz28_1:=Zu BK20001.out 1))
    go_ret
    exact⟨by first|rfl|(simp[ZC,ZB] <;> rfl)|(simp[*,ZC,ZB] <;> rfl),by repeat(first|(with_reducible first|exact HB.out|apply Zq|apply Zm|apply Zs|refine Zp ?_ GE20001.out)|exact HB.out)⟩
 ·replace c4:=Bool.eq_false_iff.mpr c4
  subst c4
  have H1:(some false)=some r:=by rw[if_neg (show ¬(false=true) by decide)] at H;exact H
  clear H
  have H:=H1
  clear H1
  obtain rfl:=Zg H
  go_enter Try.func20,Try.ntmps20
  go_wp2_with (first|((with_reducible refine ZM (N:=2) rfl ?_);refine ZK ?hg (N:=2) ?hd (cs:=#[.int .i64 a0_0,.int .i64 a0_1]) (t:=35) ?hr ?_;(case hd=>rfl);(case hg=>rfl);(case hr=>first|(go_simp;done)|(go_simp;rfl));intro gb20001 hg w29 hbox hb;have BK20001:=Za (hbox);have GW20001:=Za ((by rw[hg];exact(Zw (by repeat(first|(with_reducible first|exact HB.out|apply Zq|apply Zm|apply Zs)|exact HB.out))):w.heap.size≤gb20001));have GE20001:=Za ((by rw[hg];exact(Zw (by repeat(first|(with_reducible first|exact HB.out|apply Zq|apply Zm|apply Zs)|exact HB.out))):w.heap.size≤gb20001));replace HB:=Za (Zx (by repeat(first|(with_reducible first|exact HB.out|apply Zq|apply Zm|apply Zs)|exact HB.out)) hb);clear hb hbox hg;have hcz30_0:w29.cell? ⟨gb20001,0,none⟩=some (.int .i64 a0_0):=(Zv BK20001.out 0).trans rfl;have hcz30_1:w29.cell? ⟨gb20001,1,none⟩=some (.int .i64 a0_1):=(Zv BK20001.out 1).trans rfl;have hfz30_0:=Zu BK20001.out 0;have hfz30_1:=Zu BK20001.out 1)|((with_reducible refine ZF (f:=53) rfl ?_);refine ZY (some 6) rfl rfl Try.func53 (by kernel_rfl) rfl #[.agg #[.int .i64 a0_0,.int .i64 a0_1]] rfl (by(try simp only[List.map_toArray,List.map_cons,List.map_nil]);first|done|rfl|(simp only[Zk,Zj];rfl)) ?_;(with_reducible refine(Zae.calls a0_0 a0_1 false _ A3.out).mono ?_);rintro e w31 ⟨rfl,hb⟩;refine⟨_,rfl,?_⟩;replace BK20001:=Za (Zy (g:=gb20001) (o:=.cells #[.int .i64 a0_0,.int .i64 a0_1] 35 (0,0)) (by(with_reducible repeat(first|refine Zo ?_ _|refine Zr ?_|refine Zn ?_ _));exact BK20001.out) hb);replace HB:=Za (Zx (by repeat(first|(with_reducible first|exact HB.out|apply Zq|apply Zm|apply Zs|refine Zp ?_ GE20001.out)|exact HB.out)) hb);(try clear hb);(try clear hb2);(try clear hk);(try clear hi)))
  go_ret
  exact⟨by first|rfl|(simp[ZC,ZB] <;> rfl)|(simp[*,ZC,ZB] <;> rfl),by repeat(first|(with_reducible first|exact HB.out|apply Zq|apply Zm|apply Zs|refine Zp ?_ GE20001.out)|exact HB.out)⟩
def Z9.l0:Nat→Int→List Int→List Int→Int→Int→Option (List Int)
 | 0,_,_,_,_,_=>none
 | k+1,x2,x8,x22005000,x22005001,x22005002=>if (x8.length:Int)<x2 then((ZW.f x22005000 x22005001 x22005002 6).bind fun bt22008=>(if x8.length<17592186044416 then(Z9.l0 k x2 (x8 ++ [bt22008.1]) x22005000 bt22008.2.1 bt22008.2.2) else(none))) else(some x8)
def Z9.f (k:Nat) (l0:List Int) (a1:Int) (a2:Int):Option (List Int):=(ZaB.f k l0 a1).bind fun bt22001=>(Z9.l0 k a2 (([0]:List Int)) bt22001.1 bt22001.2.1 bt22001.2.2)
set_option maxHeartbeats 8000000 in
set_option maxRecDepth 100000 in
theorem Z9.calls (k:Nat) (A0:Option Addr) (c0:Nat) (l0:List Int) (a1:Int) (a2:Int) (r:List Int) (w:World) (hr0:Kd.C (Kd.int .u8) w A0 l0.length l0) (hc0:l0.length≤c0) (h:Z9.f k l0 a1 a2=some r) :
  Calls Try.prog 22 #[.slice A0 l0.length c0,.int .i64 a1,.int .i64 a2] w fun e w'=>∃v0_:Value,e=.returned (v0_)∧Kd.R (Kd.int .i64) 3 w' w.heap.size (fun _=>True) v0_ r∧Below w.heap.size w w':=by
 have HR0:=Za hr0;have HC0:=Za hc0;clear hr0 hc0
 have HB:=Za (Below.refl w.heap.size w)
 have H:((ZaB.f k l0 a1).bind fun bt22001=>(Z9.l0 k a2 (([0]:List Int)) bt22001.1 bt22001.2.1 bt22001.2.2))=some r:=h
 clear h
 replace H:=Zh H
 obtain⟨⟨t22001,t22002,t22003⟩,A40,H⟩:=H
 replace H:(Z9.l0 k a2 (([0]:List Int)) t22001 t22002 t22003)=some r:=H
 have A4:=Za A40;clear A40
 obtain⟨y22005,hy22005⟩:∃y_:List Int,y_=(([0]:List Int)):=⟨_,rfl⟩
 replace H:(Z9.l0 k a2 y22005 t22001 t22002 t22003)=some r:=by first|(rw[hy22005];with_reducible exact H)|(have H2_:=(Zi _ _).symm.trans H;rw[hy22005];with_reducible exact H2_)|(have H2_:=(Zi _ _).symm.trans H;with_reducible exact H2_)|with_reducible exact H|(rw[hy22005];exact H)|exact H
 have Ny22005:=Za hy22005;clear hy22005
 have H':=Za H
 clear H
 go_enter Try.func22,Try.ntmps22
 go_wp2_with (first|((with_reducible refine ZF (f:=44) rfl ?_);refine ZY (some 11) rfl rfl Try.func44 (by kernel_rfl) rfl #[.slice A0 l0.length c0,.int .i64 a1] rfl (by(try simp only[List.map_toArray,List.map_cons,List.map_nil]);first|done|rfl|(simp only[Zk,Zj];rfl)) ?_;(with_reducible refine(ZaB.calls k _ _ l0 a1 t22001 t22002 t22003 w _ ?side1 ?side2 ?side3 A4.out).mono ?_);(case side1=>repeat(first|(with_reducible first|exact HB.out|apply Zq|apply Zm|apply Zs)|exact HB.out));(case side2=>exact HR0.out);(case side3=>exact HC0.out);rintro e w5 ⟨g22004,rfl,hi,hb,hb2⟩;refine⟨_,rfl,?_⟩;have HI22004:=Za (hi);replace HB:=Za (hb);(try clear hb);(try clear hb2);(try clear hk);(try clear hi))|((with_reducible refine ZM (N:=12) rfl ?_);refine Kd.R_lit (Kd.int .i64) _ 3 ?hg (N:=12) ?hd (xs:=([0]:List Int)) (inner:=[.int .i64 0]) (ok:=fun _=>True) (okp:=fun _=>True) ?hr ?hp (fun _ hk=>hk) trivial (Below.refl _ _) (Nat.le_refl _) (by simp) ?_;(case hd=>rfl);(case hg=>rfl);(case hr=>first|(go_simp;done)|(go_simp;rfl));(case hp=>exact(Reps.one (show Kd.M (Kd.int .i64) _ _ _ 0 [.int .i64 0] from rfl) (Reps.none _ _)));intro v22006 w6 ho7 hb hg_ hnew_;clear hg_ hnew_;(first|rw[← Ny22005.out] at ho7|(simp only[Int.reduceToNat] at ho7;rw[← Ny22005.out] at ho7));have HO22007:=Za (Kd.R_lower ho7 (Zw (by repeat(first|(with_reducible first|exact HB.out|apply Zq|apply Zm|apply Zs|refine Zp ?_ (Zt.ge HI22004.out))|exact HB.out))));replace HB:=Za (Zx (by repeat(first|(with_reducible first|exact HB.out|apply Zq|apply Zm|apply Zs|refine Zp ?_ (Zt.ge HI22004.out))|exact HB.out)) hb);replace HI22004:=Za (Zt.below (by repeat(first|(with_reducible first|exact HI22004.out|apply Zt.alloc|apply Zt.drewN|apply Zt.drew|apply Zt.set_1|apply Zt.set_2)|exact HI22004.out)) hb);clear hb ho7))
 go_loopg [8] k (fun kq v8 w'=>∃(x8_1:List Int) (x22005001_1:Int) (x22005002_1:Int),Aside0 (Z9.l0 kq a2 x8_1 t22001 x22005001_1 x22005002_1=some r)∧Aside0 (kq≤k)∧Aside0 (Kd.R (Kd.int .i64) 3 w' w.heap.size (fun _=>True) v8 x8_1)∧Aside0 (Zt w w' g22004 t22001 x22005001_1 x22005002_1)∧Aside0 (Below w.heap.size w w'))
 case atStart=>exact⟨(y22005),(t22002),(t22003),H',⟨Nat.le_refl _⟩,⟨by(with_reducible repeat(first|apply Kd.R_alloc|apply Kd.R_drewN|apply Kd.R_drew));exact HO22007.out⟩,⟨by repeat(first|(with_reducible first|exact HI22004.out|apply Zt.alloc|apply Zt.drewN|apply Zt.drew|apply Zt.set_1|apply Zt.set_2)|exact HI22004.out)⟩,⟨by repeat(first|(with_reducible first|exact HB.out|apply Zq|apply Zm|apply Zs|refine Zp ?_ (Zt.ge HI22004.out))|exact HB.out)⟩⟩
 case round=>
  clear H'
  try clear c2
  try clear p2
  try clear c4
  obtain⟨x8_1,x22005001_1,x22005002_1,HA,HK1,HO_8,HI22004,HB⟩:=hrel
  cases gk with
  | zero=>exact absurd HA.out (by simp[Z9.l0])
  | succ k1=>
   have H:=HA.out
   clear HA
   simp only[Z9.l0] at H
   by_cases c8:(x8_1.length:Int)<a2
   ·rw[if_pos c8] at H
    have c8b0:decide ((x8_1.length:Int)<a2)=true:=Ze c8
    clear c8
    replace H:=Zh H
    obtain⟨⟨t22008,t22009,t22010⟩,A90,H⟩:=H
    replace H:(if x8_1.length<17592186044416 then(Z9.l0 k1 a2 (x8_1 ++ [t22008]) t22001 t22009 t22010) else(none))=some r:=H
    have A9:=Za A90;clear A90
    by_cases c10:x8_1.length<17592186044416
    ·rw[if_pos c10] at H
     have LMc10:=Za c10;clear c10
     obtain⟨y22011,hy22011⟩:∃y_:List Int,y_=(x8_1 ++ [t22008]):=⟨_,rfl⟩
     replace H:(Z9.l0 k1 a2 y22011 t22001 t22009 t22010)=some r:=by first|(rw[hy22011];with_reducible exact H)|(have H2_:=(Zi _ _).symm.trans H;rw[hy22011];with_reducible exact H2_)|(have H2_:=(Zi _ _).symm.trans H;with_reducible exact H2_)|with_reducible exact H|(rw[hy22011];exact H)|exact H
     have Ny22011:=Za hy22011;clear hy22011
     have H':=Za H
     clear H
     obtain⟨Ao11,co11,eo11⟩:=Kd.R_slice HO_8.out
     subst eo11
     go_wp2_with (first|((with_reducible refine ZF (f:=55) rfl ?_);refine ZY (some 19) rfl rfl Try.func55 (by kernel_rfl) rfl #[.pointer (some ⟨g22004,0,none⟩),.int .i64 6] rfl (by(try simp only[List.map_toArray,List.map_cons,List.map_nil]);first|done|rfl|(simp only[Zk,Zj];rfl)) ?_;(with_reducible refine(ZW.calls g22004 t22001 x22005001_1 x22005002_1 6 t22008 t22009 t22010 w _ ?side1 ?side2 A9.out).mono ?_);(case side1=>repeat(first|(with_reducible first|exact HI22004.out|apply Zt.alloc|apply Zt.drewN|apply Zt.drew|apply Zt.set_1|apply Zt.set_2)|exact HI22004.out));(case side2=>repeat(first|(with_reducible first|exact HB.out|apply Zq|apply Zm|apply Zs|refine Zp ?_ (Zt.ge HI22004.out))|exact HB.out));rintro e w12 ⟨rfl,hi,hb,hk⟩;refine⟨_,rfl,?_⟩;replace HO_8:=Za (Kd.R_mono (Kd.R_keep (Zt.apart (show Zt w _ g22004 t22001 x22005001_1 x22005002_1 from by repeat(first|(with_reducible first|exact HI22004.out|apply Zt.alloc|apply Zt.drewN|apply Zt.drew|apply Zt.set_1|apply Zt.set_2)|exact HI22004.out)) (by(with_reducible repeat(first|apply Kd.R_alloc|apply Kd.R_drewN|apply Kd.R_drew));exact HO_8.out) (by decide)) hk (fun _ h=>h.2)) (fun _ h=>h.1));replace HB:=Za (hb);replace HI22004:=Za (hi);(try clear hb);(try clear hb2);(try clear hk);(try clear hi))|((with_reducible refine ZaG (b:=.append) (xs:=#[.tmp 17,.tmp 20]) rfl ?_);at_builtin;refine Kd.R_append (Kd.int .i64) (w0:=w) w.heap.size rfl (.tmp 17) (.tmp 20) 22 3 (.int .i64 0) 8 rfl Try.underlying22 Zbg rfl (by decide) (by omega) (.slice Ao11 x8_1.length co11) x8_1 t22008 [.int .i64 t22008] (fun _=>True) (fun _=>False) rfl rfl ?aP (fun _ hk=>hk.elim) ?aF ?aO ?aB ?aS ?aL ?_;(case aP=>exact rfl);(case aB=>exact(by repeat(first|(with_reducible first|exact HB.out|apply Zq|apply Zm|apply Zs|refine Zp ?_ (Zt.ge HI22004.out))|exact HB.out)));(case aF=>exact(fun _ _=>trivial));(case aO=>exact(by(with_reducible repeat(first|apply Kd.R_alloc|apply Kd.R_drewN|apply Kd.R_drew));exact HO_8.out));(case aS=>exact(Zw (by repeat(first|(with_reducible first|exact HB.out|apply Zq|apply Zm|apply Zs|refine Zp ?_ (Zt.ge HI22004.out))|exact HB.out))));(case aL=>have:=LMc10.out;omega);intro v22012 w13 ho hb hg hat;rw[← Ny22011.out] at ho;have HO22013:=Za (ho);replace HI22004:=Za (Zt.grown (by repeat(first|(with_reducible first|exact HI22004.out|apply Zt.alloc|apply Zt.drewN|apply Zt.drew|apply Zt.set_1|apply Zt.set_2)|exact HI22004.out)) hg (Zt.own_ne HI22004.out HO_8.out (by decide)));replace HB:=Za (hb);clear HO_8;clear ho hb hg hat))
     go_roundg k1
     case measure=>have:=HK1.out;omega
     case rel=>exact⟨(y22011),(t22009),(t22010),H',⟨by have:=HK1.out;omega⟩,⟨by(with_reducible repeat(first|apply Kd.R_alloc|apply Kd.R_drewN|apply Kd.R_drew));exact HO22013.out⟩,⟨by repeat(first|(with_reducible first|exact HI22004.out|apply Zt.alloc|apply Zt.drewN|apply Zt.drew|apply Zt.set_1|apply Zt.set_2)|exact HI22004.out)⟩,⟨by repeat(first|(with_reducible first|exact HB.out|apply Zq|apply Zm|apply Zs|refine Zp ?_ (Zt.ge HI22004.out))|exact HB.out)⟩⟩
    ·rw[if_neg c10] at H
     exact absurd H (by simp)
   ·rw[if_neg c8] at H
    have c8b0:decide ((x8_1.length:Int)<a2)=false:=Zf c8
    clear c8
    obtain rfl:=Zg H
    obtain⟨Ao14,co14,eo14⟩:=Kd.R_slice HO_8.out
    subst eo14
    go_wp2
    go_ret
    exact⟨_,by first|rfl|(simp[ZC,ZB] <;> rfl)|(simp[*,ZC,ZB] <;> rfl),by(with_reducible repeat(first|apply Kd.R_alloc|apply Kd.R_drewN|apply Kd.R_drew));exact HO_8.out,by repeat(first|(with_reducible first|exact HB.out|apply Zq|apply Zm|apply Zs|refine Zp ?_ (Zt.ge HI22004.out))|exact HB.out)⟩
end Go.Proofs.Ythphnhmabieflab.Pr
namespace Go.Proofs.Ythphnhmabieflab.Pr
open Go.RowKit Go.Proofs.YthphnhmabieflabW.PrintWords Go.Proofs.Ythphnhmabieflab.Ni
def tmB (x:Int):Bool:=decide (0≤x) && decide (x≤999999)
def Zbd (N:List Int→Int→Option (Int×Int×Bool)) (fin:List Int→Option (List Int×Bool)):Nat→Nat→List Int→Option (List Int×Bool)
 | 0,_,tm=>fin tm
 | d+1,i,tm=>if tm.getD i 0=-1 then(N tm (i:Int)).bind fun r=>if r.2.2=true then(if tmB r.1=true then Zbd N fin d (i+1) (tm.set i r.1) else some ([],false)) else some ([],false) else Zbd N fin d (i+1) tm
def cfin {α:Type} (F:List Int→Option (Int×List α×Bool)) (tm:List Int):Option (List Int×Bool):=(F tm).bind fun r=>if r.2.2=true then some (tm,true) else some ([],false)
theorem ZcO {N M:List Int→Int→Option (Int×Int×Bool)} {f g:List Int→Option (List Int×Bool)} {m:Nat} (hN:∀tm a,tm.length=m→∃r,N tm a=some r∧M tm a=some r) (hf:∀tm,tm.length=m→∃r,f tm=some r∧g tm=some r∧r.1.length≤m):∀(d i:Nat) (tm:List Int),tm.length=m→∃r,Zbd N f d i tm=some r∧Zbd M g d i tm=some r∧r.1.length≤m
 | 0,_,tm,h=>hf tm h
 | d+1,i,tm,h=>by
  unfold Zbd
  by_cases c:tm.getD i 0=-1
  ·rw[if_pos c,if_pos c]
   obtain⟨r,h1,h2⟩:=hN tm (i:Int) h
   rw[h1,h2,Zi,Zi]
   by_cases c1:r.2.2=true
   ·rw[if_pos c1,if_pos c1]
    by_cases c2:tmB r.1=true
    ·rw[if_pos c2,if_pos c2];exact ZcO hN hf d (i+1) _ (by rw[List.length_set];exact h)
    ·rw[if_neg c2,if_neg c2];exact⟨_,rfl,rfl,Nat.zero_le _⟩
   ·rw[if_neg c1,if_neg c1];exact⟨_,rfl,rfl,Nat.zero_le _⟩
  ·rw[if_neg c,if_neg c];exact ZcO hN hf d (i+1) tm h
theorem isTime_q (x:Int) (w:World):Calls Try.prog 57 #[.int .i64 x] w fun e w'=>e=.returned (.bool (tmB x))∧∃m,w'=w.drewN m:=
 (Za8.calls x (tmB x) w (by
  unfold Za8.f tmB
  by_cases h:x≥0
  ·rw[if_pos h,Ze (show(0:Int)≤x from h),Bool.true_and];congr 1;rw[Bool.eq_iff_iff];simp only[decide_eq_true_eq];omega
  ·rw[if_neg h,Zf (show ¬(0:Int)≤x from h)];rfl)).mono fun _ _ ⟨he,hd⟩=>⟨he,hd.out⟩
abbrev SSt:=List Int×List Int×List Bool×Int
def Zbz (s:SSt) (i:Nat) (e:ZV):SSt:=
 if rb s.2.2.1 e.f0=true∧(rb s.2.2.1 e.f1=false∨wrap64 (rd s.1 e.f0+e.f2)<rd s.1 e.f1) then(s.1.set e.f1.toNat (wrap64 (rd s.1 e.f0+e.f2)),s.2.1.set e.f1.toNat (i:Int),s.2.2.1.set e.f1.toNat true,(i:Int)) else s
def srnd:List ZV→Nat→SSt→SSt
 | [],_,s=>s
 | e :: t,i,s=>srnd t (i+1) (Zbz s i e)
theorem rb_all {N:Nat} {x:Int} (h0:0≤x) (h:x<N):rb (List.replicate N true) x=true:=by
 unfold rb
 rw[List.getD_eq_getElem?_getD,List.getElem?_replicate,if_pos (by omega)];rfl
theorem srelax_all {N i:Nat} {d l:List Int} {ch:Int} {e:ZV} (h:0≤e.f0∧e.f0<N∧0≤e.f1∧e.f1<N):Zbz (d,l,List.replicate N true,ch) i e=((relax (d,l,ch) i e).1,(relax (d,l,ch) i e).2.1,List.replicate N true,(relax (d,l,ch) i e).2.2):=by
 unfold Zbz relax
 dsimp only
 rw[rb_all h.1 h.2.1,rb_all h.2.2.1 h.2.2.2]
 by_cases c:wrap64 (rd d e.f0+e.f2)<rd d e.f1
 ·rw[if_pos ⟨rfl,.inr c⟩,if_pos c]
  simp
 ·rw[if_neg (by simp[c]),if_neg c]
theorem srnd_all {N:Nat}:∀(E:List ZV) (i:Nat) (d l:List Int) (ch:Int),Zav E N→srnd E i (d,l,List.replicate N true,ch)=((rnd E i (d,l,ch)).1,(rnd E i (d,l,ch)).2.1,List.replicate N true,(rnd E i (d,l,ch)).2.2)
 | [],_,_,_,_,_=>rfl
 | e :: t,i,d,l,ch,h=>by
  show srnd t (i+1) (Zbz _ i e)=_
  rw[srelax_all (h e (by simp))]
  rw[srnd_all t (i+1) _ _ _ (fun x hx=>h x (by simp[hx]))]
  rfl
def sknow (s:SSt):KSt:=(s.1,s.2.2.1,decide (0≤s.2.2.2))
theorem srelax_k (s:SSt) (i:Nat) (e:ZV):sknow (Zbz s i e)=ZaM (sknow s) e:=by
 obtain⟨d,l,kn,ch⟩:=s
 unfold Zbz ZaM sknow
 dsimp only
 split
 ·simp
 ·rfl
theorem srnd_k:∀(E:List ZV) (i:Nat) (s:SSt),sknow (srnd E i s)=krnd E (sknow s)
 | [],_,_=>rfl
 | e :: t,i,s=>by
  show sknow (srnd t (i+1) (Zbz s i e))=krnd t (ZaM (sknow s) e)
  rw[srnd_k t,srelax_k]
theorem srelax_len {s:SSt} {i n:Nat} {e:ZV} (h:s.1.length=n∧s.2.1.length=n∧s.2.2.1.length=n):(Zbz s i e).1.length=n∧(Zbz s i e).2.1.length=n∧(Zbz s i e).2.2.1.length=n:=by
 unfold Zbz
 split
 ·simpa using h
 ·exact h
def isf (E:List ZV):Nat→KSt→Option KSt
 | 0,_=>none
 | m+1,s=>let u:=krnd E (s.1,s.2.1,false);if u.2.2=false then some u else isf E m u
def finB (s:KSt):List Int:=(List.range s.1.length).map fun i=>if s.2.1.getD i false=true then min (s.1.getD i 0) 1000000 else 1000000
theorem Zcw (s:KSt):(finB s).length=s.1.length:=by simp[finB]
theorem Zct {E:List ZV}:∀{m:Nat} {s u:KSt},isf E m s=some u→isf E (m+1) s=some u
 | 0,_,_,h=>by cases h
 | m+1,s,u,h=>by
  rw[isf] at h ⊢
  try dsimp only at h ⊢
  split at h
  ·rename_i h1;rw[if_pos h1];exact h
  ·rename_i h1;rw[if_neg h1];exact Zct h
theorem isf_of {E:List ZV}:∀(m:Nat) (s:KSt),(Zbk E (m+1) s).2.2=false→∃u,isf E (m+1) s=some u
 | 0,s,h=>by
  rw[isf]
  try dsimp only
  have h':(krnd E (s.1,s.2.1,false)).2.2=false:=h
  rw[if_pos h']
  exact⟨_,rfl⟩
 | m+1,s,h=>by
  rw[isf]
  try dsimp only
  split
  ·exact⟨_,rfl⟩
  ·exact isf_of m _ h
theorem Zcx {f d:List Int} {j:Nat} (hl:f.length=d.length) (hj:j<d.length):(f.take j ++ d.drop j).set j (f.getD j 0)=f.take (j+1) ++ d.drop (j+1):=by
 rw[Zbo hj 0]
 have:(f.take j).length=j:=by rw[Zj];omega
 have h2:=set_mid (f.take j) (d.getD j 0) (f.getD j 0) (d.drop (j+1))
 rw[this] at h2
 rw[h2,List.take_succ_eq_append_getElem (by omega),List.append_assoc,List.getD_eq_getElem?_getD,Zl (by omega)];rfl
theorem fill_at {f d:List Int} {j:Nat} (hl:f.length=d.length) (hj:j<d.length):(f.take j ++ d.drop j).getD j 0=d.getD j 0:=by
 have:(f.take j).length=j:=by rw[Zj];omega
 rw[List.getD_eq_getElem?_getD,List.getElem?_append_right (by omega),this,Nat.sub_self,List.getElem?_drop,Nat.add_zero,← List.getD_eq_getElem?_getD]
theorem fill_keep {f d:List Int} {j:Nat} (hl:f.length=d.length) (hj:j<d.length) (h:d.getD j 0=f.getD j 0):f.take j ++ d.drop j=f.take (j+1) ++ d.drop (j+1):=by
 rw[← Zcx hl hj,← h]
 have e:=fill_at hl hj
 have:j<(f.take j ++ d.drop j).length:=by simp;omega
 rw[← e,List.getD_eq_getElem?_getD,Zl this]
 simp
theorem finB_at {s:KSt} {j:Nat} (hj:j<s.1.length):(finB s).getD j 0=if s.2.1.getD j false=true then min (s.1.getD j 0) 1000000 else 1000000:=by
 unfold finB
 rw[List.getD_eq_getElem?_getD,List.getElem?_map,List.getElem?_range hj];rfl
theorem isf_c (E:List ZV) (m:Nat) (d:List Int) (kn:List Bool) (c c':Bool):isf E m (d,kn,c)=isf E m (d,kn,c'):=by
 cases m <;> rfl
def sfB (n:Int) (E:List ZV) (a:Int) (m:Nat):List Int×Bool:=match isf E m (kst0 n.toNat a.toNat) with|some u=>(finB u,true)|none=>([],false)
end Go.Proofs.Ythphnhmabieflab.Pr
