/- The texts of one claim, put together by a program of this session. -/
import Derived.WalkSpells
import Derived.Deep.LoopGhost
import Derived.Shelf.Abstract
import Derived.Laws.BitsLemmas
import Derived.Test.YthphnhmabieflabBWic1x1
import Derived.Test.YthphnhmabieflabBWic1x2
import Derived.Test.YthphnhmabieflabBWic1x4
import Derived.Test.YthphnhmabieflabBWic1x5
import Derived.Test.YthphnhmabieflabBWic1x7
namespace Go.Proofs.Ythphnhmabieflab.Pr
open Go.RowKit Go.Proofs.YthphnhmabieflabW.PrintWords Go.Proofs.YthphnhmabieflabW.PrintLast Go.Proofs.YthphnhmabieflabW.PrintMore
attribute [local go_sem] Zap Zan Zax Zaw Zai Zah Zao Zam
set_option linter.unusedVariables false
set_option linter.unusedSimpArgs false
open Go.Proofs.Ythphnhmabieflab.Ni
def ZX.f (k:Nat) (a0_0:Int) (l0_1:List (S84)):Option Bool:=(Z0.f a0_0 l0_1).bind fun b=>if b=true then(ZaK.f k a0_0 l0_1).bind fun g=>(Zaj.f g.1 g.2).bind fun c=>some c.isEmpty else some false
set_option maxHeartbeats 4000000 in
set_option maxRecDepth 100000 in
theorem ZX.calls (k:Nat) (a0_0:Int) (A0_1:Option Addr) (c0_1:Nat) (l0_1:List (S84)) (r:Bool) (w:World) (hr0_1:Kd.C k84 w A0_1 l0_1.length l0_1) (hc0_1:l0_1.length≤c0_1) (h:ZX.f k a0_0 l0_1=some r) :
  Calls Try.prog 16 #[.agg #[.int .i64 a0_0,.slice A0_1 l0_1.length c0_1]] w fun e w'=>e=.returned (.bool r)∧Below w.heap.size w w':=by
 unfold ZX.f at h
 obtain⟨b,hb_,h⟩:=Option.bind_eq_some_iff.1 h
 have HS:=Za fun (W:World) (hb:Below w.heap.size w W)=>Z0.calls a0_0 A0_1 c0_1 l0_1 b W (Kd.C_below hr0_1 hb) hc0_1 hb_
 have B1:=Za (Zq (Below.refl w.heap.size w) (.cells #[.int .i64 a0_0,.slice A0_1 l0_1.length c0_1] 31))
 have K0:=Za (show(w.alloc (.cells #[.int .i64 a0_0,.slice A0_1 l0_1.length c0_1] 31)).cell? ⟨w.heap.size,0,none⟩=some (.int .i64 a0_0) by go_simp)
 have K1:=Za (show(w.alloc (.cells #[.int .i64 a0_0,.slice A0_1 l0_1.length c0_1] 31)).cell? ⟨w.heap.size,1,none⟩=some (.slice A0_1 l0_1.length c0_1) by go_simp)
 have hu:=Try.underlying31
 cases b with
 | false=>
  rw[if_neg (by simp)] at h
  obtain rfl:=Zf h
  clear hr0_1 hc0_1 hb_ h
  go_enter Try.func16,Try.ntmps16
  go_wp2_with (go_at_call 17;refine(HS.out _ B1.out).mono ?_;rintro e w1 ⟨rfl,hb⟩)
  go_ret
  exact⟨rfl,B1.out.trans (hb.mono B1.out.size)⟩
 | true=>
 rw[if_pos rfl] at h
 obtain⟨⟨g1,g2⟩,hg,h⟩:=Option.bind_eq_some_iff.1 h
 obtain⟨c,hc,h⟩:=Option.bind_eq_some_iff.1 h
 obtain rfl:=Zf h
 have HG:=Za fun (W:World) (hb:Below w.heap.size w W)=>ZaK.calls k a0_0 A0_1 c0_1 l0_1 g1 g2 W (Kd.C_below hr0_1 hb) hc0_1 hg
 have HNC:=Za fun (W:World) (A:Option Addr) (cc:Nat) (hr:Kd.C k123 W A g2.length g2) (hcc:g2.length≤cc)=>Zaj.own g1 A cc g2 c W hr hcc hc
 clear hr0_1 hc0_1 hb_ hg hc h
 have hsn:=fun (W:World) (A:Option Addr) (n c:Nat)=>Lib.run_eql_slice_nil (P:=Try.prog) W 22 3 A n c 0 0 Try.underlying22
 cases hce:c with
 | nil=>
  rw[hce] at HNC
  clear hce
  go_enter Try.func16,Try.ntmps16
  go_wp2_with (first|(go_at_call 17;refine(HS.out _ B1.out).mono ?_;rintro e w1 ⟨rfl,hb⟩;have hk0:=Z7 hb K0.out;have hk1:=Z7 hb K1.out;have hlt:=Zb _ _ hk0;have HB:=Za (B1.out.trans (hb.mono B1.out.size));clear hb)|(go_at_call 47;refine(HG.out _ HB.out).mono ?_;rintro e w2 ⟨v1,rfl,hr,hb⟩;obtain⟨Ag,cg,rfl,hcg,hrg⟩:=Kd.R_reads hr;replace HB:=Za (HB.out.trans (hb.mono HB.out.size));have HRG:=Za (And.intro hcg hrg);clear hb hr hcg hrg hk0 hk1 hlt)|(go_at_call 49;refine(HNC.out _ Ag cg HRG.out.2 HRG.out.1).mono ?_;rintro e w3 ⟨v2,rfl,_,hnil,hb⟩;obtain rfl:=hnil.out (by first|rfl|trivial);replace HB:=Za (HB.out.trans (hb.mono HB.out.size));clear hb hnil))
  go_ret
  exact⟨rfl,HB.out⟩
 | cons x t=>
  rw[hce] at HNC
  clear hce
  go_enter Try.func16,Try.ntmps16
  go_wp2_with (first|(go_at_call 17;refine(HS.out _ B1.out).mono ?_;rintro e w1 ⟨rfl,hb⟩;have hk0:=Z7 hb K0.out;have hk1:=Z7 hb K1.out;have hlt:=Zb _ _ hk0;have HB:=Za (B1.out.trans (hb.mono B1.out.size));clear hb)|(go_at_call 47;refine(HG.out _ HB.out).mono ?_;rintro e w2 ⟨v1,rfl,hr,hb⟩;obtain⟨Ag,cg,rfl,hcg,hrg⟩:=Kd.R_reads hr;replace HB:=Za (HB.out.trans (hb.mono HB.out.size));have HRG:=Za (And.intro hcg hrg);clear hb hr hcg hrg hk0 hk1 hlt)|(go_at_call 49;refine(HNC.out _ Ag cg HRG.out.2 HRG.out.1).mono ?_;rintro e w3 ⟨v2,rfl,hr,_,hb⟩;obtain⟨g3,cap3,e3,_⟩:=Kd.R_form hr (by simp);rw[e3];replace HB:=Za (HB.out.trans (hb.mono HB.out.size));clear hb hr e3))
  go_ret
  exact⟨rfl,HB.out⟩
end Go.Proofs.Ythphnhmabieflab.Pr
namespace Go.Proofs.Ythphnhmabieflab.Pr
open Go.RowKit Go.Proofs.YthphnhmabieflabW.PrintWords Go.Proofs.YthphnhmabieflabW.PrintLast Go.Proofs.YthphnhmabieflabW.PrintMore
attribute [local go_sem] Zap Zan Zax Zaw Zai Zah Zao Zam
set_option linter.unusedVariables false
set_option linter.unusedSimpArgs false
def Zbi.f (a0:Int):Option (Bool):=if a0≥0 then(some (decide (a0<1000000))) else(some false)
set_option maxHeartbeats 8000000 in
set_option maxRecDepth 100000 in
theorem Zbi.calls (a0:Int) (r:Bool) (w:World) (h:Zbi.f a0=some r) :
  Calls Try.prog 57 #[.int .i64 a0] w fun e w'=>e=.returned (.bool r)∧Zab w w':=by
 have H:(if a0≥0 then(some (decide (a0<1000000))) else(some false))=some r:=h
 clear h
 by_cases c2:a0≥0
 ·rw[if_pos c2] at H
  have c2b0:decide (0≤a0)=true:=Zd c2
  clear c2
  obtain rfl:=Zf H
  go_enter Try.func57,Try.ntmps57
  go_wp2
  go_ret
  exact⟨by first|rfl|(simp;done)|(simp[*];done),by repeat(first|exact Zab.refl _|apply Zab.step)⟩
 ·rw[if_neg c2] at H
  have c2b0:decide (0≤a0)=false:=Ze c2
  clear c2
  obtain rfl:=Zf H
  go_enter Try.func57,Try.ntmps57
  go_wp2
  go_ret
  exact⟨by first|rfl|(simp;done)|(simp[*];done),by repeat(first|exact Zab.refl _|apply Zab.step)⟩
end Go.Proofs.Ythphnhmabieflab.Pr
namespace Go.Proofs.Ythphnhmabieflab.Pr
open Go.RowKit Go.Proofs.YthphnhmabieflabW.PrintWords Go.Proofs.YthphnhmabieflabW.PrintLast Go.Proofs.YthphnhmabieflabW.PrintMore
attribute [local go_sem] Zap Zan Zax Zaw Zai Zah Zao Zam
set_option linter.unusedVariables false
set_option linter.unusedSimpArgs false
open Go.Proofs.Ythphnhmabieflab.Ni
set_option maxHeartbeats 4000000 in
theorem ZbU.any (p:Int→Bool) (g:Nat) (lb:Array Value) (eg:∀args w,(callFunc g args).run Try.prog w=.ok (.enter g args) w) (A0:Option Addr) (c0:Nat) (l0:List Int) (w:World) (hr0:Kd.C (Kd.int .i64) w A0 l0.length l0)
  (hp:∀(W:World) (x:Int),x∈l0→Below w.heap.size w W→Calls Try.prog g (#[.int .i64 x] ++ lb) W fun e w'=>e=.returned (.bool (p x))∧Below W.heap.size W w') :
  Calls Try.prog 91 #[.slice A0 l0.length c0,.func (.func g) #[] lb] w fun e w'=>e=.returned (.int .i64 (Zbu p l0))∧Below w.heap.size w w':=by
 have HR0:=Za hr0;have HP:=Za hp;clear hr0 hp
 have HL:l0.length≤9223372036854775807:=HR0.out.2.1
 go_enter Try.func91,Try.ntmps91
 go_wp2
 go_loopg [5,8] l0.length (fun gg _ s8 wr=>∃kk:Nat,Aside0 (kk≤l0.length)∧Aside0 (l0.length - kk≤gg)∧s8=.int .i64 kk∧Aside0 (Below w.heap.size w wr)∧Aside0 (∀j y,j<kk→l0[j]? = some y→p y=false))
 case atStart=>exact⟨0,⟨Nat.zero_le _⟩,⟨by omega⟩,rfl,⟨Below.refl _ _⟩,⟨fun j y hj=>absurd hj (Nat.not_lt_zero _)⟩⟩
 case round=>
  obtain⟨kk,HK,HG,rfl,HB,HN⟩:=hrel
  by_cases hlt:kk<l0.length
  ·have hltz:(kk:Int)<(l0.length:Int):=by omega
   obtain⟨ad,e1,hx0⟩:=Kd.at_int HR0.out (kk:Int) (by omega) hltz
   cases e1
   replace hx0:=(HB.out.cell (Zb w _ hx0)).trans hx0
   rw[Int.toNat_natCast] at hx0
   have hxe:l0[kk]? = some (rd l0 (kk:Int)):=by
    unfold rd
    rw[Int.toNat_natCast,List.getD_eq_getElem?_getD,Zk hlt];rfl
   generalize rd l0 (kk:Int)=y at hx0 hxe
   have HX:=Za hxe;clear hxe
   have hcall:=HP.out wr y (List.mem_of_getElem? HX.out) HB.out
   cases hq:p y with
   | true=>
    have HQ:=Za hq
    rw[hq] at hcall
    clear hq
    go_wp2_with (go_at_fn g;refine hcall.mono ?_;rintro e w' ⟨rfl,hb⟩)
    go_ret
    exact⟨by rw[Zcv p l0 kk y HX.out HQ.out HN.out];rfl,HB.out.trans (hb.mono HB.out.size)⟩
   | false=>
    have HQ:=Za hq
    rw[hq] at hcall
    clear hq
    go_wp2_with (go_at_fn g;refine hcall.mono ?_;rintro e w' ⟨rfl,hb⟩)
    go_roundg (l0.length - (kk+1))
    case measure=>have:=HG.out;omega
    case rel=>
     refine⟨kk+1,⟨by omega⟩,⟨by omega⟩,by go_num,⟨HB.out.trans (hb.mono HB.out.size)⟩,⟨fun j y' hj hy=>?_⟩⟩
     by_cases e:j=kk
     ·subst e
      rw[HX.out] at hy
      cases hy
      exact HQ.out
     ·exact HN.out j y' (by omega) hy
  ·have hltz:¬(kk:Int)<(l0.length:Int):=by omega
   have:kk=l0.length:=by have:=HK.out;omega
   subst this
   go_wp2
   go_ret
   exact⟨by rw[Zcf p l0 HN.out];rfl,HB.out⟩
set_option maxHeartbeats 4000000 in
theorem ZbL.any (p:Int→Bool) (g:Nat) (lb:Array Value) (eg:∀args w,(callFunc g args).run Try.prog w=.ok (.enter g args) w) (A0:Option Addr) (c0:Nat) (l0:List Int) (w:World) (hr0:Kd.C (Kd.int .i64) w A0 l0.length l0)
  (hp:∀(W:World) (x:Int),x∈l0→Below w.heap.size w W→Calls Try.prog g (#[.int .i64 x] ++ lb) W fun e w'=>e=.returned (.bool (p x))∧Below W.heap.size W w') :
  Calls Try.prog 58 #[.slice A0 l0.length c0,.func (.func g) #[] lb] w fun e w'=>e=.returned (.bool (l0.any p))∧Below w.heap.size w w':=by
 have HI:=Za (ZbU.any p g lb eg A0 c0 l0 w hr0 hp)
 clear hr0 hp
 have HE:=Za (Zcw p l0)
 go_enter Try.func58,Try.ntmps58
 go_wp2_with (go_at_call 91;refine HI.out.mono ?_;rintro e w' ⟨rfl,hb⟩)
 go_ret
 exact⟨by rw[← HE.out];rfl,hb⟩
end Go.Proofs.Ythphnhmabieflab.Pr
namespace Go.Proofs.Ythphnhmabieflab.Pr
open Go.RowKit Go.Proofs.YthphnhmabieflabW.PrintWords Go.Proofs.YthphnhmabieflabW.PrintLast Go.Proofs.YthphnhmabieflabW.PrintMore
attribute [local go_sem] Zap Zan Zax Zaw Zai Zah Zao Zam
set_option linter.unusedVariables false
set_option linter.unusedSimpArgs false
def Za3.f (a0:Int):Option (Bool):=if a0=(-1) then(some false) else((Zbi.f a0).bind fun t59001=>(some (!t59001)))
set_option maxHeartbeats 8000000 in
set_option maxRecDepth 100000 in
theorem Za3.calls (a0:Int) (r:Bool) (w:World) (h:Za3.f a0=some r) :
  Calls Try.prog 59 #[.int .i64 a0] w fun e w'=>e=.returned (.bool r)∧Zab w w':=by
 have H:(if a0=(-1) then(some false) else((Zbi.f a0).bind fun t59001=>(some (!t59001))))=some r:=h
 clear h
 by_cases c2:a0=(-1)
 ·rw[if_pos c2] at H
  have c2b0:(a0 == (-1))=true:=beq_iff_eq.mpr c2
  have c2b1:(a0 != (-1))=false:=bne_eq_false_iff_eq.mpr c2
  clear c2
  obtain rfl:=Zf H
  go_enter Try.func59,Try.ntmps59
  go_wp2
  go_ret
  exact⟨by first|rfl|(simp;done)|(simp[*];done),by repeat(first|exact Zab.refl _|apply Zab.step)⟩
 ·rw[if_neg c2] at H
  have c2b0:(a0 == (-1))=false:=beq_eq_false_iff_ne.mpr c2
  have c2b1:(a0 != (-1))=true:=bne_iff_ne.mpr c2
  replace H:=Zg H
  obtain⟨t59001,A30,H⟩:=H
  replace H:(some (!t59001))=some r:=H
  have A3:=Za A30;clear A30
  obtain rfl:=Zf H
  go_enter Try.func59,Try.ntmps59
  go_wp2_with (first|(go_at_call 57;(with_reducible refine(Zbi.calls a0 t59001 _ A3.out).mono ?_);rintro e w' ⟨rfl,⟨nd,rfl⟩⟩))
  go_ret
  exact⟨by first|rfl|(simp;done)|(simp[*];done),by repeat(first|exact Zab.refl _|apply Zab.step)⟩
end Go.Proofs.Ythphnhmabieflab.Pr
namespace Go.Proofs.Ythphnhmabieflab.Pr
open Go.RowKit Go.Proofs.YthphnhmabieflabW.PrintWords Go.Proofs.YthphnhmabieflabW.PrintLast Go.Proofs.YthphnhmabieflabW.PrintMore
attribute [local go_sem] Zap Zan Zax Zaw Zai Zah Zao Zam
set_option linter.unusedVariables false
set_option linter.unusedSimpArgs false
open Go.Proofs.Ythphnhmabieflab.Ni
def Zbp (x:Int):Bool:=decide (-1≤x) && decide (x<1000000)
def partB (n:Int) (L:List S84) (tm:List Int):Bool:=Zad n L && (decide ((tm.length:Int)=n) && (decide (tm.getD 0 0=0) && !(tm.any fun x=>!Zbp x)))
def ZaL.f (a0_0:Int) (l0_1:List (S84)) (l1:List Int):Option Bool:=some (partB a0_0 l0_1 l1)
theorem ZaL.t (x:Int):Za3.f x=some (!Zbp x):=by
 unfold Za3.f Zbp
 simp only[Zbi.f]
 by_cases h1:x=-1
 ·subst h1;rfl
 ·by_cases h2:x≥0
  ·by_cases h3:x<1000000
   ·simp[h1,h2,h3];omega
   ·simp[h1,h2,h3]
  ·simp[h1,h2];omega
set_option maxHeartbeats 4000000 in
set_option maxRecDepth 100000 in
theorem ZaL.calls (a0_0:Int) (A0_1:Option Addr) (c0_1:Nat) (l0_1:List (S84)) (A1:Option Addr) (c1:Nat) (l1:List Int) (r:Bool) (w:World) (hr0_1:Kd.C k84 w A0_1 l0_1.length l0_1) (hc0_1:l0_1.length≤c0_1) (hr1:Kd.C (Kd.int .i64) w A1 l1.length l1) (hc1:l1.length≤c1) (h:ZaL.f a0_0 l0_1 l1=some r) :
  Calls Try.prog 24 #[.agg #[.int .i64 a0_0,.slice A0_1 l0_1.length c0_1],.slice A1 l1.length c1] w fun e w'=>e=.returned (.bool r)∧Below w.heap.size w w':=by
 have h':=Zf h
 have HN:=Za h'
 have HS:=Za fun (W:World) (hb:Below w.heap.size w W)=>Z0.calls a0_0 A0_1 c0_1 l0_1 _ W (Kd.C_below hr0_1 hb) hc0_1 rfl
 have B1:=Za (Zq (Below.refl w.heap.size w) (.cells #[.int .i64 a0_0,.slice A0_1 l0_1.length c0_1] 31))
 have K0:=Za (show(w.alloc (.cells #[.int .i64 a0_0,.slice A0_1 l0_1.length c0_1] 31)).cell? ⟨w.heap.size,0,none⟩=some (.int .i64 a0_0) by go_simp)
 have HC:=Za fun (W:World) (hb:Below w.heap.size w W)=>(ZbL.any (fun x=>!Zbp x) 59 #[] (enters_of Try.func59 (by kernel_rfl) rfl) A1 c1 l1 W (Kd.C_below hr1 hb)
  (fun W' x _ _=>(Za3.calls x _ W' (ZaL.t x)).mono fun _ _ ⟨he,hd⟩=>⟨he,by first|exact hd|exact hd.below⟩))
 have hu:=Try.underlying31
 have HR1:=Za hr1
 have hL1:l1.length≤9223372036854775807:=hr1.2.1
 clear hr0_1 hc0_1 hr1 hc1 h h'
 have HA:=Za (show partB a0_0 l0_1 l1=(Zad a0_0 l0_1 && (decide ((l1.length:Int)=a0_0) && (decide (l1.getD 0 0=0) && !(l1.any fun x=>!Zbp x)))) from rfl)
 cases hs:Zad a0_0 l0_1 with
 | false=>
  rw[hs] at HS HA
  have HF:=Za (show false=r by rw[← HN.out,HA.out];rfl)
  clear hs
  go_enter Try.func24,Try.ntmps24
  go_wp2_with (go_at_call 17;refine(HS.out _ B1.out).mono ?_;rintro e w1 ⟨rfl,hb⟩)
  go_ret
  exact⟨by rw[← HF.out];rfl,B1.out.trans (hb.mono B1.out.size)⟩
 | true=>
 rw[hs] at HS HA
 have hpos:1≤a0_0:=by
  unfold Zad at hs
  simp only[Bool.and_eq_true,Bool.not_eq_true',decide_eq_false_iff_not] at hs
  omega
 have HPOS:=Za hpos;clear hs hpos
 by_cases hl:(l1.length:Int)=a0_0
 case neg=>
  have hd:((l1.length:Int) != a0_0)=true:=by simpa using hl
  have HF:=Za (show false=r by rw[← HN.out,HA.out,Ze hl];rfl)
  clear hl
  go_enter Try.func24,Try.ntmps24
  go_wp2_with (go_at_call 17;refine(HS.out _ B1.out).mono ?_;rintro e w1 ⟨rfl,hb⟩;have hk0:=Z7 hb K0.out;have hlt:=Zb _ _ hk0)
  go_ret
  exact⟨by rw[← HF.out];rfl,B1.out.trans (hb.mono B1.out.size)⟩
 have hd:((l1.length:Int) != a0_0)=false:=by simpa using hl
 have h0z:(0:Int)<(l1.length:Int):=by have:=HPOS.out;omega
 rw[Zd hl] at HA
 clear hl
 obtain⟨ad,e1,hx⟩:=Kd.at_int HR1.out 0 (Int.le_refl 0) h0z
 cases e1
 replace hx:w.cell? (ad.add 0)=some (.int .i64 (rd l1 0)):=hx
 rw[show rd l1 0=l1.getD 0 0 from rfl,Addr.add_zero'] at hx
 have h0n:0<l1.length:=by omega
 have HX:=Za hx;clear hx
 generalize l1.getD 0 0=z at HX HA
 by_cases hz:z=0
 case neg=>
  have hzd:(z != 0)=true:=by simpa using hz
  have HF:=Za (show false=r by rw[← HN.out,HA.out,Ze hz];rfl)
  clear hz
  go_enter Try.func24,Try.ntmps24
  go_wp2_with (go_at_call 17;refine(HS.out _ B1.out).mono ?_;rintro e w1 ⟨rfl,hb⟩;have hk0:=Z7 hb K0.out;have hlt:=Zb _ _ hk0;have hx1:=Z7 (B1.out.trans (hb.mono B1.out.size)) HX.out)
  go_ret
  exact⟨by rw[← HF.out];rfl,B1.out.trans (hb.mono B1.out.size)⟩
 subst hz
 have HF:=Za (show(!(l1.any fun x=>!Zbp x))=r by rw[← HN.out,HA.out];simp)
 generalize l1.any (fun x=>!Zbp x)=q at HC HF
 go_enter Try.func24,Try.ntmps24
 go_wp2_with (first|(go_at_call 17;refine(HS.out _ B1.out).mono ?_;rintro e w1 ⟨rfl,hb⟩;have hk0:=Z7 hb K0.out;have hlt:=Zb _ _ hk0;have hx1:=Z7 (B1.out.trans (hb.mono B1.out.size)) HX.out;have HB:=Za (B1.out.trans (hb.mono B1.out.size));clear hb)|(go_at_call 58;refine(HC.out _ HB.out).mono ?_;rintro e w2 ⟨rfl,hb⟩))
 go_ret
 exact⟨by rw[← HF.out];rfl,HB.out.trans (hb.mono HB.out.size)⟩
end Go.Proofs.Ythphnhmabieflab.Pr
namespace Go.Proofs.Ythphnhmabieflab.Pr
open Go.RowKit Go.Proofs.YthphnhmabieflabW.PrintWords Go.Proofs.YthphnhmabieflabW.PrintLast Go.Proofs.YthphnhmabieflabW.PrintMore
attribute [local go_sem] Zap Zan Zax Zaw Zai Zah Zao Zam
set_option linter.unusedVariables false
set_option linter.unusedSimpArgs false
def ZaJ.f (l0:List S84):Option (List S84):=if l0.length<4398046511104 then some l0 else none
set_option maxHeartbeats 4000000 in
set_option maxRecDepth 100000 in
theorem ZaJ.calls (A0:Option Addr) (c0:Nat) (l0:List S84) (r:List S84) (w:World) (hr0:Kd.C k84 w A0 l0.length l0) (hc0:l0.length≤c0) (h:ZaJ.f l0=some r) :
  Calls Try.prog 54 #[.slice A0 l0.length c0] w fun e w'=>∃v0_:Value,e=.returned (v0_)∧Kd.R k84 84 w' w.heap.size (fun _=>True) v0_ r∧Below w.heap.size w w':=by
 unfold ZaJ.f at h
 by_cases hl:l0.length<4398046511104
 case neg=>rw[if_neg hl] at h;exact absurd h (by simp)
 rw[if_pos hl] at h
 obtain rfl:=Zf h
 have HR0:=Za hr0;have HLM:=Za hl
 have hsn:=fun (W:World) (A:Option Addr) (n c:Nat)=>Lib.run_eql_slice_nil (P:=Try.prog) W 29 84 A n c 0 0 Try.underlying29
 clear hr0 hc0 hl h
 cases A0 with
 | none=>
  have hn:l0=[]:=by
   cases l0 with
   | nil=>rfl
   | cons a l=>
    obtain⟨ad,he,_⟩:=HR0.out.2.2 (by simp)
    cases he
  have HN:=Za hn;clear hn
  generalize hq:l0.length=n
  clear hq
  go_enter Try.func54,Try.ntmps54
  go_wp2
  go_ret
  exact⟨_,rfl,by rw[HN.out];exact Kd.R_nil _ _ _ _ _,Below.refl _ _⟩
 | some A0=>
  go_enter Try.func54,Try.ntmps54
  go_wp2_with (first|((with_reducible refine ZP (N:=5) rfl ?_);refine Kd.R_lit k84 _ 84 ?hg (N:=5) ?hd (xs:=([]:List S84)) (inner:=[]) (ok:=fun _=>True) (okp:=fun _=>True) ?hr ?hp (fun _ hk=>hk) trivial (Below.refl _ _) (Nat.le_refl _) (by simp) ?_;(case hd=>rfl);(case hg=>rfl);(case hr=>first|(go_simp;done)|(go_simp;rfl));(case hp=>exact(Reps.none _ _));intro v1 w3 ho hb _ _;have HO:=Za ho;have HB:=Za hb;clear ho hb)|((with_reducible refine ZaD (b:=.append) (xs:=#[.tmp 5,.tmp 6]) rfl ?_);at_builtin;refine Kd.R_append_rows k84 (w0:=w) w.heap.size rfl (.tmp 5) (.tmp 6) 29 84 (.agg #[(.int .i64 0),(.int .i64 0),(.int .i64 0),(.int .i64 0)]) 32 rfl Try.underlying29 info84 rfl (by decide) (by omega) v1 [] l0 _ _ _ (fun _=>True) (fun _=>False) rfl rfl ?aO ?aR (fun _ _ h=>h) (fun _ h=>h.elim) ?aF ?aB ?aS ?aL ?_;(case aR=>exact Kd.C_below HR0.out HB.out);(case aB=>exact HB.out);(case aF=>exact(fun _ _=>trivial));(case aO=>exact HO.out);(case aS=>exact HB.out.size);(case aL=>have:=HLM.out;simp only[List.length_nil];omega);intro v2 w5 ho hb hg hat;have HO2:=Za ho;have HB2:=Za hb;clear ho hb hg hat))
  go_ret
  exact⟨_,rfl,HO2.out,HB2.out⟩
def ZT.l0:Nat→List Int→Int→Int→Int→List (S84)→Option (Int×(List (S84))×Bool)
 | 0,_,_,_,_,_=>none
 | k+1,x20,x21,x22,x18008000,x18008001=>if x22<x21 then(if 0≤x22 then(if x22<(x20.length:Int) then(if x22 > 0 then(if (rd x20 x22)=(-1) then(ZT.l0 k x20 x21 (wrap64 (x22+1)) x18008000 x18008001) else(if x18008001.length<4398046511104 then(ZT.l0 k x20 x21 (wrap64 (x22+1)) x18008000 (x18008001 ++ [(⟨0,x22,(⟨rd x20 x22,rd x20 x22⟩:S35)⟩:S84)])) else(none))) else(ZT.l0 k x20 x21 (wrap64 (x22+1)) x18008000 x18008001)) else(none)) else(none)) else((Z0.f x18008000 x18008001).bind fun t18012=>(if t18012=true then(some (x18008000,x18008001,true)) else(some (0,([]:List (S84)),false))))
def ZT.f (k:Nat) (a0_0:Int) (l0_1:List (S84)) (l1:List Int):Option (Int×(List (S84))×Bool):=(ZaL.f a0_0 l0_1 l1).bind fun t18003=>(if t18003=true then((ZaJ.f l0_1).bind fun t18004=>(ZT.l0 k l1 (l1.length:Int) 0 a0_0 t18004)) else(some (0,([]:List (S84)),false)))
def ZT.T3:Bool×List (List Nat×List Nat):=(true,[([],[]),([0],[0]),([],[]),([2],[2]),([3],[3]),([1,4],[1,4]),([],[]),([6,5,4,0,1,2,3,4,5,6],[5,6])])
def ZT.B3:List Nat:=[0,1,0,4,12,31,0,127]
theorem ZT.tab3:rtab .any (opsOf Try.f18 3)=ZT.T3:=by kernel_rfl
theorem ZT.bits3:Za5 ZT.T3.2 ZT.B3=true:=by kernel_rfl
set_option maxHeartbeats 8000000 in
set_option maxRecDepth 100000 in
theorem ZT.calls (k:Nat) (a0_0:Int) (A0_1:Option Addr) (c0_1:Nat) (l0_1:List (S84)) (A1:Option Addr) (c1:Nat) (l1:List Int) (r1:Int) (r2:List (S84)) (r3:Bool) (w:World) (hr0_1:Kd.C k84 w A0_1 l0_1.length l0_1) (hc0_1:l0_1.length≤c0_1) (hr1:Kd.C (Kd.int .i64) w A1 l1.length l1) (hc1:l1.length≤c1) (h:ZT.f k a0_0 l0_1 l1=some (r1,r2,r3)) :
  Calls Try.prog 18 #[.agg #[.int .i64 a0_0,.slice A0_1 l0_1.length c0_1],.slice A1 l1.length c1] w fun e w'=>∃v1_:Value,e=.returned (.tuple #[.agg #[.int .i64 r1,v1_],.bool r3])∧Kd.R k84 84 w' w.heap.size (fun _=>True) v1_ r2∧Below w.heap.size w w':=by
 have hu31:=Try.underlying31
 have hu35:=Try.underlying35
 have hu84:=Try.underlying84
 have HR0_1:=Za hr0_1;have HC0_1:=Za hc0_1;clear hr0_1 hc0_1;have HR1:=Za hr1;have HC1:=Za hc1;clear hr1 hc1
 have HB:=Za (Below.refl w.heap.size w)
 have H:((ZaL.f a0_0 l0_1 l1).bind fun t18003=>(if t18003=true then((ZaJ.f l0_1).bind fun t18004=>(ZT.l0 k l1 (l1.length:Int) 0 a0_0 t18004)) else(some (0,([]:List (S84)),false))))=some (r1,r2,r3):=h
 clear h
 replace H:=Zg H
 obtain⟨t18003,A30,H⟩:=H
 replace H:(if t18003=true then((ZaJ.f l0_1).bind fun t18004=>(ZT.l0 k l1 (l1.length:Int) 0 a0_0 t18004)) else(some (0,([]:List (S84)),false)))=some (r1,r2,r3):=H
 have A3:=Za A30;clear A30
 by_cases c4:t18003=true
 ·subst c4
  have H1:((ZaJ.f l0_1).bind fun t18004=>(ZT.l0 k l1 (l1.length:Int) 0 a0_0 t18004))=some (r1,r2,r3):=by rw[if_pos rfl] at H;exact H
  clear H
  have H:=H1
  clear H1
  replace H:=Zg H
  obtain⟨t18004,A50,H⟩:=H
  replace H:(ZT.l0 k l1 (l1.length:Int) 0 a0_0 t18004)=some (r1,r2,r3):=H
  have A5:=Za A50;clear A50
  have H':=Za H
  clear H
  go_enter Try.func18,Try.ntmps18
  try go_wp2_with (first|((with_reducible refine ZP (N:=2) rfl ?_);refine ZM ?hg (N:=2) ?hd (cs:=#[.int .i64 a0_0,.slice A0_1 l0_1.length c0_1]) (t:=31) ?hr ?_;(case hd=>rfl);(case hg=>rfl);(case hr=>first|(go_simp;done)|(go_simp;rfl));intro gb18001 hg w6 hbox hb;have BK18001:=Za (hbox);have GW18001:=Za ((by rw[hg];exact(Zv (by repeat(first|(with_reducible first|exact HB.out|apply Zq|apply Zl|apply Zr)|exact HB.out))):w.heap.size≤gb18001));have GE18001:=Za ((by rw[hg];exact(Zv (by repeat(first|(with_reducible first|exact HB.out|apply Zq|apply Zl|apply Zr)|exact HB.out))):w.heap.size≤gb18001));replace HB:=Za (Zw (by repeat(first|(with_reducible first|exact HB.out|apply Zq|apply Zl|apply Zr)|exact HB.out)) hb);clear hb hbox hg)|((with_reducible refine ZP (N:=4) rfl ?_);refine ZM ?hg (N:=4) ?hd (cs:=#[.int .i64 0,.slice none 0 0]) (t:=31) ?hr ?_;(case hd=>rfl);(case hg=>rfl);(case hr=>first|(go_simp;done)|(go_simp;rfl));intro gb18002 hg w7 hbox hb;have BK18002:=Za (hbox);have GW18002:=Za ((by rw[hg];exact(Zv (by repeat(first|(with_reducible first|exact HB.out|apply Zq|apply Zl|apply Zr|refine Zo ?_ GE18001.out)|exact HB.out))):w.heap.size≤gb18002));have GE18002:=Za ((by rw[hg];exact(Zv (by repeat(first|(with_reducible first|exact HB.out|apply Zq|apply Zl|apply Zr|refine Zo ?_ GE18001.out)|exact HB.out))):w.heap.size≤gb18002));have NB18001_18002:=Za ((by rw[hg];exact Nat.ne_of_lt (ZL (g:=gb18001) (o:=.cells #[.int .i64 a0_0,.slice A0_1 l0_1.length c0_1] 31 (0,0)) (by(with_reducible repeat(first|refine Zn ?_ _|refine Zp ?_|refine Zm ?_ _));exact BK18001.out)):gb18001≠gb18002));have NB18002_18001:=Za ((by rw[hg];exact Nat.ne_of_gt (ZL (g:=gb18001) (o:=.cells #[.int .i64 a0_0,.slice A0_1 l0_1.length c0_1] 31 (0,0)) (by(with_reducible repeat(first|refine Zn ?_ _|refine Zp ?_|refine Zm ?_ _));exact BK18001.out)):gb18002≠gb18001));replace BK18001:=Za (Zx (g:=gb18001) (o:=.cells #[.int .i64 a0_0,.slice A0_1 l0_1.length c0_1] 31 (0,0)) (by(with_reducible repeat(first|refine Zn ?_ _|refine Zp ?_|refine Zm ?_ _));exact BK18001.out) hb);replace HB:=Za (Zw (by repeat(first|(with_reducible first|exact HB.out|apply Zq|apply Zl|apply Zr|refine Zo ?_ GE18001.out)|exact HB.out)) hb);clear hb hbox hg;have hnb8:=NB18001_18002.out;have hnc8:=NB18002_18001.out;have hcz9_0:w7.cell? ⟨gb18001,0,none⟩=some (.int .i64 a0_0):=(Zt BK18001.out 0).trans rfl;have hcz9_1:w7.cell? ⟨gb18001,1,none⟩=some (.slice A0_1 l0_1.length c0_1):=(Zt BK18001.out 1).trans rfl;have hfz9_0:=Zu BK18001.out 0;have hfz9_1:=Zu BK18001.out 1)|((with_reducible refine ZO (f:=24) rfl ?_);refine Z6 (some 11) rfl rfl Try.func24 (by kernel_rfl) rfl #[.agg #[.int .i64 a0_0,.slice A0_1 l0_1.length c0_1],.slice A1 l1.length c1] rfl (by(try simp only[List.map_toArray,List.map_cons,List.map_nil]);first|done|rfl|(simp only[Zj,Zi];rfl)) ?_;(with_reducible refine(ZaL.calls a0_0 _ _ l0_1 _ _ l1 true _ ?side1 ?side2 ?side3 ?side4 A3.out).mono ?_);(case side1=>repeat(first|exact(Kd.C_below HR0_1.out HB.out)|(with_reducible refine Kd.C_alloc ?_ _)|(with_reducible refine Kd.C_drewN ?_ _)|(with_reducible refine Kd.C_drew ?_)));(case side2=>exact HC0_1.out);(case side3=>repeat(first|exact(Kd.C_below HR1.out HB.out)|(with_reducible refine Kd.C_alloc ?_ _)|(with_reducible refine Kd.C_drewN ?_ _)|(with_reducible refine Kd.C_drew ?_)));(case side4=>exact HC1.out);rintro e w10 ⟨rfl,hb⟩;refine⟨_,rfl,?_⟩;replace BK18001:=Za (Zx (g:=gb18001) (o:=.cells #[.int .i64 a0_0,.slice A0_1 l0_1.length c0_1] 31 (0,0)) (by(with_reducible repeat(first|refine Zn ?_ _|refine Zp ?_|refine Zm ?_ _));exact BK18001.out) hb);replace BK18002:=Za (Zx (g:=gb18002) (o:=.cells #[.int .i64 0,.slice none 0 0] 31 (0,0)) (by(with_reducible repeat(first|refine Zn ?_ _|refine Zp ?_|refine Zm ?_ _));exact BK18002.out) hb);replace HB:=Za (Zw (by repeat(first|(with_reducible first|exact HB.out|apply Zq|apply Zl|apply Zr|refine Zo ?_ GE18001.out|refine Zo ?_ GE18002.out)|exact HB.out)) hb);(try clear hb);(try clear hb2);(try clear hk);(try clear hi)))
  replace BK18001:=Za (Zp BK18001.out);replace BK18002:=Za (Zp BK18002.out);replace HB:=Za (Zr HB.out)
  refine Zbl (n:=8) (S:=fun w'=>w'.cell? ⟨gb18001,0,none⟩=some (.int .i64 a0_0)∧w'.cell? ⟨gb18001,1,none⟩=some (.slice A0_1 l0_1.length c0_1)) (ds:=[]) #[false,false,false,false,false,false,false,false] (by kernel_rfl) rfl rfl ⟨(Zt BK18001.out 0).trans rfl,(Zt BK18001.out 1).trans rfl⟩ (fun hHeld=>?_);refine Za7 ZT.tab3 ZT.bits3 (fun HT_ HW_=>?_)
  generalize w10.drew=w11 at BK18001 BK18002 HB hHeld ⊢
  refine Z1 (i:=0) (N:=some 14) (v:=?_) (a':=?_) #[true,false,false,false,false,false,false,false] rfl rfl (ZW HT_.out (by kernel_rfl)) (fun _ _ _ h=>h) (Or.inl ⟨by rfl,?_⟩) ?_ ?_
  rotate_left
  ·intro w'
   go_simp
   with_reducible rfl
  rotate_left
  ·simp only[Act.put,List.setIfInBounds_toArray,List.set_cons_zero,List.set_cons_succ,ZH,ZI]
   rfl
  refine Z1 (i:=2) (N:=some 16) (v:=?_) (a':=?_) #[true,false,true,false,false,false,false,false] rfl rfl (ZW HT_.out (by kernel_rfl)) (fun _ _ _ h=>h) (Or.inl ⟨by rfl,?_⟩) ?_ ?_
  rotate_left
  ·intro w'
   go_simp
   with_reducible rfl
  rotate_left
  ·simp only[Act.put,List.setIfInBounds_toArray,List.set_cons_zero,List.set_cons_succ,ZH,ZI]
   rfl
  refine take_ (i:=1) (N:=some 15) (v:=?_) (a':=?_) #[true,true,true,false,false,false,false,false] rfl rfl (ZaG HT_.out HW_.out (by kernel_rfl)) (fun _ _ _ h=>h) (Or.inl ⟨by rfl,?_⟩) hHeld ?_ ?_
  rotate_left
  ·rintro w' ⟨s0,s1⟩
   go_simp
   with_reducible rfl
  rotate_left
  ·simp only[Act.put,List.setIfInBounds_toArray,List.set_cons_zero,List.set_cons_succ,ZH,ZI]
   rfl
  refine take_ (i:=3) (N:=some 17) (v:=?_) (a':=?_) #[true,true,true,true,false,false,false,false] rfl rfl (ZaG HT_.out HW_.out (by kernel_rfl)) (fun _ _ _ h=>h) (Or.inl ⟨by rfl,?_⟩) hHeld ?_ ?_
  rotate_left
  ·rintro w' ⟨s0,s1⟩
   go_simp
   with_reducible rfl
  rotate_left
  ·simp only[Act.put,List.setIfInBounds_toArray,List.set_cons_zero,List.set_cons_succ,ZH,ZI]
   rfl
  refine join_ (σ:=Value×Nat) 1 #[true,true,true,true,true,true,true,false] (fun s_=>[(18,s_.1),(6,.pointer (some ⟨s_.2,0,none⟩)),(19,.agg #[.int .i64 a0_0,s_.1])]) (fun s_ w'=>(w'.cell? ⟨gb18001,0,none⟩=some (.int .i64 a0_0)∧w'.cell? ⟨gb18001,1,none⟩=some (.slice A0_1 l0_1.length c0_1))∧(Kd.R k84 84 w' w.heap.size (fun _=>True) s_.1 t18004)∧(w'.heap[gb18001]? = some (.cells #[.int .i64 a0_0,.slice A0_1 l0_1.length c0_1] 31 (0,0)))∧(w'.heap[gb18002]? = some (.cells #[.int .i64 0,.slice none 0 0] 31 (0,0)))∧(w'.heap[s_.2]? = some (.cells #[.int .i64 0,.slice none 0 0] 31 (0,0)))∧(w.heap.size≤s_.2)∧(w.heap.size≤s_.2)∧(gb18001≠s_.2)∧(s_.2≠gb18001)∧(gb18002≠s_.2)∧(s_.2≠gb18002)∧(Below w.heap.size w w')) ?_ ?_
  rotate_left
  ·intro hCont
   refine two_ (i:=4) (j:=6) (Ni:=some 18) (Nj:=some 6) #[true,true,true,true,true,false,false,false] #[true,true,true,true,false,false,true,false] rfl rfl rfl rfl (two_of HT_.out (by kernel_rfl)) (by decide) (by decide) (fun K hK=>?_) (fun K hK=>?_)
   ·skip
    refine ZaT Try.func54 (by kernel_rfl) rfl #[.slice A0_1 l0_1.length c0_1] (by rfl) rfl rfl (by(try simp only[List.map_toArray,List.map_cons,List.map_nil]);first|done|rfl|(simp only[Zj,Zi];rfl)) ?_
    with_reducible refine(ZaJ.calls _ _ l0_1 t18004 _ ?side1 ?side2 A5.out).mono ?_
    (case side1=>repeat(first|exact(Kd.C_below HR0_1.out HB.out)|(with_reducible refine Kd.C_alloc ?_ _)|(with_reducible refine Kd.C_drewN ?_ _)|(with_reducible refine Kd.C_drew ?_)))
    (case side2=>exact HC0_1.out)
    rintro e w12 ⟨v18005,rfl,ho0,hb⟩
    refine⟨_,rfl,?_⟩
    have HO18006:=Za (Kd.R_lower ho0 (Zv (by repeat(first|(with_reducible first|exact HB.out|apply Zq|apply Zl|apply Zr|refine Zo ?_ GE18001.out|refine Zo ?_ GE18002.out)|exact HB.out))));replace BK18001:=Za (Zx (g:=gb18001) (o:=.cells #[.int .i64 a0_0,.slice A0_1 l0_1.length c0_1] 31 (0,0)) (by(with_reducible repeat(first|refine Zn ?_ _|refine Zp ?_|refine Zm ?_ _));exact BK18001.out) hb);replace BK18002:=Za (Zx (g:=gb18002) (o:=.cells #[.int .i64 0,.slice none 0 0] 31 (0,0)) (by(with_reducible repeat(first|refine Zn ?_ _|refine Zp ?_|refine Zm ?_ _));exact BK18002.out) hb);replace HB:=Za (Zw (by repeat(first|(with_reducible first|exact HB.out|apply Zq|apply Zl|apply Zr|refine Zo ?_ GE18001.out|refine Zo ?_ GE18002.out)|exact HB.out)) hb)
    (try clear hb)
    (try clear hb2)
    (try clear hk)
    (try clear hi)
    (try clear ho0)
    obtain⟨Ao13,co13,eo13⟩:=Kd.R_slice HO18006.out
    (first|subst eo13|(injection eo13 with f1_ f2_ f3_;have f4_:=f1_.symm;have f5_:=f3_.symm;clear f1_ f2_ f3_;subst f4_;subst f5_))
    refine hK.out _ _ ⟨(Zt BK18001.out 0).trans rfl,(Zt BK18001.out 1).trans rfl⟩ (fun hHeld=>?_)
    clear hK K
    refine Zae (a':=?_) ?_ ?_
    rotate_left
    ·show Act.put _ (some 18) _=_
     simp only[Act.put,List.setIfInBounds_toArray,List.set_cons_zero,List.set_cons_succ,ZH,ZI]
     rfl
    refine Z1 (i:=5) (N:=some 19) (v:=?_) (a':=?_) #[true,true,true,true,true,true,false,false] rfl rfl (ZW HT_.out (by kernel_rfl)) (fun _ _ _ h=>h) (Or.inl ⟨by rfl,?_⟩) ?_ ?_
    rotate_left
    ·intro w'
     go_simp
     with_reducible rfl
    rotate_left
    ·simp only[Act.put,List.setIfInBounds_toArray,List.set_cons_zero,List.set_cons_succ,ZH,ZI]
     rfl
    refine one_ (i:=6) (N:=some 6) #[true,true,true,true,true,true,true,false] rfl rfl (Zas HT_.out (by kernel_rfl)) (by decide) (fun K hK=>?_)
    refine box_step ?hg (N:=6) ?hd (cs:=#[.int .i64 0,.slice none 0 0]) (t:=31) ?hr ?_;(case hd=>rfl);(case hg=>rfl);(case hr=>first|(go_simp;done)|(go_simp;rfl))
    intro gb18007 hg w14 hbox hb
    have BK18007:=Za (hbox);have GW18007:=Za ((by rw[hg];exact(Zv (by repeat(first|(with_reducible first|exact HB.out|apply Zq|apply Zl|apply Zr|refine Zo ?_ GE18001.out|refine Zo ?_ GE18002.out)|exact HB.out))):w.heap.size≤gb18007));have GE18007:=Za ((by rw[hg];exact(Zv (by repeat(first|(with_reducible first|exact HB.out|apply Zq|apply Zl|apply Zr|refine Zo ?_ GE18001.out|refine Zo ?_ GE18002.out)|exact HB.out))):w.heap.size≤gb18007));have NB18001_18007:=Za ((by rw[hg];exact Nat.ne_of_lt (ZL (g:=gb18001) (o:=.cells #[.int .i64 a0_0,.slice A0_1 l0_1.length c0_1] 31 (0,0)) (by(with_reducible repeat(first|refine Zn ?_ _|refine Zp ?_|refine Zm ?_ _));exact BK18001.out)):gb18001≠gb18007));have NB18007_18001:=Za ((by rw[hg];exact Nat.ne_of_gt (ZL (g:=gb18001) (o:=.cells #[.int .i64 a0_0,.slice A0_1 l0_1.length c0_1] 31 (0,0)) (by(with_reducible repeat(first|refine Zn ?_ _|refine Zp ?_|refine Zm ?_ _));exact BK18001.out)):gb18007≠gb18001));have NB18002_18007:=Za ((by rw[hg];exact Nat.ne_of_lt (ZL (g:=gb18002) (o:=.cells #[.int .i64 0,.slice none 0 0] 31 (0,0)) (by(with_reducible repeat(first|refine Zn ?_ _|refine Zp ?_|refine Zm ?_ _));exact BK18002.out)):gb18002≠gb18007));have NB18007_18002:=Za ((by rw[hg];exact Nat.ne_of_gt (ZL (g:=gb18002) (o:=.cells #[.int .i64 0,.slice none 0 0] 31 (0,0)) (by(with_reducible repeat(first|refine Zn ?_ _|refine Zp ?_|refine Zm ?_ _));exact BK18002.out)):gb18007≠gb18002));replace HO18006:=Za (Kd.R_below (by(with_reducible repeat(first|apply Kd.R_alloc|apply Kd.R_drewN|apply Kd.R_drew));exact HO18006.out) hb);replace BK18001:=Za (Zx (g:=gb18001) (o:=.cells #[.int .i64 a0_0,.slice A0_1 l0_1.length c0_1] 31 (0,0)) (by(with_reducible repeat(first|refine Zn ?_ _|refine Zp ?_|refine Zm ?_ _));exact BK18001.out) hb);replace BK18002:=Za (Zx (g:=gb18002) (o:=.cells #[.int .i64 0,.slice none 0 0] 31 (0,0)) (by(with_reducible repeat(first|refine Zn ?_ _|refine Zp ?_|refine Zm ?_ _));exact BK18002.out) hb);replace HB:=Za (Zw (by repeat(first|(with_reducible first|exact HB.out|apply Zq|apply Zl|apply Zr|refine Zo ?_ GE18001.out|refine Zo ?_ GE18002.out)|exact HB.out)) hb)
    clear hb hbox hg
    refine hK.out _ _ ⟨(Zt BK18001.out 0).trans rfl,(Zt BK18001.out 1).trans rfl⟩ (fun hHeld=>?_)
    clear hK K
    refine Zae (a':=?_) ?_ ?_
    rotate_left
    ·show Act.put _ (some 6) _=_
     simp only[Act.put,List.setIfInBounds_toArray,List.set_cons_zero,List.set_cons_succ,ZH,ZI]
     rfl
    exact Zae (by simp only[Zba,Act.put,List.setIfInBounds_toArray,List.set_cons_zero,List.set_cons_succ]) (hCont (.slice Ao13 t18004.length co13,gb18007) _ ⟨hHeld,(by(with_reducible repeat(first|apply Kd.R_alloc|apply Kd.R_drewN|apply Kd.R_drew));exact HO18006.out),(by(with_reducible repeat(first|refine Zn ?_ _|refine Zp ?_|refine Zm ?_ _));exact BK18001.out),(by(with_reducible repeat(first|refine Zn ?_ _|refine Zp ?_|refine Zm ?_ _));exact BK18002.out),(by(with_reducible repeat(first|refine Zn ?_ _|refine Zp ?_|refine Zm ?_ _));exact BK18007.out),GW18007.out,GE18007.out,NB18001_18007.out,NB18007_18001.out,NB18002_18007.out,NB18007_18002.out,(by repeat(first|(with_reducible first|exact HB.out|apply Zq|apply Zl|apply Zr|refine Zo ?_ GE18001.out|refine Zo ?_ GE18002.out|refine Zo ?_ GE18007.out)|exact HB.out))⟩)
   ·skip
    refine box_step ?hg (N:=6) ?hd (cs:=#[.int .i64 0,.slice none 0 0]) (t:=31) ?hr ?_;(case hd=>rfl);(case hg=>rfl);(case hr=>first|(go_simp;done)|(go_simp;rfl))
    intro gb18007 hg w12 hbox hb
    have BK18007:=Za (hbox);have GW18007:=Za ((by rw[hg];exact(Zv (by repeat(first|(with_reducible first|exact HB.out|apply Zq|apply Zl|apply Zr|refine Zo ?_ GE18001.out|refine Zo ?_ GE18002.out)|exact HB.out))):w.heap.size≤gb18007));have GE18007:=Za ((by rw[hg];exact(Zv (by repeat(first|(with_reducible first|exact HB.out|apply Zq|apply Zl|apply Zr|refine Zo ?_ GE18001.out|refine Zo ?_ GE18002.out)|exact HB.out))):w.heap.size≤gb18007));have NB18001_18007:=Za ((by rw[hg];exact Nat.ne_of_lt (ZL (g:=gb18001) (o:=.cells #[.int .i64 a0_0,.slice A0_1 l0_1.length c0_1] 31 (0,0)) (by(with_reducible repeat(first|refine Zn ?_ _|refine Zp ?_|refine Zm ?_ _));exact BK18001.out)):gb18001≠gb18007));have NB18007_18001:=Za ((by rw[hg];exact Nat.ne_of_gt (ZL (g:=gb18001) (o:=.cells #[.int .i64 a0_0,.slice A0_1 l0_1.length c0_1] 31 (0,0)) (by(with_reducible repeat(first|refine Zn ?_ _|refine Zp ?_|refine Zm ?_ _));exact BK18001.out)):gb18007≠gb18001));have NB18002_18007:=Za ((by rw[hg];exact Nat.ne_of_lt (ZL (g:=gb18002) (o:=.cells #[.int .i64 0,.slice none 0 0] 31 (0,0)) (by(with_reducible repeat(first|refine Zn ?_ _|refine Zp ?_|refine Zm ?_ _));exact BK18002.out)):gb18002≠gb18007));have NB18007_18002:=Za ((by rw[hg];exact Nat.ne_of_gt (ZL (g:=gb18002) (o:=.cells #[.int .i64 0,.slice none 0 0] 31 (0,0)) (by(with_reducible repeat(first|refine Zn ?_ _|refine Zp ?_|refine Zm ?_ _));exact BK18002.out)):gb18007≠gb18002));replace BK18001:=Za (Zx (g:=gb18001) (o:=.cells #[.int .i64 a0_0,.slice A0_1 l0_1.length c0_1] 31 (0,0)) (by(with_reducible repeat(first|refine Zn ?_ _|refine Zp ?_|refine Zm ?_ _));exact BK18001.out) hb);replace BK18002:=Za (Zx (g:=gb18002) (o:=.cells #[.int .i64 0,.slice none 0 0] 31 (0,0)) (by(with_reducible repeat(first|refine Zn ?_ _|refine Zp ?_|refine Zm ?_ _));exact BK18002.out) hb);replace HB:=Za (Zw (by repeat(first|(with_reducible first|exact HB.out|apply Zq|apply Zl|apply Zr|refine Zo ?_ GE18001.out|refine Zo ?_ GE18002.out)|exact HB.out)) hb)
    clear hb hbox hg
    refine hK.out _ _ ⟨(Zt BK18001.out 0).trans rfl,(Zt BK18001.out 1).trans rfl⟩ (fun hHeld=>?_)
    clear hK K
    refine Zae (a':=?_) ?_ ?_
    rotate_left
    ·show Act.put _ (some 6) _=_
     simp only[Act.put,List.setIfInBounds_toArray,List.set_cons_zero,List.set_cons_succ,ZH,ZI]
     rfl
    refine one_ (i:=4) (N:=some 18) #[true,true,true,true,true,false,true,false] rfl rfl (Zas HT_.out (by kernel_rfl)) (by decide) (fun K hK=>?_)
    refine ZaT Try.func54 (by kernel_rfl) rfl #[.slice A0_1 l0_1.length c0_1] (by rfl) rfl rfl (by(try simp only[List.map_toArray,List.map_cons,List.map_nil]);first|done|rfl|(simp only[Zj,Zi];rfl)) ?_
    with_reducible refine(ZaJ.calls _ _ l0_1 t18004 _ ?side1 ?side2 A5.out).mono ?_
    (case side1=>repeat(first|exact(Kd.C_below HR0_1.out HB.out)|(with_reducible refine Kd.C_alloc ?_ _)|(with_reducible refine Kd.C_drewN ?_ _)|(with_reducible refine Kd.C_drew ?_)))
    (case side2=>exact HC0_1.out)
    rintro e w13 ⟨v18005,rfl,ho0,hb⟩
    refine⟨_,rfl,?_⟩
    have HO18006:=Za (Kd.R_lower ho0 (Zv (by repeat(first|(with_reducible first|exact HB.out|apply Zq|apply Zl|apply Zr|refine Zo ?_ GE18001.out|refine Zo ?_ GE18002.out|refine Zo ?_ GE18007.out)|exact HB.out))));replace BK18001:=Za (Zx (g:=gb18001) (o:=.cells #[.int .i64 a0_0,.slice A0_1 l0_1.length c0_1] 31 (0,0)) (by(with_reducible repeat(first|refine Zn ?_ _|refine Zp ?_|refine Zm ?_ _));exact BK18001.out) hb);replace BK18002:=Za (Zx (g:=gb18002) (o:=.cells #[.int .i64 0,.slice none 0 0] 31 (0,0)) (by(with_reducible repeat(first|refine Zn ?_ _|refine Zp ?_|refine Zm ?_ _));exact BK18002.out) hb);replace BK18007:=Za (Zx (g:=gb18007) (o:=.cells #[.int .i64 0,.slice none 0 0] 31 (0,0)) (by(with_reducible repeat(first|refine Zn ?_ _|refine Zp ?_|refine Zm ?_ _));exact BK18007.out) hb);replace HB:=Za (Zw (by repeat(first|(with_reducible first|exact HB.out|apply Zq|apply Zl|apply Zr|refine Zo ?_ GE18001.out|refine Zo ?_ GE18002.out|refine Zo ?_ GE18007.out)|exact HB.out)) hb)
    (try clear hb)
    (try clear hb2)
    (try clear hk)
    (try clear hi)
    (try clear ho0)
    obtain⟨Ao14,co14,eo14⟩:=Kd.R_slice HO18006.out
    (first|subst eo14|(injection eo14 with f1_ f2_ f3_;have f4_:=f1_.symm;have f5_:=f3_.symm;clear f1_ f2_ f3_;subst f4_;subst f5_))
    refine hK.out _ _ ⟨(Zt BK18001.out 0).trans rfl,(Zt BK18001.out 1).trans rfl⟩ (fun hHeld=>?_)
    clear hK K
    refine Zae (a':=?_) ?_ ?_
    rotate_left
    ·show Act.put _ (some 18) _=_
     simp only[Act.put,List.setIfInBounds_toArray,List.set_cons_zero,List.set_cons_succ,ZH,ZI]
     rfl
    refine Z1 (i:=5) (N:=some 19) (v:=?_) (a':=?_) #[true,true,true,true,true,true,true,false] rfl rfl (ZW HT_.out (by kernel_rfl)) (fun _ _ _ h=>h) (Or.inl ⟨by rfl,?_⟩) ?_ ?_
    rotate_left
    ·intro w'
     go_simp
     with_reducible rfl
    rotate_left
    ·simp only[Act.put,List.setIfInBounds_toArray,List.set_cons_zero,List.set_cons_succ,ZH,ZI]
     rfl
    exact Zae (by simp only[Zba,Act.put,List.setIfInBounds_toArray,List.set_cons_zero,List.set_cons_succ]) (hCont (.slice Ao14 t18004.length co14,gb18007) _ ⟨hHeld,(by(with_reducible repeat(first|apply Kd.R_alloc|apply Kd.R_drewN|apply Kd.R_drew));exact HO18006.out),(by(with_reducible repeat(first|refine Zn ?_ _|refine Zp ?_|refine Zm ?_ _));exact BK18001.out),(by(with_reducible repeat(first|refine Zn ?_ _|refine Zp ?_|refine Zm ?_ _));exact BK18002.out),(by(with_reducible repeat(first|refine Zn ?_ _|refine Zp ?_|refine Zm ?_ _));exact BK18007.out),GW18007.out,GE18007.out,NB18001_18007.out,NB18007_18001.out,NB18002_18007.out,NB18007_18002.out,(by repeat(first|(with_reducible first|exact HB.out|apply Zq|apply Zl|apply Zr|refine Zo ?_ GE18001.out|refine Zo ?_ GE18002.out|refine Zo ?_ GE18007.out)|exact HB.out))⟩)
  rintro⟨v18005,gb18007⟩ w15 ⟨hS_,h0_,h1_,h2_,h3_,h4_,h5_,h6_,h7_,h8_,h9_,h10_⟩
  have HO18006:Aside0 (Kd.R k84 84 w15 w.heap.size (fun _=>True) v18005 t18004):=⟨h0_⟩;have BK18007:Aside0 (w15.heap[gb18007]? = some (.cells #[.int .i64 0,.slice none 0 0] 31 (0,0))):=⟨h3_⟩;have GW18007:Aside0 (w.heap.size≤gb18007):=⟨h4_⟩;have GE18007:Aside0 (w.heap.size≤gb18007):=⟨h5_⟩;have NB18001_18007:Aside0 (gb18001≠gb18007):=⟨h6_⟩;have NB18007_18001:Aside0 (gb18007≠gb18001):=⟨h7_⟩;have NB18002_18007:Aside0 (gb18002≠gb18007):=⟨h8_⟩;have NB18007_18002:Aside0 (gb18007≠gb18002):=⟨h9_⟩;replace BK18001:Aside0 (w15.heap[gb18001]? = some (.cells #[.int .i64 a0_0,.slice A0_1 l0_1.length c0_1] 31 (0,0))):=⟨h1_⟩;replace BK18002:Aside0 (w15.heap[gb18002]? = some (.cells #[.int .i64 0,.slice none 0 0] 31 (0,0))):=⟨h2_⟩;replace HB:Aside0 (Below w.heap.size w w15):=⟨h10_⟩;clear h0_ h1_ h2_ h3_ h4_ h5_ h6_ h7_ h8_ h9_ h10_
  have hHeld:w15.cell? ⟨gb18001,0,none⟩=some (.int .i64 a0_0)∧w15.cell? ⟨gb18001,1,none⟩=some (.slice A0_1 l0_1.length c0_1):=hS_
  obtain⟨Ao16,co16,eo16⟩:=Kd.R_slice HO18006.out
  (first|subst eo16|(injection eo16 with f1_ f2_ f3_;have f4_:=f1_.symm;have f5_:=f3_.symm;clear f1_ f2_ f3_;subst f4_;subst f5_))
  refine Zae (a':=?_) ?_ ?_
  rotate_left
  ·simp only[Zba,Act.put,List.setIfInBounds_toArray,List.set_cons_zero,List.set_cons_succ]
   rfl
  refine one_ (i:=7) (N:=none) #[true,true,true,true,true,true,true,true] rfl rfl (Zas HT_.out (by kernel_rfl)) (by decide) (fun K hK=>?_)
  have hs17:w15.cell? ⟨gb18007,0,none⟩=some (.int .i64 0):=(Zt BK18007.out 0).trans rfl
  have hfs17:=Zu BK18007.out 0
  have hns17_0:=NB18001_18007.out
  have hns17_1:=NB18002_18007.out
  have hms17_0:=NB18007_18001.out
  have hms17_1:=NB18007_18002.out
  have hs18:w15.cell? ⟨gb18007,1,none⟩=some (.slice none 0 0):=(Zt BK18007.out 1).trans rfl
  have hfs18:=Zu BK18007.out 1
  have hns18_0:=NB18001_18007.out
  have hns18_1:=NB18002_18007.out
  have hms18_0:=NB18007_18001.out
  have hms18_1:=NB18007_18002.out
  refine skip_ (w1:=?_) (by rfl) rfl ?_ ?_
  rotate_left
  ·go_simp
   rfl
  refine hK.out _ _ ⟨((ZaC (p:=⟨gb18007,_,none⟩) NB18001_18007.out _).trans (((ZaC (p:=⟨gb18007,_,none⟩) NB18001_18007.out _).trans (hHeld.1)))),((ZaC (p:=⟨gb18007,_,none⟩) NB18001_18007.out _).trans (((ZaC (p:=⟨gb18007,_,none⟩) NB18001_18007.out _).trans (hHeld.2))))⟩ (fun hHeld=>?_)
  clear hK K
  refine ZbC (Zbr HT_.out (by kernel_rfl)) ?_
  try go_wp2
  go_loopg [22] k (fun kq v22 w'=>∃(x22_1:Int) (x18008001_1:List (S84)) (u18008001:Value),v22=.int .i64 x22_1∧Aside0 (ZT.l0 kq l1 (l1.length:Int) x22_1 a0_0 x18008001_1=some (r1,r2,r3))∧Aside0 (kq≤k)∧Aside0 (Kd.R k84 84 w' w.heap.size (fun _=>True) u18008001 x18008001_1)∧Aside0 (w'.heap[gb18001]? = some (.cells #[.int .i64 a0_0,(.slice A0_1 l0_1.length c0_1)] 31 (0,0)))∧Aside0 (w'.heap[gb18002]? = some (.cells #[.int .i64 0,(.slice none 0 0)] 31 (0,0)))∧Aside0 (w'.heap[gb18007]? = some (.cells #[.int .i64 a0_0,u18008001] 31 (0,0)))∧Aside0 (Below w.heap.size w w'))
  case atStart=>exact⟨(0),(t18004),(.slice Ao16 t18004.length co16),(by first|rfl|(simp;done)|(simp[*];done)),H',⟨Nat.le_refl _⟩,⟨by(with_reducible repeat(first|apply Kd.R_alloc|apply Kd.R_drewN|apply Kd.R_drew));exact Kd.R_mono (Kd.R_far (p:=⟨gb18007,1,none⟩) (Kd.R_far (p:=⟨gb18007,0,none⟩) (Kd.R_types HO18006.out BK18007.out (by decide)) (fun _ hk=>hk.2) (.int .i64 a0_0)) (fun _ hk=>hk.2) (.slice Ao16 t18004.length co16)) (fun _ hk=>trivial)⟩,⟨by(with_reducible repeat(first|refine Zn ?_ _|refine Zp ?_|refine Zm ?_ _));refine ZE ?_ NB18001_18007.out _;(with_reducible repeat(first|refine Zn ?_ _|refine Zp ?_|refine Zm ?_ _));refine ZE ?_ NB18001_18007.out _;(with_reducible repeat(first|refine Zn ?_ _|refine Zp ?_|refine Zm ?_ _));exact BK18001.out⟩,⟨by(with_reducible repeat(first|refine Zn ?_ _|refine Zp ?_|refine Zm ?_ _));refine ZE ?_ NB18002_18007.out _;(with_reducible repeat(first|refine Zn ?_ _|refine Zp ?_|refine Zm ?_ _));refine ZE ?_ NB18002_18007.out _;(with_reducible repeat(first|refine Zn ?_ _|refine Zp ?_|refine Zm ?_ _));exact BK18002.out⟩,⟨by(with_reducible repeat(first|refine Zn ?_ _|refine Zp ?_|refine Zm ?_ _));refine ZJ (cs:=#[.int .i64 a0_0,.slice none 0 0]) ?_ 1 _ rfl;(with_reducible repeat(first|refine Zn ?_ _|refine Zp ?_|refine Zm ?_ _));refine ZJ (cs:=#[.int .i64 0,.slice none 0 0]) ?_ 0 _ rfl;(with_reducible repeat(first|refine Zn ?_ _|refine Zp ?_|refine Zm ?_ _));exact BK18007.out⟩,⟨by repeat(first|(with_reducible first|exact HB.out|apply Zq|apply Zl|apply Zr|refine Zo ?_ GE18001.out|refine Zo ?_ GE18002.out|refine Zo ?_ GE18007.out)|exact HB.out)⟩⟩
  case round=>
   clear H'
   try clear c1
   try clear c2
   try clear p2
   try clear c4
   try clear c5
   try clear c8
   try clear c18
   try clear hcz9_0
   try clear hcz9_1
   try clear hfz9_0
   try clear hfz9_1
   obtain⟨x22_1,x18008001_1,u18008001,rfl,HA,HK1,HO_18008001,BK18001,BK18002,BK18007,HB⟩:=hrel
   cases gk with
   | zero=>exact absurd HA.out (by simp[ZT.l0])
   | succ k1=>
    have H:=HA.out
    clear HA
    simp only[ZT.l0] at H
    by_cases c19:x22_1<(l1.length:Int)
    ·rw[if_pos c19] at H
     have c19b0:decide (x22_1<(l1.length:Int))=true:=Zd c19
     clear c19
     by_cases c20:0≤x22_1
     ·rw[if_pos c20] at H
      have c20b0:decide (0≤x22_1)=true:=Zd c20
      clear c20
      by_cases c21:x22_1<(l1.length:Int)
      ·rw[if_pos c21] at H
       have c21b0:decide (x22_1<(l1.length:Int))=true:=Zd c21
       clear c21
       by_cases c22:x22_1 > 0
       ·rw[if_pos c22] at H
        have c22b0:decide (0<x22_1)=true:=Zd c22
        clear c22
        by_cases c23:(rd l1 x22_1)=(-1)
        ·rw[if_pos c23] at H
         have c23b0:((rd l1 x22_1) == (-1))=true:=beq_iff_eq.mpr c23
         have c23b1:((rd l1 x22_1) != (-1))=false:=bne_eq_false_iff_eq.mpr c23
         clear c23
         have H':=Za H
         clear H
         have p18008:0≤(x22_1:Int):=Zc (by first|(with_reducible assumption)|assumption)
         have q18008:x22_1<(l1.length:Int):=Zc (by first|(with_reducible assumption)|assumption)
         obtain⟨ad18008,e18008,hx18008_0⟩:=Kd.at_int HR1.out x22_1 p18008 q18008
         cases e18008
         replace hx18008_0:=(HB.out.cell (Zb w _ hx18008_0)).trans hx18008_0
         replace p18008:=eq_true p18008
         replace q18008:=eq_true q18008
         go_wp2
         go_roundg k1
         case measure=>have:=HK1.out;omega
         case rel=>exact⟨(wrap64 (x22_1+1)),(x18008001_1),(u18008001),(by first|rfl|(simp;done)|(simp[*];done)),H',⟨by have:=HK1.out;omega⟩,⟨by(with_reducible repeat(first|apply Kd.R_alloc|apply Kd.R_drewN|apply Kd.R_drew));exact HO_18008001.out⟩,⟨by(with_reducible repeat(first|refine Zn ?_ _|refine Zp ?_|refine Zm ?_ _));exact BK18001.out⟩,⟨by(with_reducible repeat(first|refine Zn ?_ _|refine Zp ?_|refine Zm ?_ _));exact BK18002.out⟩,⟨by(with_reducible repeat(first|refine Zn ?_ _|refine Zp ?_|refine Zm ?_ _));exact BK18007.out⟩,⟨by repeat(first|(with_reducible first|exact HB.out|apply Zq|apply Zl|apply Zr|refine Zo ?_ GE18001.out|refine Zo ?_ GE18002.out|refine Zo ?_ GE18007.out)|exact HB.out)⟩⟩
        ·rw[if_neg c23] at H
         have c23b0:((rd l1 x22_1) == (-1))=false:=beq_eq_false_iff_ne.mpr c23
         have c23b1:((rd l1 x22_1) != (-1))=true:=bne_iff_ne.mpr c23
         by_cases c24:x18008001_1.length<4398046511104
         ·rw[if_pos c24] at H
          have LMc24:=Za c24;clear c24
          obtain⟨y18009,hy18009⟩:∃y_:List (S84),y_=(x18008001_1 ++ [(⟨0,x22_1,(⟨rd l1 x22_1,rd l1 x22_1⟩:S35)⟩:S84)]):=⟨_,rfl⟩
          replace H:(ZT.l0 k1 l1 (l1.length:Int) (wrap64 (x22_1+1)) a0_0 y18009)=some (r1,r2,r3):=by first|(rw[hy18009];with_reducible exact H)|(have H2_:=(Zh _ _).symm.trans H;rw[hy18009];with_reducible exact H2_)|(have H2_:=(Zh _ _).symm.trans H;with_reducible exact H2_)|with_reducible exact H|(rw[hy18009];exact H)|exact H
          have Ny18009:=Za hy18009;clear hy18009
          have H':=Za H
          clear H
          have p18008:0≤(x22_1:Int):=Zc (by first|(with_reducible assumption)|assumption)
          have q18008:x22_1<(l1.length:Int):=Zc (by first|(with_reducible assumption)|assumption)
          obtain⟨ad18008,e18008,hx18008_0⟩:=Kd.at_int HR1.out x22_1 p18008 q18008
          cases e18008
          replace hx18008_0:=(HB.out.cell (Zb w _ hx18008_0)).trans hx18008_0
          replace p18008:=eq_true p18008
          replace q18008:=eq_true q18008
          have hnb25:=NB18007_18001.out
          have hnc25:=NB18001_18007.out
          have hnb26:=NB18007_18002.out
          have hnc26:=NB18002_18007.out
          have hcz27_0:wr.cell? ⟨gb18007,0,none⟩=some (.int .i64 a0_0):=(Zt BK18007.out 0).trans rfl
          have hcz27_1:wr.cell? ⟨gb18007,1,none⟩=some (u18008001):=(Zt BK18007.out 1).trans rfl
          have hfz27_0:=Zu BK18007.out 0
          have hfz27_1:=Zu BK18007.out 1
          go_wp2_with (first|((with_reducible refine ZaD (b:=.append) (xs:=#[.tmp 34,.tmp 40]) rfl ?_);at_builtin;refine Kd.R_append k84 (w0:=w) w.heap.size rfl (.tmp 34) (.tmp 40) 29 84 (.agg #[(.int .i64 0),(.int .i64 0),(.int .i64 0),(.int .i64 0)]) 32 rfl Try.underlying29 info84 rfl (by decide) (by omega) u18008001 x18008001_1 (⟨0,x22_1,(⟨rd l1 x22_1,rd l1 x22_1⟩:S35)⟩:S84) [.int .i64 0,.int .i64 x22_1,.int .i64 (rd l1 x22_1),.int .i64 (rd l1 x22_1)] (fun _=>True) (fun _=>False) rfl rfl ?aP (fun _ hk=>hk.elim) ?aF ?aO ?aB ?aS ?aL ?_;(case aP=>exact k84_mkM _ _ _ (⟨0,x22_1,(⟨rd l1 x22_1,rd l1 x22_1⟩:S35)⟩:S84));(case aB=>exact(by repeat(first|(with_reducible first|exact HB.out|apply Zq|apply Zl|apply Zr|refine Zo ?_ GE18001.out|refine Zo ?_ GE18002.out|refine Zo ?_ GE18007.out)|exact HB.out)));(case aF=>exact(fun _ _=>trivial));(case aO=>exact(by(with_reducible repeat(first|apply Kd.R_alloc|apply Kd.R_drewN|apply Kd.R_drew));exact HO_18008001.out));(case aS=>exact(Zv (by repeat(first|(with_reducible first|exact HB.out|apply Zq|apply Zl|apply Zr|refine Zo ?_ GE18001.out|refine Zo ?_ GE18002.out|refine Zo ?_ GE18007.out)|exact HB.out))));(case aL=>have:=LMc24.out;omega);intro v18010 w28 ho hb hg hat;rw[← Ny18009.out] at ho;have HO18011:=Za (ho);replace BK18001:=Za (ZZ (g:=gb18001) (o:=.cells #[.int .i64 a0_0,.slice A0_1 l0_1.length c0_1] 31 (0,0)) (by(with_reducible repeat(first|refine Zn ?_ _|refine Zp ?_|refine Zm ?_ _));exact BK18001.out) hg (Kd.R_ne HO_18008001.out BK18001.out (by decide)));replace BK18002:=Za (ZZ (g:=gb18002) (o:=.cells #[.int .i64 0,.slice none 0 0] 31 (0,0)) (by(with_reducible repeat(first|refine Zn ?_ _|refine Zp ?_|refine Zm ?_ _));exact BK18002.out) hg (Kd.R_ne HO_18008001.out BK18002.out (by decide)));replace BK18007:=Za (ZZ (g:=gb18007) (o:=.cells #[.int .i64 a0_0,u18008001] 31 (0,0)) (by(with_reducible repeat(first|refine Zn ?_ _|refine Zp ?_|refine Zm ?_ _));exact BK18007.out) hg (Kd.R_ne HO_18008001.out BK18007.out (by decide)));replace HB:=Za (hb);clear HO_18008001;clear ho hb hg hat;obtain⟨Ao29,co29,eo29⟩:=Kd.R_slice HO18011.out;subst eo29;have hcz30_0:w28.cell? ⟨gb18007,0,none⟩=some (.int .i64 a0_0):=(Zt BK18007.out 0).trans rfl;have hcz30_1:w28.cell? ⟨gb18007,1,none⟩=some (u18008001):=(Zt BK18007.out 1).trans rfl;have hfz30_0:=Zu BK18007.out 0;have hfz30_1:=Zu BK18007.out 1))
          go_roundg k1
          case measure=>have:=HK1.out;omega
          case rel=>exact⟨(wrap64 (x22_1+1)),(y18009),(.slice Ao29 y18009.length co29),(by first|rfl|(simp;done)|(simp[*];done)),H',⟨by have:=HK1.out;omega⟩,⟨by(with_reducible repeat(first|apply Kd.R_alloc|apply Kd.R_drewN|apply Kd.R_drew));exact Kd.R_mono (Kd.R_far (p:=⟨gb18007,1,none⟩) (Kd.R_types HO18011.out BK18007.out (by decide)) (fun _ hk=>hk.2) (.slice Ao29 y18009.length co29)) (fun _ hk=>trivial)⟩,⟨by(with_reducible repeat(first|refine Zn ?_ _|refine Zp ?_|refine Zm ?_ _));refine ZE ?_ NB18001_18007.out _;(with_reducible repeat(first|refine Zn ?_ _|refine Zp ?_|refine Zm ?_ _));exact BK18001.out⟩,⟨by(with_reducible repeat(first|refine Zn ?_ _|refine Zp ?_|refine Zm ?_ _));refine ZE ?_ NB18002_18007.out _;(with_reducible repeat(first|refine Zn ?_ _|refine Zp ?_|refine Zm ?_ _));exact BK18002.out⟩,⟨by(with_reducible repeat(first|refine Zn ?_ _|refine Zp ?_|refine Zm ?_ _));refine ZJ (cs:=#[.int .i64 a0_0,u18008001]) ?_ 1 _ rfl;(with_reducible repeat(first|refine Zn ?_ _|refine Zp ?_|refine Zm ?_ _));exact BK18007.out⟩,⟨by repeat(first|(with_reducible first|exact HB.out|apply Zq|apply Zl|apply Zr|refine Zo ?_ GE18001.out|refine Zo ?_ GE18002.out|refine Zo ?_ GE18007.out)|exact HB.out)⟩⟩
         ·rw[if_neg c24] at H
          exact absurd H (by simp)
       ·rw[if_neg c22] at H
        have c22b0:decide (0<x22_1)=false:=Ze c22
        clear c22
        have H':=Za H
        clear H
        have p18008:0≤(x22_1:Int):=Zc (by first|(with_reducible assumption)|assumption)
        have q18008:x22_1<(l1.length:Int):=Zc (by first|(with_reducible assumption)|assumption)
        obtain⟨ad18008,e18008,hx18008_0⟩:=Kd.at_int HR1.out x22_1 p18008 q18008
        cases e18008
        replace hx18008_0:=(HB.out.cell (Zb w _ hx18008_0)).trans hx18008_0
        replace p18008:=eq_true p18008
        replace q18008:=eq_true q18008
        go_wp2
        go_roundg k1
        case measure=>have:=HK1.out;omega
        case rel=>exact⟨(wrap64 (x22_1+1)),(x18008001_1),(u18008001),(by first|rfl|(simp;done)|(simp[*];done)),H',⟨by have:=HK1.out;omega⟩,⟨by(with_reducible repeat(first|apply Kd.R_alloc|apply Kd.R_drewN|apply Kd.R_drew));exact HO_18008001.out⟩,⟨by(with_reducible repeat(first|refine Zn ?_ _|refine Zp ?_|refine Zm ?_ _));exact BK18001.out⟩,⟨by(with_reducible repeat(first|refine Zn ?_ _|refine Zp ?_|refine Zm ?_ _));exact BK18002.out⟩,⟨by(with_reducible repeat(first|refine Zn ?_ _|refine Zp ?_|refine Zm ?_ _));exact BK18007.out⟩,⟨by repeat(first|(with_reducible first|exact HB.out|apply Zq|apply Zl|apply Zr|refine Zo ?_ GE18001.out|refine Zo ?_ GE18002.out|refine Zo ?_ GE18007.out)|exact HB.out)⟩⟩
      ·rw[if_neg c21] at H
       exact absurd H (by simp)
     ·rw[if_neg c20] at H
      exact absurd H (by simp)
    ·rw[if_neg c19] at H
     have c19b0:decide (x22_1<(l1.length:Int))=false:=Ze c19
     clear c19
     replace H:=Zg H
     obtain⟨t18012,A310,H⟩:=H
     replace H:(if t18012=true then(some (a0_0,x18008001_1,true)) else(some (0,([]:List (S84)),false)))=some (r1,r2,r3):=H
     have A31:=Za A310;clear A310
     by_cases c32:t18012=true
     ·subst c32
      have H1:(some (a0_0,x18008001_1,true))=some (r1,r2,r3):=by rw[if_pos rfl] at H;exact H
      clear H
      have H:=H1
      clear H1
      simp only[Option.some.injEq,Prod.mk.injEq] at H
      obtain⟨rfl,rfl,rfl⟩:=H
      have hnb33:=NB18007_18001.out
      have hnc33:=NB18001_18007.out
      have hnb34:=NB18007_18002.out
      have hnc34:=NB18002_18007.out
      have hcz35_0:wr.cell? ⟨gb18007,0,none⟩=some (.int .i64 a0_0):=(Zt BK18007.out 0).trans rfl
      have hcz35_1:wr.cell? ⟨gb18007,1,none⟩=some (u18008001):=(Zt BK18007.out 1).trans rfl
      have hfz35_0:=Zu BK18007.out 0
      have hfz35_1:=Zu BK18007.out 1
      obtain⟨Ao36,co36,eo36⟩:=Kd.R_slice HO_18008001.out
      subst eo36
      go_wp2_with (first|((with_reducible refine ZO (f:=17) rfl ?_);refine Z6 (some 45) rfl rfl Try.func17 (by kernel_rfl) rfl #[.agg #[.int .i64 a0_0,.slice Ao36 x18008001_1.length co36]] rfl (by(try simp only[List.map_toArray,List.map_cons,List.map_nil]);first|done|rfl|(simp only[Zj,Zi];rfl)) ?_;(with_reducible refine(Z0.calls a0_0 _ _ x18008001_1 true _ ?side1 ?side2 A31.out).mono ?_);(case side1=>repeat(first|exact(Kd.R_reads' HO_18008001.out).2.2|(with_reducible refine Kd.C_alloc ?_ _)|(with_reducible refine Kd.C_drewN ?_ _)|(with_reducible refine Kd.C_drew ?_)));(case side2=>exact(Kd.R_reads' HO_18008001.out).2.1);rintro e w37 ⟨rfl,hb⟩;refine⟨_,rfl,?_⟩;replace HO_18008001:=Za (Kd.R_below (by(with_reducible repeat(first|apply Kd.R_alloc|apply Kd.R_drewN|apply Kd.R_drew));exact HO_18008001.out) hb);replace BK18001:=Za (Zx (g:=gb18001) (o:=.cells #[.int .i64 a0_0,.slice A0_1 l0_1.length c0_1] 31 (0,0)) (by(with_reducible repeat(first|refine Zn ?_ _|refine Zp ?_|refine Zm ?_ _));exact BK18001.out) hb);replace BK18002:=Za (Zx (g:=gb18002) (o:=.cells #[.int .i64 0,.slice none 0 0] 31 (0,0)) (by(with_reducible repeat(first|refine Zn ?_ _|refine Zp ?_|refine Zm ?_ _));exact BK18002.out) hb);replace BK18007:=Za (Zx (g:=gb18007) (o:=.cells #[.int .i64 a0_0,.slice Ao36 x18008001_1.length co36] 31 (0,0)) (by(with_reducible repeat(first|refine Zn ?_ _|refine Zp ?_|refine Zm ?_ _));exact BK18007.out) hb);replace HB:=Za (Zw (by repeat(first|(with_reducible first|exact HB.out|apply Zq|apply Zl|apply Zr|refine Zo ?_ GE18001.out|refine Zo ?_ GE18002.out|refine Zo ?_ GE18007.out)|exact HB.out)) hb);(try clear hb);(try clear hb2);(try clear hk);(try clear hi);have hcz38_0:w37.cell? ⟨gb18007,0,none⟩=some (.int .i64 a0_0):=(Zt BK18007.out 0).trans rfl;have hcz38_1:w37.cell? ⟨gb18007,1,none⟩=some (.slice Ao36 x18008001_1.length co36):=(Zt BK18007.out 1).trans rfl;have hfz38_0:=Zu BK18007.out 0;have hfz38_1:=Zu BK18007.out 1;have hnb39:=NB18002_18001.out;have hnc39:=NB18001_18002.out;have hcz40_0:w37.cell? ⟨gb18002,0,none⟩=some (.int .i64 0):=(Zt BK18002.out 0).trans rfl;have hcz40_1:w37.cell? ⟨gb18002,1,none⟩=some (.slice none 0 0):=(Zt BK18002.out 1).trans rfl;have hfz40_0:=Zu BK18002.out 0;have hfz40_1:=Zu BK18002.out 1))
      refine bodyPost_ret (ZaB rfl _ _ gb18002 31 #[.int .i64 a0_0,.slice Ao36 x18008001_1.length co36] (0,0) _ rfl (by(with_reducible repeat(first|refine Zn ?_ _|refine Zp ?_|refine Zm ?_ _));refine ZJ (cs:=#[.int .i64 a0_0,.slice none 0 0]) ?_ 1 _ rfl;(with_reducible repeat(first|refine Zn ?_ _|refine Zp ?_|refine Zm ?_ _));refine ZJ (cs:=#[.int .i64 0,.slice none 0 0]) ?_ 0 _ rfl;(with_reducible repeat(first|refine Zn ?_ _|refine Zp ?_|refine Zm ?_ _));exact BK18002.out) Try.underlying31 rfl (by kernel_rfl)) rfl ?_
      exact⟨_,by first|rfl|(simp[ZB,ZA] <;> rfl)|(simp[*,ZB,ZA] <;> rfl),by(with_reducible repeat(first|apply Kd.R_alloc|apply Kd.R_drewN|apply Kd.R_drew));exact Kd.R_mono (Kd.R_far (p:=⟨gb18002,1,none⟩) (Kd.R_far (p:=⟨gb18002,0,none⟩) (Kd.R_types HO_18008001.out BK18002.out (by decide)) (fun _ hk=>hk.2) (.int .i64 a0_0)) (fun _ hk=>hk.2) (.slice Ao36 x18008001_1.length co36)) (fun _ hk=>trivial),by repeat(first|(with_reducible first|exact HB.out|apply Zq|apply Zl|apply Zr|refine Zo ?_ GE18001.out|refine Zo ?_ GE18002.out|refine Zo ?_ GE18007.out)|exact HB.out)⟩
     ·replace c32:=Bool.eq_false_iff.mpr c32
      subst c32
      have H1:(some (0,([]:List (S84)),false))=some (r1,r2,r3):=by rw[if_neg (show ¬(false=true) by decide)] at H;exact H
      clear H
      have H:=H1
      clear H1
      simp only[Option.some.injEq,Prod.mk.injEq] at H
      obtain⟨rfl,rfl,rfl⟩:=H
      have hnb41:=NB18007_18001.out
      have hnc41:=NB18001_18007.out
      have hnb42:=NB18007_18002.out
      have hnc42:=NB18002_18007.out
      have hcz43_0:wr.cell? ⟨gb18007,0,none⟩=some (.int .i64 a0_0):=(Zt BK18007.out 0).trans rfl
      have hcz43_1:wr.cell? ⟨gb18007,1,none⟩=some (u18008001):=(Zt BK18007.out 1).trans rfl
      have hfz43_0:=Zu BK18007.out 0
      have hfz43_1:=Zu BK18007.out 1
      obtain⟨Ao44,co44,eo44⟩:=Kd.R_slice HO_18008001.out
      subst eo44
      go_wp2_with (first|((with_reducible refine ZO (f:=17) rfl ?_);refine Z6 (some 45) rfl rfl Try.func17 (by kernel_rfl) rfl #[.agg #[.int .i64 a0_0,.slice Ao44 x18008001_1.length co44]] rfl (by(try simp only[List.map_toArray,List.map_cons,List.map_nil]);first|done|rfl|(simp only[Zj,Zi];rfl)) ?_;(with_reducible refine(Z0.calls a0_0 _ _ x18008001_1 false _ ?side1 ?side2 A31.out).mono ?_);(case side1=>repeat(first|exact(Kd.R_reads' HO_18008001.out).2.2|(with_reducible refine Kd.C_alloc ?_ _)|(with_reducible refine Kd.C_drewN ?_ _)|(with_reducible refine Kd.C_drew ?_)));(case side2=>exact(Kd.R_reads' HO_18008001.out).2.1);rintro e w45 ⟨rfl,hb⟩;refine⟨_,rfl,?_⟩;replace HO_18008001:=Za (Kd.R_below (by(with_reducible repeat(first|apply Kd.R_alloc|apply Kd.R_drewN|apply Kd.R_drew));exact HO_18008001.out) hb);replace BK18001:=Za (Zx (g:=gb18001) (o:=.cells #[.int .i64 a0_0,.slice A0_1 l0_1.length c0_1] 31 (0,0)) (by(with_reducible repeat(first|refine Zn ?_ _|refine Zp ?_|refine Zm ?_ _));exact BK18001.out) hb);replace BK18002:=Za (Zx (g:=gb18002) (o:=.cells #[.int .i64 0,.slice none 0 0] 31 (0,0)) (by(with_reducible repeat(first|refine Zn ?_ _|refine Zp ?_|refine Zm ?_ _));exact BK18002.out) hb);replace BK18007:=Za (Zx (g:=gb18007) (o:=.cells #[.int .i64 a0_0,.slice Ao44 x18008001_1.length co44] 31 (0,0)) (by(with_reducible repeat(first|refine Zn ?_ _|refine Zp ?_|refine Zm ?_ _));exact BK18007.out) hb);replace HB:=Za (Zw (by repeat(first|(with_reducible first|exact HB.out|apply Zq|apply Zl|apply Zr|refine Zo ?_ GE18001.out|refine Zo ?_ GE18002.out|refine Zo ?_ GE18007.out)|exact HB.out)) hb);(try clear hb);(try clear hb2);(try clear hk);(try clear hi);have hnb46:=NB18002_18001.out;have hnc46:=NB18001_18002.out;have hcz47_0:w45.cell? ⟨gb18002,0,none⟩=some (.int .i64 0):=(Zt BK18002.out 0).trans rfl;have hcz47_1:w45.cell? ⟨gb18002,1,none⟩=some (.slice none 0 0):=(Zt BK18002.out 1).trans rfl;have hfz47_0:=Zu BK18002.out 0;have hfz47_1:=Zu BK18002.out 1))
      refine bodyPost_ret (ZaB rfl _ _ gb18002 31 #[.int .i64 0,.slice none 0 0] (0,0) _ rfl (by(with_reducible repeat(first|refine Zn ?_ _|refine Zp ?_|refine Zm ?_ _));refine ZJ (cs:=#[.int .i64 0,.slice none 0 0]) ?_ 1 _ rfl;(with_reducible repeat(first|refine Zn ?_ _|refine Zp ?_|refine Zm ?_ _));refine ZJ (cs:=#[.int .i64 0,.slice none 0 0]) ?_ 0 _ rfl;(with_reducible repeat(first|refine Zn ?_ _|refine Zp ?_|refine Zm ?_ _));exact BK18002.out) Try.underlying31 rfl (by kernel_rfl)) rfl ?_
      exact⟨_,by first|rfl|(simp[ZB,ZA] <;> rfl)|(simp[*,ZB,ZA] <;> rfl),by first|exact Kd.R_nil _ _ _ _ _|exact Kd.N_nil _ _ _ _ _|exact Kd.V_nil _ _ _ _ _|exact Kd.Q_nil _ _ _ _ _|exact Kd.S_nil _ _ _ _ _,by repeat(first|(with_reducible first|exact HB.out|apply Zq|apply Zl|apply Zr|refine Zo ?_ GE18001.out|refine Zo ?_ GE18002.out|refine Zo ?_ GE18007.out)|exact HB.out)⟩
 ·replace c4:=Bool.eq_false_iff.mpr c4
  subst c4
  have H1:(some (0,([]:List (S84)),false))=some (r1,r2,r3):=by rw[if_neg (show ¬(false=true) by decide)] at H;exact H
  clear H
  have H:=H1
  clear H1
  simp only[Option.some.injEq,Prod.mk.injEq] at H
  obtain⟨rfl,rfl,rfl⟩:=H
  go_enter Try.func18,Try.ntmps18
  go_wp2_with (first|((with_reducible refine ZP (N:=2) rfl ?_);refine ZM ?hg (N:=2) ?hd (cs:=#[.int .i64 a0_0,.slice A0_1 l0_1.length c0_1]) (t:=31) ?hr ?_;(case hd=>rfl);(case hg=>rfl);(case hr=>first|(go_simp;done)|(go_simp;rfl));intro gb18001 hg w48 hbox hb;have BK18001:=Za (hbox);have GW18001:=Za ((by rw[hg];exact(Zv (by repeat(first|(with_reducible first|exact HB.out|apply Zq|apply Zl|apply Zr)|exact HB.out))):w.heap.size≤gb18001));have GE18001:=Za ((by rw[hg];exact(Zv (by repeat(first|(with_reducible first|exact HB.out|apply Zq|apply Zl|apply Zr)|exact HB.out))):w.heap.size≤gb18001));replace HB:=Za (Zw (by repeat(first|(with_reducible first|exact HB.out|apply Zq|apply Zl|apply Zr)|exact HB.out)) hb);clear hb hbox hg)|((with_reducible refine ZP (N:=4) rfl ?_);refine ZM ?hg (N:=4) ?hd (cs:=#[.int .i64 0,.slice none 0 0]) (t:=31) ?hr ?_;(case hd=>rfl);(case hg=>rfl);(case hr=>first|(go_simp;done)|(go_simp;rfl));intro gb18002 hg w49 hbox hb;have BK18002:=Za (hbox);have GW18002:=Za ((by rw[hg];exact(Zv (by repeat(first|(with_reducible first|exact HB.out|apply Zq|apply Zl|apply Zr|refine Zo ?_ GE18001.out)|exact HB.out))):w.heap.size≤gb18002));have GE18002:=Za ((by rw[hg];exact(Zv (by repeat(first|(with_reducible first|exact HB.out|apply Zq|apply Zl|apply Zr|refine Zo ?_ GE18001.out)|exact HB.out))):w.heap.size≤gb18002));have NB18001_18002:=Za ((by rw[hg];exact Nat.ne_of_lt (ZL (g:=gb18001) (o:=.cells #[.int .i64 a0_0,.slice A0_1 l0_1.length c0_1] 31 (0,0)) (by(with_reducible repeat(first|refine Zn ?_ _|refine Zp ?_|refine Zm ?_ _));exact BK18001.out)):gb18001≠gb18002));have NB18002_18001:=Za ((by rw[hg];exact Nat.ne_of_gt (ZL (g:=gb18001) (o:=.cells #[.int .i64 a0_0,.slice A0_1 l0_1.length c0_1] 31 (0,0)) (by(with_reducible repeat(first|refine Zn ?_ _|refine Zp ?_|refine Zm ?_ _));exact BK18001.out)):gb18002≠gb18001));replace BK18001:=Za (Zx (g:=gb18001) (o:=.cells #[.int .i64 a0_0,.slice A0_1 l0_1.length c0_1] 31 (0,0)) (by(with_reducible repeat(first|refine Zn ?_ _|refine Zp ?_|refine Zm ?_ _));exact BK18001.out) hb);replace HB:=Za (Zw (by repeat(first|(with_reducible first|exact HB.out|apply Zq|apply Zl|apply Zr|refine Zo ?_ GE18001.out)|exact HB.out)) hb);clear hb hbox hg;have hnb50:=NB18001_18002.out;have hnc50:=NB18002_18001.out;have hcz51_0:w49.cell? ⟨gb18001,0,none⟩=some (.int .i64 a0_0):=(Zt BK18001.out 0).trans rfl;have hcz51_1:w49.cell? ⟨gb18001,1,none⟩=some (.slice A0_1 l0_1.length c0_1):=(Zt BK18001.out 1).trans rfl;have hfz51_0:=Zu BK18001.out 0;have hfz51_1:=Zu BK18001.out 1)|((with_reducible refine ZO (f:=24) rfl ?_);refine Z6 (some 11) rfl rfl Try.func24 (by kernel_rfl) rfl #[.agg #[.int .i64 a0_0,.slice A0_1 l0_1.length c0_1],.slice A1 l1.length c1] rfl (by(try simp only[List.map_toArray,List.map_cons,List.map_nil]);first|done|rfl|(simp only[Zj,Zi];rfl)) ?_;(with_reducible refine(ZaL.calls a0_0 _ _ l0_1 _ _ l1 false _ ?side1 ?side2 ?side3 ?side4 A3.out).mono ?_);(case side1=>repeat(first|exact(Kd.C_below HR0_1.out HB.out)|(with_reducible refine Kd.C_alloc ?_ _)|(with_reducible refine Kd.C_drewN ?_ _)|(with_reducible refine Kd.C_drew ?_)));(case side2=>exact HC0_1.out);(case side3=>repeat(first|exact(Kd.C_below HR1.out HB.out)|(with_reducible refine Kd.C_alloc ?_ _)|(with_reducible refine Kd.C_drewN ?_ _)|(with_reducible refine Kd.C_drew ?_)));(case side4=>exact HC1.out);rintro e w52 ⟨rfl,hb⟩;refine⟨_,rfl,?_⟩;replace BK18001:=Za (Zx (g:=gb18001) (o:=.cells #[.int .i64 a0_0,.slice A0_1 l0_1.length c0_1] 31 (0,0)) (by(with_reducible repeat(first|refine Zn ?_ _|refine Zp ?_|refine Zm ?_ _));exact BK18001.out) hb);replace BK18002:=Za (Zx (g:=gb18002) (o:=.cells #[.int .i64 0,.slice none 0 0] 31 (0,0)) (by(with_reducible repeat(first|refine Zn ?_ _|refine Zp ?_|refine Zm ?_ _));exact BK18002.out) hb);replace HB:=Za (Zw (by repeat(first|(with_reducible first|exact HB.out|apply Zq|apply Zl|apply Zr|refine Zo ?_ GE18001.out|refine Zo ?_ GE18002.out)|exact HB.out)) hb);(try clear hb);(try clear hb2);(try clear hk);(try clear hi);have hcz53_0:w52.cell? ⟨gb18002,0,none⟩=some (.int .i64 0):=(Zt BK18002.out 0).trans rfl;have hcz53_1:w52.cell? ⟨gb18002,1,none⟩=some (.slice none 0 0):=(Zt BK18002.out 1).trans rfl;have hfz53_0:=Zu BK18002.out 0;have hfz53_1:=Zu BK18002.out 1))
  refine bodyPost_ret (ZaB rfl _ _ gb18002 31 #[.int .i64 0,.slice none 0 0] (0,0) _ rfl (by(with_reducible repeat(first|refine Zn ?_ _|refine Zp ?_|refine Zm ?_ _));refine ZJ (cs:=#[.int .i64 0,.slice none 0 0]) ?_ 1 _ rfl;(with_reducible repeat(first|refine Zn ?_ _|refine Zp ?_|refine Zm ?_ _));refine ZJ (cs:=#[.int .i64 0,.slice none 0 0]) ?_ 0 _ rfl;(with_reducible repeat(first|refine Zn ?_ _|refine Zp ?_|refine Zm ?_ _));exact BK18002.out) Try.underlying31 rfl (by kernel_rfl)) rfl ?_
  exact⟨_,by first|rfl|(simp[ZB,ZA] <;> rfl)|(simp[*,ZB,ZA] <;> rfl),by first|exact Kd.R_nil _ _ _ _ _|exact Kd.N_nil _ _ _ _ _|exact Kd.V_nil _ _ _ _ _|exact Kd.Q_nil _ _ _ _ _|exact Kd.S_nil _ _ _ _ _,by repeat(first|(with_reducible first|exact HB.out|apply Zq|apply Zl|apply Zr|refine Zo ?_ GE18001.out|refine Zo ?_ GE18002.out)|exact HB.out)⟩
def ZaF.f (k:Nat) (a0_0:Int) (l0_1:List (S84)) (l1:List Int):Option (Bool):=(ZT.f k a0_0 l0_1 l1).bind fun bt19002=>(if bt19002.2.2=true then((ZX.f k bt19002.1 bt19002.2.1).bind fun t19008=>(some t19008)) else(some false))
set_option maxHeartbeats 8000000 in
set_option maxRecDepth 100000 in
theorem ZaF.calls (k:Nat) (a0_0:Int) (A0_1:Option Addr) (c0_1:Nat) (l0_1:List (S84)) (A1:Option Addr) (c1:Nat) (l1:List Int) (r:Bool) (w:World) (hr0_1:Kd.C k84 w A0_1 l0_1.length l0_1) (hc0_1:l0_1.length≤c0_1) (hr1:Kd.C (Kd.int .i64) w A1 l1.length l1) (hc1:l1.length≤c1) (h:ZaF.f k a0_0 l0_1 l1=some r) :
  Calls Try.prog 19 #[.agg #[.int .i64 a0_0,.slice A0_1 l0_1.length c0_1],.slice A1 l1.length c1] w fun e w'=>e=.returned (.bool r)∧Below w.heap.size w w':=by
 have hu31:=Try.underlying31
 have HR0_1:=Za hr0_1;have HC0_1:=Za hc0_1;clear hr0_1 hc0_1;have HR1:=Za hr1;have HC1:=Za hc1;clear hr1 hc1
 have HB:=Za (Below.refl w.heap.size w)
 have H:((ZT.f k a0_0 l0_1 l1).bind fun bt19002=>(if bt19002.2.2=true then((ZX.f k bt19002.1 bt19002.2.1).bind fun t19008=>(some t19008)) else(some false)))=some r:=h
 clear h
 replace H:=Zg H
 obtain⟨⟨t19002,t19003,t19006⟩,A30,H⟩:=H
 replace H:(if t19006=true then((ZX.f k t19002 t19003).bind fun t19008=>(some t19008)) else(some false))=some r:=H
 have A3:=Za A30;clear A30
 by_cases c4:t19006=true
 ·subst c4
  have H1:((ZX.f k t19002 t19003).bind fun t19008=>(some t19008))=some r:=by rw[if_pos rfl] at H;exact H
  clear H
  have H:=H1
  clear H1
  replace H:=Zg H
  obtain⟨t19008,A50,H⟩:=H
  replace H:(some t19008)=some r:=H
  have A5:=Za A50;clear A50
  obtain rfl:=Zf H
  go_enter Try.func19,Try.ntmps19
  go_wp2_with (first|((with_reducible refine ZP (N:=2) rfl ?_);refine ZM ?hg (N:=2) ?hd (cs:=#[.int .i64 a0_0,.slice A0_1 l0_1.length c0_1]) (t:=31) ?hr ?_;(case hd=>rfl);(case hg=>rfl);(case hr=>first|(go_simp;done)|(go_simp;rfl));intro gb19001 hg w6 hbox hb;have BK19001:=Za (hbox);have GW19001:=Za ((by rw[hg];exact(Zv (by repeat(first|(with_reducible first|exact HB.out|apply Zq|apply Zl|apply Zr)|exact HB.out))):w.heap.size≤gb19001));have GE19001:=Za ((by rw[hg];exact(Zv (by repeat(first|(with_reducible first|exact HB.out|apply Zq|apply Zl|apply Zr)|exact HB.out))):w.heap.size≤gb19001));replace HB:=Za (Zw (by repeat(first|(with_reducible first|exact HB.out|apply Zq|apply Zl|apply Zr)|exact HB.out)) hb);clear hb hbox hg;have hcz7_0:w6.cell? ⟨gb19001,0,none⟩=some (.int .i64 a0_0):=(Zt BK19001.out 0).trans rfl;have hcz7_1:w6.cell? ⟨gb19001,1,none⟩=some (.slice A0_1 l0_1.length c0_1):=(Zt BK19001.out 1).trans rfl;have hfz7_0:=Zu BK19001.out 0;have hfz7_1:=Zu BK19001.out 1)|((with_reducible refine ZO (f:=18) rfl ?_);refine Z6 (some 10) rfl rfl Try.func18 (by kernel_rfl) rfl #[.agg #[.int .i64 a0_0,.slice A0_1 l0_1.length c0_1],.slice A1 l1.length c1] rfl (by(try simp only[List.map_toArray,List.map_cons,List.map_nil]);first|done|rfl|(simp only[Zj,Zi];rfl)) ?_;(with_reducible refine(ZT.calls k a0_0 _ _ l0_1 _ _ l1 t19002 t19003 true _ ?side1 ?side2 ?side3 ?side4 A3.out).mono ?_);(case side1=>repeat(first|exact(Kd.C_below HR0_1.out HB.out)|(with_reducible refine Kd.C_alloc ?_ _)|(with_reducible refine Kd.C_drewN ?_ _)|(with_reducible refine Kd.C_drew ?_)));(case side2=>exact HC0_1.out);(case side3=>repeat(first|exact(Kd.C_below HR1.out HB.out)|(with_reducible refine Kd.C_alloc ?_ _)|(with_reducible refine Kd.C_drewN ?_ _)|(with_reducible refine Kd.C_drew ?_)));(case side4=>exact HC1.out);rintro e w8 ⟨v19004,rfl,ho0,hb⟩;refine⟨_,rfl,?_⟩;have HO19005:=Za (Kd.R_lower ho0 (Zv (by repeat(first|(with_reducible first|exact HB.out|apply Zq|apply Zl|apply Zr|refine Zo ?_ GE19001.out)|exact HB.out))));replace BK19001:=Za (Zx (g:=gb19001) (o:=.cells #[.int .i64 a0_0,.slice A0_1 l0_1.length c0_1] 31 (0,0)) (by(with_reducible repeat(first|refine Zn ?_ _|refine Zp ?_|refine Zm ?_ _));exact BK19001.out) hb);replace HB:=Za (Zw (by repeat(first|(with_reducible first|exact HB.out|apply Zq|apply Zl|apply Zr|refine Zo ?_ GE19001.out)|exact HB.out)) hb);(try clear hb);(try clear hb2);(try clear hk);(try clear hi);(try clear ho0))|((with_reducible refine ZP (N:=5) rfl ?_);refine ZM ?hg (N:=5) ?hd (cs:=#[.int .i64 0,.slice none 0 0]) (t:=31) ?hr ?_;(case hd=>rfl);(case hg=>rfl);(case hr=>first|(go_simp;done)|(go_simp;rfl));intro gb19007 hg w9 hbox hb;have BK19007:=Za (hbox);have GW19007:=Za ((by rw[hg];exact(Zv (by repeat(first|(with_reducible first|exact HB.out|apply Zq|apply Zl|apply Zr|refine Zo ?_ GE19001.out)|exact HB.out))):w.heap.size≤gb19007));have GE19007:=Za ((by rw[hg];exact(Zv (by repeat(first|(with_reducible first|exact HB.out|apply Zq|apply Zl|apply Zr|refine Zo ?_ GE19001.out)|exact HB.out))):w.heap.size≤gb19007));have NB19001_19007:=Za ((by rw[hg];exact Nat.ne_of_lt (ZL (g:=gb19001) (o:=.cells #[.int .i64 a0_0,.slice A0_1 l0_1.length c0_1] 31 (0,0)) (by(with_reducible repeat(first|refine Zn ?_ _|refine Zp ?_|refine Zm ?_ _));exact BK19001.out)):gb19001≠gb19007));have NB19007_19001:=Za ((by rw[hg];exact Nat.ne_of_gt (ZL (g:=gb19001) (o:=.cells #[.int .i64 a0_0,.slice A0_1 l0_1.length c0_1] 31 (0,0)) (by(with_reducible repeat(first|refine Zn ?_ _|refine Zp ?_|refine Zm ?_ _));exact BK19001.out)):gb19007≠gb19001));replace HO19005:=Za (Kd.R_below (by(with_reducible repeat(first|apply Kd.R_alloc|apply Kd.R_drewN|apply Kd.R_drew));exact HO19005.out) hb);replace BK19001:=Za (Zx (g:=gb19001) (o:=.cells #[.int .i64 a0_0,.slice A0_1 l0_1.length c0_1] 31 (0,0)) (by(with_reducible repeat(first|refine Zn ?_ _|refine Zp ?_|refine Zm ?_ _));exact BK19001.out) hb);replace HB:=Za (Zw (by repeat(first|(with_reducible first|exact HB.out|apply Zq|apply Zl|apply Zr|refine Zo ?_ GE19001.out)|exact HB.out)) hb);clear hb hbox hg;have hnb10:=NB19007_19001.out;have hnc10:=NB19001_19007.out;have hcz11_0:w9.cell? ⟨gb19007,0,none⟩=some (.int .i64 0):=(Zt BK19007.out 0).trans rfl;have hcz11_1:w9.cell? ⟨gb19007,1,none⟩=some (.slice none 0 0):=(Zt BK19007.out 1).trans rfl;have hfz11_0:=Zu BK19007.out 0;have hfz11_1:=Zu BK19007.out 1;obtain⟨Ao12,co12,eo12⟩:=Kd.R_slice HO19005.out;subst eo12)|(go_at_call 16;(with_reducible refine(ZX.calls k t19002 _ _ t19003 t19008 _ ?side1 ?side2 A5.out).mono ?_);(case side1=>refine(Kd.R_reads' (e:=84) (base:=w.heap.size) (ok:=fun k_=>True) (n:=t19003.length) (c:=co12) ?_).2.2;exact(by(with_reducible repeat(first|apply Kd.R_alloc|apply Kd.R_drewN|apply Kd.R_drew));exact(Kd.R_mono (Kd.R_far (p:=⟨gb19007,1,none⟩) (Kd.R_far (p:=⟨gb19007,0,none⟩) (Kd.R_types HO19005.out BK19007.out (by decide)) (fun _ hk=>hk.2) (.int .i64 t19002)) (fun _ hk=>hk.2) (.slice Ao12 t19003.length co12)) (fun _ h_=>h_.1))));(case side2=>exact(Kd.R_reads' HO19005.out).2.1);rintro e w13 ⟨rfl,hb⟩;replace HO19005:=Za (Kd.R_below (by(with_reducible repeat(first|apply Kd.R_alloc|apply Kd.R_drewN|apply Kd.R_drew));exact(Kd.R_mono (Kd.R_far (p:=⟨gb19007,1,none⟩) (Kd.R_far (p:=⟨gb19007,0,none⟩) (Kd.R_types HO19005.out BK19007.out (by decide)) (fun _ hk=>hk.2) (.int .i64 t19002)) (fun _ hk=>hk.2) (.slice Ao12 t19003.length co12)) (fun _ h_=>h_.1))) hb);replace BK19001:=Za (Zx (g:=gb19001) (o:=.cells #[.int .i64 a0_0,.slice A0_1 l0_1.length c0_1] 31 (0,0)) (by(with_reducible repeat(first|refine Zn ?_ _|refine Zp ?_|refine Zm ?_ _));refine ZE ?_ NB19001_19007.out _;(with_reducible repeat(first|refine Zn ?_ _|refine Zp ?_|refine Zm ?_ _));refine ZE ?_ NB19001_19007.out _;(with_reducible repeat(first|refine Zn ?_ _|refine Zp ?_|refine Zm ?_ _));exact BK19001.out) hb);replace BK19007:=Za (Zx (g:=gb19007) (o:=.cells #[.int .i64 t19002,.slice Ao12 t19003.length co12] 31 (0,0)) (by(with_reducible repeat(first|refine Zn ?_ _|refine Zp ?_|refine Zm ?_ _));refine ZJ (cs:=#[.int .i64 t19002,.slice none 0 0]) ?_ 1 _ rfl;(with_reducible repeat(first|refine Zn ?_ _|refine Zp ?_|refine Zm ?_ _));refine ZJ (cs:=#[.int .i64 0,.slice none 0 0]) ?_ 0 _ rfl;(with_reducible repeat(first|refine Zn ?_ _|refine Zp ?_|refine Zm ?_ _));exact BK19007.out) hb);replace HB:=Za (Zw (by repeat(first|(with_reducible first|exact HB.out|apply Zq|apply Zl|apply Zr|refine Zo ?_ GE19001.out|refine Zo ?_ GE19007.out)|exact HB.out)) hb);(try clear hb);(try clear hb2);(try clear hk);(try clear hi)))
  go_ret
  exact⟨by first|rfl|(simp[ZB,ZA] <;> rfl)|(simp[*,ZB,ZA] <;> rfl),by repeat(first|(with_reducible first|exact HB.out|apply Zq|apply Zl|apply Zr|refine Zo ?_ GE19001.out|refine Zo ?_ GE19007.out)|exact HB.out)⟩
 ·replace c4:=Bool.eq_false_iff.mpr c4
  subst c4
  have H1:(some false)=some r:=by rw[if_neg (show ¬(false=true) by decide)] at H;exact H
  clear H
  have H:=H1
  clear H1
  obtain rfl:=Zf H
  go_enter Try.func19,Try.ntmps19
  go_wp2_with (first|((with_reducible refine ZP (N:=2) rfl ?_);refine ZM ?hg (N:=2) ?hd (cs:=#[.int .i64 a0_0,.slice A0_1 l0_1.length c0_1]) (t:=31) ?hr ?_;(case hd=>rfl);(case hg=>rfl);(case hr=>first|(go_simp;done)|(go_simp;rfl));intro gb19001 hg w14 hbox hb;have BK19001:=Za (hbox);have GW19001:=Za ((by rw[hg];exact(Zv (by repeat(first|(with_reducible first|exact HB.out|apply Zq|apply Zl|apply Zr)|exact HB.out))):w.heap.size≤gb19001));have GE19001:=Za ((by rw[hg];exact(Zv (by repeat(first|(with_reducible first|exact HB.out|apply Zq|apply Zl|apply Zr)|exact HB.out))):w.heap.size≤gb19001));replace HB:=Za (Zw (by repeat(first|(with_reducible first|exact HB.out|apply Zq|apply Zl|apply Zr)|exact HB.out)) hb);clear hb hbox hg;have hcz15_0:w14.cell? ⟨gb19001,0,none⟩=some (.int .i64 a0_0):=(Zt BK19001.out 0).trans rfl;have hcz15_1:w14.cell? ⟨gb19001,1,none⟩=some (.slice A0_1 l0_1.length c0_1):=(Zt BK19001.out 1).trans rfl;have hfz15_0:=Zu BK19001.out 0;have hfz15_1:=Zu BK19001.out 1)|((with_reducible refine ZO (f:=18) rfl ?_);refine Z6 (some 10) rfl rfl Try.func18 (by kernel_rfl) rfl #[.agg #[.int .i64 a0_0,.slice A0_1 l0_1.length c0_1],.slice A1 l1.length c1] rfl (by(try simp only[List.map_toArray,List.map_cons,List.map_nil]);first|done|rfl|(simp only[Zj,Zi];rfl)) ?_;(with_reducible refine(ZT.calls k a0_0 _ _ l0_1 _ _ l1 t19002 t19003 false _ ?side1 ?side2 ?side3 ?side4 A3.out).mono ?_);(case side1=>repeat(first|exact(Kd.C_below HR0_1.out HB.out)|(with_reducible refine Kd.C_alloc ?_ _)|(with_reducible refine Kd.C_drewN ?_ _)|(with_reducible refine Kd.C_drew ?_)));(case side2=>exact HC0_1.out);(case side3=>repeat(first|exact(Kd.C_below HR1.out HB.out)|(with_reducible refine Kd.C_alloc ?_ _)|(with_reducible refine Kd.C_drewN ?_ _)|(with_reducible refine Kd.C_drew ?_)));(case side4=>exact HC1.out);rintro e w16 ⟨v19004,rfl,ho0,hb⟩;refine⟨_,rfl,?_⟩;have HO19005:=Za (Kd.R_lower ho0 (Zv (by repeat(first|(with_reducible first|exact HB.out|apply Zq|apply Zl|apply Zr|refine Zo ?_ GE19001.out)|exact HB.out))));replace BK19001:=Za (Zx (g:=gb19001) (o:=.cells #[.int .i64 a0_0,.slice A0_1 l0_1.length c0_1] 31 (0,0)) (by(with_reducible repeat(first|refine Zn ?_ _|refine Zp ?_|refine Zm ?_ _));exact BK19001.out) hb);replace HB:=Za (Zw (by repeat(first|(with_reducible first|exact HB.out|apply Zq|apply Zl|apply Zr|refine Zo ?_ GE19001.out)|exact HB.out)) hb);(try clear hb);(try clear hb2);(try clear hk);(try clear hi);(try clear ho0))|((with_reducible refine ZP (N:=5) rfl ?_);refine ZM ?hg (N:=5) ?hd (cs:=#[.int .i64 0,.slice none 0 0]) (t:=31) ?hr ?_;(case hd=>rfl);(case hg=>rfl);(case hr=>first|(go_simp;done)|(go_simp;rfl));intro gb19007 hg w17 hbox hb;have BK19007:=Za (hbox);have GW19007:=Za ((by rw[hg];exact(Zv (by repeat(first|(with_reducible first|exact HB.out|apply Zq|apply Zl|apply Zr|refine Zo ?_ GE19001.out)|exact HB.out))):w.heap.size≤gb19007));have GE19007:=Za ((by rw[hg];exact(Zv (by repeat(first|(with_reducible first|exact HB.out|apply Zq|apply Zl|apply Zr|refine Zo ?_ GE19001.out)|exact HB.out))):w.heap.size≤gb19007));have NB19001_19007:=Za ((by rw[hg];exact Nat.ne_of_lt (ZL (g:=gb19001) (o:=.cells #[.int .i64 a0_0,.slice A0_1 l0_1.length c0_1] 31 (0,0)) (by(with_reducible repeat(first|refine Zn ?_ _|refine Zp ?_|refine Zm ?_ _));exact BK19001.out)):gb19001≠gb19007));have NB19007_19001:=Za ((by rw[hg];exact Nat.ne_of_gt (ZL (g:=gb19001) (o:=.cells #[.int .i64 a0_0,.slice A0_1 l0_1.length c0_1] 31 (0,0)) (by(with_reducible repeat(first|refine Zn ?_ _|refine Zp ?_|refine Zm ?_ _));exact BK19001.out)):gb19007≠gb19001));replace HO19005:=Za (Kd.R_below (by(with_reducible repeat(first|apply Kd.R_alloc|apply Kd.R_drewN|apply Kd.R_drew));exact HO19005.out) hb);replace BK19001:=Za (Zx (g:=gb19001) (o:=.cells #[.int .i64 a0_0,.slice A0_1 l0_1.length c0_1] 31 (0,0)) (by(with_reducible repeat(first|refine Zn ?_ _|refine Zp ?_|refine Zm ?_ _));exact BK19001.out) hb);replace HB:=Za (Zw (by repeat(first|(with_reducible first|exact HB.out|apply Zq|apply Zl|apply Zr|refine Zo ?_ GE19001.out)|exact HB.out)) hb);clear hb hbox hg;have hnb18:=NB19007_19001.out;have hnc18:=NB19001_19007.out;have hcz19_0:w17.cell? ⟨gb19007,0,none⟩=some (.int .i64 0):=(Zt BK19007.out 0).trans rfl;have hcz19_1:w17.cell? ⟨gb19007,1,none⟩=some (.slice none 0 0):=(Zt BK19007.out 1).trans rfl;have hfz19_0:=Zu BK19007.out 0;have hfz19_1:=Zu BK19007.out 1;obtain⟨Ao20,co20,eo20⟩:=Kd.R_slice HO19005.out;subst eo20))
  go_ret
  exact⟨by first|rfl|(simp[ZB,ZA] <;> rfl)|(simp[*,ZB,ZA] <;> rfl),by repeat(first|(with_reducible first|exact HB.out|apply Zq|apply Zl|apply Zr|refine Zo ?_ GE19001.out|refine Zo ?_ GE19007.out)|exact HB.out)⟩
def Z8.f (a0_0:Int) (a0_1:Int) (a1:Int):Option (Bool):=(Z9.f a0_0 a0_1).bind fun t20002=>(if t20002=true then(if a0_0=(-1000000) then(if a0_1=1000000 then(some true) else(some (decide (a1≤a0_1)))) else(if a1≥a0_0 then(if a0_1=1000000 then(some true) else(some (decide (a1≤a0_1)))) else(some false))) else(some false))
set_option maxHeartbeats 8000000 in
set_option maxRecDepth 100000 in
theorem Z8.calls (a0_0:Int) (a0_1:Int) (a1:Int) (r:Bool) (w:World) (h:Z8.f a0_0 a0_1 a1=some r) :
  Calls Try.prog 20 #[.agg #[.int .i64 a0_0,.int .i64 a0_1],.int .i64 a1] w fun e w'=>e=.returned (.bool r)∧Below w.heap.size w w':=by
 have hu35:=Try.underlying35
 have HB:=Za (Below.refl w.heap.size w)
 have H:((Z9.f a0_0 a0_1).bind fun t20002=>(if t20002=true then(if a0_0=(-1000000) then(if a0_1=1000000 then(some true) else(some (decide (a1≤a0_1)))) else(if a1≥a0_0 then(if a0_1=1000000 then(some true) else(some (decide (a1≤a0_1)))) else(some false))) else(some false)))=some r:=h
 clear h
 replace H:=Zg H
 obtain⟨t20002,A30,H⟩:=H
 replace H:(if t20002=true then(if a0_0=(-1000000) then(if a0_1=1000000 then(some true) else(some (decide (a1≤a0_1)))) else(if a1≥a0_0 then(if a0_1=1000000 then(some true) else(some (decide (a1≤a0_1)))) else(some false))) else(some false))=some r:=H
 have A3:=Za A30;clear A30
 by_cases c4:t20002=true
 ·subst c4
  have H1:(if a0_0=(-1000000) then(if a0_1=1000000 then(some true) else(some (decide (a1≤a0_1)))) else(if a1≥a0_0 then(if a0_1=1000000 then(some true) else(some (decide (a1≤a0_1)))) else(some false)))=some r:=by rw[if_pos rfl] at H;exact H
  clear H
  have H:=H1
  clear H1
  by_cases c5:a0_0=(-1000000)
  ·rw[if_pos c5] at H
   have c5b0:(a0_0 == (-1000000))=true:=beq_iff_eq.mpr c5
   have c5b1:(a0_0 != (-1000000))=false:=bne_eq_false_iff_eq.mpr c5
   clear c5
   by_cases c6:a0_1=1000000
   ·rw[if_pos c6] at H
    have c6b0:(a0_1 == 1000000)=true:=beq_iff_eq.mpr c6
    have c6b1:(a0_1 != 1000000)=false:=bne_eq_false_iff_eq.mpr c6
    clear c6
    obtain rfl:=Zf H
    go_enter Try.func20,Try.ntmps20
    go_wp2_with (first|((with_reducible refine ZP (N:=2) rfl ?_);refine ZM ?hg (N:=2) ?hd (cs:=#[.int .i64 a0_0,.int .i64 a0_1]) (t:=35) ?hr ?_;(case hd=>rfl);(case hg=>rfl);(case hr=>first|(go_simp;done)|(go_simp;rfl));intro gb20001 hg w7 hbox hb;have BK20001:=Za (hbox);have GW20001:=Za ((by rw[hg];exact(Zv (by repeat(first|(with_reducible first|exact HB.out|apply Zq|apply Zl|apply Zr)|exact HB.out))):w.heap.size≤gb20001));have GE20001:=Za ((by rw[hg];exact(Zv (by repeat(first|(with_reducible first|exact HB.out|apply Zq|apply Zl|apply Zr)|exact HB.out))):w.heap.size≤gb20001));replace HB:=Za (Zw (by repeat(first|(with_reducible first|exact HB.out|apply Zq|apply Zl|apply Zr)|exact HB.out)) hb);clear hb hbox hg;have hcz8_0:w7.cell? ⟨gb20001,0,none⟩=some (.int .i64 a0_0):=(Zt BK20001.out 0).trans rfl;have hcz8_1:w7.cell? ⟨gb20001,1,none⟩=some (.int .i64 a0_1):=(Zt BK20001.out 1).trans rfl;have hfz8_0:=Zu BK20001.out 0;have hfz8_1:=Zu BK20001.out 1)|((with_reducible refine ZO (f:=53) rfl ?_);refine Z6 (some 6) rfl rfl Try.func53 (by kernel_rfl) rfl #[.agg #[.int .i64 a0_0,.int .i64 a0_1]] rfl (by(try simp only[List.map_toArray,List.map_cons,List.map_nil]);first|done|rfl|(simp only[Zj,Zi];rfl)) ?_;(with_reducible refine(Z9.calls a0_0 a0_1 true _ A3.out).mono ?_);rintro e w9 ⟨rfl,hb⟩;refine⟨_,rfl,?_⟩;replace BK20001:=Za (Zx (g:=gb20001) (o:=.cells #[.int .i64 a0_0,.int .i64 a0_1] 35 (0,0)) (by(with_reducible repeat(first|refine Zn ?_ _|refine Zp ?_|refine Zm ?_ _));exact BK20001.out) hb);replace HB:=Za (Zw (by repeat(first|(with_reducible first|exact HB.out|apply Zq|apply Zl|apply Zr|refine Zo ?_ GE20001.out)|exact HB.out)) hb);(try clear hb);(try clear hb2);(try clear hk);(try clear hi);have hcz10_0:w9.cell? ⟨gb20001,0,none⟩=some (.int .i64 a0_0):=(Zt BK20001.out 0).trans rfl;have hcz10_1:w9.cell? ⟨gb20001,1,none⟩=some (.int .i64 a0_1):=(Zt BK20001.out 1).trans rfl;have hfz10_0:=Zu BK20001.out 0;have hfz10_1:=Zu BK20001.out 1))
    go_ret
    exact⟨by first|rfl|(simp[ZB,ZA] <;> rfl)|(simp[*,ZB,ZA] <;> rfl),by repeat(first|(with_reducible first|exact HB.out|apply Zq|apply Zl|apply Zr|refine Zo ?_ GE20001.out)|exact HB.out)⟩
   ·rw[if_neg c6] at H
    have c6b0:(a0_1 == 1000000)=false:=beq_eq_false_iff_ne.mpr c6
    have c6b1:(a0_1 != 1000000)=true:=bne_iff_ne.mpr c6
    obtain rfl:=Zf H
    go_enter Try.func20,Try.ntmps20
    go_wp2_with (first|((with_reducible refine ZP (N:=2) rfl ?_);refine ZM ?hg (N:=2) ?hd (cs:=#[.int .i64 a0_0,.int .i64 a0_1]) (t:=35) ?hr ?_;(case hd=>rfl);(case hg=>rfl);(case hr=>first|(go_simp;done)|(go_simp;rfl));intro gb20001 hg w11 hbox hb;have BK20001:=Za (hbox);have GW20001:=Za ((by rw[hg];exact(Zv (by repeat(first|(with_reducible first|exact HB.out|apply Zq|apply Zl|apply Zr)|exact HB.out))):w.heap.size≤gb20001));have GE20001:=Za ((by rw[hg];exact(Zv (by repeat(first|(with_reducible first|exact HB.out|apply Zq|apply Zl|apply Zr)|exact HB.out))):w.heap.size≤gb20001));replace HB:=Za (Zw (by repeat(first|(with_reducible first|exact HB.out|apply Zq|apply Zl|apply Zr)|exact HB.out)) hb);clear hb hbox hg;have hcz12_0:w11.cell? ⟨gb20001,0,none⟩=some (.int .i64 a0_0):=(Zt BK20001.out 0).trans rfl;have hcz12_1:w11.cell? ⟨gb20001,1,none⟩=some (.int .i64 a0_1):=(Zt BK20001.out 1).trans rfl;have hfz12_0:=Zu BK20001.out 0;have hfz12_1:=Zu BK20001.out 1)|((with_reducible refine ZO (f:=53) rfl ?_);refine Z6 (some 6) rfl rfl Try.func53 (by kernel_rfl) rfl #[.agg #[.int .i64 a0_0,.int .i64 a0_1]] rfl (by(try simp only[List.map_toArray,List.map_cons,List.map_nil]);first|done|rfl|(simp only[Zj,Zi];rfl)) ?_;(with_reducible refine(Z9.calls a0_0 a0_1 true _ A3.out).mono ?_);rintro e w13 ⟨rfl,hb⟩;refine⟨_,rfl,?_⟩;replace BK20001:=Za (Zx (g:=gb20001) (o:=.cells #[.int .i64 a0_0,.int .i64 a0_1] 35 (0,0)) (by(with_reducible repeat(first|refine Zn ?_ _|refine Zp ?_|refine Zm ?_ _));exact BK20001.out) hb);replace HB:=Za (Zw (by repeat(first|(with_reducible first|exact HB.out|apply Zq|apply Zl|apply Zr|refine Zo ?_ GE20001.out)|exact HB.out)) hb);(try clear hb);(try clear hb2);(try clear hk);(try clear hi);have hcz14_0:w13.cell? ⟨gb20001,0,none⟩=some (.int .i64 a0_0):=(Zt BK20001.out 0).trans rfl;have hcz14_1:w13.cell? ⟨gb20001,1,none⟩=some (.int .i64 a0_1):=(Zt BK20001.out 1).trans rfl;have hfz14_0:=Zu BK20001.out 0;have hfz14_1:=Zu BK20001.out 1))
    go_ret
    exact⟨by first|rfl|(simp[ZB,ZA] <;> rfl)|(simp[*,ZB,ZA] <;> rfl),by repeat(first|(with_reducible first|exact HB.out|apply Zq|apply Zl|apply Zr|refine Zo ?_ GE20001.out)|exact HB.out)⟩
  ·rw[if_neg c5] at H
   have c5b0:(a0_0 == (-1000000))=false:=beq_eq_false_iff_ne.mpr c5
   have c5b1:(a0_0 != (-1000000))=true:=bne_iff_ne.mpr c5
   by_cases c15:a1≥a0_0
   ·rw[if_pos c15] at H
    have c15b0:decide (a0_0≤a1)=true:=Zd c15
    clear c15
    by_cases c16:a0_1=1000000
    ·rw[if_pos c16] at H
     have c16b0:(a0_1 == 1000000)=true:=beq_iff_eq.mpr c16
     have c16b1:(a0_1 != 1000000)=false:=bne_eq_false_iff_eq.mpr c16
     clear c16
     obtain rfl:=Zf H
     go_enter Try.func20,Try.ntmps20
     go_wp2_with (first|((with_reducible refine ZP (N:=2) rfl ?_);refine ZM ?hg (N:=2) ?hd (cs:=#[.int .i64 a0_0,.int .i64 a0_1]) (t:=35) ?hr ?_;(case hd=>rfl);(case hg=>rfl);(case hr=>first|(go_simp;done)|(go_simp;rfl));intro gb20001 hg w17 hbox hb;have BK20001:=Za (hbox);have GW20001:=Za ((by rw[hg];exact(Zv (by repeat(first|(with_reducible first|exact HB.out|apply Zq|apply Zl|apply Zr)|exact HB.out))):w.heap.size≤gb20001));have GE20001:=Za ((by rw[hg];exact(Zv (by repeat(first|(with_reducible first|exact HB.out|apply Zq|apply Zl|apply Zr)|exact HB.out))):w.heap.size≤gb20001));replace HB:=Za (Zw (by repeat(first|(with_reducible first|exact HB.out|apply Zq|apply Zl|apply Zr)|exact HB.out)) hb);clear hb hbox hg;have hcz18_0:w17.cell? ⟨gb20001,0,none⟩=some (.int .i64 a0_0):=(Zt BK20001.out 0).trans rfl;have hcz18_1:w17.cell? ⟨gb20001,1,none⟩=some (.int .i64 a0_1):=(Zt BK20001.out 1).trans rfl;have hfz18_0:=Zu BK20001.out 0;have hfz18_1:=Zu BK20001.out 1)|((with_reducible refine ZO (f:=53) rfl ?_);refine Z6 (some 6) rfl rfl Try.func53 (by kernel_rfl) rfl #[.agg #[.int .i64 a0_0,.int .i64 a0_1]] rfl (by(try simp only[List.map_toArray,List.map_cons,List.map_nil]);first|done|rfl|(simp only[Zj,Zi];rfl)) ?_;(with_reducible refine(Z9.calls a0_0 a0_1 true _ A3.out).mono ?_);rintro e w19 ⟨rfl,hb⟩;refine⟨_,rfl,?_⟩;replace BK20001:=Za (Zx (g:=gb20001) (o:=.cells #[.int .i64 a0_0,.int .i64 a0_1] 35 (0,0)) (by(with_reducible repeat(first|refine Zn ?_ _|refine Zp ?_|refine Zm ?_ _));exact BK20001.out) hb);replace HB:=Za (Zw (by repeat(first|(with_reducible first|exact HB.out|apply Zq|apply Zl|apply Zr|refine Zo ?_ GE20001.out)|exact HB.out)) hb);(try clear hb);(try clear hb2);(try clear hk);(try clear hi);have hcz20_0:w19.cell? ⟨gb20001,0,none⟩=some (.int .i64 a0_0):=(Zt BK20001.out 0).trans rfl;have hcz20_1:w19.cell? ⟨gb20001,1,none⟩=some (.int .i64 a0_1):=(Zt BK20001.out 1).trans rfl;have hfz20_0:=Zu BK20001.out 0;have hfz20_1:=Zu BK20001.out 1))
     go_ret
     exact⟨by first|rfl|(simp[ZB,ZA] <;> rfl)|(simp[*,ZB,ZA] <;> rfl),by repeat(first|(with_reducible first|exact HB.out|apply Zq|apply Zl|apply Zr|refine Zo ?_ GE20001.out)|exact HB.out)⟩
    ·rw[if_neg c16] at H
     have c16b0:(a0_1 == 1000000)=false:=beq_eq_false_iff_ne.mpr c16
     have c16b1:(a0_1 != 1000000)=true:=bne_iff_ne.mpr c16
     obtain rfl:=Zf H
     go_enter Try.func20,Try.ntmps20
     go_wp2_with (first|((with_reducible refine ZP (N:=2) rfl ?_);refine ZM ?hg (N:=2) ?hd (cs:=#[.int .i64 a0_0,.int .i64 a0_1]) (t:=35) ?hr ?_;(case hd=>rfl);(case hg=>rfl);(case hr=>first|(go_simp;done)|(go_simp;rfl));intro gb20001 hg w21 hbox hb;have BK20001:=Za (hbox);have GW20001:=Za ((by rw[hg];exact(Zv (by repeat(first|(with_reducible first|exact HB.out|apply Zq|apply Zl|apply Zr)|exact HB.out))):w.heap.size≤gb20001));have GE20001:=Za ((by rw[hg];exact(Zv (by repeat(first|(with_reducible first|exact HB.out|apply Zq|apply Zl|apply Zr)|exact HB.out))):w.heap.size≤gb20001));replace HB:=Za (Zw (by repeat(first|(with_reducible first|exact HB.out|apply Zq|apply Zl|apply Zr)|exact HB.out)) hb);clear hb hbox hg;have hcz22_0:w21.cell? ⟨gb20001,0,none⟩=some (.int .i64 a0_0):=(Zt BK20001.out 0).trans rfl;have hcz22_1:w21.cell? ⟨gb20001,1,none⟩=some (.int .i64 a0_1):=(Zt BK20001.out 1).trans rfl;have hfz22_0:=Zu BK20001.out 0;have hfz22_1:=Zu BK20001.out 1)|((with_reducible refine ZO (f:=53) rfl ?_);refine Z6 (some 6) rfl rfl Try.func53 (by kernel_rfl) rfl #[.agg #[.int .i64 a0_0,.int .i64 a0_1]] rfl (by(try simp only[List.map_toArray,List.map_cons,List.map_nil]);first|done|rfl|(simp only[Zj,Zi];rfl)) ?_;(with_reducible refine(Z9.calls a0_0 a0_1 true _ A3.out).mono ?_);rintro e w23 ⟨rfl,hb⟩;refine⟨_,rfl,?_⟩;replace BK20001:=Za (Zx (g:=gb20001) (o:=.cells #[.int .i64 a0_0,.int .i64 a0_1] 35 (0,0)) (by(with_reducible repeat(first|refine Zn ?_ _|refine Zp ?_|refine Zm ?_ _));exact BK20001.out) hb);replace HB:=Za (Zw (by repeat(first|(with_reducible first|exact HB.out|apply Zq|apply Zl|apply Zr|refine Zo ?_ GE20001.out)|exact HB.out)) hb);(try clear hb);(try clear hb2);(try clear hk);(try clear hi);have hcz24_0:w23.cell? ⟨gb20001,0,none⟩=some (.int .i64 a0_0):=(Zt BK20001.out 0).trans rfl;have hcz24_1:w23.cell? ⟨gb20001,1,none⟩=some (.int .i64 a0_1):=(Zt BK20001.out 1).trans rfl;have hfz24_0:=Zu BK20001.out 0;have hfz24_1:=Zu BK20001.out 1))
     go_ret
     exact⟨by first|rfl|(simp[ZB,ZA] <;> rfl)|(simp[*,ZB,ZA] <;> rfl),by repeat(first|(with_reducible first|exact HB.out|apply Zq|apply Zl|apply Zr|refine Zo ?_ GE20001.out)|exact HB.out)⟩
   ·rw[if_neg c15] at H
    have c15b0:decide (a0_0≤a1)=false:=Ze c15
    clear c15
    obtain rfl:=Zf H
    go_enter Try.func20,Try.ntmps20
    go_wp2_with (first|((with_reducible refine ZP (N:=2) rfl ?_);refine ZM ?hg (N:=2) ?hd (cs:=#[.int .i64 a0_0,.int .i64 a0_1]) (t:=35) ?hr ?_;(case hd=>rfl);(case hg=>rfl);(case hr=>first|(go_simp;done)|(go_simp;rfl));intro gb20001 hg w25 hbox hb;have BK20001:=Za (hbox);have GW20001:=Za ((by rw[hg];exact(Zv (by repeat(first|(with_reducible first|exact HB.out|apply Zq|apply Zl|apply Zr)|exact HB.out))):w.heap.size≤gb20001));have GE20001:=Za ((by rw[hg];exact(Zv (by repeat(first|(with_reducible first|exact HB.out|apply Zq|apply Zl|apply Zr)|exact HB.out))):w.heap.size≤gb20001));replace HB:=Za (Zw (by repeat(first|(with_reducible first|exact HB.out|apply Zq|apply Zl|apply Zr)|exact HB.out)) hb);clear hb hbox hg;have hcz26_0:w25.cell? ⟨gb20001,0,none⟩=some (.int .i64 a0_0):=(Zt BK20001.out 0).trans rfl;have hcz26_1:w25.cell? ⟨gb20001,1,none⟩=some (.int .i64 a0_1):=(Zt BK20001.out 1).trans rfl;have hfz26_0:=Zu BK20001.out 0;have hfz26_1:=Zu BK20001.out 1)|((with_reducible refine ZO (f:=53) rfl ?_);refine Z6 (some 6) rfl rfl Try.func53 (by kernel_rfl) rfl #[.agg #[.int .i64 a0_0,.int .i64 a0_1]] rfl (by(try simp only[List.map_toArray,List.map_cons,List.map_nil]);first|done|rfl|(simp only[Zj,Zi];rfl)) ?_;(with_reducible refine(Z9.calls a0_0 a0_1 true _ A3.out).mono ?_);rintro e w27 ⟨rfl,hb⟩;refine⟨_,rfl,?_⟩;replace BK20001:=Za (Zx (g:=gb20001) (o:=.cells #[.int .i64 a0_0,.int .i64 a0_1] 35 (0,0)) (by(with_reducible repeat(first|refine Zn ?_ _|refine Zp ?_|refine Zm ?_ _));exact BK20001.out) hb);replace HB:=Za (Zw (by repeat(first|(with_reducible first|exact HB.out|apply Zq|apply Zl|apply Zr|refine Zo ?_ GE20001.out)|exact HB.out)) hb);(try clear hb);(try clear hb2);(try clear hk);(try clear hi);have hcz28_0:w27.cell? ⟨gb20001,0,none⟩=some (.int .i64 a0_0):=(Zt BK20001.out 0).trans rfl;have hcz28_1:w27.cell? ⟨gb20001,1,none⟩=some (.int .i64 a0_1):=(Zt BK20001.out 1).trans rfl;have hfz28_0:=Zu BK20001.out 0;have hfz28_1:=Zu BK20001.out 1))
    go_ret
    exact⟨by first|rfl|(simp[ZB,ZA] <;> rfl)|(simp[*,ZB,ZA] <;> rfl),by repeat(first|(with_reducible first|exact HB.out|apply Zq|apply Zl|apply Zr|refine Zo ?_ GE20001.out)|exact HB.out)⟩
 ·replace c4:=Bool.eq_false_iff.mpr c4
  subst c4
  have H1:(some false)=some r:=by rw[if_neg (show ¬(false=true) by decide)] at H;exact H
  clear H
  have H:=H1
  clear H1
  obtain rfl:=Zf H
  go_enter Try.func20,Try.ntmps20
  go_wp2_with (first|((with_reducible refine ZP (N:=2) rfl ?_);refine ZM ?hg (N:=2) ?hd (cs:=#[.int .i64 a0_0,.int .i64 a0_1]) (t:=35) ?hr ?_;(case hd=>rfl);(case hg=>rfl);(case hr=>first|(go_simp;done)|(go_simp;rfl));intro gb20001 hg w29 hbox hb;have BK20001:=Za (hbox);have GW20001:=Za ((by rw[hg];exact(Zv (by repeat(first|(with_reducible first|exact HB.out|apply Zq|apply Zl|apply Zr)|exact HB.out))):w.heap.size≤gb20001));have GE20001:=Za ((by rw[hg];exact(Zv (by repeat(first|(with_reducible first|exact HB.out|apply Zq|apply Zl|apply Zr)|exact HB.out))):w.heap.size≤gb20001));replace HB:=Za (Zw (by repeat(first|(with_reducible first|exact HB.out|apply Zq|apply Zl|apply Zr)|exact HB.out)) hb);clear hb hbox hg;have hcz30_0:w29.cell? ⟨gb20001,0,none⟩=some (.int .i64 a0_0):=(Zt BK20001.out 0).trans rfl;have hcz30_1:w29.cell? ⟨gb20001,1,none⟩=some (.int .i64 a0_1):=(Zt BK20001.out 1).trans rfl;have hfz30_0:=Zu BK20001.out 0;have hfz30_1:=Zu BK20001.out 1)|((with_reducible refine ZO (f:=53) rfl ?_);refine Z6 (some 6) rfl rfl Try.func53 (by kernel_rfl) rfl #[.agg #[.int .i64 a0_0,.int .i64 a0_1]] rfl (by(try simp only[List.map_toArray,List.map_cons,List.map_nil]);first|done|rfl|(simp only[Zj,Zi];rfl)) ?_;(with_reducible refine(Z9.calls a0_0 a0_1 false _ A3.out).mono ?_);rintro e w31 ⟨rfl,hb⟩;refine⟨_,rfl,?_⟩;replace BK20001:=Za (Zx (g:=gb20001) (o:=.cells #[.int .i64 a0_0,.int .i64 a0_1] 35 (0,0)) (by(with_reducible repeat(first|refine Zn ?_ _|refine Zp ?_|refine Zm ?_ _));exact BK20001.out) hb);replace HB:=Za (Zw (by repeat(first|(with_reducible first|exact HB.out|apply Zq|apply Zl|apply Zr|refine Zo ?_ GE20001.out)|exact HB.out)) hb);(try clear hb);(try clear hb2);(try clear hk);(try clear hi)))
  go_ret
  exact⟨by first|rfl|(simp[ZB,ZA] <;> rfl)|(simp[*,ZB,ZA] <;> rfl),by repeat(first|(with_reducible first|exact HB.out|apply Zq|apply Zl|apply Zr|refine Zo ?_ GE20001.out)|exact HB.out)⟩
def Z4.l0:Nat→Int→List Int→Int→Int→Option (Int)
 | 0,_,_,_,_=>none
 | k+1,x3,x6,x7,x8=>if x8<x7 then(if 0≤x8 then(if x8<(x6.length:Int) then(if (rd x6 x8)=(-1) then(Z4.l0 k (wrap64 (x3+1)) x6 x7 (wrap64 (x8+1))) else(Z4.l0 k x3 x6 x7 (wrap64 (x8+1)))) else(none)) else(none)) else(some x3)
def Z4.f (k:Nat) (l0:List Int):Option (Int):=Z4.l0 k 0 l0 (l0.length:Int) 0
set_option maxHeartbeats 8000000 in
set_option maxRecDepth 100000 in
theorem Z4.calls (k:Nat) (A0:Option Addr) (c0:Nat) (l0:List Int) (r:Int) (w:World) (hr0:Kd.C (Kd.int .i64) w A0 l0.length l0) (hc0:l0.length≤c0) (h:Z4.f k l0=some r) :
  Calls Try.prog 21 #[.slice A0 l0.length c0] w fun e w'=>e=.returned (.int .i64 r)∧Zab w w':=by
 have HR0:=Za hr0;have HC0:=Za hc0;clear hr0 hc0
 have H:(Z4.l0 k 0 l0 (l0.length:Int) 0)=some r:=h
 clear h
 have H':=Za H
 clear H
 go_enter Try.func21,Try.ntmps21
 go_wp2
 go_loopg [3,8] k (fun kq v3 v8 w'=>∃(x3_1:Int) (x8_1:Int),v3=.int .i64 x3_1∧v8=.int .i64 x8_1∧Aside0 (Z4.l0 kq x3_1 l0 (l0.length:Int) x8_1=some r)∧Aside0 (kq≤k)∧Zab w w')
 case atStart=>exact⟨(0),(0),(by first|rfl|(simp;done)|(simp[*];done)),(by first|rfl|(simp;done)|(simp[*];done)),H',⟨Nat.le_refl _⟩,by repeat(first|exact Zab.refl _|apply Zab.step)⟩
 case round=>
  clear H'
  obtain⟨x3_1,x8_1,rfl,rfl,HA,HK1,⟨m1,rfl⟩⟩:=hrel
  cases gk with
  | zero=>exact absurd HA.out (by simp[Z4.l0])
  | succ k1=>
   have H:=HA.out
   clear HA
   simp only[Z4.l0] at H
   by_cases c2:x8_1<(l0.length:Int)
   ·rw[if_pos c2] at H
    have c2b0:decide (x8_1<(l0.length:Int))=true:=Zd c2
    clear c2
    by_cases c3:0≤x8_1
    ·rw[if_pos c3] at H
     have c3b0:decide (0≤x8_1)=true:=Zd c3
     clear c3
     by_cases c4:x8_1<(l0.length:Int)
     ·rw[if_pos c4] at H
      have c4b0:decide (x8_1<(l0.length:Int))=true:=Zd c4
      clear c4
      by_cases c5:(rd l0 x8_1)=(-1)
      ·rw[if_pos c5] at H
       have c5b0:((rd l0 x8_1) == (-1))=true:=beq_iff_eq.mpr c5
       have c5b1:((rd l0 x8_1) != (-1))=false:=bne_eq_false_iff_eq.mpr c5
       clear c5
       have H':=Za H
       clear H
       have p21001:0≤(x8_1:Int):=Zc (by first|(with_reducible assumption)|assumption)
       have q21001:x8_1<(l0.length:Int):=Zc (by first|(with_reducible assumption)|assumption)
       obtain⟨ad21001,e21001,hx21001_0⟩:=Kd.at_int HR0.out x8_1 p21001 q21001
       cases e21001
       replace p21001:=eq_true p21001
       replace q21001:=eq_true q21001
       go_wp2
       go_roundg k1
       case measure=>have:=HK1.out;omega
       case rel=>exact⟨(wrap64 (x3_1+1)),(wrap64 (x8_1+1)),(by first|rfl|(simp;done)|(simp[*];done)),(by first|rfl|(simp;done)|(simp[*];done)),H',⟨by have:=HK1.out;omega⟩,by repeat(first|exact Zab.refl _|apply Zab.step)⟩
      ·rw[if_neg c5] at H
       have c5b0:((rd l0 x8_1) == (-1))=false:=beq_eq_false_iff_ne.mpr c5
       have c5b1:((rd l0 x8_1) != (-1))=true:=bne_iff_ne.mpr c5
       have H':=Za H
       clear H
       have p21001:0≤(x8_1:Int):=Zc (by first|(with_reducible assumption)|assumption)
       have q21001:x8_1<(l0.length:Int):=Zc (by first|(with_reducible assumption)|assumption)
       obtain⟨ad21001,e21001,hx21001_0⟩:=Kd.at_int HR0.out x8_1 p21001 q21001
       cases e21001
       replace p21001:=eq_true p21001
       replace q21001:=eq_true q21001
       go_wp2
       go_roundg k1
       case measure=>have:=HK1.out;omega
       case rel=>exact⟨(x3_1),(wrap64 (x8_1+1)),(by first|rfl|(simp;done)|(simp[*];done)),(by first|rfl|(simp;done)|(simp[*];done)),H',⟨by have:=HK1.out;omega⟩,by repeat(first|exact Zab.refl _|apply Zab.step)⟩
     ·rw[if_neg c4] at H
      exact absurd H (by simp)
    ·rw[if_neg c3] at H
     exact absurd H (by simp)
   ·rw[if_neg c2] at H
    have c2b0:decide (x8_1<(l0.length:Int))=false:=Ze c2
    clear c2
    obtain rfl:=Zf H
    go_wp2
    go_ret
    exact⟨by first|rfl|(simp;done)|(simp[*];done),by repeat(first|exact Zab.refl _|apply Zab.step)⟩
end Go.Proofs.Ythphnhmabieflab.Pr
namespace Go.Proofs.Ythphnhmabieflab.Pr
open Go.RowKit Go.Proofs.YthphnhmabieflabW.PrintWords Go.Proofs.Ythphnhmabieflab.Ni
theorem and255 (n:Int):bits .and .i64 n 255=n % 256:=by
 have h255:(BitVec.ofInt 64 255).toNat=2 ^ 8 - 1:=by decide
 have key:(BitVec.ofInt 64 n &&& BitVec.ofInt 64 255).toNat=(n % ((2 ^ 64:Nat):Int)).toNat % 2 ^ 8:=by
  rw[BitVec.toNat_and,BitVec.toNat_ofInt,h255,Nat.and_two_pow_sub_one_eq_mod]
 show IntKind.i64.wrap ((BitVec.ofInt 64 n &&& BitVec.ofInt 64 255).toNat:Nat)=n % 256
 rw[key,IntKind.wrap_i64]
 omega
def Cur (b:List Int) (i:Int):Prop:=b.length≤1048576∧0≤i∧i≤b.length
theorem byte_f {b:List Int} {i h:Int} (hc:Cur b i):∃x i' h',ZY.f b i h=some (x,i',h')∧0≤x∧x≤255∧Cur b i':=by
 obtain⟨hb,h0,hi⟩:=hc
 unfold ZY.f
 simp only[and255]
 by_cases c:i<(b.length:Int)
 ·rw[if_pos c,if_pos h0]
  refine⟨_,_,_,rfl,by omega,by omega,hb,?_,?_⟩
  ·rw[Zaf (by omega) (by omega)];omega
  ·rw[Zaf (by omega) (by omega)];omega
 ·rw[if_neg c]
  exact⟨_,_,_,rfl,by omega,by omega,hb,h0,hi⟩
theorem Zbj {b:List Int} {i h n:Int} (hc:Cur b i) (h1:1≤n) (h2:n≤256):∃x i' h',ZV.f b i h n=some (x,i',h')∧0≤x∧x<n∧Cur b i':=by
 obtain⟨x,i',h',e,x0,x1,hc'⟩:=byte_f (h:=h) hc
 unfold ZV.f
 rw[if_neg (by omega),if_pos h2,e,Zh,if_neg (by omega)]
 refine⟨_,_,_,rfl,?_,?_,hc'⟩
 ·exact Int.tmod_nonneg _ x0
 ·simp only;rw[Int.tmod_eq_emod_of_nonneg x0];exact Int.emod_lt_of_pos _ (by omega)
theorem new_l {b:List Int}:∀(d:Nat) (i h:Int) (k:Nat),0≤i→i≤4000→4000 - i≤d→d<k→∃r3,Zac.l0 k b h i=some (b,0,r3)
 | 0,i,h,k,h0,h4,hd,hk=>by
  obtain⟨m,rfl⟩:∃m,k=m+1:=⟨k - 1,by omega⟩
  simp only[Zac.l0]
  by_cases c:i<(b.length:Int)
  ·rw[if_pos c,if_neg (by omega)];exact⟨_,rfl⟩
  ·rw[if_neg c];exact⟨_,rfl⟩
 | d+1,i,h,k,h0,h4,hd,hk=>by
  obtain⟨m,rfl⟩:∃m,k=m+1:=⟨k - 1,by omega⟩
  simp only[Zac.l0]
  by_cases c:i<(b.length:Int)
  ·rw[if_pos c]
   by_cases c2:i<4000
   ·rw[if_pos c2,if_pos h0,Zaf (i:=i+1) (by omega) (by omega)]
    exact new_l d (i+1) _ m (by omega) (by omega) (by omega) (by omega)
   ·rw[if_neg c2];exact⟨_,rfl⟩
  ·rw[if_neg c];exact⟨_,rfl⟩
theorem new_f {b:List Int} (hb:b.length≤1048576) (k:Nat) (hk:2 ^ 64≤k):∃h,Zac.f k b=some (b,0,h)∧Cur b 0:=by
 unfold Zac.f
 obtain⟨h,e⟩:=new_l (b:=b) 4000 0 (wrap64 (1974+(b.length:Int))) k (by omega) (by omega) (by omega) (by omega)
 exact⟨h,e,hb,by omega,by omega⟩
theorem go_f {b:List Int}:∀(m:Nat) (i h:Int),Cur b i→∃i' h',ZaE.go m b i h=some (b,i',h')∧Cur b i'
 | 0,i,h,hc=>⟨i,h,rfl,hc⟩
 | m+1,i,h,hc=>by
  obtain⟨x,i',h',e,_,_,hc'⟩:=byte_f (h:=h) hc
  obtain⟨i2,h2,e2,hc2⟩:=go_f m i' h' hc'
  refine⟨i2,h2,?_,hc2⟩
  show(ZY.f b i h).bind _=_
  rw[e,Zh];exact e2
theorem l29New_f {b:List Int} (hb:b.length≤1048576) (n:Int) (hn:n≤1048576) (k:Nat) (hk:2 ^ 64≤k):∃i h,ZaE.f k b n=some (b,i,h)∧Cur b i:=by
 obtain⟨h0,e0,hc⟩:=new_f hb k hk
 obtain⟨i,h,e,hc2⟩:=go_f n.toNat 0 h0 hc
 refine⟨i,h,?_,hc2⟩
 unfold ZaE.f
 rw[if_pos hn,e0,Zh];exact e
theorem num_f {b:List Int} (hb:b.length≤1048576) (n:Int) (hn:n≤1048576) (k:Nat) (hk:2 ^ 64≤k):∃x,ZaP.f k b n=some x∧0≤x∧x≤65535:=by
 obtain⟨i,h,e,hc⟩:=l29New_f hb n hn k hk
 obtain⟨x,i1,h1,e1,a0,a1,hc1⟩:=byte_f (h:=h) hc
 obtain⟨y,i2,h2,e2,b0,b1,hc2⟩:=byte_f (h:=h1) hc1
 unfold ZaP.f
 rw[e,Zh]
 simp only
 rw[e1,Zh]
 simp only
 rw[e2,Zh]
 refine⟨_,rfl,?_,?_⟩
 ·simp only;rw[Zaf (i:=x * 256) (by omega) (by omega),Zaf (by omega) (by omega)];omega
 ·simp only;rw[Zaf (i:=x * 256) (by omega) (by omega),Zaf (by omega) (by omega)];omega
theorem ZcI (E:List ZU):∀(n:Nat) (s:BSt),rounds E (n+1) s=(fun u:BSt=>rnd E 0 (u.1,u.2.1,-1)) (rounds E n s)
 | 0,_=>rfl
 | n+1,s=>by show rounds E (n+1) _=_;rw[ZcI E n];rfl
theorem rnd_up:∀(E:List ZU) (i:Nat) (s:BSt),0≤s.2.2→0≤(rnd E i s).2.2
 | [],_,_,h=>h
 | e :: t,i,s,h=>by
  refine rnd_up t (i+1) _ ?_
  unfold relax
  split
  ·simp only;omega
  ·exact h
theorem rnd_same:∀(E:List ZU) (i:Nat) (s:BSt),(rnd E i s).2.2<0→rnd E i s=s∧∀e∈E,¬wrap64 (rd s.1 e.f0+e.f2)<rd s.1 e.f1
 | [],_,_,_=>⟨rfl,fun _ h=>absurd h (by simp)⟩
 | e :: t,i,s,h=>by
  have h0:(rnd t (i+1) (relax s i e)).2.2<0:=h
  by_cases c:wrap64 (rd s.1 e.f0+e.f2)<rd s.1 e.f1
  ·have:relax s i e=(s.1.set e.f1.toNat (wrap64 (rd s.1 e.f0+e.f2)),s.2.1.set e.f1.toNat (i:Int),(i:Int)):=if_pos c
   rw[this] at h0
   have:=rnd_up t (i+1) (s.1.set e.f1.toNat (wrap64 (rd s.1 e.f0+e.f2)),s.2.1.set e.f1.toNat (i:Int),(i:Int)) (by simp only;omega)
   omega
  ·have hr:relax s i e=s:=if_neg c
   rw[hr] at h0
   obtain⟨h1,h2⟩:=rnd_same t (i+1) s h0
   refine⟨by show rnd t (i+1) (relax s i e)=s;rw[hr];exact h1,fun x hx=>?_⟩
   rcases List.mem_cons.1 hx with rfl|hx
   ·exact c
   ·exact h2 x hx
def BndB (d:List Int) (B:Int):Prop:=∀v,-B≤d.getD v 0∧d.getD v 0≤B
theorem BndB.relax {s:BSt} {i:Nat} {e:ZU} {B:Int} (h:BndB s.1 B) (h0:0≤B) (hB:B≤1000000000000) (hw : -1000000≤e.f2∧e.f2≤1000000):BndB (relax s i e).1 (B+1000000):=by
 have hu:=h e.f0.toNat
 have e0:rd s.1 e.f0=s.1.getD e.f0.toNat 0:=rfl
 unfold Pr.relax
 split
 ·intro v
  have hv:=h v
  simp only
  rw[e0,ZbT (by omega) (by omega)]
  by_cases c:e.f1.toNat=v
  ·subst c
   by_cases hl:e.f1.toNat<s.1.length
   ·rw[getD_set_eq hl];omega
   ·rw[List.getD_eq_getElem?_getD,List.getElem?_eq_none (by simp;omega)];simp only[Option.getD_none];omega
  ·rw[getD_set_ne c];omega
 ·intro v;have:=h v;omega
theorem BndB.rnd {E:List ZU} (hw:ZaV E):∀(F:List ZU) (i:Nat) (s:BSt) (B:Int),(∀e∈F,e∈E)→BndB s.1 B→0≤B→B+(F.length:Int) * 1000000≤1000000000000→BndB (rnd F i s).1 (B+(F.length:Int) * 1000000)
 | [],i,s,B,_,h,_,_=>fun v=>by
  have h1 : -B≤(Pr.rnd [] i s).1.getD v 0∧(Pr.rnd [] i s).1.getD v 0≤B:=h v
  rw[List.length_nil];omega
 | e :: t,i,s,B,hm,h,h0,hB=>by
  rw[List.length_cons] at hB ⊢
  have h1:=BndB.relax (i:=i) h h0 (by omega) (hw e (hm e (by simp)))
  have h2:=BndB.rnd hw t (i+1) _ (B+1000000) (fun x hx=>hm x (by simp[hx])) h1 (by omega) (by omega)
  intro v
  have:=h2 v
  show -(B+((t.length+1:Nat):Int) * 1000000)≤(Pr.rnd t (i+1) (Pr.relax s i e)).1.getD v 0∧(Pr.rnd t (i+1) (Pr.relax s i e)).1.getD v 0≤B+((t.length+1:Nat):Int) * 1000000
  omega
theorem BndB.rounds {E:List ZU} (hw:ZaV E) (hl:E.length≤100):∀(n:Nat) (s:BSt) (B:Int),BndB s.1 B→0≤B→B+(n:Int) * 100000000≤1000000000000→BndB (rounds E n s).1 (B+(n:Int) * 100000000)
 | 0,s,B,h,_,_=>fun v=>by
  have h1 : -B≤(Pr.rounds E 0 s).1.getD v 0∧(Pr.rounds E 0 s).1.getD v 0≤B:=h v
  omega
 | n+1,s,B,h,h0,hB=>by
  have h1:=BndB.rnd hw E 0 (s.1,s.2.1,-1) B (fun _ h=>h) h h0 (by omega)
  have h2:BndB (Pr.rnd E 0 (s.1,s.2.1,-1)).1 (B+100000000):=fun v=>by have:=h1 v;omega
  have h3:=BndB.rounds hw hl n _ _ h2 (by omega) (by omega)
  intro v
  have:=h3 v
  show -(B+((n+1:Nat):Int) * 100000000)≤(Pr.rounds E n (Pr.rnd E 0 (s.1,s.2.1,-1))).1.getD v 0∧(Pr.rounds E n (Pr.rnd E 0 (s.1,s.2.1,-1))).1.getD v 0≤B+((n+1:Nat):Int) * 100000000
  omega
theorem nc_pot {E:List ZU} {N:Nat} (hE:Zar E N) (hw:ZaV E) (hl:E.length≤100) (hN:1≤N) (hN2:N≤1000) (h:ncB N E=[]):∃p:Nat→Int,∀e∈E,p e.f1.toNat≤p e.f0.toNat+e.f2:=by
 obtain⟨m,rfl⟩:∃m,N=m+1:=⟨N - 1,by omega⟩
 have hch:(rounds E (m+1) (bst0 (m+1))).2.2=-1:=by
  rcases bf_after hE hN (d:=(rounds E (m+1) (bst0 (m+1))).1) (l:=(rounds E (m+1) (bst0 (m+1))).2.1) (ch:=(rounds E (m+1) (bst0 (m+1))).2.2) rfl with h1|⟨c,v,q,h1,_,_,_,h2,_,_,_,_,_,h3⟩
  ·exact h1.1
  ·rw[h] at h3
   have:=congrArg List.length h3
   rw[List.length_reverse,ZcQ,List.length_nil] at this
   omega
 rw[ZcI] at hch
 have hb:=BndB.rounds hw hl m (bst0 (m+1)) 0 (fun v=>by
  unfold bst0
  simp only
  rw[List.getD_eq_getElem?_getD,List.getElem?_replicate]
  split <;> simp) (by omega) (by omega)
 generalize rounds E m (bst0 (m+1))=u at hch hb
 have hs:=rnd_same E 0 (u.1,u.2.1,-1) (by simp only at hch;omega)
 refine⟨fun v=>u.1.getD v 0,fun e he=>?_⟩
 have h1:=hs.2 e he
 have h2:=hb e.f0.toNat
 have h3:=hw e he
 have e0:rd u.1 e.f0=u.1.getD e.f0.toNat 0:=rfl
 have e1:rd u.1 e.f1=u.1.getD e.f1.toNat 0:=rfl
 simp only at h1
 rw[e0,e1,ZbT (by omega) (by omega)] at h1
 simp only
 omega
theorem krelax_len {s:KSt} {e:ZU}:(ZaI s e).1.length=s.1.length:=by unfold ZaI;split <;> simp
theorem ZcM:∀(E:List ZU) (s:KSt),(krnd E s).1.length=s.1.length
 | [],_=>rfl
 | e :: t,s=>by show(krnd t (ZaI s e)).1.length=_;rw[ZcM t,krelax_len]
theorem isf_len {E:List ZU}:∀{m:Nat} {s u:KSt},isf E m s=some u→u.1.length=s.1.length
 | 0,_,_,h=>by cases h
 | m+1,s,u,h=>by
  rw[isf] at h
  try dsimp only at h
  split at h
  ·cases h;exact ZcM E _
  ·rw[isf_len h];exact ZcM E _
theorem sf_ok {E:List ZU} {N:Nat} (hE:Zar E N) (hw:ZaV E) (hl:E.length≤100) (hN:1≤N) (hN2:N≤1000) (h:ncB N E=[]) (a:Nat):∃r,r.length=N∧sfB (N:Int) E (a:Int) N=(r,true)∧sfB (N:Int) E (a:Int) (N+1)=(r,true):=by
 obtain⟨p,hp⟩:=nc_pot hE hw hl hN hN2 h
 have hs:=bf_still (a:=a) hE hw hl hN hN2 p hp
 obtain⟨m,rfl⟩:∃m,N=m+1:=⟨N - 1,by omega⟩
 obtain⟨u,hu⟩:=isf_of m _ hs
 refine⟨finB u,by rw[Zci,isf_len hu];simp[kst0],?_,?_⟩
 ·unfold sfB;rw[Int.toNat_natCast,Int.toNat_natCast,hu]
 ·unfold sfB;rw[Int.toNat_natCast,Int.toNat_natCast,Zce hu]
def Feas (E:List ZU) (p:Nat→Int):Prop:=∀e∈E,p e.f1.toNat≤p e.f0.toNat+e.f2
def Zby (E:List ZU):Prop:=∀e∈E,-1000≤e.f2∧e.f2≤1000
theorem Zby.w {E:List ZU} (h:Zby E):ZaV E:=fun e he=>by have:=h e he;omega
def kstA (N:Nat):KSt:=(List.replicate N 0,List.replicate N true,false)
theorem KInv.startA {E:List ZU} {N:Nat}:KInv E N 1 0 0 (kstA N) (fun _=>none) (fun _=>0) (fun _=>0):=by
 refine⟨by simp[kstA],by simp[kstA],Nat.le_refl _,fun _=>by omega,fun _=>by omega,?_,?_,?_,Or.inl rfl⟩
 ·intro v hv;simp[kstA,List.getD_eq_getElem?_getD,hv]
 ·intro j e _ _ hlt;rw[if_neg (by omega)] at hlt;omega
 ·intro v _ _;exact Or.inl rfl
theorem rounds_k {E:List ZU} {N:Nat} (hE:Zar E N):∀(n:Nat) (d l:List Int) (ch:Int) (c:Bool),Zbb E n (d,List.replicate N true,c)=((rounds E n (d,l,ch)).1,List.replicate N true,match n with|0=>c|_+1=>decide (0≤(rounds E n (d,l,ch)).2.2))
 | 0,d,l,ch,c=>rfl
 | n+1,d,l,ch,c=>by
  have h1:krnd E (d,List.replicate N true,false)=sknow (srnd E 0 (d,l,List.replicate N true,-1)):=by
   rw[srnd_k];rfl
  have h2:krnd E (d,List.replicate N true,false)=((rnd E 0 (d,l,-1)).1,List.replicate N true,decide (0≤(rnd E 0 (d,l,-1)).2.2)):=by
   rw[h1,srnd_all E 0 d l (-1) hE];rfl
  show Zbb E n (krnd E (d,List.replicate N true,false))=_
  rw[h2,rounds_k hE n _ (rnd E 0 (d,l,-1)).2.1 (rnd E 0 (d,l,-1)).2.2 _]
  cases n with
  | zero=>rfl
  | succ n=>rfl
theorem pot_nc {E:List ZU} {N:Nat} (hE:Zar E N) (hw:ZaV E) (hl:E.length≤100) (hN:1≤N) (hN2:N≤1000) {p:Nat→Int} (hp:Feas E p):ncB N E=[]:=by
 have h:=bf_stillS hE hw hl hN hN2 p hp KInv.startA
 have h2:=rounds_k hE N (List.replicate N 0) (List.replicate N (-1)) (-1) false
 obtain⟨m,rfl⟩:∃m,N=m+1:=⟨N - 1,by omega⟩
 unfold kstA at h
 rw[h2] at h
 simp only[decide_eq_false_iff_not] at h
 unfold ncB
 simp only
 rw[if_pos]
 show(rounds E (m+1) (bst0 (m+1))).2.2<0
 unfold bst0
 omega
theorem krnd_up:∀(E:List ZU) (s:KSt),s.2.2=true→(krnd E s).2.2=true
 | [],_,h=>h
 | e :: t,s,h=>by
  refine krnd_up t _ ?_
  unfold ZaI
  split
  ·rfl
  ·exact h
theorem krnd_same:∀(E:List ZU) (s:KSt),(krnd E s).2.2=false→krnd E s=s∧∀e∈E,¬(rb s.2.1 e.f0=true∧(rb s.2.1 e.f1=false∨wrap64 (rd s.1 e.f0+e.f2)<rd s.1 e.f1))
 | [],_,_=>⟨rfl,fun _ h=>absurd h (by simp)⟩
 | e :: t,s,h=>by
  have h0:(krnd t (ZaI s e)).2.2=false:=h
  by_cases c:rb s.2.1 e.f0=true∧(rb s.2.1 e.f1=false∨wrap64 (rd s.1 e.f0+e.f2)<rd s.1 e.f1)
  ·have hr:ZaI s e=(s.1.set e.f1.toNat (wrap64 (rd s.1 e.f0+e.f2)),s.2.1.set e.f1.toNat true,true):=if_pos c
   rw[hr,krnd_up t _ rfl] at h0
   cases h0
  ·have hr:ZaI s e=s:=if_neg c
   rw[hr] at h0
   obtain⟨h1,h2⟩:=krnd_same t s h0
   refine⟨by show krnd t (ZaI s e)=s;rw[hr];exact h1,fun x hx=>?_⟩
   rcases List.mem_cons.1 hx with rfl|hx
   ·exact c
   ·exact h2 x hx
structure DI (N a:Nat) (B:Int) (p:Nat→Int) (s:KSt):Prop where
 l1:s.1.length=N
 l2:s.2.1.length=N
 ka:s.2.1.getD a false=true
 da:s.1.getD a 0≤0
 bd:∀v,-B≤s.1.getD v 0∧s.1.getD v 0≤B
 lo:∀v,s.2.1.getD v false=true→p v - p a≤s.1.getD v 0
theorem DI.mono {N a:Nat} {B B':Int} {p:Nat→Int} {s:KSt} (h:DI N a B p s) (hB:B≤B'):DI N a B' p s:=
 ⟨h.l1,h.l2,h.ka,h.da,fun v=>by have:=h.bd v;omega,h.lo⟩
theorem DI.step {N a:Nat} {B:Int} {p:Nat→Int} {s:KSt} (h:DI N a B p s) (h0:0≤B) (hB:B≤1000000000) {e:ZU} (hin:0≤e.f0∧e.f0<N∧0≤e.f1∧e.f1<N) (hw : -1000≤e.f2∧e.f2≤1000) (hp:p e.f1.toNat≤p e.f0.toNat+e.f2):DI N a (B+1000) p (ZaI s e):=by
 obtain⟨d,kn,c⟩:=s
 obtain⟨l1,l2,ka,da,bd,lo⟩:=h
 dsimp only at l1 l2 ka da bd lo
 have b0:=bd e.f0.toNat
 have e0:rd d e.f0=d.getD e.f0.toNat 0:=rfl
 have e1:rd d e.f1=d.getD e.f1.toNat 0:=rfl
 have r0:rb kn e.f0=kn.getD e.f0.toNat false:=rfl
 have r1:rb kn e.f1=kn.getD e.f1.toNat false:=rfl
 have hww:wrap64 (rd d e.f0+e.f2)=d.getD e.f0.toNat 0+e.f2:=by rw[e0];exact ZbT (by omega) (by omega)
 unfold ZaI
 dsimp only
 rw[hww,r0,r1,e1]
 split
 ·rename_i hc
  refine⟨by simpa using l1,by simpa using l2,ZbB ka,?_,fun v=>?_,fun v hv=>?_⟩
  ·by_cases cv:e.f1.toNat=a
   ·rw[cv,getD_set_eq (by rw[l1];omega)]
    rcases hc.2 with h2|h2
    ·rw[cv,ka] at h2;cases h2
    ·rw[cv] at h2;omega
   ·rw[getD_set_ne cv];exact da
  ·by_cases cv:e.f1.toNat=v
   ·rw[cv,getD_set_eq (by rw[l1];omega)];omega
   ·rw[getD_set_ne cv];have:=bd v;omega
  ·by_cases cv:e.f1.toNat=v
   ·rw[cv,getD_set_eq (by rw[l1];omega),← cv]
    have:=lo _ hc.1
    omega
   ·rw[getD_set_ne cv]
    rw[Zbo cv] at hv
    exact lo v hv
 ·exact⟨l1,l2,ka,da,fun v=>by have:=bd v;show -(B+1000)≤d.getD v 0∧d.getD v 0≤B+1000;omega,lo⟩
theorem DI.rnd {N a:Nat} {p:Nat→Int}:∀(E:List ZU) (s:KSt) (B:Int),Zar E N→Zby E→Feas E p→DI N a B p s→0≤B→B+(E.length:Int) * 1000≤1000000000→DI N a (B+(E.length:Int) * 1000) p (krnd E s)
 | [],s,B,_,_,_,h,_,_=>h.mono (by simp)
 | e :: t,s,B,hE,hw,hp,h,h0,hB=>by
  rw[List.length_cons] at hB ⊢
  have h1:=h.step h0 (by omega) (hE e (by simp)) (hw e (by simp)) (hp e (by simp))
  have h2:=DI.rnd t (ZaI s e) (B+1000) (fun x hx=>hE x (by simp[hx])) (fun x hx=>hw x (by simp[hx])) (fun x hx=>hp x (by simp[hx])) h1 (by omega) (by omega)
  exact h2.mono (by omega)
theorem DI.isf {E:List ZU} {N a:Nat} {p:Nat→Int} (hE:Zar E N) (hw:Zby E) (hl:E.length≤82) (hp:Feas E p):∀(m:Nat) (s u:KSt) (B:Int),Pr.isf E m s=some u→DI N a B p s→0≤B→B+(m:Int) * 82000≤1000000000→DI N a (B+(m:Int) * 82000) p u
 | 0,_,_,_,h,_,_,_=>by cases h
 | m+1,s,u,B,h,hd,h0,hB=>by
  have h1:DI N a (B+82000) p (krnd E (s.1,s.2.1,false)):=(DI.rnd E (s.1,s.2.1,false) B hE hw hp ⟨hd.l1,hd.l2,hd.ka,hd.da,hd.bd,hd.lo⟩ h0 (by omega)).mono (by omega)
  rw[Pr.isf] at h
  try dsimp only at h
  split at h
  ·cases h
   exact h1.mono (by omega)
  ·have:=DI.isf hE hw hl hp m _ u (B+82000) h h1 (by omega) (by omega)
   exact this.mono (by omega)
theorem Zcu {E:List ZU}:∀(m:Nat) (s u:KSt),isf E m s=some u→∀e∈E,¬(rb u.2.1 e.f0=true∧(rb u.2.1 e.f1=false∨wrap64 (rd u.1 e.f0+e.f2)<rd u.1 e.f1))
 | 0,_,_,h=>by cases h
 | m+1,s,u,h=>by
  rw[isf] at h
  try dsimp only at h
  split at h
  ·rename_i hc
   cases h
   obtain⟨h1,h2⟩:=krnd_same E (s.1,s.2.1,false) hc
   rw[h1];exact h2
  ·exact Zcu m _ u h
structure DS (E:List ZU) (N a:Nat) (u:KSt):Prop where
 l1:u.1.length=N
 ka:u.2.1.getD a false=true
 da:u.1.getD a 0=0
 bd:∀v,-740000≤u.1.getD v 0∧u.1.getD v 0≤740000
 cl:∀e∈E,u.2.1.getD e.f0.toNat false=true→u.2.1.getD e.f1.toNat false=true∧u.1.getD e.f1.toNat 0≤u.1.getD e.f0.toNat 0+e.f2
 lo:∀p,Feas E p→∀v,u.2.1.getD v false=true→p v - p a≤u.1.getD v 0
theorem DS.of {E:List ZU} {N a m:Nat} {u:KSt} (hE:Zar E N) (hw:Zby E) (hl:E.length≤82) (ha:a<N) (hm:m≤9) (h:isf E m (kst0 N a)=some u) {p:Nat→Int} (hp:Feas E p):DS E N a u:=by
 have st:∀q:Nat→Int,DI N a 0 q (kst0 N a):=fun q=>by
  refine⟨by simp[kst0],by simp[kst0],?_,?_,fun v=>?_,fun v hv=>?_⟩
  ·exact ZbA (by simpa using ha) _ _
  ·unfold kst0;simp only;rw[List.getD_eq_getElem?_getD,List.getElem?_replicate];split <;> simp
  ·unfold kst0;simp only;rw[List.getD_eq_getElem?_getD,List.getElem?_replicate];split <;> simp
  ·have hva:a=v:=by
    apply Classical.byContradiction
    intro hne
    unfold kst0 at hv
    simp only at hv
    rw[Zbo hne,List.getD_eq_getElem?_getD,List.getElem?_replicate] at hv
    split at hv <;> simp at hv
   subst hva
   unfold kst0;simp only;rw[List.getD_eq_getElem?_getD,List.getElem?_replicate];split <;> simp
 have key:∀q,Feas E q→DI N a 738000 q u:=fun q hq=>(DI.isf hE hw hl hq m _ u 0 h (st q) (by omega) (by omega)).mono (by omega)
 have hd:=key p hp
 have hs:=Zcu m _ u h
 refine⟨hd.l1,hd.ka,?_,fun v=>by have:=hd.bd v;omega,fun e he hk=>?_,fun q hq=>(key q hq).lo⟩
 ·have h1:=hd.da
  have h2:=hd.lo a hd.ka
  omega
 ·have h3:=hs e he
  have r0:rb u.2.1 e.f0=u.2.1.getD e.f0.toNat false:=rfl
  have r1:rb u.2.1 e.f1=u.2.1.getD e.f1.toNat false:=rfl
  have b0:=hd.bd e.f0.toNat
  have b1:=hw e he
  have e0:rd u.1 e.f0=u.1.getD e.f0.toNat 0:=rfl
  have e1:rd u.1 e.f1=u.1.getD e.f1.toNat 0:=rfl
  rw[r0,r1,hk,e0,e1,ZbT (by omega) (by omega)] at h3
  cases hk1:u.2.1.getD e.f1.toNat false with
  | false=>exact absurd ⟨rfl,.inl hk1⟩ h3
  | true=>
   refine⟨rfl,?_⟩
   apply Classical.byContradiction
   intro hc
   exact h3 ⟨rfl,.inr (by omega)⟩
def atU (u:KSt) (s big:Int) (v:Nat):Int:=if u.2.1.getD v false=true then min (s+u.1.getD v 0) big else big
theorem win_of {E:List ZU} {N a b:Nat} {u v:KSt} {p:Nat→Int} {n:Int} (hp:Feas E p) (hu:DS E N a u) (hv:DS E N b v) (h1:u.2.1.getD b false=true→n≤u.1.getD b 0) (h2:v.2.1.getD a false=true→-n≤v.1.getD a 0) :
  ∃q,Feas E q∧q b=q a+n:=by
 let M:Int:=(p a).natAbs+(p b).natAbs+n.natAbs
 have hM1:0≤p a+M:=by omega
 have hM2:n≤p b+M:=by omega
 refine⟨fun x=>min (atU u 0 (p x+M) x) (atU v n (p x+M) x),fun e he=>?_,?_⟩
 ·have hpe:=hp e he
  have c1:=hu.cl e he
  have c2:=hv.cl e he
  unfold atU
  dsimp only
  by_cases k1:u.2.1.getD e.f0.toNat false=true
  ·obtain⟨k1',g1⟩:=c1 k1
   rw[if_pos k1,if_pos k1']
   by_cases k2:v.2.1.getD e.f0.toNat false=true
   ·obtain⟨k2',g2⟩:=c2 k2
    rw[if_pos k2,if_pos k2'];omega
   ·rw[if_neg k2]
    split <;> omega
  ·rw[if_neg k1]
   by_cases k2:v.2.1.getD e.f0.toNat false=true
   ·obtain⟨k2',g2⟩:=c2 k2
    rw[if_pos k2,if_pos k2']
    split <;> omega
   ·rw[if_neg k2]
    split <;> split <;> omega
 ·unfold atU
  dsimp only
  rw[if_pos hu.ka,if_pos hv.ka,hu.da,hv.da]
  have a1:(if u.2.1.getD b false=true then min (0+u.1.getD b 0) (p b+M) else p b+M)≥n:=by
   split
   ·rename_i h;have:=h1 h;omega
   ·omega
  have a2:(if v.2.1.getD a false=true then min (n+v.1.getD a 0) (p a+M) else p a+M)≥0:=by
   split
   ·rename_i h;have:=h2 h;omega
   ·omega
  omega
theorem of_win {E:List ZU} {N a b:Nat} {u v:KSt} {q:Nat→Int} {n:Int} (hq:Feas E q) (hb:q b=q a+n) (hu:DS E N a u) (hv:DS E N b v) :
  (u.2.1.getD b false=true→n≤u.1.getD b 0)∧(v.2.1.getD a false=true→-n≤v.1.getD a 0):=by
 refine⟨fun h=>?_,fun h=>?_⟩
 ·have:=hu.lo q hq b h;omega
 ·have:=hv.lo q hq a h;omega
abbrev Zaq:=S84
theorem rdK_nat (l:List Zaq) (i:Nat):Zz l (i:Int)=l.getD i z84:=by unfold Zz;rw[Int.toNat_natCast]
theorem Zbz {n:Int} {L:List Zaq} (h:Zad n L=true):1≤n∧n≤8∧L.length≤40∧∀x∈L,ZaO n x=true:=by
 unfold Zad at h
 simp only[Bool.and_eq_true,Bool.not_eq_true',decide_eq_false_iff_not] at h
 obtain⟨h1,h2,h3,h4⟩:=h
 refine⟨by omega,by omega,by omega,fun x hx=>?_⟩
 have:=List.any_eq_false.1 h4 x hx
 simpa using this
def ZbV (x:Zaq):List ZU:=(if x.f2.f1=1000000 then[] else[⟨x.f0,x.f1,x.f2.f1⟩]) ++ (if x.f2.f0=-1000000 then[] else[⟨x.f1,x.f0,wrap64 (-x.f2.f0)⟩])
def Zaa:List Zaq→List ZU
 | []=>[]
 | x :: t=>ZbV x ++ Zaa t
def linksL (i:Nat) (x:Zaq):List Int:=(if x.f2.f1=1000000 then[] else[(i:Int)]) ++ (if x.f2.f0=-1000000 then[] else[(i:Int)])
def linksB:Nat→List Zaq→List Int
 | _,[]=>[]
 | i,x :: t=>linksL i x ++ linksB (i+1) t
theorem edgesL_len (x:Zaq):(ZbV x).length≤2:=by unfold ZbV;split <;> split <;> simp
theorem Zc6:∀L:List Zaq,(Zaa L).length≤2 * L.length
 | []=>Nat.le_refl _
 | x :: t=>by have:=Zc6 t;have:=edgesL_len x;rw[Zaa,List.length_append,List.length_cons];omega
theorem pgraph_l (n:Int) (L:List Zaq) (hl:L.length≤1048576) (k:Nat) (hk:2 ^ 64≤k):Z5.l0 k [] L (L.length:Int) 0 n []=some (n,Zaa L,linksB 0 L):=by
 have key:=Zb8 L.length (fun k i=>∀(a:List ZU) (b:List Int),a.length≤2 * i→b.length≤2 * i→Z5.l0 k b L (L.length:Int) (i:Int) n a=some (n,a ++ Zaa (L.drop i),b ++ linksB i (L.drop i))) 0
  (fun k _ a b _ _=>by
   simp only[Z5.l0]
   rw[if_neg (by omega),List.drop_length,Zaa,linksB,List.append_nil,List.append_nil])
  (fun k i _ hi ih a b ha hb=>by
   simp only[Z5.l0]
   rw[if_pos (by omega),if_pos (by omega),if_pos (by omega),Za2 hi (by omega),Za9 hi z84,Zaa,linksB,rdK_nat]
   generalize L.getD i z84=y
   unfold ZbV linksL
   by_cases h1:y.f2.f1=1000000
   ·by_cases h2:y.f2.f0=-1000000
    ·simp only[if_pos h1,if_pos h2]
     rw[ih a b (by omega) (by omega)];simp
    ·simp only[if_pos h1,if_neg h2]
     rw[if_pos (by omega),if_pos (by omega),ih _ _ (by simp;omega) (by simp;omega)];simp
   ·by_cases h2:y.f2.f0=-1000000
    ·simp only[if_neg h1,if_pos h2,Zh]
     rw[if_pos (by omega),if_pos (by omega),ih _ _ (by simp;omega) (by simp;omega)];simp
    ·simp only[if_neg h1,if_neg h2,Zh]
     rw[if_pos (by omega),if_pos (by omega),if_pos (by simp;omega),if_pos (by simp;omega),ih _ _ (by simp;omega) (by simp;omega)];simp) 0 k (Nat.zero_le _) (by omega)
 simpa using key [] [] (by simp) (by simp)
def gofB (n:Int) (L:List Zaq):Int×List ZU:=if Zad n L=true then(n,Zaa L) else(0,[])
theorem ZbG (n:Int) (L:List Zaq) (k:Nat) (hk:2 ^ 64≤k):ZaK.f k n L=some (gofB n L):=by
 unfold ZaK.f gofB Z0.f
 rw[Zh]
 by_cases h:Zad n L=true
 ·rw[if_pos h,if_pos h,Z5.f,pgraph_l n L (by have:=Zbz h;omega) k hk];rfl
 ·rw[if_neg h,if_neg h]
def ncF (n:Int) (E:List ZU):List Int:=if ZaS n E=true then ncB n.toNat E else[]
def ZbK (n:Int) (L:List Zaq):Bool:=Zad n L && (ncF n (Zaa L)).isEmpty
theorem ZbE (n:Int) (L:List Zaq) (k:Nat) (hk:2 ^ 64≤k):ZX.f k n L=some (ZbK n L):=by
 unfold ZX.f ZbK Z0.f
 rw[Zh]
 by_cases h:Zad n L=true
 ·rw[if_pos h,ZbG n L k hk,Zh,gofB,if_pos h,h,Zaj.f,Zh];rfl
 ·rw[if_neg h,Bool.eq_false_iff.2 h];rfl
def clB (x:Int):Int:=max (-1000000) (min x 1000000)
theorem pcl_f (x:Int):Za1.f x=some (clB x):=by
 unfold Za1.f clB mx mn
 congr 1
 split <;> split <;> omega
def Zbc (R:Nat→List Int):Nat→Nat→List Int
 | _,0=>[]
 | i,d+1=>(R i).map clB ++ Zbc R (i+1) d
theorem rowsB_len (R:Nat→List Int) (n:Nat) (h:∀i,(R i).length=n):∀(d i:Nat),(Zbc R i d).length=d * n
 | 0,_=>by simp[Zbc]
 | d+1,i=>by rw[Zbc,List.length_append,List.length_map,h i,rowsB_len R n h d,Nat.succ_mul];omega
theorem pclose_l (n:Nat) (E:List ZU) (R:Nat→List Int) (hn:n≤8) (hR:∀i,(R i).length=n) (hf:∀i,i<n→Zag.f (n:Int) E (i:Int)=some (R i,true)):∀(d i k:Nat) (acc:List Int),i+d=n→2 ^ 64+d * 100≤k→acc.length≤i * n→ZD.l0 k (i:Int) (n:Int) E (n:Int) acc=some ((n:Int),acc ++ Zbc R i d,true):=by
 intro d
 induction d with
 | zero=>
  intro i k acc hi hk _
  obtain⟨k,rfl⟩:∃m,k=m+1:=⟨k - 1,by omega⟩
  simp only[ZD.l0]
  rw[if_neg (by omega),Zbc,List.append_nil]
 | succ d ih=>
  intro i k acc hi hk ha
  obtain⟨k,rfl⟩:∃m,k=m+1:=⟨k - 1,by omega⟩
  have hin:i * n≤64:=Nat.le_trans (Nat.mul_le_mul (show i≤8 by omega) hn) (by decide)
  have hin2:(i+1) * n=i * n+n:=Nat.succ_mul i n
  simp only[ZD.l0]
  rw[if_pos (by omega),hf i (by omega),Zh,if_pos rfl,Zbc]
  have key:=Zb8 n (fun k j=>∀b:List Int,b.length≤i * n+j→ZD.l1 k (i:Int) (R i) ((R i).length:Int) (j:Int) (n:Int) E (n:Int) b=some ((n:Int),b ++ (((R i).drop j).map clB ++ Zbc R (i+1) d),true)) (2 ^ 64+d * 100)
   (fun k hk b hb=>by
    simp only[ZD.l1]
    rw[if_neg (by rw[hR];omega),Za2 (n:=100) (by omega) (by omega),ih (i+1) k b (by omega) hk (by omega),List.drop_of_length_le (by rw[hR];omega)];rfl)
   (fun k j hk hj ihj b hb=>by
    simp only[ZD.l1]
    rw[if_pos (by rw[hR];omega),if_pos (by omega),if_pos (by rw[hR];omega),pcl_f,Zh,if_pos (by omega),Za2 hj (by omega),ihj _ (by simp;omega),Za9 (show j<(R i).length by rw[hR];exact hj) 0,Zbe]
    simp) 0 k (Nat.zero_le _) (by omega)
  have:=key acc (by omega)
  simpa using this
def tcell (n i:Nat) (x:Int):Bool:=decide (-1000000≤x) && (decide (x≤1000000) && (!(decide (i % (n+1)=0)) || decide (x=0)))
def Zbw (n:Nat):Nat→List Int→Bool
 | _,[]=>true
 | i,x :: t=>tcell n i x && Zbw n (i+1) t
theorem diag {n i:Nat} (h1:1≤n) (h8:n≤8) (hi:i<n * n):(wrap64 (Int.tdiv (i:Int) (n:Int))=Int.tmod (i:Int) (n:Int))↔i % (n+1)=0:=by
 rw[Int.tdiv_eq_ediv_of_nonneg (by omega),Int.tmod_eq_emod_of_nonneg (by omega)]
 have:n=1∨n=2∨n=3∨n=4∨n=5∨n=6∨n=7∨n=8:=by omega
 rcases this with rfl|rfl|rfl|rfl|rfl|rfl|rfl|rfl
 all_goals
  rw[Zaf (by omega) (by omega)]
  omega
theorem ptab_l (n:Nat) (C:List Int) (h8:n≤8) (hC:C.length=n * n) (k:Nat) (hk:2 ^ 64≤k):Z2.l0 k C (C.length:Int) 0 (n:Int) C=some (Zbw n 0 C):=by
 have hb:n * n≤64:=Nat.le_trans (Nat.mul_le_mul h8 h8) (by decide)
 have key:=Zb8 C.length (fun k i=>Z2.l0 k C (C.length:Int) (i:Int) (n:Int) C=some (Zbw n i (C.drop i))) 0
  (fun k _=>by
   simp only[Z2.l0]
   rw[if_neg (by omega),List.drop_length];rfl)
  (fun k i _ hi ih=>by
   have hn:1≤n:=by
    rcases Nat.eq_zero_or_pos n with h|h
    ·subst h;omega
    ·exact h
   simp only[Z2.l0]
   rw[if_pos (by omega),if_pos (by omega),if_pos (by omega),if_neg (show ¬(n:Int)=0 by omega),Zbe,Za2 hi (by omega),ih,Za9 hi 0,Zbw,tcell]
   generalize C.getD i 0=x
   by_cases a:x < -1000000
   ·rw[if_pos a,Ze (show ¬-1000000≤x by omega)];rfl
   rw[if_neg a,Zd (show -1000000≤x by omega),Bool.true_and]
   by_cases b:x > 1000000
   ·rw[if_pos b,Ze (show ¬x≤1000000 by omega)];rfl
   rw[if_neg b,Zd (show x≤1000000 by omega),Bool.true_and]
   by_cases c:i % (n+1)=0
   ·rw[if_pos ((diag hn h8 (by omega)).2 c),Zd c]
    by_cases d:x=0
    ·rw[if_pos d,Zd d];rfl
    ·rw[if_neg d,Ze d];rfl
   ·rw[if_neg (fun h=>c ((diag hn h8 (by omega)).1 h)),Ze c];rfl) 0 k (Nat.zero_le _) (by omega)
 simpa using key
theorem nsq {n:Nat} (h8:n≤8):wrap64 ((n:Int) * (n:Int))=((n * n:Nat):Int):=by
 have hb:n * n≤64:=Nat.le_trans (Nat.mul_le_mul h8 h8) (by decide)
 rw[show(n:Int) * (n:Int)=((n * n:Nat):Int) by simp,Zaf (by omega) (by omega)]
theorem ptab_f (n:Nat) (C:List Int) (h8:n≤8) (hC:C.length=n * n) (k:Nat) (hk:2 ^ 65≤k):Z2.f k (n:Int) C=some (Zbw n 0 C):=by
 obtain⟨k,rfl⟩:∃m,k=m+1:=⟨k - 1,by omega⟩
 unfold Z2.f
 rw[if_neg (by omega),if_neg (by omega)]
 simp only[Z2.j0]
 rw[nsq h8,hC,if_neg (by simp),← hC,ptab_l n C h8 hC k (by omega)]
theorem cellI {n:Nat} {a b:Int} (h8:n≤8) (ha:inN (n:Int) a=true) (hb:inN (n:Int) b=true):0≤wrap64 (wrap64 (a * (n:Int))+b)∧wrap64 (wrap64 (a * (n:Int))+b)<((n * n:Nat):Int):=by
 have h1:=ZbF.1 ha
 have h2:=ZbF.1 hb
 obtain⟨a,rfl⟩:=Int.eq_ofNat_of_zero_le h1.1
 obtain⟨b,rfl⟩:=Int.eq_ofNat_of_zero_le h2.1
 have h3:a * n≤(n - 1) * n:=Nat.mul_le_mul_right n (by omega)
 have h4:(n - 1) * n+n=n * n:=by
  obtain⟨m,rfl⟩:∃m,n=m+1:=⟨n - 1,by omega⟩
  rw[Nat.add_sub_cancel,Nat.succ_mul]
 have hb':n * n≤64:=Nat.le_trans (Nat.mul_le_mul h8 h8) (by decide)
 rw[show(a:Int) * (n:Int)=((a * n:Nat):Int) by simp,Zaf (i:=((a * n:Nat):Int)) (by omega) (by omega),Zaf (by omega) (by omega)]
 omega
theorem ZcP {n:Int} {L:List Zaq} (h:Zad n L=true):ZaS n (Zaa L)=true:=by
 obtain⟨h1,h8,h40,hl⟩:=Zbz h
 have hm:∀M:List Zaq,(∀x∈M,ZaO n x=true)→∀e∈Zaa M,Za6 n e=true:=by
  intro M
  induction M with
  | nil=>intro _ e he;cases he
  | cons x t ih=>
   intro hM e he
   rw[Zaa] at he
   rcases List.mem_append.1 he with he|he
   ·have hx:=hM x (by simp)
    unfold ZaO inN Zbq at hx
    simp only[Bool.and_eq_true,Bool.not_eq_true',decide_eq_true_eq,decide_eq_false_iff_not] at hx
    obtain⟨⟨a1,a2⟩,⟨a3,a4⟩,b1,b2,b3,b4,b5⟩:=hx
    unfold ZbV at he
    unfold Za6 inN wgtB
    simp only[Bool.and_eq_true,decide_eq_true_eq]
    rcases List.mem_append.1 he with he|he
    ·split at he
     ·cases he
     ·rw[List.mem_singleton] at he;subst he
      exact⟨⟨a1,a2⟩,⟨a3,a4⟩,by simp only;omega,by simp only;omega⟩
    ·split at he
     ·cases he
     ·rw[List.mem_singleton] at he;subst he
      refine⟨⟨a3,a4⟩,⟨a1,a2⟩,?_⟩
      simp only
      rw[Zaf (by omega) (by omega)];omega
   ·exact ih (fun y hy=>hM y (by simp[hy])) e he
 have hlen:=Zc6 L
 unfold ZaS
 rw[Ze (show ¬n<0 by omega),Ze (show ¬8<n by omega),Ze (show ¬80<(Zaa L).length by omega)]
 simp only[Bool.not_false,Bool.true_and,Bool.not_eq_true',List.any_eq_false]
 intro e he
 rw[hm L hl e he];simp
theorem ZcN (n:Int) (L:List Zaq) (tm:List Int):ZaL.f n L tm=some (partB n L tm):=rfl
theorem partB_bd {n:Int} {L:List Zaq} {tm:List Int} (h:partB n L tm=true):Zad n L=true∧(tm.length:Int)=n∧tm.getD 0 0=0∧∀x∈tm,-1≤x∧x<1000000:=by
 unfold partB at h
 simp only[Bool.and_eq_true,decide_eq_true_eq,Bool.not_eq_true'] at h
 refine⟨h.1,h.2.1,h.2.2.1,fun x hx=>?_⟩
 have:=List.any_eq_false.1 h.2.2.2 x hx
 simpa [Zbp] using this
def fixL:Nat→List Int→List Zaq
 | _,[]=>[]
 | i,x :: t=>(if 0<i∧x≠-1 then[⟨0,(i:Int),⟨x,x⟩⟩] else[]) ++ fixL (i+1) t
theorem fixL_len:∀(i:Nat) (t:List Int),(fixL i t).length≤t.length
 | _,[]=>Nat.le_refl _
 | i,x :: t=>by
  have:=fixL_len (i+1) t
  unfold fixL
  split <;> simp <;> omega
def fixB (n:Int) (L:List Zaq) (tm:List Int):Int×List Zaq×Bool:=
 if partB n L tm=true then(if Zad n (L ++ fixL 0 tm)=true then(n,L ++ fixL 0 tm,true) else(0,[],false)) else(0,[],false)
theorem pfix_l (n:Int) (L:List Zaq) (tm:List Int) (hl:tm.length≤1048576) (hL:L.length≤1048576) (k:Nat) (hk:2 ^ 64≤k):ZT.l0 k tm (tm.length:Int) 0 n L=some (if Zad n (L ++ fixL 0 tm)=true then(n,L ++ fixL 0 tm,true) else(0,[],false)):=by
 have key:=Zb8 tm.length (fun k i=>∀M:List Zaq,M.length≤1048576+i→ZT.l0 k tm (tm.length:Int) (i:Int) n M=some (if Zad n (M ++ fixL i (tm.drop i))=true then(n,M ++ fixL i (tm.drop i),true) else(0,[],false))) 0
  (fun k hk M _=>by
   simp only[ZT.l0]
   rw[if_neg (by omega),List.drop_length,Z0.f,Zh,show fixL tm.length []=[] from rfl,List.append_nil]
   split <;> rfl)
  (fun k i _ hi ih M hM=>by
   simp only[ZT.l0]
   rw[if_pos (by omega),if_pos (by omega),if_pos (by omega),Za2 hi (by omega),Zbe,Za9 hi 0,fixL]
   by_cases h0:0<i
   ·rw[if_pos (by omega)]
    by_cases h1:tm.getD i 0=-1
    ·rw[if_pos h1,if_neg (show ¬(0<i∧tm.getD i 0≠-1) from fun h=>h.2 h1),ih M (by omega),List.nil_append]
    ·rw[if_neg h1,if_pos (by omega),if_pos (show 0<i∧tm.getD i 0≠-1 from⟨h0,h1⟩),ih _ (by simp;omega),← List.append_assoc]
   ·rw[if_neg (by omega),if_neg (show ¬(0<i∧tm.getD i 0≠-1) from fun h=>h0 h.1),ih M (by omega),List.nil_append]) 0 k (Nat.zero_le _) (by omega)
 simpa using key L (by omega)
theorem Zb2 (n:Int) (L:List Zaq) (tm:List Int) (hl:tm.length≤1048576) (hL:L.length≤1048576) (k:Nat) (hk:2 ^ 68≤k):ZT.f k n L tm=some (fixB n L tm):=by
 unfold ZT.f fixB
 rw[ZcN,Zh]
 have hc:ZaJ.f L=some L:=by
  unfold ZaJ.f
  rw[if_pos (by omega)]
 rw[hc,Zh,pfix_l n L tm hl hL k (by omega)]
 split <;> rfl
end Go.Proofs.Ythphnhmabieflab.Pr
