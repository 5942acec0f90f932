/- The texts of one claim, put together by a program of this session. -/
import Derived.Deep.LoopGhost
import Derived.Shelf.Abstract
import Derived.WalkKit
import Derived.ProofKit
import Derived.Below
import Derived.Test.YtoeimopgoaffcaaGreatDoorBBsc1x1
import Derived.Test.YtoeimopgoaffcaaGreatDoorBBsc1x2
namespace Go.Proofs.YtoeimopgoaffcaaGreatDoor.Pr
open Go.RowKit Go.Proofs.YtoeimopgoaffcaaGreatDoorW.PrintWords Go.Proofs.YtoeimopgoaffcaaGreatDoorW.PrintLast Go.Proofs.YtoeimopgoaffcaaGreatDoorW.PrintMore
attribute [local go_sem] ZU ZS ZW ZV ZO ZN ZT ZR
set_option linter.unusedVariables false
set_option linter.unusedSimpArgs false
open Go.Proofs.YtoeimopgoaffcaaGreatDoor.Ni
def Zbw.f (l0:List Int) (a1:Int):Option Int:=some (ZaY (fun y=>decide (a1=y)) l0)
set_option maxHeartbeats 4000000 in
theorem Zbw.calls (A0:Option Addr) (c0:Nat) (l0:List Int) (a1:Int) (r:Int) (w:World) (hr0:Kd.C (Kd.int .i64) w A0 l0.length l0) (hc0:l0.length≤c0) (h:Zbw.f l0 a1=some r) :
  Calls Tryz.prog 163 #[.slice A0 l0.length c0,.int .i64 a1] w fun e w'=>e=.returned (.int .i64 r)∧Below w.heap.size w w':=by
 obtain rfl:=Zg h
 have HR0:=Za hr0
 have HL:l0.length≤9223372036854775807:=HR0.out.2.1
 clear hr0 h hc0
 go_enter Tryz.func163,Tryz.ntmps163
 go_wp2
 go_loopg [5,8] l0.length (fun gg _ s8 wr=>∃kk:Nat,Aside0 (kk≤l0.length)∧Aside0 (l0.length - kk≤gg)∧s8=.int .i64 kk∧Aside0 (Below w.heap.size w wr)∧Aside0 (∀j y,j<kk→l0[j]? = some y→decide (a1=y)=false))
 case atStart=>exact⟨0,⟨Nat.zero_le _⟩,⟨by omega⟩,rfl,⟨Below.refl _ _⟩,⟨fun j y hj=>absurd hj (Nat.not_lt_zero _)⟩⟩
 case round=>
  obtain⟨kk,HK,HG,rfl,HB,HN⟩:=hrel
  by_cases hlt:kk<l0.length
  ·have hltz:(kk:Int)<(l0.length:Int):=by omega
   obtain⟨ad,e1,hx⟩:=Kd.at_int HR0.out (kk:Int) (by omega) hltz
   cases e1
   replace hx:=(HB.out.cell (Zc w _ hx)).trans hx
   rw[Int.toNat_natCast] at hx
   have hxe:l0[kk]? = some (rd l0 (kk:Int)):=by
    unfold rd
    rw[Int.toNat_natCast,List.getD_eq_getElem?_getD,Zl hlt];rfl
   generalize rd l0 (kk:Int)=y at hx hxe
   have HX:=Za hxe;clear hxe
   by_cases hq:a1=y
   ·have hqb:(a1 == y)=true:=beq_iff_eq.2 hq
    have HQ:=Za (Ze hq)
    clear hq
    go_wp2
    go_ret
    exact⟨by rw[ZbR _ l0 kk y HX.out HQ.out HN.out];rfl,HB.out⟩
   ·have hqb:(a1 == y)=false:=beq_eq_false_iff_ne.2 hq
    have HQ:=Za (Zf hq)
    clear hq
    go_wp2
    go_roundg (l0.length - (kk+1))
    case measure=>have:=HG.out;omega
    case rel=>
     refine⟨kk+1,⟨by omega⟩,⟨by omega⟩,by go_num,HB,⟨fun j y' hj hy=>?_⟩⟩
     by_cases e:j=kk
     ·subst e
      rw[HX.out] at hy
      cases hy
      exact HQ.out
     ·exact HN.out j y' (by omega) hy
  ·have hltz:¬(kk:Int)<(l0.length:Int):=by omega
   have:kk=l0.length:=by have:=HK.out;omega
   subst this
   go_wp2
   go_ret
   exact⟨by rw[Zbx _ l0 HN.out];rfl,HB.out⟩
set_option maxHeartbeats 4000000 in
theorem Zbw.quiet (A0:Option Addr) (c0:Nat) (l0:List Int) (a1:Int) (w:World) (hr0:Kd.C (Kd.int .i64) w A0 l0.length l0) :
  Calls Tryz.prog 163 #[.slice A0 l0.length c0,.int .i64 a1] w fun e w'=>e=.returned (.int .i64 (ZaY (fun y=>decide (a1=y)) l0))∧∃n,w'=w.drewN n:=by
 have HR0:=Za hr0
 have HL:l0.length≤9223372036854775807:=HR0.out.2.1
 clear hr0
 go_enter Tryz.func163,Tryz.ntmps163
 go_wp2
 go_loopg [5,8] l0.length (fun gg _ s8 wr=>∃kk:Nat,Aside0 (kk≤l0.length)∧Aside0 (l0.length - kk≤gg)∧s8=.int .i64 kk∧wr=w∧Aside0 (∀j y,j<kk→l0[j]? = some y→decide (a1=y)=false))
 case atStart=>exact⟨0,⟨Nat.zero_le _⟩,⟨by omega⟩,rfl,rfl,⟨fun j y hj=>absurd hj (Nat.not_lt_zero _)⟩⟩
 case round=>
  obtain⟨kk,HK,HG,rfl,rfl,HN⟩:=hrel
  by_cases hlt:kk<l0.length
  ·have hltz:(kk:Int)<(l0.length:Int):=by omega
   obtain⟨ad,e1,hx⟩:=Kd.at_int HR0.out (kk:Int) (by omega) hltz
   cases e1
   rw[Int.toNat_natCast] at hx
   have hxe:l0[kk]? = some (rd l0 (kk:Int)):=by
    unfold rd
    rw[Int.toNat_natCast,List.getD_eq_getElem?_getD,Zl hlt];rfl
   generalize rd l0 (kk:Int)=y at hx hxe
   have HX:=Za hxe;clear hxe
   by_cases hq:a1=y
   ·have hqb:(a1 == y)=true:=beq_iff_eq.2 hq
    have HQ:=Za (Ze hq)
    clear hq
    go_wp2
    go_ret
    exact⟨by rw[ZbR _ l0 kk y HX.out HQ.out HN.out];rfl,0,(World.drewN_zero _).symm⟩
   ·have hqb:(a1 == y)=false:=beq_eq_false_iff_ne.2 hq
    have HQ:=Za (Zf hq)
    clear hq
    go_wp2
    go_roundg (l0.length - (kk+1))
    case measure=>have:=HG.out;omega
    case rel=>
     refine⟨kk+1,⟨by omega⟩,⟨by omega⟩,by go_num,rfl,⟨fun j y' hj hy=>?_⟩⟩
     by_cases e:j=kk
     ·subst e
      rw[HX.out] at hy
      cases hy
      exact HQ.out
     ·exact HN.out j y' (by omega) hy
  ·have hltz:¬(kk:Int)<(l0.length:Int):=by omega
   have:kk=l0.length:=by have:=HK.out;omega
   subst this
   go_wp2
   go_ret
   exact⟨by rw[Zbx _ l0 HN.out];rfl,0,(World.drewN_zero _).symm⟩
def Zao.f (l0:List Int) (a1:Int):Option Bool:=some (l0.any fun y=>decide (a1=y))
theorem Zao.calls (A0:Option Addr) (c0:Nat) (l0:List Int) (a1:Int) (r:Bool) (w:World) (hr0:Kd.C (Kd.int .i64) w A0 l0.length l0) (hc0:l0.length≤c0) (h:Zao.f l0 a1=some r) :
  Calls Tryz.prog 151 #[.slice A0 l0.length c0,.int .i64 a1] w fun e w'=>e=.returned (.bool r)∧Below w.heap.size w w':=by
 obtain rfl:=Zg h
 have HI:=Za (Zbw.calls A0 c0 l0 a1 (ZaY (fun y=>decide (a1=y)) l0) w hr0 hc0 rfl)
 have HE:=Za (ZcZ (fun y=>decide (a1=y)) l0)
 clear hr0 hc0 h
 go_enter Tryz.func151,Tryz.ntmps151
 go_wp2_with (go_at_call 163;refine HI.out.mono ?_;rintro e w' ⟨rfl,hb⟩)
 go_ret
 exact⟨by rw[← HE.out];rfl,hb⟩
theorem Zao.hand (A0:Option Addr) (c0:Nat) (l0:List Int) (a1:Int) (w:World) (hr0:Kd.C (Kd.int .i64) w A0 l0.length l0) (hc0:l0.length≤c0) :
  Calls Tryz.prog 151 #[.slice A0 l0.length c0,.int .i64 a1] w fun e w'=>e=.returned (.bool (l0.any fun y=>decide (a1=y)))∧Below w.heap.size w w':=Zao.calls A0 c0 l0 a1 _ w hr0 hc0 rfl
set_option maxHeartbeats 4000000 in
theorem ZdN.any (p:Int→Bool) (g:Nat) (lb:Array Value) (eg:∀args w,(callFunc g args).run Tryz.prog w=.ok (.enter g args) w) (A0:Option Addr) (c0:Nat) (l0:List Int) (w:World) (hr0:Kd.C (Kd.int .i64) w A0 l0.length l0)
  (hp:∀(W:World) (x:Int),x∈l0→Below w.heap.size w W→Calls Tryz.prog g (#[.int .i64 x] ++ lb) W fun e w'=>e=.returned (.bool (p x))∧Below W.heap.size W w') :
  Calls Tryz.prog 150 #[.slice A0 l0.length c0,.func (.func g) #[] lb] w fun e w'=>e=.returned (.int .i64 (ZaY p l0))∧Below w.heap.size w w':=by
 have HR0:=Za hr0;have HP:=Za hp;clear hr0 hp
 have HL:l0.length≤9223372036854775807:=HR0.out.2.1
 go_enter Tryz.func150,Tryz.ntmps150
 go_wp2
 go_loopg [5,8] l0.length (fun gg _ s8 wr=>∃kk:Nat,Aside0 (kk≤l0.length)∧Aside0 (l0.length - kk≤gg)∧s8=.int .i64 kk∧Aside0 (Below w.heap.size w wr)∧Aside0 (∀j y,j<kk→l0[j]? = some y→p y=false))
 case atStart=>exact⟨0,⟨Nat.zero_le _⟩,⟨by omega⟩,rfl,⟨Below.refl _ _⟩,⟨fun j y hj=>absurd hj (Nat.not_lt_zero _)⟩⟩
 case round=>
  obtain⟨kk,HK,HG,rfl,HB,HN⟩:=hrel
  by_cases hlt:kk<l0.length
  ·have hltz:(kk:Int)<(l0.length:Int):=by omega
   obtain⟨ad,e1,hx0⟩:=Kd.at_int HR0.out (kk:Int) (by omega) hltz
   cases e1
   replace hx0:=(HB.out.cell (Zc w _ hx0)).trans hx0
   rw[Int.toNat_natCast] at hx0
   have hxe:l0[kk]? = some (rd l0 (kk:Int)):=by
    unfold rd
    rw[Int.toNat_natCast,List.getD_eq_getElem?_getD,Zl hlt];rfl
   generalize rd l0 (kk:Int)=y at hx0 hxe
   have HX:=Za hxe;clear hxe
   have hcall:=HP.out wr y (List.mem_of_getElem? HX.out) HB.out
   cases hq:p y with
   | true=>
    have HQ:=Za hq
    rw[hq] at hcall
    clear hq
    go_wp2_with (go_at_fn g;refine hcall.mono ?_;rintro e w' ⟨rfl,hb⟩)
    go_ret
    exact⟨by rw[ZbR p l0 kk y HX.out HQ.out HN.out];rfl,HB.out.trans (hb.mono HB.out.size)⟩
   | false=>
    have HQ:=Za hq
    rw[hq] at hcall
    clear hq
    go_wp2_with (go_at_fn g;refine hcall.mono ?_;rintro e w' ⟨rfl,hb⟩)
    go_roundg (l0.length - (kk+1))
    case measure=>have:=HG.out;omega
    case rel=>
     refine⟨kk+1,⟨by omega⟩,⟨by omega⟩,by go_num,⟨HB.out.trans (hb.mono HB.out.size)⟩,⟨fun j y' hj hy=>?_⟩⟩
     by_cases e:j=kk
     ·subst e
      rw[HX.out] at hy
      cases hy
      exact HQ.out
     ·exact HN.out j y' (by omega) hy
  ·have hltz:¬(kk:Int)<(l0.length:Int):=by omega
   have:kk=l0.length:=by have:=HK.out;omega
   subst this
   go_wp2
   go_ret
   exact⟨by rw[Zbx p l0 HN.out];rfl,HB.out⟩
set_option maxHeartbeats 4000000 in
theorem ZbO.any (p:Int→Bool) (g:Nat) (lb:Array Value) (eg:∀args w,(callFunc g args).run Tryz.prog w=.ok (.enter g args) w) (A0:Option Addr) (c0:Nat) (l0:List Int) (w:World) (hr0:Kd.C (Kd.int .i64) w A0 l0.length l0)
  (hp:∀(W:World) (x:Int),x∈l0→Below w.heap.size w W→Calls Tryz.prog g (#[.int .i64 x] ++ lb) W fun e w'=>e=.returned (.bool (p x))∧Below W.heap.size W w') :
  Calls Tryz.prog 79 #[.slice A0 l0.length c0,.func (.func g) #[] lb] w fun e w'=>e=.returned (.bool (l0.any p))∧Below w.heap.size w w':=by
 have HI:=Za (ZdN.any p g lb eg A0 c0 l0 w hr0 hp)
 clear hr0 hp
 have HE:=Za (ZcZ p l0)
 go_enter Tryz.func79,Tryz.ntmps79
 go_wp2_with (go_at_call 150;refine HI.out.mono ?_;rintro e w' ⟨rfl,hb⟩)
 go_ret
 exact⟨by rw[← HE.out];rfl,hb⟩
def Zbl.f (k:Nat) (l0 l1:List Int):Option Bool:=(Zad.f k l0).bind fun a=>if a=true then(Zad.f k l1).bind fun b=>if b=true then some (l1.all fun x=>l0.any fun y=>decide (x=y)) else some false else some false
theorem Zex.clo (B:Nat) (A0:Option Addr) (c0:Nat) (l0:List Int) (x:Int) (W:World) (hB:W.cell? ⟨B,0,none⟩=some (.slice A0 l0.length c0)) (hr0:Kd.C (Kd.int .i64) W A0 l0.length l0) (hc0:l0.length≤c0) :
  Calls Tryz.prog 196 #[.int .i64 x,.pointer (some ⟨B,0,none⟩)] W fun e w'=>e=.returned (.bool (!(l0.any fun y=>decide (x=y))))∧Below W.heap.size W w':=by
 have HC:=Za ((Zao.hand A0 c0 l0 x W hr0 hc0))
 clear hr0 hc0
 go_enter Tryz.func196,Tryz.ntmps196
 go_wp2_with (go_at_call 151;refine HC.out.mono ?_;rintro e w' ⟨rfl,hb⟩)
 go_ret
 exact⟨rfl,hb⟩
set_option maxHeartbeats 4000000 in
theorem Zbl.calls (k:Nat) (A0:Option Addr) (c0:Nat) (l0:List Int) (A1:Option Addr) (c1:Nat) (l1:List Int) (r:Bool) (w:World) (hr0:Kd.C (Kd.int .i64) w A0 l0.length l0) (hc0:l0.length≤c0) (hr1:Kd.C (Kd.int .i64) w A1 l1.length l1) (hc1:l1.length≤c1) (h:Zbl.f k l0 l1=some r) :
  Calls Tryz.prog 152 #[.slice A0 l0.length c0,.slice A1 l1.length c1] w fun e w'=>e=.returned (.bool r)∧Below w.heap.size w w':=by
 unfold Zbl.f at h
 obtain⟨a,ha,h⟩:=Option.bind_eq_some_iff.1 h
 have LA:=Za fun (W:World) (hb:Below w.heap.size w W)=>(Zad.calls k A0 c0 l0 a W (Zb hr0 hb) hc0 ha).mono fun e w' ⟨he,hd⟩=>(⟨he,by first|exact hd|exact hd.below⟩:e=Ending.returned (.bool a)∧Below W.heap.size W w')
 have B0:=Za ((Below.refl w.heap.size w).alloc (Nat.le_refl _) (.cells #[.slice A0 l0.length c0] 37))
 cases a with
 | false=>
  rw[if_neg (by decide)] at h
  obtain rfl:=Zg h
  clear hr0 hr1 ha h hc0 hc1
  go_enter Tryz.func152,Tryz.ntmps152
  go_wp2_with fail
  refine(LA.out _ B0.out).mono ?_
  rintro e w1 ⟨rfl,hb1⟩
  have B1:=Za (B0.out.trans (hb1.mono B0.out.size))
  clear hb1
  go_wp2
  go_ret
  exact⟨rfl,B1.out⟩
 | true=>
  rw[if_pos rfl] at h
  obtain⟨b,hb_,h⟩:=Option.bind_eq_some_iff.1 h
  have LB:=Za fun (W:World) (hb:Below w.heap.size w W)=>(Zad.calls k A1 c1 l1 b W (Zb hr1 hb) hc1 hb_).mono fun e w' ⟨he,hd⟩=>(⟨he,by first|exact hd|exact hd.below⟩:e=Ending.returned (.bool b)∧Below W.heap.size W w')
  cases b with
  | false=>
   rw[if_neg (by decide)] at h
   obtain rfl:=Zg h
   clear hr0 hr1 ha h hc0 hc1 hb_
   go_enter Tryz.func152,Tryz.ntmps152
   go_wp2_with fail
   refine(LA.out _ B0.out).mono ?_
   rintro e w1 ⟨rfl,hb1⟩
   have B1:=Za (B0.out.trans (hb1.mono B0.out.size))
   clear hb1
   go_wp2_with fail
   refine(LB.out _ B1.out).mono ?_
   rintro e w2 ⟨rfl,hb2⟩
   have B2:=Za (B1.out.trans (hb2.mono B1.out.size))
   clear hb2
   go_wp2
   go_ret
   exact⟨rfl,B2.out⟩
  | true=>
   rw[if_pos rfl] at h
   obtain rfl:=Zg h
   have HC:=Za fun (W:World) (hb:Below w.heap.size w W) (hcell:W.cell? ⟨w.heap.size,0,none⟩=some (.slice A0 l0.length c0))=>ZbO.any (fun x=>!(l0.any fun y=>decide (x=y))) 196 #[.pointer (some ⟨w.heap.size,0,none⟩)] (enters_of Tryz.func196 (by kernel_rfl) rfl) A1 c1 l1 W (Zb hr1 hb)
    (fun W' x _ hb'=>Zex.clo w.heap.size A0 c0 l0 x W' ((hb'.cell (Zc W _ hcell)).trans hcell) (Zb hr0 (hb.trans (hb'.mono hb.size))) hc0)
   have HV:=Za (show(!(l1.any fun x=>!(l0.any fun y=>decide (x=y))))=l1.all fun x=>l0.any fun y=>decide (x=y) by rw[List.not_any_eq_all_not];simp)
   have C0:=Za (show(w.alloc (.cells #[.slice A0 l0.length c0] 37)).cell? ⟨w.heap.size,0,none⟩=some (.slice A0 l0.length c0) by go_simp)
   clear hr0 hr1 ha h hc0 hc1 hb_
   go_enter Tryz.func152,Tryz.ntmps152
   go_wp2_with fail
   refine(LA.out _ B0.out).mono ?_
   rintro e w1 ⟨rfl,hb1⟩
   have B1:=Za (B0.out.trans (hb1.mono B0.out.size))
   have C1:=Za ((hb1.cell (Zc _ _ C0.out)).trans C0.out)
   clear hb1
   go_wp2_with fail
   refine(LB.out _ B1.out).mono ?_
   rintro e w2 ⟨rfl,hb2⟩
   have B2:=Za (B1.out.trans (hb2.mono B1.out.size))
   have C2:=Za ((hb2.cell (Zc _ _ C1.out)).trans C1.out)
   clear hb2
   go_wp2_with fail
   refine(HC.out _ B2.out C2.out).mono ?_
   rintro e w3 ⟨rfl,hb3⟩
   go_wp2
   go_ret
   exact⟨by rw[← HV.out];rfl,B2.out.trans (hb3.mono B2.out.size)⟩
end Go.Proofs.YtoeimopgoaffcaaGreatDoor.Pr
namespace Go.Proofs.YtoeimopgoaffcaaGreatDoor.Pr
open Go.RowKit Go.Proofs.YtoeimopgoaffcaaGreatDoorW.PrintWords Go.Proofs.YtoeimopgoaffcaaGreatDoor.Ni
theorem Zeg (l:List Int) (x:Int) (hl:l.length≤9223372036854775807) (k:Nat) (hk:2 ^ 64≤k):ZaB.f k l x=some (l.any fun y=>decide (x=y)):=by
 have key:=Za9 l.length (fun k i=>ZaB.l0 k x l l.length (i:Int)=some ((l.drop i).any fun y=>decide (x=y))) 0
  (fun k _=>by simp[ZaB.l0])
  (fun k i _ hi ih=>by
   simp only[ZaB.l0]
   rw[if_pos (by omega),if_pos (by omega),if_pos (by omega),ZaI,ZL hi (by omega),Zah hi 0,List.any_cons]
   by_cases h:l.getD i 0=x
   ·rw[if_pos h,Ze h.symm];rfl
   ·rw[if_neg h,ih,Zf (fun e=>h e.symm)];rfl) 0 k (Nat.zero_le _) (by omega)
 unfold ZaB.f
 simpa using key
def impB (a b:List Int):Bool:=labB a && labB b && b.all fun x=>a.any fun y=>decide (x=y)
theorem Zet (a b:List Int) (ha:a.length≤9223372036854775807) (hb:b.length≤9223372036854775807) (k:Nat) (hk:2 ^ 65≤k):ZY.f k a b=some (impB a b):=by
 have key:∀k,2 ^ 64+b.length<k→ZY.l0 k a b b.length 0=some (b.all fun x=>a.any fun y=>decide (x=y)):=by
  intro k hk
  have:=Za9 b.length (fun k i=>ZY.l0 k a b b.length (i:Int)=some ((b.drop i).all fun x=>a.any fun y=>decide (x=y))) (2 ^ 64)
   (fun k _=>by simp[ZY.l0])
   (fun k i hk hi ih=>by
    simp only[ZY.l0]
    rw[if_pos (by omega),if_pos (by omega),if_pos (by omega),ZaI,ZL hi (by omega),Zah hi 0,List.all_cons,Zeg a _ ha k hk,Zi]
    cases h:a.any fun y=>decide (b.getD i 0=y)
    ·rfl
    ·rw[if_pos rfl,ih];rfl) 0 k (Nat.zero_le _) (by omega)
  simpa using this
 unfold ZY.f impB
 obtain⟨m,rfl⟩:∃m,k=m+1:=⟨k - 1,by omega⟩
 rw[Zda a ha _ (by omega),Zi,Zda b hb _ (by omega)]
 cases labB a
 ·rfl
 ·rw[if_pos rfl,Zi]
  cases labB b
  ·rfl
  ·simp only[ZY.j0,Bool.not_true,Bool.false_eq_true,if_false]
   rw[key m (by omega)];rfl
theorem Zew (a b:List Int) (ha:a.length≤9223372036854775807) (hb:b.length≤9223372036854775807) (k:Nat) (hk:2 ^ 64≤k):Zbl.f k a b=some (impB a b):=by
 unfold Zbl.f impB
 rw[ZcQ a ha k hk,Zi,ZcQ b hb k hk]
 cases labB a
 ·rfl
 ·rw[if_pos rfl,Zi]
  cases labB b <;> rfl
end Go.Proofs.YtoeimopgoaffcaaGreatDoor.Pr
namespace Go.Proofs.YtoeimopgoaffcaaGreatDoor.Pr
open Go.RowKit Go.Proofs.YtoeimopgoaffcaaGreatDoorW.PrintWords Go.Proofs.YtoeimopgoaffcaaGreatDoorW.PrintLast Go.Proofs.YtoeimopgoaffcaaGreatDoorW.PrintMore
attribute [local go_sem] ZU ZS ZW ZV ZO ZN ZT ZR
set_option linter.unusedVariables false
set_option linter.unusedSimpArgs false
def Zap.l0:Nat→Int→List (S82)→Int→Int→Option (Int)
 | 0,_,_,_,_=>none
 | k+1,x1,x8,x9,x10=>if x10<x9 then(if 0≤x10 then(if x10<(x8.length:Int) then(if (ZD x8 x10).f4=true then(if ((ZD x8 x10).f1)=x1 then(some x10) else(Zap.l0 k x1 x8 x9 (wrap64 (x10+1)))) else(Zap.l0 k x1 x8 x9 (wrap64 (x10+1)))) else(none)) else(none)) else(some (-1))
def Zap.f (k:Nat) (l0_0:List (S39)) (l0_1:List (S82)) (a0_2:Int) (a1:Int):Option (Int):=Zap.l0 k a1 l0_1 (l0_1.length:Int) 0
set_option maxHeartbeats 8000000 in
set_option maxRecDepth 100000 in
theorem Zap.calls (k:Nat) (A0_0:Option Addr) (c0_0:Nat) (l0_0:List (S39)) (A0_1:Option Addr) (c0_1:Nat) (l0_1:List (S82)) (a0_2:Int) (a1:Int) (r:Int) (w:World) (hr0_0:Kd.C k39 w A0_0 l0_0.length l0_0) (hc0_0:l0_0.length≤c0_0) (hr0_1:Kd.C k82 w A0_1 l0_1.length l0_1) (hc0_1:l0_1.length≤c0_1) (h:Zap.f k l0_0 l0_1 a0_2 a1=some r) :
  Calls Tryz.prog 180 #[.agg #[.slice A0_0 l0_0.length c0_0,.slice A0_1 l0_1.length c0_1,.int .i64 a0_2],.int .i64 a1] w fun e w'=>e=.returned (.int .i64 r)∧Below w.heap.size w w':=by
 have hu25:=Tryz.underlying25
 have hu82:=Tryz.underlying82
 have HR0_0:=Za hr0_0;have HC0_0:=Za hc0_0;clear hr0_0 hc0_0;have HR0_1:=Za hr0_1;have HC0_1:=Za hc0_1;clear hr0_1 hc0_1
 have HB:=Za (Below.refl w.heap.size w)
 have H:(Zap.l0 k a1 l0_1 (l0_1.length:Int) 0)=some r:=h
 clear h
 have H':=Za H
 clear H
 go_enter Tryz.func180,Tryz.ntmps180
 go_wp2_with (first|((with_reducible refine ZF (N:=2) rfl ?_);refine ZG ?hg (N:=2) ?hd (cs:=#[.slice A0_0 l0_0.length c0_0,.slice A0_1 l0_1.length c0_1,.int .i64 a0_2]) (t:=25) ?hr ?_;(case hd=>rfl);(case hg=>rfl);(case hr=>first|(go_simp;done)|(go_simp;rfl));intro gb180001 hg w3 hbox hb;have BK180001:=Za (hbox);have GW180001:=Za ((by rw[hg];exact(Zy (by repeat(first|(with_reducible first|exact HB.out|apply Zn|apply Zm|apply Zo)|exact HB.out))):w.heap.size≤gb180001));have GE180001:=Za ((by rw[hg];exact(Zy (by repeat(first|(with_reducible first|exact HB.out|apply Zn|apply Zm|apply Zo)|exact HB.out))):w.heap.size≤gb180001));replace HB:=Za (Zw (by repeat(first|(with_reducible first|exact HB.out|apply Zn|apply Zm|apply Zo)|exact HB.out)) hb);clear hb hbox hg;have hcz4_0:w3.cell? ⟨gb180001,0,none⟩=some (.slice A0_0 l0_0.length c0_0):=(Zp BK180001.out 0).trans rfl;have hcz4_1:w3.cell? ⟨gb180001,1,none⟩=some (.slice A0_1 l0_1.length c0_1):=(Zp BK180001.out 1).trans rfl;have hcz4_2:w3.cell? ⟨gb180001,2,none⟩=some (.int .i64 a0_2):=(Zp BK180001.out 2).trans rfl;have hfz4_0:=Zr BK180001.out 0;have hfz4_1:=Zr BK180001.out 1;have hfz4_2:=Zr BK180001.out 2))
 go_loopg [10] k (fun kq v10 w'=>∃(x10_1:Int),v10=.int .i64 x10_1∧Aside0 (Zap.l0 kq a1 l0_1 (l0_1.length:Int) x10_1=some r)∧Aside0 (kq≤k)∧Aside0 (w'.heap[gb180001]? = some (.cells #[(.slice A0_0 l0_0.length c0_0),(.slice A0_1 l0_1.length c0_1),.int .i64 a0_2] 25 (0,0)))∧Aside0 (Below w.heap.size w w'))
 case atStart=>exact⟨(0),(by first|rfl|(simp;done)|(simp[*];done)),H',⟨Nat.le_refl _⟩,⟨by(with_reducible repeat(first|refine Zt ?_ _|refine Zv ?_|refine Zs ?_ _));exact BK180001.out⟩,⟨by repeat(first|(with_reducible first|exact HB.out|apply Zn|apply Zm|apply Zo|refine Zq ?_ GE180001.out)|exact HB.out)⟩⟩
 case round=>
  clear H'
  try clear c1
  try clear p2
  try clear hcz4_0
  try clear hcz4_1
  try clear hcz4_2
  try clear hfz4_0
  try clear hfz4_1
  try clear hfz4_2
  obtain⟨x10_1,rfl,HA,HK1,BK180001,HB⟩:=hrel
  cases gk with
  | zero=>exact absurd HA.out (by simp[Zap.l0])
  | succ k1=>
   have H:=HA.out
   clear HA
   simp only[Zap.l0] at H
   by_cases c5:x10_1<(l0_1.length:Int)
   ·rw[if_pos c5] at H
    have c5b0:decide (x10_1<(l0_1.length:Int))=true:=Ze c5
    clear c5
    by_cases c6:0≤x10_1
    ·rw[if_pos c6] at H
     have c6b0:decide (0≤x10_1)=true:=Ze c6
     clear c6
     by_cases c7:x10_1<(l0_1.length:Int)
     ·rw[if_pos c7] at H
      have c7b0:decide (x10_1<(l0_1.length:Int))=true:=Ze c7
      clear c7
      obtain⟨bq8,hbq8⟩:∃b_:Bool,b_=((ZD l0_1 x10_1).f4):=⟨_,rfl⟩
      replace H:(if bq8=true then(if ((ZD l0_1 x10_1).f1)=a1 then(some x10_1) else(Zap.l0 k1 a1 l0_1 (l0_1.length:Int) (wrap64 (x10_1+1)))) else(Zap.l0 k1 a1 l0_1 (l0_1.length:Int) (wrap64 (x10_1+1))))=some r:=by rw[← hbq8] at H;exact H
      have Nbq8:=Za hbq8;clear hbq8
      by_cases c9:bq8=true
      ·subst c9
       rw[if_pos rfl] at H
       by_cases c10:((ZD l0_1 x10_1).f1)=a1
       ·rw[if_pos c10] at H
        have c10b0:(((ZD l0_1 x10_1).f1) == a1)=true:=beq_iff_eq.mpr c10
        clear c10
        obtain rfl:=Zg H
        have p180002:0≤(x10_1:Int):=Zd (by first|(with_reducible assumption)|assumption)
        have q180002:x10_1<(l0_1.length:Int):=Zd (by first|(with_reducible assumption)|assumption)
        obtain⟨ad180002,e180002,hx180002_0,hx180002_1,hx180002_2,hx180002_3,hx180002_4⟩:=Zbp HR0_1.out x10_1 p180002 q180002
        (try rw[← Nbq8.out] at hx180002_4)
        cases e180002
        replace hx180002_0:=(HB.out.cell (Zc w _ hx180002_0)).trans hx180002_0
        replace hx180002_1:=(HB.out.cell (Zc w _ hx180002_1)).trans hx180002_1
        replace hx180002_2:=(HB.out.cell (Zc w _ hx180002_2)).trans hx180002_2
        replace hx180002_3:=(HB.out.cell (Zc w _ hx180002_3)).trans hx180002_3
        replace hx180002_4:=(HB.out.cell (Zc w _ hx180002_4)).trans hx180002_4
        replace p180002:=eq_true p180002
        replace q180002:=eq_true q180002
        go_wp2_with (first|((with_reducible refine ZF (N:=6) rfl ?_);refine ZG ?hg (N:=6) ?hd (cs:=#[.int .i64 0,.int .i64 0,.int .i64 0,.int .i64 0,.bool false]) (t:=82) ?hr ?_;(case hd=>rfl);(case hg=>rfl);(case hr=>first|(go_simp;done)|(go_simp;rfl));intro gb180003 hg w11 hbox hb;have BK180003:=Za (hbox);have GW180003:=Za ((by rw[hg];exact(Zy (by repeat(first|(with_reducible first|exact HB.out|apply Zn|apply Zm|apply Zo|refine Zq ?_ GE180001.out)|exact HB.out))):w.heap.size≤gb180003));have GE180003:=Za ((by rw[hg];exact(Zy (by repeat(first|(with_reducible first|exact HB.out|apply Zn|apply Zm|apply Zo|refine Zq ?_ GE180001.out)|exact HB.out))):w.heap.size≤gb180003));have NB180001_180003:=Za ((by rw[hg];exact Nat.ne_of_lt (ZM (g:=gb180001) (o:=.cells #[.slice A0_0 l0_0.length c0_0,.slice (some ad180002) l0_1.length c0_1,.int .i64 a0_2] 25 (0,0)) (by(with_reducible repeat(first|refine Zt ?_ _|refine Zv ?_|refine Zs ?_ _));exact BK180001.out)):gb180001≠gb180003));have NB180003_180001:=Za ((by rw[hg];exact Nat.ne_of_gt (ZM (g:=gb180001) (o:=.cells #[.slice A0_0 l0_0.length c0_0,.slice (some ad180002) l0_1.length c0_1,.int .i64 a0_2] 25 (0,0)) (by(with_reducible repeat(first|refine Zt ?_ _|refine Zv ?_|refine Zs ?_ _));exact BK180001.out)):gb180003≠gb180001));replace BK180001:=Za (ZA (g:=gb180001) (o:=.cells #[.slice A0_0 l0_0.length c0_0,.slice (some ad180002) l0_1.length c0_1,.int .i64 a0_2] 25 (0,0)) (by(with_reducible repeat(first|refine Zt ?_ _|refine Zv ?_|refine Zs ?_ _));exact BK180001.out) hb);replace HB:=Za (Zw (by repeat(first|(with_reducible first|exact HB.out|apply Zn|apply Zm|apply Zo|refine Zq ?_ GE180001.out)|exact HB.out)) hb);clear hb hbox hg;have hcz13_0:w11.cell? ⟨gb180003,0,none⟩=some (.int .i64 0):=(Zp BK180003.out 0).trans rfl;have hcz13_1:w11.cell? ⟨gb180003,1,none⟩=some (.int .i64 0):=(Zp BK180003.out 1).trans rfl;have hcz13_2:w11.cell? ⟨gb180003,2,none⟩=some (.int .i64 0):=(Zp BK180003.out 2).trans rfl;have hcz13_3:w11.cell? ⟨gb180003,3,none⟩=some (.int .i64 0):=(Zp BK180003.out 3).trans rfl;have hcz13_4:w11.cell? ⟨gb180003,4,none⟩=some (.bool false):=(Zp BK180003.out 4).trans rfl;have hfz13_0:=Zr BK180003.out 0;have hfz13_1:=Zr BK180003.out 1;have hfz13_2:=Zr BK180003.out 2;have hfz13_3:=Zr BK180003.out 3;have hfz13_4:=Zr BK180003.out 4))
        go_ret
        exact⟨by first|rfl|(simp[ZC,ZB] <;> rfl)|(simp[*,ZC,ZB] <;> rfl),by repeat(first|(with_reducible first|exact HB.out|apply Zn|apply Zm|apply Zo|refine Zq ?_ GE180001.out|refine Zq ?_ GE180003.out)|exact HB.out)⟩
       ·rw[if_neg c10] at H
        have c10b0:(((ZD l0_1 x10_1).f1) == a1)=false:=beq_eq_false_iff_ne.mpr c10
        have H':=Za H
        clear H
        have p180002:0≤(x10_1:Int):=Zd (by first|(with_reducible assumption)|assumption)
        have q180002:x10_1<(l0_1.length:Int):=Zd (by first|(with_reducible assumption)|assumption)
        obtain⟨ad180002,e180002,hx180002_0,hx180002_1,hx180002_2,hx180002_3,hx180002_4⟩:=Zbp HR0_1.out x10_1 p180002 q180002
        (try rw[← Nbq8.out] at hx180002_4)
        cases e180002
        replace hx180002_0:=(HB.out.cell (Zc w _ hx180002_0)).trans hx180002_0
        replace hx180002_1:=(HB.out.cell (Zc w _ hx180002_1)).trans hx180002_1
        replace hx180002_2:=(HB.out.cell (Zc w _ hx180002_2)).trans hx180002_2
        replace hx180002_3:=(HB.out.cell (Zc w _ hx180002_3)).trans hx180002_3
        replace hx180002_4:=(HB.out.cell (Zc w _ hx180002_4)).trans hx180002_4
        replace p180002:=eq_true p180002
        replace q180002:=eq_true q180002
        go_wp2_with (first|((with_reducible refine ZF (N:=6) rfl ?_);refine ZG ?hg (N:=6) ?hd (cs:=#[.int .i64 0,.int .i64 0,.int .i64 0,.int .i64 0,.bool false]) (t:=82) ?hr ?_;(case hd=>rfl);(case hg=>rfl);(case hr=>first|(go_simp;done)|(go_simp;rfl));intro gb180003 hg w14 hbox hb;have BK180003:=Za (hbox);have GW180003:=Za ((by rw[hg];exact(Zy (by repeat(first|(with_reducible first|exact HB.out|apply Zn|apply Zm|apply Zo|refine Zq ?_ GE180001.out)|exact HB.out))):w.heap.size≤gb180003));have GE180003:=Za ((by rw[hg];exact(Zy (by repeat(first|(with_reducible first|exact HB.out|apply Zn|apply Zm|apply Zo|refine Zq ?_ GE180001.out)|exact HB.out))):w.heap.size≤gb180003));have NB180001_180003:=Za ((by rw[hg];exact Nat.ne_of_lt (ZM (g:=gb180001) (o:=.cells #[.slice A0_0 l0_0.length c0_0,.slice (some ad180002) l0_1.length c0_1,.int .i64 a0_2] 25 (0,0)) (by(with_reducible repeat(first|refine Zt ?_ _|refine Zv ?_|refine Zs ?_ _));exact BK180001.out)):gb180001≠gb180003));have NB180003_180001:=Za ((by rw[hg];exact Nat.ne_of_gt (ZM (g:=gb180001) (o:=.cells #[.slice A0_0 l0_0.length c0_0,.slice (some ad180002) l0_1.length c0_1,.int .i64 a0_2] 25 (0,0)) (by(with_reducible repeat(first|refine Zt ?_ _|refine Zv ?_|refine Zs ?_ _));exact BK180001.out)):gb180003≠gb180001));replace BK180001:=Za (ZA (g:=gb180001) (o:=.cells #[.slice A0_0 l0_0.length c0_0,.slice (some ad180002) l0_1.length c0_1,.int .i64 a0_2] 25 (0,0)) (by(with_reducible repeat(first|refine Zt ?_ _|refine Zv ?_|refine Zs ?_ _));exact BK180001.out) hb);replace HB:=Za (Zw (by repeat(first|(with_reducible first|exact HB.out|apply Zn|apply Zm|apply Zo|refine Zq ?_ GE180001.out)|exact HB.out)) hb);clear hb hbox hg;have hcz16_0:w14.cell? ⟨gb180003,0,none⟩=some (.int .i64 0):=(Zp BK180003.out 0).trans rfl;have hcz16_1:w14.cell? ⟨gb180003,1,none⟩=some (.int .i64 0):=(Zp BK180003.out 1).trans rfl;have hcz16_2:w14.cell? ⟨gb180003,2,none⟩=some (.int .i64 0):=(Zp BK180003.out 2).trans rfl;have hcz16_3:w14.cell? ⟨gb180003,3,none⟩=some (.int .i64 0):=(Zp BK180003.out 3).trans rfl;have hcz16_4:w14.cell? ⟨gb180003,4,none⟩=some (.bool false):=(Zp BK180003.out 4).trans rfl;have hfz16_0:=Zr BK180003.out 0;have hfz16_1:=Zr BK180003.out 1;have hfz16_2:=Zr BK180003.out 2;have hfz16_3:=Zr BK180003.out 3;have hfz16_4:=Zr BK180003.out 4))
        go_roundg k1
        case measure=>have:=HK1.out;omega
        case rel=>exact⟨(wrap64 (x10_1+1)),(by first|rfl|(simp;done)|(simp[*];done)),H',⟨by have:=HK1.out;omega⟩,⟨by(with_reducible repeat(first|refine Zt ?_ _|refine Zv ?_|refine Zs ?_ _));refine ZQ ?_ NB180001_180003.out _;(with_reducible repeat(first|refine Zt ?_ _|refine Zv ?_|refine Zs ?_ _));refine ZQ ?_ NB180001_180003.out _;(with_reducible repeat(first|refine Zt ?_ _|refine Zv ?_|refine Zs ?_ _));refine ZQ ?_ NB180001_180003.out _;(with_reducible repeat(first|refine Zt ?_ _|refine Zv ?_|refine Zs ?_ _));refine ZQ ?_ NB180001_180003.out _;(with_reducible repeat(first|refine Zt ?_ _|refine Zv ?_|refine Zs ?_ _));refine ZQ ?_ NB180001_180003.out _;(with_reducible repeat(first|refine Zt ?_ _|refine Zv ?_|refine Zs ?_ _));exact BK180001.out⟩,⟨by repeat(first|(with_reducible first|exact HB.out|apply Zn|apply Zm|apply Zo|refine Zq ?_ GE180001.out|refine Zq ?_ GE180003.out)|exact HB.out)⟩⟩
      ·replace c9:=Bool.eq_false_iff.mpr c9
       subst c9
       have H1:(Zap.l0 k1 a1 l0_1 (l0_1.length:Int) (wrap64 (x10_1+1)))=some r:=by rw[if_neg (show ¬(false=true) by decide)] at H;exact H
       clear H
       have H:=H1
       clear H1
       have H':=Za H
       clear H
       have p180002:0≤(x10_1:Int):=Zd (by first|(with_reducible assumption)|assumption)
       have q180002:x10_1<(l0_1.length:Int):=Zd (by first|(with_reducible assumption)|assumption)
       obtain⟨ad180002,e180002,hx180002_0,hx180002_1,hx180002_2,hx180002_3,hx180002_4⟩:=Zbp HR0_1.out x10_1 p180002 q180002
       (try rw[← Nbq8.out] at hx180002_4)
       cases e180002
       replace hx180002_0:=(HB.out.cell (Zc w _ hx180002_0)).trans hx180002_0
       replace hx180002_1:=(HB.out.cell (Zc w _ hx180002_1)).trans hx180002_1
       replace hx180002_2:=(HB.out.cell (Zc w _ hx180002_2)).trans hx180002_2
       replace hx180002_3:=(HB.out.cell (Zc w _ hx180002_3)).trans hx180002_3
       replace hx180002_4:=(HB.out.cell (Zc w _ hx180002_4)).trans hx180002_4
       replace p180002:=eq_true p180002
       replace q180002:=eq_true q180002
       go_wp2_with (first|((with_reducible refine ZF (N:=6) rfl ?_);refine ZG ?hg (N:=6) ?hd (cs:=#[.int .i64 0,.int .i64 0,.int .i64 0,.int .i64 0,.bool false]) (t:=82) ?hr ?_;(case hd=>rfl);(case hg=>rfl);(case hr=>first|(go_simp;done)|(go_simp;rfl));intro gb180003 hg w17 hbox hb;have BK180003:=Za (hbox);have GW180003:=Za ((by rw[hg];exact(Zy (by repeat(first|(with_reducible first|exact HB.out|apply Zn|apply Zm|apply Zo|refine Zq ?_ GE180001.out)|exact HB.out))):w.heap.size≤gb180003));have GE180003:=Za ((by rw[hg];exact(Zy (by repeat(first|(with_reducible first|exact HB.out|apply Zn|apply Zm|apply Zo|refine Zq ?_ GE180001.out)|exact HB.out))):w.heap.size≤gb180003));have NB180001_180003:=Za ((by rw[hg];exact Nat.ne_of_lt (ZM (g:=gb180001) (o:=.cells #[.slice A0_0 l0_0.length c0_0,.slice (some ad180002) l0_1.length c0_1,.int .i64 a0_2] 25 (0,0)) (by(with_reducible repeat(first|refine Zt ?_ _|refine Zv ?_|refine Zs ?_ _));exact BK180001.out)):gb180001≠gb180003));have NB180003_180001:=Za ((by rw[hg];exact Nat.ne_of_gt (ZM (g:=gb180001) (o:=.cells #[.slice A0_0 l0_0.length c0_0,.slice (some ad180002) l0_1.length c0_1,.int .i64 a0_2] 25 (0,0)) (by(with_reducible repeat(first|refine Zt ?_ _|refine Zv ?_|refine Zs ?_ _));exact BK180001.out)):gb180003≠gb180001));replace BK180001:=Za (ZA (g:=gb180001) (o:=.cells #[.slice A0_0 l0_0.length c0_0,.slice (some ad180002) l0_1.length c0_1,.int .i64 a0_2] 25 (0,0)) (by(with_reducible repeat(first|refine Zt ?_ _|refine Zv ?_|refine Zs ?_ _));exact BK180001.out) hb);replace HB:=Za (Zw (by repeat(first|(with_reducible first|exact HB.out|apply Zn|apply Zm|apply Zo|refine Zq ?_ GE180001.out)|exact HB.out)) hb);clear hb hbox hg;have hcz19_0:w17.cell? ⟨gb180003,0,none⟩=some (.int .i64 0):=(Zp BK180003.out 0).trans rfl;have hcz19_1:w17.cell? ⟨gb180003,1,none⟩=some (.int .i64 0):=(Zp BK180003.out 1).trans rfl;have hcz19_2:w17.cell? ⟨gb180003,2,none⟩=some (.int .i64 0):=(Zp BK180003.out 2).trans rfl;have hcz19_3:w17.cell? ⟨gb180003,3,none⟩=some (.int .i64 0):=(Zp BK180003.out 3).trans rfl;have hcz19_4:w17.cell? ⟨gb180003,4,none⟩=some (.bool false):=(Zp BK180003.out 4).trans rfl;have hfz19_0:=Zr BK180003.out 0;have hfz19_1:=Zr BK180003.out 1;have hfz19_2:=Zr BK180003.out 2;have hfz19_3:=Zr BK180003.out 3;have hfz19_4:=Zr BK180003.out 4))
       go_roundg k1
       case measure=>have:=HK1.out;omega
       case rel=>exact⟨(wrap64 (x10_1+1)),(by first|rfl|(simp;done)|(simp[*];done)),H',⟨by have:=HK1.out;omega⟩,⟨by(with_reducible repeat(first|refine Zt ?_ _|refine Zv ?_|refine Zs ?_ _));refine ZQ ?_ NB180001_180003.out _;(with_reducible repeat(first|refine Zt ?_ _|refine Zv ?_|refine Zs ?_ _));refine ZQ ?_ NB180001_180003.out _;(with_reducible repeat(first|refine Zt ?_ _|refine Zv ?_|refine Zs ?_ _));refine ZQ ?_ NB180001_180003.out _;(with_reducible repeat(first|refine Zt ?_ _|refine Zv ?_|refine Zs ?_ _));refine ZQ ?_ NB180001_180003.out _;(with_reducible repeat(first|refine Zt ?_ _|refine Zv ?_|refine Zs ?_ _));refine ZQ ?_ NB180001_180003.out _;(with_reducible repeat(first|refine Zt ?_ _|refine Zv ?_|refine Zs ?_ _));exact BK180001.out⟩,⟨by repeat(first|(with_reducible first|exact HB.out|apply Zn|apply Zm|apply Zo|refine Zq ?_ GE180001.out|refine Zq ?_ GE180003.out)|exact HB.out)⟩⟩
     ·rw[if_neg c7] at H
      exact absurd H (by simp)
    ·rw[if_neg c6] at H
     exact absurd H (by simp)
   ·rw[if_neg c5] at H
    have c5b0:decide (x10_1<(l0_1.length:Int))=false:=Zf c5
    clear c5
    obtain rfl:=Zg H
    go_wp2
    go_ret
    exact⟨by first|rfl|(simp[ZC,ZB] <;> rfl)|(simp[*,ZC,ZB] <;> rfl),by repeat(first|(with_reducible first|exact HB.out|apply Zn|apply Zm|apply Zo|refine Zq ?_ GE180001.out)|exact HB.out)⟩
def Z3.l0:Nat→Int→List (S39)→Int→Int→Option (Int)
 | 0,_,_,_,_=>none
 | k+1,x1,x8,x9,x10=>if x10<x9 then(if 0≤x10 then(if x10<(x8.length:Int) then(if ((ZH x8 x10).f2)=x1 then(some x10) else(Z3.l0 k x1 x8 x9 (wrap64 (x10+1)))) else(none)) else(none)) else(some (-1))
def Z3.f (k:Nat) (l0_0:List (S39)) (l0_1:List (S82)) (a0_2:Int) (a1:Int):Option (Int):=Z3.l0 k a1 l0_0 (l0_0.length:Int) 0
set_option maxHeartbeats 8000000 in
set_option maxRecDepth 100000 in
theorem Z3.calls (k:Nat) (A0_0:Option Addr) (c0_0:Nat) (l0_0:List (S39)) (A0_1:Option Addr) (c0_1:Nat) (l0_1:List (S82)) (a0_2:Int) (a1:Int) (r:Int) (w:World) (hr0_0:Kd.C k39 w A0_0 l0_0.length l0_0) (hc0_0:l0_0.length≤c0_0) (hr0_1:Kd.C k82 w A0_1 l0_1.length l0_1) (hc0_1:l0_1.length≤c0_1) (h:Z3.f k l0_0 l0_1 a0_2 a1=some r) :
  Calls Tryz.prog 97 #[.agg #[.slice A0_0 l0_0.length c0_0,.slice A0_1 l0_1.length c0_1,.int .i64 a0_2],.int .i64 a1] w fun e w'=>e=.returned (.int .i64 r)∧Below w.heap.size w w':=by
 have hu25:=Tryz.underlying25
 have hu39:=Tryz.underlying39
 have HR0_0:=Za hr0_0;have HC0_0:=Za hc0_0;clear hr0_0 hc0_0;have HR0_1:=Za hr0_1;have HC0_1:=Za hc0_1;clear hr0_1 hc0_1
 have HB:=Za (Below.refl w.heap.size w)
 have H:(Z3.l0 k a1 l0_0 (l0_0.length:Int) 0)=some r:=h
 clear h
 have H':=Za H
 clear H
 go_enter Tryz.func97,Tryz.ntmps97
 go_wp2_with (first|((with_reducible refine ZF (N:=2) rfl ?_);refine ZG ?hg (N:=2) ?hd (cs:=#[.slice A0_0 l0_0.length c0_0,.slice A0_1 l0_1.length c0_1,.int .i64 a0_2]) (t:=25) ?hr ?_;(case hd=>rfl);(case hg=>rfl);(case hr=>first|(go_simp;done)|(go_simp;rfl));intro gb97001 hg w3 hbox hb;have BK97001:=Za (hbox);have GW97001:=Za ((by rw[hg];exact(Zy (by repeat(first|(with_reducible first|exact HB.out|apply Zn|apply Zm|apply Zo)|exact HB.out))):w.heap.size≤gb97001));have GE97001:=Za ((by rw[hg];exact(Zy (by repeat(first|(with_reducible first|exact HB.out|apply Zn|apply Zm|apply Zo)|exact HB.out))):w.heap.size≤gb97001));replace HB:=Za (Zw (by repeat(first|(with_reducible first|exact HB.out|apply Zn|apply Zm|apply Zo)|exact HB.out)) hb);clear hb hbox hg;have hcz4_0:w3.cell? ⟨gb97001,0,none⟩=some (.slice A0_0 l0_0.length c0_0):=(Zp BK97001.out 0).trans rfl;have hcz4_1:w3.cell? ⟨gb97001,1,none⟩=some (.slice A0_1 l0_1.length c0_1):=(Zp BK97001.out 1).trans rfl;have hcz4_2:w3.cell? ⟨gb97001,2,none⟩=some (.int .i64 a0_2):=(Zp BK97001.out 2).trans rfl;have hfz4_0:=Zr BK97001.out 0;have hfz4_1:=Zr BK97001.out 1;have hfz4_2:=Zr BK97001.out 2))
 go_loopg [10] k (fun kq v10 w'=>∃(x10_1:Int),v10=.int .i64 x10_1∧Aside0 (Z3.l0 kq a1 l0_0 (l0_0.length:Int) x10_1=some r)∧Aside0 (kq≤k)∧Aside0 (w'.heap[gb97001]? = some (.cells #[(.slice A0_0 l0_0.length c0_0),(.slice A0_1 l0_1.length c0_1),.int .i64 a0_2] 25 (0,0)))∧Aside0 (Below w.heap.size w w'))
 case atStart=>exact⟨(0),(by first|rfl|(simp;done)|(simp[*];done)),H',⟨Nat.le_refl _⟩,⟨by(with_reducible repeat(first|refine Zt ?_ _|refine Zv ?_|refine Zs ?_ _));exact BK97001.out⟩,⟨by repeat(first|(with_reducible first|exact HB.out|apply Zn|apply Zm|apply Zo|refine Zq ?_ GE97001.out)|exact HB.out)⟩⟩
 case round=>
  clear H'
  try clear p2
  try clear hcz4_0
  try clear hcz4_1
  try clear hcz4_2
  try clear hfz4_0
  try clear hfz4_1
  try clear hfz4_2
  obtain⟨x10_1,rfl,HA,HK1,BK97001,HB⟩:=hrel
  cases gk with
  | zero=>exact absurd HA.out (by simp[Z3.l0])
  | succ k1=>
   have H:=HA.out
   clear HA
   simp only[Z3.l0] at H
   by_cases c5:x10_1<(l0_0.length:Int)
   ·rw[if_pos c5] at H
    have c5b0:decide (x10_1<(l0_0.length:Int))=true:=Ze c5
    clear c5
    by_cases c6:0≤x10_1
    ·rw[if_pos c6] at H
     have c6b0:decide (0≤x10_1)=true:=Ze c6
     clear c6
     by_cases c7:x10_1<(l0_0.length:Int)
     ·rw[if_pos c7] at H
      have c7b0:decide (x10_1<(l0_0.length:Int))=true:=Ze c7
      clear c7
      by_cases c8:((ZH l0_0 x10_1).f2)=a1
      ·rw[if_pos c8] at H
       have c8b0:(((ZH l0_0 x10_1).f2) == a1)=true:=beq_iff_eq.mpr c8
       clear c8
       obtain rfl:=Zg H
       have p97002:0≤(x10_1:Int):=Zd (by first|(with_reducible assumption)|assumption)
       have q97002:x10_1<(l0_0.length:Int):=Zd (by first|(with_reducible assumption)|assumption)
       obtain⟨ad97002,A97002_1,c97002_1,e97002,hx97002_0,hx97002_1,hx97002_2,hl97002_1,hi97002_1⟩:=Za0 HR0_0.out x10_1 p97002 q97002
       cases e97002
       replace hx97002_0:=(HB.out.cell (Zc w _ hx97002_0)).trans hx97002_0
       replace hx97002_1:=(HB.out.cell (Zc w _ hx97002_1)).trans hx97002_1
       replace hx97002_2:=(HB.out.cell (Zc w _ hx97002_2)).trans hx97002_2
       have HR97002_1:=Za hi97002_1;have HC97002_1:=Za hl97002_1;clear hi97002_1 hl97002_1
       replace p97002:=eq_true p97002
       replace q97002:=eq_true q97002
       go_wp2_with (first|((with_reducible refine ZF (N:=6) rfl ?_);refine ZG ?hg (N:=6) ?hd (cs:=#[.string (⟨#[]⟩:ByteArray),.slice none 0 0,.int .i64 0]) (t:=39) ?hr ?_;(case hd=>rfl);(case hg=>rfl);(case hr=>first|(go_simp;done)|(go_simp;rfl));intro gb97003 hg w9 hbox hb;have BK97003:=Za (hbox);have GW97003:=Za ((by rw[hg];exact(Zy (by repeat(first|(with_reducible first|exact HB.out|apply Zn|apply Zm|apply Zo|refine Zq ?_ GE97001.out)|exact HB.out))):w.heap.size≤gb97003));have GE97003:=Za ((by rw[hg];exact(Zy (by repeat(first|(with_reducible first|exact HB.out|apply Zn|apply Zm|apply Zo|refine Zq ?_ GE97001.out)|exact HB.out))):w.heap.size≤gb97003));have NB97001_97003:=Za ((by rw[hg];exact Nat.ne_of_lt (ZM (g:=gb97001) (o:=.cells #[.slice (some ad97002) l0_0.length c0_0,.slice A0_1 l0_1.length c0_1,.int .i64 a0_2] 25 (0,0)) (by(with_reducible repeat(first|refine Zt ?_ _|refine Zv ?_|refine Zs ?_ _));exact BK97001.out)):gb97001≠gb97003));have NB97003_97001:=Za ((by rw[hg];exact Nat.ne_of_gt (ZM (g:=gb97001) (o:=.cells #[.slice (some ad97002) l0_0.length c0_0,.slice A0_1 l0_1.length c0_1,.int .i64 a0_2] 25 (0,0)) (by(with_reducible repeat(first|refine Zt ?_ _|refine Zv ?_|refine Zs ?_ _));exact BK97001.out)):gb97003≠gb97001));replace BK97001:=Za (ZA (g:=gb97001) (o:=.cells #[.slice (some ad97002) l0_0.length c0_0,.slice A0_1 l0_1.length c0_1,.int .i64 a0_2] 25 (0,0)) (by(with_reducible repeat(first|refine Zt ?_ _|refine Zv ?_|refine Zs ?_ _));exact BK97001.out) hb);replace HB:=Za (Zw (by repeat(first|(with_reducible first|exact HB.out|apply Zn|apply Zm|apply Zo|refine Zq ?_ GE97001.out)|exact HB.out)) hb);clear hb hbox hg;have hcz11_0:w9.cell? ⟨gb97003,0,none⟩=some (.string (⟨#[]⟩:ByteArray)):=(Zp BK97003.out 0).trans rfl;have hcz11_1:w9.cell? ⟨gb97003,1,none⟩=some (.slice none 0 0):=(Zp BK97003.out 1).trans rfl;have hcz11_2:w9.cell? ⟨gb97003,2,none⟩=some (.int .i64 0):=(Zp BK97003.out 2).trans rfl;have hfz11_0:=Zr BK97003.out 0;have hfz11_1:=Zr BK97003.out 1;have hfz11_2:=Zr BK97003.out 2))
       go_ret
       exact⟨by first|rfl|(simp[ZC,ZB] <;> rfl)|(simp[*,ZC,ZB] <;> rfl),by repeat(first|(with_reducible first|exact HB.out|apply Zn|apply Zm|apply Zo|refine Zq ?_ GE97001.out|refine Zq ?_ GE97003.out)|exact HB.out)⟩
      ·rw[if_neg c8] at H
       have c8b0:(((ZH l0_0 x10_1).f2) == a1)=false:=beq_eq_false_iff_ne.mpr c8
       have H':=Za H
       clear H
       have p97002:0≤(x10_1:Int):=Zd (by first|(with_reducible assumption)|assumption)
       have q97002:x10_1<(l0_0.length:Int):=Zd (by first|(with_reducible assumption)|assumption)
       obtain⟨ad97002,A97002_1,c97002_1,e97002,hx97002_0,hx97002_1,hx97002_2,hl97002_1,hi97002_1⟩:=Za0 HR0_0.out x10_1 p97002 q97002
       cases e97002
       replace hx97002_0:=(HB.out.cell (Zc w _ hx97002_0)).trans hx97002_0
       replace hx97002_1:=(HB.out.cell (Zc w _ hx97002_1)).trans hx97002_1
       replace hx97002_2:=(HB.out.cell (Zc w _ hx97002_2)).trans hx97002_2
       have HR97002_1:=Za hi97002_1;have HC97002_1:=Za hl97002_1;clear hi97002_1 hl97002_1
       replace p97002:=eq_true p97002
       replace q97002:=eq_true q97002
       go_wp2_with (first|((with_reducible refine ZF (N:=6) rfl ?_);refine ZG ?hg (N:=6) ?hd (cs:=#[.string (⟨#[]⟩:ByteArray),.slice none 0 0,.int .i64 0]) (t:=39) ?hr ?_;(case hd=>rfl);(case hg=>rfl);(case hr=>first|(go_simp;done)|(go_simp;rfl));intro gb97003 hg w12 hbox hb;have BK97003:=Za (hbox);have GW97003:=Za ((by rw[hg];exact(Zy (by repeat(first|(with_reducible first|exact HB.out|apply Zn|apply Zm|apply Zo|refine Zq ?_ GE97001.out)|exact HB.out))):w.heap.size≤gb97003));have GE97003:=Za ((by rw[hg];exact(Zy (by repeat(first|(with_reducible first|exact HB.out|apply Zn|apply Zm|apply Zo|refine Zq ?_ GE97001.out)|exact HB.out))):w.heap.size≤gb97003));have NB97001_97003:=Za ((by rw[hg];exact Nat.ne_of_lt (ZM (g:=gb97001) (o:=.cells #[.slice (some ad97002) l0_0.length c0_0,.slice A0_1 l0_1.length c0_1,.int .i64 a0_2] 25 (0,0)) (by(with_reducible repeat(first|refine Zt ?_ _|refine Zv ?_|refine Zs ?_ _));exact BK97001.out)):gb97001≠gb97003));have NB97003_97001:=Za ((by rw[hg];exact Nat.ne_of_gt (ZM (g:=gb97001) (o:=.cells #[.slice (some ad97002) l0_0.length c0_0,.slice A0_1 l0_1.length c0_1,.int .i64 a0_2] 25 (0,0)) (by(with_reducible repeat(first|refine Zt ?_ _|refine Zv ?_|refine Zs ?_ _));exact BK97001.out)):gb97003≠gb97001));replace BK97001:=Za (ZA (g:=gb97001) (o:=.cells #[.slice (some ad97002) l0_0.length c0_0,.slice A0_1 l0_1.length c0_1,.int .i64 a0_2] 25 (0,0)) (by(with_reducible repeat(first|refine Zt ?_ _|refine Zv ?_|refine Zs ?_ _));exact BK97001.out) hb);replace HB:=Za (Zw (by repeat(first|(with_reducible first|exact HB.out|apply Zn|apply Zm|apply Zo|refine Zq ?_ GE97001.out)|exact HB.out)) hb);clear hb hbox hg;have hcz14_0:w12.cell? ⟨gb97003,0,none⟩=some (.string (⟨#[]⟩:ByteArray)):=(Zp BK97003.out 0).trans rfl;have hcz14_1:w12.cell? ⟨gb97003,1,none⟩=some (.slice none 0 0):=(Zp BK97003.out 1).trans rfl;have hcz14_2:w12.cell? ⟨gb97003,2,none⟩=some (.int .i64 0):=(Zp BK97003.out 2).trans rfl;have hfz14_0:=Zr BK97003.out 0;have hfz14_1:=Zr BK97003.out 1;have hfz14_2:=Zr BK97003.out 2))
       go_roundg k1
       case measure=>have:=HK1.out;omega
       case rel=>exact⟨(wrap64 (x10_1+1)),(by first|rfl|(simp;done)|(simp[*];done)),H',⟨by have:=HK1.out;omega⟩,⟨by(with_reducible repeat(first|refine Zt ?_ _|refine Zv ?_|refine Zs ?_ _));refine ZQ ?_ NB97001_97003.out _;(with_reducible repeat(first|refine Zt ?_ _|refine Zv ?_|refine Zs ?_ _));refine ZQ ?_ NB97001_97003.out _;(with_reducible repeat(first|refine Zt ?_ _|refine Zv ?_|refine Zs ?_ _));refine ZQ ?_ NB97001_97003.out _;(with_reducible repeat(first|refine Zt ?_ _|refine Zv ?_|refine Zs ?_ _));exact BK97001.out⟩,⟨by repeat(first|(with_reducible first|exact HB.out|apply Zn|apply Zm|apply Zo|refine Zq ?_ GE97001.out|refine Zq ?_ GE97003.out)|exact HB.out)⟩⟩
     ·rw[if_neg c7] at H
      exact absurd H (by simp)
    ·rw[if_neg c6] at H
     exact absurd H (by simp)
   ·rw[if_neg c5] at H
    have c5b0:decide (x10_1<(l0_0.length:Int))=false:=Zf c5
    clear c5
    obtain rfl:=Zg H
    go_wp2
    go_ret
    exact⟨by first|rfl|(simp[ZC,ZB] <;> rfl)|(simp[*,ZC,ZB] <;> rfl),by repeat(first|(with_reducible first|exact HB.out|apply Zn|apply Zm|apply Zo|refine Zq ?_ GE97001.out)|exact HB.out)⟩
end Go.Proofs.YtoeimopgoaffcaaGreatDoor.Pr
namespace Go.Proofs.YtoeimopgoaffcaaGreatDoor.Pr
open Go.RowKit Go.Proofs.YtoeimopgoaffcaaGreatDoorW.PrintWords Go.Proofs.YtoeimopgoaffcaaGreatDoor.Ni
def ZcX (ts:List PTie) (node:Int):Int:=ZaY (fun t=>t.f4 && decide (t.f1=node)) ts
def Zb3 (ns:List ZI) (p:Int):Int:=ZaY (fun n=>decide (n.f2=p)) ns
def inB (a b c:Int):Bool:=decide (b≤a) && decide (a≤c)
theorem l01In_f (a b c:Int):Z2.f a b c=some (inB a b c):=by
 unfold Z2.f inB
 by_cases h:a≥b
 ·rw[if_pos h,Ze (show b≤a from h),Bool.true_and]
 ·rw[if_neg h,Zf (show ¬b≤a from h),Bool.false_and]
theorem l08Free_f (ns:List ZI) (ts:List PTie) (z:Int) (node:Int) (hl:ts.length≤9223372036854775807) (k:Nat) (hk:2 ^ 64≤k):Zap.f k ns ts z node=some (ZcX ts node):=by
 have key:=Za9 ts.length (fun k i=>(∀j y,j<i→ts[j]? = some y→(y.f4 && decide (y.f1=node))=false)→Zap.l0 k node ts ts.length (i:Int)=some (ZcX ts node)) 0
  (fun k _ hb=>by
   simp only[Zap.l0]
   rw[if_neg (by omega),ZcX,Zbx _ _ hb])
  (fun k i _ hi ih hb=>by
   simp only[Zap.l0]
   have next:((ts.getD i z82).f4 && decide ((ts.getD i z82).f1=node))=false→Zap.l0 k node ts ts.length ((i+1:Nat):Int)=some (ZcX ts node):=fun h=>ih (by
    intro j y hj hy
    by_cases e:j=i
    ·subst e
     rw[getD_some hi z82] at hy
     cases hy
     exact h
    ·exact hb j y (by omega) hy)
   rw[if_pos (by omega),if_pos (by omega),if_pos (by omega),ZdJ,ZL hi (by omega)]
   by_cases h:(ts.getD i z82).f4=true
   ·rw[if_pos h]
    by_cases h2:(ts.getD i z82).f1=node
    ·rw[if_pos h2,ZcX,ZbR _ ts i _ (getD_some hi z82) (by rw[h,Ze h2];rfl) hb]
    ·rw[if_neg h2,next (by rw[Zf h2,Bool.and_false])]
   ·rw[if_neg h,next (by rw[Bool.eq_false_iff.2 h,Bool.false_and])]) 0 k (Nat.zero_le _) (by omega)
 unfold Zap.f
 exact key (fun j y hj=>absurd hj (by omega))
theorem ZcJ (ns:List ZI) (ts:List PTie) (z:Int) (p:Int) (hl:ns.length≤9223372036854775807) (k:Nat) (hk:2 ^ 64≤k):Z3.f k ns ts z p=some (Zb3 ns p):=by
 have key:=Za9 ns.length (fun k i=>(∀j y,j<i→ns[j]? = some y→decide (y.f2=p)=false)→Z3.l0 k p ns ns.length (i:Int)=some (Zb3 ns p)) 0
  (fun k _ hb=>by
   simp only[Z3.l0]
   rw[if_neg (by omega),Zb3,Zbx _ _ hb])
  (fun k i _ hi ih hb=>by
   simp only[Z3.l0]
   rw[if_pos (by omega),if_pos (by omega),if_pos (by omega),Zcq,ZL hi (by omega)]
   by_cases h:(ns.getD i z39).f2=p
   ·rw[if_pos h,Zb3,ZbR _ ns i _ (getD_some hi z39) (Ze h) hb]
   ·rw[if_neg h,ih]
    intro j y hj hy
    by_cases e:j=i
    ·subst e
     rw[getD_some hi z39] at hy
     cases hy
     exact Zf h
    ·exact hb j y (by omega) hy) 0 k (Nat.zero_le _) (by omega)
 unfold Z3.f
 exact key (fun j y hj=>absurd hj (by omega))
def fitN (ns:List ZI):Bool:=ns.all fun n=>decide (n.f0.size≤9223372036854775807) && decide (n.f1.length≤9223372036854775807)
theorem fitN_iff {ns:List ZI} (h:fitN ns=true):∀n∈ns,n.f0.size≤9223372036854775807∧n.f1.length≤9223372036854775807:=fun n hn=>by
 have:=List.all_eq_true.1 h n hn
 simpa using this
theorem showCell0 (w:World) (x y z:Value) (t:TypeId):(w.alloc (.cells #[x,y,z] t)).cell? ⟨w.heap.size,0,none⟩=some x:=by go_simp
theorem showCell1 (w:World) (x y z:Value) (t:TypeId):(w.alloc (.cells #[x,y,z] t)).cell? ⟨w.heap.size,1,none⟩=some y:=by go_simp
theorem showCell2 (w:World) (x y z:Value) (t:TypeId):(w.alloc (.cells #[x,y,z] t)).cell? ⟨w.heap.size,2,none⟩=some z:=by go_simp
theorem Zbn (a b c:Int) (w:World):Calls Tryz.prog 127 #[.int .i64 a,.int .i64 b,.int .i64 c] w fun e w'=>e=.returned (.bool (inB a b c))∧∃n,w'=w.drewN n:=
 (Z2.calls a b c _ w (l01In_f a b c)).mono fun _ _ ⟨he,hd⟩=>⟨he,hd.out⟩
theorem quietX {P:Program} {f:FuncId} {args:Array Value} {W:World} {a x:Nat} {v:Value} (h:Calls P f args (W.drewN (a+x)) fun e w'=>e=.returned v∧∃m,w'=(W.drewN (a+x)).drewN m):Calls P f args (W.drewN (a+x)) fun e w''=>e=.returned v∧∃n,w''=W.drewN (a+n):=
 h.mono fun _ _ ⟨he,m,hm⟩=>⟨he,x+m,by rw[hm,World.drewN_drewN,Nat.add_assoc]⟩
theorem quiet0 {P:Program} {f:FuncId} {args:Array Value} {W:World} {x:Nat} {v:Value} (h:Calls P f args (W.drewN x) fun e w'=>e=.returned v∧∃m,w'=(W.drewN x).drewN m):Calls P f args (W.drewN x) fun e w''=>e=.returned v∧∃n,w''=W.drewN n:=
 h.mono fun _ _ ⟨he,m,hm⟩=>⟨he,x+m,by rw[hm,World.drewN_drewN]⟩
end Go.Proofs.YtoeimopgoaffcaaGreatDoor.Pr
