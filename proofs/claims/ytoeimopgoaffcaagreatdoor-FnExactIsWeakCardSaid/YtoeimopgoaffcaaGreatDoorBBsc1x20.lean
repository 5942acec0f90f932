/- The texts of one claim, put together by a program of this session. -/
import Derived.Deep.LoopGhost
import Derived.Lib.AppendIntMem
import Derived.Test.YtoeimopgoaffcaaGreatDoorBBsc1x1
import Derived.Test.YtoeimopgoaffcaaGreatDoorBBsc1x13
import Derived.Test.YtoeimopgoaffcaaGreatDoorBBsc1x19
import Derived.Test.YtoeimopgoaffcaaGreatDoorBBsc1x7
import Derived.Test.YtoeimopgoaffcaaGreatDoorBBsc1x8
namespace Go.Proofs.YtoeimopgoaffcaaGreatDoor.Pr
open Go.RowKit Go.Proofs.YtoeimopgoaffcaaGreatDoorW.PrintWords Go.Proofs.YtoeimopgoaffcaaGreatDoorW.PrintLast Go.Proofs.YtoeimopgoaffcaaGreatDoorW.PrintMore
attribute [local go_sem] ZU ZS ZW ZV ZO ZN ZT ZR
set_option linter.unusedVariables false
set_option linter.unusedSimpArgs false
open Go.Proofs.YtoeimopgoaffcaaGreatDoor.Ni
def ZbF.f (k:Nat) (l0_0:List (S39)) (l0_1:List (S82)) (a0_2:Int) (l1_0:List Int) (l1_1:List Int):Option Bool:=(Zu.f k l0_0 l0_1 a0_2 l1_0 l1_1).bind fun b=>(if b.2.2=true then((Zbz.f k b.1 b.2.1).bind fun t=>(some t)) else(some false))
set_option maxHeartbeats 8000000 in
set_option maxRecDepth 100000 in
theorem ZbF.calls (k:Nat) (A0_0:Option Addr) (c0_0:Nat) (l0_0:List (S39)) (A0_1:Option Addr) (c0_1:Nat) (l0_1:List (S82)) (a0_2:Int) (A1_0:Option Addr) (c1_0:Nat) (l1_0:List Int) (A1_1:Option Addr) (c1_1:Nat) (l1_1:List Int) (r:Bool) (w:World) (hr0_0:Kd.C k39 w A0_0 l0_0.length l0_0) (hc0_0:l0_0.length≤c0_0) (hr0_1:Kd.C k82 w A0_1 l0_1.length l0_1) (hc0_1:l0_1.length≤c0_1) (hr1_0:Kd.C (Kd.int .i64) w A1_0 l1_0.length l1_0) (hc1_0:l1_0.length≤c1_0) (hr1_1:Kd.C (Kd.int .i64) w A1_1 l1_1.length l1_1) (hc1_1:l1_1.length≤c1_1) (h:ZbF.f k l0_0 l0_1 a0_2 l1_0 l1_1=some r) :
  Calls Tryz.prog 38 #[.agg #[.slice A0_0 l0_0.length c0_0,.slice A0_1 l0_1.length c0_1,.int .i64 a0_2],.agg #[.slice A1_0 l1_0.length c1_0,.slice A1_1 l1_1.length c1_1]] w fun e w'=>e=.returned (.bool r)∧Below w.heap.size w w':=by
 unfold ZbF.f at h
 obtain⟨⟨q1,q2,q3⟩,hP,h⟩:=Option.bind_eq_some_iff.1 h
 have HP:=Za fun (W:World) (hb:Below w.heap.size w W)=>Zu.calls k A0_0 c0_0 l0_0 A0_1 c0_1 l0_1 a0_2 A1_0 c1_0 l1_0 A1_1 c1_1 l1_1 q1 q2 q3 W (Zb hr0_0 hb) hc0_0 (Zb hr0_1 hb) hc0_1 (Zb hr1_0 hb) hc1_0 (Zb hr1_1 hb) hc1_1 hP
 have HB2:=Za (show Below w.heap.size w ((w.alloc (.cells #[.slice A0_0 l0_0.length c0_0,.slice A0_1 l0_1.length c0_1,.int .i64 a0_2] 25)).alloc (.cells #[.slice A1_0 l1_0.length c1_0,.slice A1_1 l1_1.length c1_1] 58)) from Zn (Zn (Below.refl w.heap.size w) _) _)
 have hu:=Tryz.underlying25
 have hu2:=Tryz.underlying58
 have hu3:=Tryz.underlying54
 dsimp only at h
 clear hr0_0 hc0_0 hr0_1 hc0_1 hr1_0 hc1_0 hr1_1 hc1_1 hP
 cases q3 with
 | false=>
  rw[if_neg (by simp)] at h
  obtain rfl:=Zg h
  clear h
  go_enter Tryz.func38,Tryz.ntmps38
  go_wp2_with (go_at_call 29;refine(HP.out _ HB2.out).mono ?_;rintro e w3 ⟨v1,rfl,ho,hb⟩;obtain⟨A3,c3,e3⟩:=Kd.R_slice ho;subst e3;have HB3:=Za (HB2.out.trans (hb.mono HB2.out.size));clear ho hb)
  go_ret
  exact⟨rfl,by repeat(first|exact HB3.out|apply Zn|apply Zm|apply Zo)⟩
 | true=>
  rw[if_pos rfl] at h
  obtain⟨t,hC,hr⟩:=Option.bind_eq_some_iff.1 h
  obtain rfl:=Zg hr
  have HC:=Za fun (W:World) (A:Option Addr) (c:Nat) (hc:q2.length≤c) (hr:Kd.C k112 W A q2.length q2)=>Zbz.calls k q1 A c q2 t W hr hc hC
  clear h hr hC
  go_enter Tryz.func38,Tryz.ntmps38
  go_wp2_with (first|(go_at_call 29;refine(HP.out _ HB2.out).mono ?_;rintro e w3 ⟨v1,rfl,ho,hb⟩;obtain⟨A3,c3,e3⟩:=Kd.R_slice ho;subst e3;have HO:=Za (Kd.R_reads' ho).2;have HB3:=Za (HB2.out.trans (hb.mono HB2.out.size));clear ho hb)|(go_at_call 111;refine(HC.out _ A3 c3 HO.out.1 (Zb HO.out.2 (Zn (Below.refl _ _) _))).mono ?_;rintro e w4 ⟨rfl,hb⟩;have HB4:=Za (Zw (Zn HB3.out _) hb);clear hb))
  go_ret
  exact⟨rfl,HB4.out⟩
def Z9.l0:Nat→Int→List S39→List S82→Int→Option (Int)
 | 0,_,_,_,_=>none
 | k+1,n,a,b,z=>(Za1.f k a b z).bind fun c=>(if n<c then((ZbX.f k a b z n).bind fun t=>((ZbF.f k a b z t.1 t.2.1).bind fun m=>(if m=true then(Z9.l0 k (wrap64 (n+1)) a b z) else(some n)))) else(some (-1)))
def Z9.f (k:Nat) (l0_0:List (S39)) (l0_1:List (S82)) (a0_2:Int):Option (Int):=Z9.l0 k 0 l0_0 l0_1 a0_2
set_option maxHeartbeats 8000000 in
set_option maxRecDepth 100000 in
theorem Z9.calls (k:Nat) (A0_0:Option Addr) (c0_0:Nat) (l0_0:List (S39)) (A0_1:Option Addr) (c0_1:Nat) (l0_1:List (S82)) (a0_2:Int) (r:Int) (w:World) (hr0_0:Kd.C k39 w A0_0 l0_0.length l0_0) (hc0_0:l0_0.length≤c0_0) (hr0_1:Kd.C k82 w A0_1 l0_1.length l0_1) (hc0_1:l0_1.length≤c0_1) (h:Z9.f k l0_0 l0_1 a0_2=some r) :
  Calls Tryz.prog 40 #[.agg #[.slice A0_0 l0_0.length c0_0,.slice A0_1 l0_1.length c0_1,.int .i64 a0_2]] w fun e w'=>e=.returned (.int .i64 r)∧Below w.heap.size w w':=by
 have HR0:=Za hr0_0;have HR1:=Za hr0_1;have HC0:=Za hc0_0;have HC1:=Za hc0_1
 have HB0:=Za (Zn (Below.refl w.heap.size w) (.cells #[.slice A0_0 l0_0.length c0_0,.slice A0_1 l0_1.length c0_1,.int .i64 a0_2] 25))
 have hu:=Tryz.underlying25
 have hu2:=Tryz.underlying58
 unfold Z9.f at h
 have H:=Za h;clear hr0_0 hc0_0 hr0_1 hc0_1 h
 go_enter Tryz.func40,Tryz.ntmps40
 go_wp2
 go_loopg [3] k (fun kq s3 wr=>∃n:Int,s3=.int .i64 n∧Aside0 (Z9.l0 kq n l0_0 l0_1 a0_2=some r)∧Aside0 (kq≤k)∧Aside0 (Below w.heap.size w wr)∧Aside0 (wr.cell? ⟨w.heap.size,0,none⟩=some (.slice A0_0 l0_0.length c0_0)∧wr.cell? ⟨w.heap.size,1,none⟩=some (.slice A0_1 l0_1.length c0_1)∧wr.cell? ⟨w.heap.size,2,none⟩=some (.int .i64 a0_2)))
 case atStart=>exact⟨0,rfl,H,⟨Nat.le_refl _⟩,⟨by repeat(first|(with_reducible first|exact HB0.out|apply Zn|apply Zm|apply Zo)|exact HB0.out)⟩,⟨⟨by go_simp,by go_simp,by go_simp⟩⟩⟩
 case round=>
 clear H
 obtain⟨n,rfl,HA,HK,HB,K⟩:=hrel
 cases gk with
 | zero=>exact absurd HA.out (by simp[Z9.l0])
 | succ k1=>
 have h:=HA.out
 clear HA
 simp only[Z9.l0] at h
 obtain⟨c,hc_,h⟩:=Option.bind_eq_some_iff.1 h
 have HCC:=Za fun (W:World) (hb:Below w.heap.size w W)=>Za1.calls k1 A0_0 c0_0 l0_0 A0_1 c0_1 l0_1 a0_2 c W (Zb HR0.out hb) HC0.out (Zb HR1.out hb) HC1.out hc_
 clear hc_
 obtain⟨k0,k1_,k2⟩:=K.out
 by_cases hc:n<c
 case neg=>
  rw[if_neg hc] at h
  obtain rfl:=Zg h
  have hcz:decide (n<c)=false:=Zf hc
  go_wp2_with (go_at_call 113;refine(HCC.out _ (by repeat(first|(with_reducible first|exact HB.out|apply Zn|apply Zm|apply Zo)|exact HB.out))).mono ?_;rintro e w2 ⟨rfl,hb⟩;have HB2:=Za (Zw HB.out hb);have K2:=Za (And.intro (Zx hb K.out.1) (And.intro (Zx hb K.out.2.1) (Zx hb K.out.2.2)));obtain⟨k3,k4,k5⟩:=K2.out;clear hb k0 k1_ k2)
  go_ret
  exact⟨rfl,HB2.out⟩
 rw[if_pos hc] at h
 have hcz:decide (n<c)=true:=Ze hc
 obtain⟨t,ht_,h⟩:=Option.bind_eq_some_iff.1 h
 obtain⟨m,hm_,h4⟩:=Option.bind_eq_some_iff.1 h
 clear h
 obtain⟨L1,L2,b3⟩:=t
 dsimp only at hm_
 have HCA:=Za fun (W:World) (hb:Below w.heap.size w W)=>ZbX.calls k1 A0_0 c0_0 l0_0 A0_1 c0_1 l0_1 a0_2 n L1 L2 b3 W (Zb HR0.out hb) HC0.out (Zb HR1.out hb) HC1.out ht_
 have HCM:=Za fun (W:World) (A1:Option Addr) (c1:Nat) (A2:Option Addr) (c2:Nat) (hb:Below w.heap.size w W) (g1:L1.length≤c1) (g2:Kd.C (Kd.int .i64) W A1 L1.length L1) (g3:L2.length≤c2) (g4:Kd.C (Kd.int .i64) W A2 L2.length L2)=>ZbF.calls k1 A0_0 c0_0 l0_0 A0_1 c0_1 l0_1 a0_2 A1 c1 L1 A2 c2 L2 m W (Zb HR0.out hb) HC0.out (Zb HR1.out hb) HC1.out g2 g1 g4 g3 hm_
 have H2:=Za h4;clear ht_ hm_ h4 hc
 go_wp2_with (first|(go_at_call 113;refine(HCC.out _ (by repeat(first|(with_reducible first|exact HB.out|apply Zn|apply Zm|apply Zo)|exact HB.out))).mono ?_;rintro e w2 ⟨rfl,hb⟩;have HB2:=Za (Zw HB.out hb);have K2:=Za (And.intro (Zx hb K.out.1) (And.intro (Zx hb K.out.2.1) (Zx hb K.out.2.2)));obtain⟨k3,k4,k5⟩:=K2.out;clear hb k0 k1_ k2)|(go_at_call 114;refine(HCA.out _ HB2.out).mono ?_;rintro e w3 ⟨v0,v1,rfl,q0,q1,hb⟩;obtain⟨A1,c1,rfl,g1⟩:=Kd.R_reads q0;obtain⟨A2,c2,rfl,g2⟩:=Kd.R_reads q1;have HB3:=Za (Zw HB2.out hb);have G:=Za (And.intro g1 g2);have K3:=Za (And.intro (Zx hb K2.out.1) (And.intro (Zx hb K2.out.2.1) (Zx hb K2.out.2.2)));obtain⟨k6,k7,k8⟩:=K3.out;have lt6:=Zc w3 _ k6;clear hb q0 q1 g1 g2 k3 k4 k5)|(go_at_call 38;refine(HCM.out _ _ _ _ _ ?s0 G.out.1.1 (Zb G.out.1.2 ?s1) G.out.2.1 (Zb G.out.2.2 ?s1)).mono ?_;(case s0=>exact(by repeat(first|(with_reducible first|exact HB3.out|apply Zn|apply Zm|apply Zo)|exact HB3.out)));(case s1=>exact(by repeat(first|(with_reducible first|exact(Below.refl _ _)|apply Zn|apply Zm|apply Zo)|exact(Below.refl _ _))));rintro e w4 ⟨rfl,hb⟩;have HB4:=Za (Zw (by repeat(first|(with_reducible first|exact HB3.out|apply Zn|apply Zm|apply Zo)|exact HB3.out)) hb);have K4:=Za (show w4.cell? ⟨w.heap.size,0,none⟩=some (.slice A0_0 l0_0.length c0_0)∧w4.cell? ⟨w.heap.size,1,none⟩=some (.slice A0_1 l0_1.length c0_1)∧w4.cell? ⟨w.heap.size,2,none⟩=some (.int .i64 a0_2) from⟨Zx hb (by go_simp),Zx hb (by go_simp),Zx hb (by go_simp)⟩);clear hb k6 k7 k8))
 ·rename_i hm
  obtain rfl:m=false:=by cases m with|true=>cases hm|false=>rfl
  obtain rfl:n=r:=Zg ((if_neg (by simp)).symm.trans H2.out)
  go_ret
  exact⟨rfl,HB4.out⟩
 ·rename_i hm
  obtain rfl:m=true:=by cases m with|true=>rfl|false=>cases hm
  have H3:=Za ((if_pos rfl).symm.trans H2.out)
  go_roundg k1
  case measure=>have:=HK.out;omega
  case rel=>exact⟨_,rfl,H3,⟨by have:=HK.out;omega⟩,HB4,K4⟩
end Go.Proofs.YtoeimopgoaffcaaGreatDoor.Pr
namespace Go.Proofs.YtoeimopgoaffcaaGreatDoor.Pr
open Go.RowKit Go.Proofs.YtoeimopgoaffcaaGreatDoorW.PrintWords
def TW (w : World) : Prop := Lib.TabBelow Tryz.prog w.heap.size w "internal/strconv.uint64pow10" .u64 Lib.pow10Tab
theorem TW.below {w w':World} (h:TW w) (hb:Below w.heap.size w w'):TW w':=fun w2 h2=>h w2 (hb.trans (h2.mono hb.size))
theorem var_below {P:Program} {w:World} {name:String} {cs:Array Value} (h:w.var? P name=some cs):∀w',Below w.heap.size w w'→w'.var? P name=some cs:=fun w' hb=>by
 unfold World.var? at *
 cases hg:P.globalNamed name with
 | none=>simp[hg] at h
 | some g=>
  simp only[hg,Zi] at h ⊢
  have hlt:g<w.heap.size:=by
   rcases Nat.lt_or_ge g w.heap.size with h'|h'
   ·exact h'
   ·rw[Array.getElem?_eq_none h'] at h;simp at h
  rw[hb.block g hlt]
  exact h
def EW (w : World) : Prop := (∃ tp p, ∀ w', Below w.heap.size w w' → w'.var? Tryz.prog "strconv.ErrSyntax" = some #[.iface tp p]) ∧ ∃ tp p, ∀ w', Below w.heap.size w w' → w'.var? Tryz.prog "strconv.ErrRange" = some #[.iface tp p]
theorem EW.below {w w':World} (h:EW w) (hb:Below w.heap.size w w'):EW w':=by
 obtain⟨⟨t1,p1,h1⟩,t2,p2,h2⟩:=h
 exact⟨⟨t1,p1,fun w2 h=>h1 w2 (hb.trans (h.mono hb.size))⟩,t2,p2,fun w2 h=>h2 w2 (hb.trans (h.mono hb.size))⟩
theorem EW.of {w : World} {t1 t2 : TypeId} {p1 p2 : Value} (h1 : w.var? Tryz.prog "strconv.ErrSyntax" = some #[.iface t1 p1]) (h2 : w.var? Tryz.prog "strconv.ErrRange" = some #[.iface t2 p2]) : EW w := ⟨⟨t1, p1, var_below h1⟩, t2, p2, var_below h2⟩
theorem R_spot {α:Type} {d:Kd α} {e n c:Nat} {w:World} {base:Nat} {ok:Nat→Prop} {A:Option Addr} {xs:List α} (h:d.R e w base ok (.slice A n c) xs):∀ad,A=some ad→ad.spot=none:=by
 intro ad hA
 obtain⟨_,inner,ho,_⟩:=h
 obtain⟨_,h2⟩:=ho
 rcases h2 with ⟨h3,_⟩|⟨g,c,cur,h3,_⟩
 ·injection h3 with h4;rw[hA] at h4;cases h4
 ·injection h3 with h4;rw[hA] at h4;cases h4;rfl
theorem add_spot (b o j:Nat):(⟨b,o,none⟩:Addr).add j=⟨b,o+j,none⟩:=by
 unfold Addr.add
 split
 ·rename_i h;subst h;rfl
 ·rfl
end Go.Proofs.YtoeimopgoaffcaaGreatDoor.Pr
