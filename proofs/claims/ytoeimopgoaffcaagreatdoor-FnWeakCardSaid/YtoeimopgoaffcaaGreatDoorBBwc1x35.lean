/- By a program of this session. -/
import Derived.Test.YtoeimopgoaffcaaGreatDoorBBwc1x34
namespace Go.Proofs.YtoeimopgoaffcaaGreatDoor.Pr
open RowKit YtoeimopgoaffcaaGreatDoorW.PrintWords YtoeimopgoaffcaaGreatDoorW.PrintLast YtoeimopgoaffcaaGreatDoorW.PrintMore
attribute [local go_sem] Zak Zai Zax Zaw Zac Zab Zaj Zah
set_option linter.unusedVariables false
set_option linter.unusedSimpArgs false
open Ni
def ZA.add (S:List ByteArray) (x:ByteArray):Option (List ByteArray):=if S.length<4294967296∧x.size≤9223372036854775807 then some (S ++ [x]) else none
theorem ZA.add_some {S S':List ByteArray} {x:ByteArray} (h:ZA.add S x=some S'):S.length<4294967296∧x.size≤9223372036854775807∧S'=S ++ [x]:=by
 unfold ZA.add at h
 by_cases hc:S.length<4294967296∧x.size≤9223372036854775807
 ·rw[if_pos hc] at h
  exact⟨hc.1,hc.2,(Zg h).symm⟩
 ·rw[if_neg hc] at h;exact absurd h (by simp)
def ZA.at_ (H:List Bool) (i:Int):Option Bool:=if 0≤i∧i<H.length then some (rdOf false H i) else none
theorem ZA.at_some {H:List Bool} {i:Int} {b:Bool} (h:ZA.at_ H i=some b):0≤i∧i<H.length∧rdOf false H i=b:=by
 unfold ZA.at_ at h
 by_cases hc:0≤i∧i<H.length
 ·rw[if_pos hc] at h
  exact⟨hc.1,hc.2,Zg h⟩
 ·rw[if_neg hc] at h;exact absurd h (by simp)
def ZA.hor (x:ByteArray):ByteArray:=(⟨#[104,111,114,105,122,111,110,32]⟩:ByteArray) ++ x
def ZA.after (x y:ByteArray):ByteArray:=(((⟨#[97,102,116,101,114,32]⟩:ByteArray) ++ x) ++ (⟨#[32]⟩:ByteArray)) ++ y
def ZA.stA (k:Nat) (l0_0:List (S39)) (l0_1:List (S82)) (a0_2:Int) (l1_0:List Int) (l1_1:List Int) (i:Nat) (a:List Bool×List ByteArray):Option (List Bool×List ByteArray):=(Zaz.f k l0_0 l0_1 a0_2 l1_0 l1_1 (i:Int)).bind fun s=>if a.1.length<140737488355328 then(ZA.at_ (a.1 ++ [s]) (i:Int)).bind fun b=>if b=true then(ZA.add a.2 (ZA.hor (ZJ l0_0 (i:Int)).f0)).bind fun S=>some (a.1 ++ [s],S) else some (a.1 ++ [s],a.2) else none
def ZA.stB (k:Nat) (l0_0:List (S39)) (l0_1:List (S82)) (a0_2:Int) (H:List Bool) (i:Nat) (S:List ByteArray):Option (List ByteArray):=
 (ZA.at_ H (ZE l0_1 (i:Int)).f0).bind fun b=>if b=true then(ZA.at_ H (ZE l0_1 (i:Int)).f1).bind fun c=>if c=true then(ZcP.f k l0_0 l0_1 a0_2 (ZE l0_1 (i:Int)).f0 (ZE l0_1 (i:Int)).f1 (ZE l0_1 (i:Int)).f2 (ZE l0_1 (i:Int)).f3 (ZE l0_1 (i:Int)).f4).bind fun s=>ZA.add S s else some S else some S
def ZA.stC (l0_0:List (S39)) (l0_1:List (S82)) (a0_2:Int) (H:List Bool) (i:Nat) (S:List ByteArray):Option (List ByteArray):=(ZA.at_ H (i:Int)).bind fun b=>if b=true then some S else ZA.add S (ZA.hor (ZJ l0_0 (i:Int)).f0)
def ZA.stE (k:Nat) (l0_0:List (S39)) (l0_1:List (S82)) (a0_2:Int) (H:List Bool) (i:Nat) (lb:List Int) (j:Nat) (S:List ByteArray):Option (List ByteArray):=(ZA.at_ H (i:Int)).bind fun b=>if b=true then(ZaH.f (rd lb (j:Int))).bind fun p=>(ZZ.f k l0_0 l0_1 a0_2 p).bind fun t=>if 0≤t∧t<l0_0.length then ZA.add S (ZA.after (ZJ l0_0 t).f0 (ZJ l0_0 (i:Int)).f0) else none else some S
def ZA.stD (k:Nat) (l0_0:List (S39)) (l0_1:List (S82)) (a0_2:Int) (H:List Bool) (i:Nat) (S:List ByteArray):Option (List ByteArray):=run (ZA.stE k l0_0 l0_1 a0_2 H i (ZJ l0_0 (i:Int)).f1) (ZJ l0_0 (i:Int)).f1.length 0 S
def ZA.f3 (k:Nat) (l0_0:List (S39)) (l0_1:List (S82)) (a0_2:Int) (H:List Bool) (S:List ByteArray):Option (List ByteArray):=(run (ZA.stD k l0_0 l0_1 a0_2 H) l0_0.length 0 S).bind some
def ZA.f2 (k:Nat) (l0_0:List (S39)) (l0_1:List (S82)) (a0_2:Int) (H:List Bool) (S:List ByteArray):Option (List ByteArray):=(run (ZA.stC l0_0 l0_1 a0_2 H) l0_0.length 0 S).bind (ZA.f3 k l0_0 l0_1 a0_2 H)
def ZA.f1 (k:Nat) (l0_0:List (S39)) (l0_1:List (S82)) (a0_2:Int) (a:List Bool×List ByteArray):Option (List ByteArray):=(run (ZA.stB k l0_0 l0_1 a0_2 a.1) l0_1.length 0 a.2).bind (ZA.f2 k l0_0 l0_1 a0_2 a.1)
def ZA.f (k:Nat) (l0_0:List (S39)) (l0_1:List (S82)) (a0_2:Int) (l1_0:List Int) (l1_1:List Int):Option (List ByteArray):=(run (ZA.stA k l0_0 l0_1 a0_2 l1_0 l1_1) l0_0.length 0 ([],[])).bind (ZA.f1 k l0_0 l0_1 a0_2)
structure ZA.Inv (w W:World) (gs gc:Nat) (vs vc:Array Value) (uR uH:Value) (S:List ByteArray) (H:List Bool):Prop where
 rr:Kd.R Kd.string 9 W w.heap.size (fun _=>True) uR S
 rh:Kd.R Kd.bool 4 W w.heap.size (fun _=>True) uH H
 hb:Below w.heap.size w W
 bs:W.heap[gs]? = some (Obj.cells vs 25 (0,0))
 bc:W.heap[gc]? = some (Obj.cells vc 58 (0,0))
section
variable {w W w1:World} {gs gc g t:Nat} {vs vc cs:Array Value} {uR uH v1:Value} {S S1:List ByteArray} {H H1:List Bool}
theorem ZA.Inv.below (h:ZA.Inv w W gs gc vs vc uR uH S H) (hb:Below W.heap.size W w1):ZA.Inv w w1 gs gc vs vc uR uH S H:=
 ⟨Kd.R_below h.rr hb,Kd.R_below h.rh hb,Zr h.hb hb,Zs h.bs hb,Zs h.bc hb⟩
theorem ZA.Inv.text (h:ZA.Inv w W gs gc vs vc uR uH S H) (ho:Kd.R Kd.string 9 w1 w.heap.size (fun _=>True) v1 S1) (hb:Below w.heap.size w w1) (hg:W.grownBy w1 uR.ownBlock):ZA.Inv w w1 gs gc vs vc v1 uH S1 H∧∃A c,v1=.slice A S1.length c:=
 ⟨⟨ho,Kd.R_over h.rh h.rr (by decide) hg,hb,Zad h.bs hg (Kd.R_ne h.rr h.bs (by decide)),Zad h.bc hg (Kd.R_ne h.rr h.bc (by decide))⟩,Kd.R_slice ho⟩
theorem ZA.Inv.told (h:ZA.Inv w W gs gc vs vc uR uH S H) (hx:W.heap[g]? = some (Obj.cells cs t (0,0))) (ht:4≠t) (ho:Kd.R Kd.bool 4 w1 w.heap.size (fun _=>True) v1 H1) (hb:Below w.heap.size w w1) (hg:W.grownBy w1 uH.ownBlock):(ZA.Inv w w1 gs gc vs vc uR v1 S H1∧w1.heap[g]? = some (Obj.cells cs t (0,0)))∧∃A c,v1=.slice A H1.length c:=
 ⟨⟨⟨Kd.R_over h.rr h.rh (by decide) hg,ho,hb,Zad h.bs hg (Kd.R_ne h.rh h.bs (by decide)),Zad h.bc hg (Kd.R_ne h.rh h.bc (by decide))⟩,Zad hx hg (Kd.R_ne h.rh hx ht)⟩,Kd.R_slice ho⟩
end
set_option maxHeartbeats 16000000 in
set_option maxRecDepth 100000 in
theorem ZA.calls (k:Nat) (A0_0:Option Addr) (c0_0:Nat) (l0_0:List (S39)) (A0_1:Option Addr) (c0_1:Nat) (l0_1:List (S82)) (a0_2:Int) (A1_0:Option Addr) (c1_0:Nat) (l1_0:List Int) (A1_1:Option Addr) (c1_1:Nat) (l1_1:List Int) (r:List ByteArray) (w:World) (hr0_0:Kd.C k39 w A0_0 l0_0.length l0_0) (hc0_0:l0_0.length≤c0_0) (hr0_1:Kd.C k82 w A0_1 l0_1.length l0_1) (hc0_1:l0_1.length≤c0_1) (hr1_0:Kd.C (Kd.int .i64) w A1_0 l1_0.length l1_0) (hc1_0:l1_0.length≤c1_0) (hr1_1:Kd.C (Kd.int .i64) w A1_1 l1_1.length l1_1) (hc1_1:l1_1.length≤c1_1) (h:ZA.f k l0_0 l0_1 a0_2 l1_0 l1_1=some r) :
  Calls Tryz.prog 116 #[.agg #[.slice A0_0 l0_0.length c0_0,.slice A0_1 l0_1.length c0_1,.int .i64 a0_2],.agg #[.slice A1_0 l1_0.length c1_0,.slice A1_1 l1_1.length c1_1]] w fun e w'=>∃v0_:Value,e=.returned (v0_)∧Kd.R Kd.string 9 w' w.heap.size (fun _=>True) v0_ r∧Below w.heap.size w w':=by
 have H:=Za h
 have HHI:=Za fun (W:World) (i:Int) (s:Bool) (hf:Zaz.f k l0_0 l0_1 a0_2 l1_0 l1_1 i=some s) (hb:Below w.heap.size w W)=>Zaz.calls k A0_0 c0_0 l0_0 A0_1 c0_1 l0_1 a0_2 A1_0 c1_0 l1_0 A1_1 c1_1 l1_1 i s W (Zb hr0_0 hb) hc0_0 (Zb hr0_1 hb) hc0_1 (Zb hr1_0 hb) hc1_0 (Zb hr1_1 hb) hc1_1 hf
 have HTI:=Za fun (W:World) (a b c d:Int) (e:Bool) (s:ByteArray) (hf:ZcP.f k l0_0 l0_1 a0_2 a b c d e=some s) (hb:Below w.heap.size w W)=>ZcP.calls k A0_0 c0_0 l0_0 A0_1 c0_1 l0_1 a0_2 a b c d e s W (Zb hr0_0 hb) hc0_0 (Zb hr0_1 hb) hc0_1 hf
 have HWA:=Za fun (W:World) (p t:Int) (hf:ZZ.f k l0_0 l0_1 a0_2 p=some t) (hb:Below w.heap.size w W)=>ZZ.calls k A0_0 c0_0 l0_0 A0_1 c0_1 l0_1 a0_2 p t W (Zb hr0_0 hb) hc0_0 (Zb hr0_1 hb) hc0_1 hf
 have HR0:=Za hr0_0;have HR1:=Za hr0_1
 have HN0:=Za hr0_0.2.1
 have HN1:=Za hr0_1.2.1
 clear hr0_0 hc0_0 hr0_1 hc0_1 hr1_0 hc1_0 hr1_1 hc1_1 h
 have hu:=Tryz.underlying25
 have hu2:=Tryz.underlying58
 have hu4:=Tryz.underlying39
 have hu5:=Tryz.underlying82
 go_enter Tryz.func116,Tryz.ntmps116
 go_wp2_with (first|((with_reducible refine ZF (N:=2) rfl ?_);refine ZG ?hg (N:=2) ?hd (cs:=#[.slice A0_0 l0_0.length c0_0,.slice A0_1 l0_1.length c0_1,.int .i64 a0_2]) (t:=25) ?hr ?_;(case hd=>rfl);(case hg=>rfl);(case hr=>first|(go_simp;done)|(go_simp;rfl));intro gs hg w1 hbox hb;have BS:=Za hbox;have HB:=Za hb;clear hbox hb hg)|((with_reducible refine ZF (N:=3) rfl ?_);refine ZG ?hg (N:=3) ?hd (cs:=#[.slice A1_0 l1_0.length c1_0,.slice A1_1 l1_1.length c1_1]) (t:=58) ?hr ?_;(case hd=>rfl);(case hg=>rfl);(case hr=>first|(go_simp;done)|(go_simp;rfl));intro gc hg w2 hbox hb;have BC:=Za hbox;replace BS:=Za (Zs BS.out hb);replace HB:=Za (Zr HB.out hb);clear hbox hb hg)|((with_reducible refine ZF (N:=17) rfl ?_);refine Kd.R_lit Kd.string _ 9 ?hg (N:=17) ?hd (xs:=([]:List ByteArray)) (inner:=[]) (ok:=fun _=>True) (okp:=fun _=>True) ?hr ?hp (fun _ hk=>hk) trivial (Below.refl _ _) (Nat.le_refl _) (by simp) ?_;(case hd=>rfl);(case hg=>rfl);(case hr=>first|(go_simp;done)|(go_simp;rfl));(case hp=>exact(Reps.none _ _));intro v5 w5 ho hb hg_ hnew_;have O5:=Za (Kd.R_lower ho HB.out.size);replace BS:=Za (Zs BS.out hb);replace BC:=Za (Zs BC.out hb);replace HB:=Za (Zr HB.out hb);clear ho hb hg_ hnew_)|((with_reducible refine ZF (N:=18) rfl ?_);refine Kd.R_lit Kd.bool _ 4 ?hg (N:=18) ?hd (xs:=([]:List Bool)) (inner:=[]) (ok:=fun _=>True) (okp:=fun _=>True) ?hr ?hp (fun _ hk=>hk) trivial (Below.refl _ _) (Nat.le_refl _) (by simp) ?_;(case hd=>rfl);(case hg=>rfl);(case hr=>first|(go_simp;done)|(go_simp;rfl));(case hp=>exact(Reps.none _ _));intro v6 w6 ho hb hg_ hnew_;have I0:=Za (⟨Kd.R_below O5.out hb,Kd.R_lower ho HB.out.size,Zr HB.out hb,Zs BS.out hb,Zs BC.out hb⟩:ZA.Inv w w6 gs gc #[.slice A0_0 l0_0.length c0_0,.slice A0_1 l0_1.length c0_1,.int .i64 a0_2] #[.slice A1_0 l1_0.length c1_0,.slice A1_1 l1_1.length c1_1] v5 v6 [] []);have k0:w6.cell? ⟨gs,0,none⟩=some (.slice A0_0 l0_0.length c0_0):=(Zm I0.out.bs 0).trans rfl;clear ho hb hg_ hnew_ O5 BS BC HB))
 clear k0
 go_loopg [5,6,22] l0_0.length (fun gg s5 s6 s22 wr=>∃(i:Nat) (H0:List Bool) (S:List ByteArray),s22=.int .i64 (i:Int)∧Aside0 (i≤l0_0.length)∧Aside0 (l0_0.length - i≤gg)∧Aside0 ((run (ZA.stA k l0_0 l0_1 a0_2 l1_0 l1_1) (l0_0.length - i) i (H0,S)).bind (ZA.f1 k l0_0 l0_1 a0_2)=some r)∧Aside0 (ZA.Inv w wr gs gc #[.slice A0_0 l0_0.length c0_0,.slice A0_1 l0_1.length c0_1,.int .i64 a0_2] #[.slice A1_0 l1_0.length c1_0,.slice A1_1 l1_1.length c1_1] s5 s6 S H0))
 case atStart=>exact⟨0,[],[],rfl,⟨Nat.zero_le _⟩,⟨by omega⟩,H,I0⟩
 case round=>
 clear H I0
 obtain⟨i,H0,S,rfl,HK,HG,HE,HI⟩:=hrel
 by_cases hlt:i<l0_0.length
 ·have hltz:(i:Int)<(l0_0.length:Int):=by omega
  obtain⟨a',hs,hrest⟩:=ZbD hlt HE.out
  have HE2:=Za hrest;clear hrest HE
  unfold ZA.stA at hs
  obtain⟨s,hb_,hs⟩:=Option.bind_eq_some_iff.1 hs
  by_cases hq1:H0.length<140737488355328
  case neg=>rw[if_neg hq1] at hs;exact absurd hs (by simp)
  rw[if_pos hq1] at hs
  have Q1:=Za hq1
  obtain⟨b,hat_,hs⟩:=Option.bind_eq_some_iff.1 hs
  obtain⟨H1,hH1⟩:∃H1:List Bool,H1=H0 ++ [s]:=⟨_,rfl⟩
  dsimp only at hat_ hs
  rw[← hH1] at hat_ hs
  have NH:=Za hH1
  obtain⟨h0i,h1i,hqb⟩:=ZA.at_some hat_
  have p1:=eq_true h0i
  have p2:=eq_true h1i
  have HQ:=Za hqb
  have HC:=Za fun (W:World) (hb:Below w.heap.size w W)=>HHI.out W (i:Int) s hb_ hb
  clear hq1 hat_ hH1 h0i h1i hqb hb_
  obtain⟨ad,A_,c_,e1,hx0,hx1,hx2,ln,gn⟩:=ZaX HR0.out (i:Int) (by omega) hltz
  cases e1
  rw[Int.toNat_natCast] at hx0 hx1 hx2
  replace hx0:=Zx HI.out.hb hx0
  replace hx1:=Zx HI.out.hb hx1
  replace hx2:=Zx HI.out.hb hx2
  generalize ZJ l0_0 (i:Int)=nd at hx0 hx1 hx2 hs ln gn
  obtain⟨nm,lb,wt⟩:=nd
  dsimp only at hx0 hx1 hx2 hs ln gn
  have lta:=Zc wr _ hx0
  have J:=Za (HI.out.below (Zo (Below.refl wr.heap.size wr) (.cells #[.string nm,.slice A_ lb.length c_,.int .i64 wt] 39)))
  have KB:=Za (Zcp wr (.cells #[.string nm,.slice A_ lb.length c_,.int .i64 wt] 39))
  clear ln gn
  have k0:wr.cell? ⟨gs,0,none⟩=some (.slice (some ad) l0_0.length c0_0):=(Zm HI.out.bs 0).trans rfl
  have k1:wr.cell? ⟨gs,1,none⟩=some (.slice A0_1 l0_1.length c0_1):=(Zm HI.out.bs 1).trans rfl
  have k2:wr.cell? ⟨gs,2,none⟩=some (.int .i64 a0_2):=(Zm HI.out.bs 2).trans rfl
  have m0:wr.cell? ⟨gc,0,none⟩=some (.slice A1_0 l1_0.length c1_0):=(Zm HI.out.bc 0).trans rfl
  have m1:wr.cell? ⟨gc,1,none⟩=some (.slice A1_1 l1_1.length c1_1):=(Zm HI.out.bc 1).trans rfl
  have lgs:=ZN HI.out.bs
  have lgc:=ZN HI.out.bc
  cases b with
  | false=>
   rw[if_neg (by simp)] at hs
   obtain rfl:=Zg hs
   clear hs
   go_wp2_with (first|(go_at_call 172;refine(HC.out _ J.out.hb).mono ?_;rintro e w6 ⟨rfl,hb⟩;have J2:=Za (J.out.below hb);have KB2:=Za (Zs KB.out hb);clear hb)|((with_reducible refine ZU (b:=.append) (xs:=#[.tmp 27,.tmp 32]) rfl ?_);at_builtin;refine Kd.R_append Kd.bool (w0:=w) w.heap.size rfl (.tmp 27) (.tmp 32) 107 4 (.bool false) 1 rfl Tryz.underlying107 info4 rfl (by decide) (by omega) u6 H0 s [.bool s] (fun _=>True) (fun _=>False) rfl rfl ?aP (fun _ hk=>hk.elim) ?aF ?aO ?aB ?aS ?aL ?_;(case aP=>exact rfl);(case aB=>exact J2.out.hb);(case aF=>exact fun _ _=>trivial);(case aO=>exact J2.out.rh);(case aS=>exact J2.out.hb.size);(case aL=>have:=Q1.out;omega);intro vH w7 ho hb hg hat;rw[← NH.out] at ho;obtain⟨⟨j_,kb_⟩,AH,cH,eH⟩:=ZA.Inv.told J2.out KB2.out (by decide) ho hb hg;subst eH;have J3:=Za j_;have KB3:=Za kb_;clear j_ kb_ ho hb hg hat;obtain⟨adh,eh,hxh⟩:=Kd.at_bool (Kd.R_reads' J3.out.rh).2.2 (i:Int) (of_eq_true p1) (of_eq_true p2);cases eh;rw[Int.toNat_natCast,HQ.out] at hxh;have kn:w7.cell? ⟨wr.heap.size,0,none⟩=some (.string nm):=(Zm KB3.out 0).trans rfl;have ltn:=ZN KB3.out))
   go_roundg (l0_0.length - (i+1))
   case measure=>have:=HG.out;omega
   case rel=>exact⟨i+1,H1,S,by rw[ZO hlt HN0.out],⟨by omega⟩,⟨by omega⟩,HE2,J3⟩
  | true=>
   rw[if_pos rfl] at hs
   obtain⟨S1,hS1,hs⟩:=Option.bind_eq_some_iff.1 hs
   obtain rfl:=Zg hs
   obtain⟨q2,q3,hS2⟩:=ZA.add_some hS1
   have Q2:=Za q2
   have NS:=Za (show S1=S ++ [(⟨#[104,111,114,105,122,111,110,32]⟩:ByteArray) ++ nm] from hS2)
   have q4:(9223372036854775807<8+nm.size)=False:=eq_false (Nat.not_lt.2 (by have h_:=q3;unfold ZA.hor at h_;simp only[ByteArray.size_append] at h_;exact h_))
   clear hs hS1 q2 q3 hS2
   go_wp2_with (first|(go_at_call 172;refine(HC.out _ J.out.hb).mono ?_;rintro e w6 ⟨rfl,hb⟩;have J2:=Za (J.out.below hb);have KB2:=Za (Zs KB.out hb);clear hb)|((with_reducible refine ZU (b:=.append) (xs:=#[.tmp 27,.tmp 32]) rfl ?_);at_builtin;refine Kd.R_append Kd.bool (w0:=w) w.heap.size rfl (.tmp 27) (.tmp 32) 107 4 (.bool false) 1 rfl Tryz.underlying107 info4 rfl (by decide) (by omega) u6 H0 s [.bool s] (fun _=>True) (fun _=>False) rfl rfl ?aP (fun _ hk=>hk.elim) ?aF ?aO ?aB ?aS ?aL ?_;(case aP=>exact rfl);(case aB=>exact J2.out.hb);(case aF=>exact fun _ _=>trivial);(case aO=>exact J2.out.rh);(case aS=>exact J2.out.hb.size);(case aL=>have:=Q1.out;omega);intro vH w7 ho hb hg hat;rw[← NH.out] at ho;obtain⟨⟨j_,kb_⟩,AH,cH,eH⟩:=ZA.Inv.told J2.out KB2.out (by decide) ho hb hg;subst eH;have J3:=Za j_;have KB3:=Za kb_;clear j_ kb_ ho hb hg hat;obtain⟨adh,eh,hxh⟩:=Kd.at_bool (Kd.R_reads' J3.out.rh).2.2 (i:Int) (of_eq_true p1) (of_eq_true p2);cases eh;rw[Int.toNat_natCast,HQ.out] at hxh;have kn:w7.cell? ⟨wr.heap.size,0,none⟩=some (.string nm):=(Zm KB3.out 0).trans rfl;have ltn:=ZN KB3.out)|((with_reducible refine ZU (b:=.append) (xs:=#[.tmp 38,.tmp 42]) rfl ?_);at_builtin;refine Kd.R_append Kd.string (w0:=w) w.heap.size rfl (.tmp 38) (.tmp 42) 68 9 (.string ⟨#[]⟩) 16 rfl Tryz.underlying68 info9 rfl (by decide) (by omega) u5 S ((⟨#[104,111,114,105,122,111,110,32]⟩:ByteArray) ++ nm) [.string ((⟨#[104,111,114,105,122,111,110,32]⟩:ByteArray) ++ nm)] (fun _=>True) (fun _=>False) rfl (by first|rfl|(go_simp;done)|(go_simp;rfl)) ?aP (fun _ hk=>hk.elim) ?aF ?aO ?aB ?aS ?aL ?_;(case aP=>exact rfl);(case aB=>exact J3.out.hb);(case aF=>exact fun _ _=>trivial);(case aO=>exact J3.out.rr);(case aS=>exact J3.out.hb.size);(case aL=>have:=Q2.out;omega);intro vR w8 ho hb hg hat;rw[← NS.out] at ho;obtain⟨j_,AR,cR,eR⟩:=ZA.Inv.text J3.out ho hb hg;subst eR;have J4:=Za j_;clear j_ ho hb hg hat))
   go_roundg (l0_0.length - (i+1))
   case measure=>have:=HG.out;omega
   case rel=>exact⟨i+1,H1,S1,by rw[ZO hlt HN0.out],⟨by omega⟩,⟨by omega⟩,HE2,J4⟩
 ·obtain rfl:i=l0_0.length:=by have:=HK.out;omega
  have HQ:=Za (ZbX HE.out)
  have hltz:¬(((l0_0.length:Nat):Int)<(l0_0.length:Int)):=by omega
  unfold ZA.f1 at HQ
  clear HE HK HG hlt
  obtain⟨Ah,ch,eh⟩:=Kd.R_slice HI.out.rh
  subst eh
  dsimp only at HQ
  have k1:wr.cell? ⟨gs,1,none⟩=some (.slice A0_1 l0_1.length c0_1):=(Zm HI.out.bs 1).trans rfl
  go_wp2
  clear k1 hltz
  go_loopg [5,48] l0_1.length (fun gg s5 s48 wr=>∃(i:Nat) (S:List ByteArray),s48=.int .i64 (i:Int)∧Aside0 (i≤l0_1.length)∧Aside0 (l0_1.length - i≤gg)∧Aside0 ((run (ZA.stB k l0_0 l0_1 a0_2 H0) (l0_1.length - i) i S).bind (ZA.f2 k l0_0 l0_1 a0_2 H0)=some r)∧Aside0 (ZA.Inv w wr gs gc #[.slice A0_0 l0_0.length c0_0,.slice A0_1 l0_1.length c0_1,.int .i64 a0_2] #[.slice A1_0 l1_0.length c1_0,.slice A1_1 l1_1.length c1_1] s5 (.slice Ah H0.length ch) S H0))
  case atStart=>exact⟨0,S,rfl,⟨Nat.zero_le _⟩,⟨by omega⟩,HQ,HI⟩
  case round=>
  clear HQ HI
  obtain⟨i,S,rfl,HK,HG,HE,HI⟩:=hrel
  by_cases hlt:i<l0_1.length
  ·have hltz:(i:Int)<(l0_1.length:Int):=by omega
   obtain⟨S1,hs,hrest⟩:=ZbD hlt HE.out
   have HE2:=Za hrest;clear hrest HE
   unfold ZA.stB at hs
   obtain⟨b,hb_,hs⟩:=Option.bind_eq_some_iff.1 hs
   obtain⟨ad,e1,hx0,hx1,hx2,hx3,hx4⟩:=ZbG HR1.out (i:Int) (by omega) hltz
   cases e1
   rw[Int.toNat_natCast] at hx0 hx1 hx2 hx3 hx4
   replace hx0:=Zx HI.out.hb hx0
   replace hx1:=Zx HI.out.hb hx1
   replace hx2:=Zx HI.out.hb hx2
   replace hx3:=Zx HI.out.hb hx3
   replace hx4:=Zx HI.out.hb hx4
   generalize ZE l0_1 (i:Int)=td at hx0 hx1 hx2 hx3 hx4 hb_ hs
   obtain⟨tf,tt,tl,th,tb⟩:=td
   dsimp only at hx0 hx1 hx2 hx3 hx4 hb_ hs
   have lta:=Zc wr _ hx0
   have J:=Za (HI.out.below (Zo (Below.refl wr.heap.size wr) (.cells #[.int .i64 tf,.int .i64 tt,.int .i64 tl,.int .i64 th,.bool tb] 82)))
   obtain⟨h0f,h1f,hqf⟩:=ZA.at_some hb_
   obtain⟨adh,eh,hxh⟩:=Kd.at_bool (Kd.R_reads' HI.out.rh).2.2 tf h0f h1f
   cases eh
   rw[hqf] at hxh
   have p1:=eq_true h0f
   have p2:=eq_true h1f
   have lth:=Zc wr _ hxh
   have k0:wr.cell? ⟨gs,0,none⟩=some (.slice A0_0 l0_0.length c0_0):=(Zm HI.out.bs 0).trans rfl
   have k1:wr.cell? ⟨gs,1,none⟩=some (.slice (some ad) l0_1.length c0_1):=(Zm HI.out.bs 1).trans rfl
   have k2:wr.cell? ⟨gs,2,none⟩=some (.int .i64 a0_2):=(Zm HI.out.bs 2).trans rfl
   have lgs:=ZN HI.out.bs
   clear hb_ h0f h1f hqf
   cases b with
   | false=>
    rw[if_neg (by simp)] at hs
    obtain rfl:=Zg hs
    go_wp2
    go_roundg (l0_1.length - (i+1))
    case measure=>have:=HG.out;omega
    case rel=>exact⟨i+1,S,by rw[ZO hlt HN1.out],⟨by omega⟩,⟨by omega⟩,HE2,J⟩
   | true=>
   rw[if_pos rfl] at hs
   obtain⟨c,hc_,hs2⟩:=Option.bind_eq_some_iff.1 hs
   clear hs
   obtain⟨h0g,h1g,hqg⟩:=ZA.at_some hc_
   obtain⟨adg,eg,hxg⟩:=Kd.at_bool (Kd.R_reads' HI.out.rh).2.2 tt h0g h1g
   cases eg
   rw[hqg] at hxg
   have p3:=eq_true h0g
   have p4:=eq_true h1g
   have ltg:=Zc wr _ hxg
   clear hc_ h0g h1g hqg
   cases c with
   | false=>
    rw[if_neg (by simp)] at hs2
    obtain rfl:=Zg hs2
    go_wp2
    go_roundg (l0_1.length - (i+1))
    case measure=>have:=HG.out;omega
    case rel=>exact⟨i+1,S,by rw[ZO hlt HN1.out],⟨by omega⟩,⟨by omega⟩,HE2,J⟩
   | true=>
   rw[if_pos rfl] at hs2
   obtain⟨s,hs_,hS1⟩:=Option.bind_eq_some_iff.1 hs2
   obtain⟨q2,q3,hS2⟩:=ZA.add_some hS1
   have Q2:=Za q2;have NS:=Za hS2
   have HC:=Za fun (W:World) (hb:Below w.heap.size w W)=>HTI.out W tf tt tl th tb s hs_ hb
   clear hs2 hs_ hS1 q2 q3 hS2
   go_wp2_with (first|(go_at_call 130;refine(HC.out _ J.out.hb).mono ?_;rintro e w7 ⟨rfl,hb⟩;have J3:=Za (J.out.below hb);clear hb)|((with_reducible refine ZU (b:=.append) (xs:=#[.tmp 64,.tmp 68]) rfl ?_);at_builtin;refine Kd.R_append Kd.string (w0:=w) w.heap.size rfl (.tmp 64) (.tmp 68) 68 9 (.string ⟨#[]⟩) 16 rfl Tryz.underlying68 info9 rfl (by decide) (by omega) u5 S (s) [.string (s)] (fun _=>True) (fun _=>False) rfl (by first|rfl|(go_simp;done)|(go_simp;rfl)) ?aP (fun _ hk=>hk.elim) ?aF ?aO ?aB ?aS ?aL ?_;(case aP=>exact rfl);(case aB=>exact J3.out.hb);(case aF=>exact fun _ _=>trivial);(case aO=>exact J3.out.rr);(case aS=>exact J3.out.hb.size);(case aL=>have:=Q2.out;omega);intro vR w8 ho hb hg hat;rw[← NS.out] at ho;obtain⟨j_,AR,cR,eR⟩:=ZA.Inv.text J3.out ho hb hg;subst eR;have J4:=Za j_;clear j_ ho hb hg hat))
   go_roundg (l0_1.length - (i+1))
   case measure=>have:=HG.out;omega
   case rel=>exact⟨i+1,S1,by rw[ZO hlt HN1.out],⟨by omega⟩,⟨by omega⟩,HE2,J4⟩
  ·obtain rfl:i=l0_1.length:=by have:=HK.out;omega
   have HQ:=Za (ZbX HE.out)
   have hltz:¬(((l0_1.length:Nat):Int)<(l0_1.length:Int)):=by omega
   unfold ZA.f2 at HQ
   clear HE HK HG hlt
   have k0:wr.cell? ⟨gs,0,none⟩=some (.slice A0_0 l0_0.length c0_0):=(Zm HI.out.bs 0).trans rfl
   go_wp2
   clear k0 hltz
   go_loopg [5,74] l0_0.length (fun gg s5 s74 wr=>∃(i:Nat) (S:List ByteArray),s74=.int .i64 (i:Int)∧Aside0 (i≤l0_0.length)∧Aside0 (l0_0.length - i≤gg)∧Aside0 ((run (ZA.stC l0_0 l0_1 a0_2 H0) (l0_0.length - i) i S).bind (ZA.f3 k l0_0 l0_1 a0_2 H0)=some r)∧Aside0 (ZA.Inv w wr gs gc #[.slice A0_0 l0_0.length c0_0,.slice A0_1 l0_1.length c0_1,.int .i64 a0_2] #[.slice A1_0 l1_0.length c1_0,.slice A1_1 l1_1.length c1_1] s5 (.slice Ah H0.length ch) S H0))
   case atStart=>exact⟨0,S,rfl,⟨Nat.zero_le _⟩,⟨by omega⟩,HQ,HI⟩
   case round=>
   clear HQ HI
   obtain⟨i,S,rfl,HK,HG,HE,HI⟩:=hrel
   by_cases hlt:i<l0_0.length
   ·have hltz:(i:Int)<(l0_0.length:Int):=by omega
    obtain⟨S1,hs,hrest⟩:=ZbD hlt HE.out
    have HE2:=Za hrest;clear hrest HE
    unfold ZA.stC at hs
    obtain⟨b,hb_,hs⟩:=Option.bind_eq_some_iff.1 hs
    obtain⟨h0f,h1f,hqf⟩:=ZA.at_some hb_
    obtain⟨adh,eh,hxh⟩:=Kd.at_bool (Kd.R_reads' HI.out.rh).2.2 (i:Int) h0f h1f
    cases eh
    rw[hqf,Int.toNat_natCast] at hxh
    have p1:=eq_true h0f
    have p2:=eq_true h1f
    have lth:=Zc wr _ hxh
    obtain⟨ad,A_,c_,e1,hx0,hx1,hx2,ln,gn⟩:=ZaX HR0.out (i:Int) (by omega) hltz
    cases e1
    rw[Int.toNat_natCast] at hx0 hx1 hx2
    replace hx0:=Zx HI.out.hb hx0
    replace hx1:=Zx HI.out.hb hx1
    replace hx2:=Zx HI.out.hb hx2
    generalize ZJ l0_0 (i:Int)=nd at hx0 hx1 hx2 hs ln gn
    obtain⟨nm,lb,wt⟩:=nd
    dsimp only at hx0 hx1 hx2 hs ln gn
    have lta:=Zc wr _ hx0
    have J:=Za (HI.out.below (Zo (Below.refl wr.heap.size wr) (.cells #[.string nm,.slice A_ lb.length c_,.int .i64 wt] 39)))
    have KB:=Za (Zcp wr (.cells #[.string nm,.slice A_ lb.length c_,.int .i64 wt] 39))
    have KN:=Za (show(wr.alloc (.cells #[.string nm,.slice A_ lb.length c_,.int .i64 wt] 39)).cell? ⟨wr.heap.size,0,none⟩=some (.string nm) by go_simp)
    clear hb_ h0f h1f hqf ln gn
    cases b with
    | true=>
     rw[if_pos rfl] at hs
     obtain rfl:=Zg hs
     go_wp2
     go_roundg (l0_0.length - (i+1))
     case measure=>have:=HG.out;omega
     case rel=>exact⟨i+1,S,by rw[ZO hlt HN0.out],⟨by omega⟩,⟨by omega⟩,HE2,J⟩
    | false=>
    rw[if_neg (by simp)] at hs
    obtain⟨q2,q3,hS2⟩:=ZA.add_some hs
    have Q2:=Za q2
    have NS:=Za (show S1=S ++ [(⟨#[104,111,114,105,122,111,110,32]⟩:ByteArray) ++ nm] from hS2)
    have q4:(9223372036854775807<8+nm.size)=False:=eq_false (Nat.not_lt.2 (by have h_:=q3;unfold ZA.hor at h_;simp only[ByteArray.size_append] at h_;exact h_))
    clear hs q2 q3 hS2
    go_wp2_with ((with_reducible refine ZU (b:=.append) (xs:=#[.tmp 84,.tmp 88]) rfl ?_);at_builtin;refine Kd.R_append Kd.string (w0:=w) w.heap.size rfl (.tmp 84) (.tmp 88) 68 9 (.string ⟨#[]⟩) 16 rfl Tryz.underlying68 info9 rfl (by decide) (by omega) u5 S ((⟨#[104,111,114,105,122,111,110,32]⟩:ByteArray) ++ nm) [.string ((⟨#[104,111,114,105,122,111,110,32]⟩:ByteArray) ++ nm)] (fun _=>True) (fun _=>False) rfl (by first|rfl|(go_simp;done)|(go_simp;rfl)) ?aP (fun _ hk=>hk.elim) ?aF ?aO ?aB ?aS ?aL ?_;(case aP=>exact rfl);(case aB=>exact J.out.hb);(case aF=>exact fun _ _=>trivial);(case aO=>exact J.out.rr);(case aS=>exact J.out.hb.size);(case aL=>have:=Q2.out;omega);intro vR w8 ho hb hg hat;rw[← NS.out] at ho;obtain⟨j_,AR,cR,eR⟩:=ZA.Inv.text J.out ho hb hg;subst eR;have J4:=Za j_;clear j_ ho hb hg hat)
    go_roundg (l0_0.length - (i+1))
    case measure=>have:=HG.out;omega
    case rel=>exact⟨i+1,S1,by rw[ZO hlt HN0.out],⟨by omega⟩,⟨by omega⟩,HE2,J4⟩
   ·obtain rfl:i=l0_0.length:=by have:=HK.out;omega
    have HQ:=Za (ZbX HE.out)
    have hltz:¬(((l0_0.length:Nat):Int)<(l0_0.length:Int)):=by omega
    unfold ZA.f3 at HQ
    clear HE HK HG hlt
    have k0:wr.cell? ⟨gs,0,none⟩=some (.slice A0_0 l0_0.length c0_0):=(Zm HI.out.bs 0).trans rfl
    go_wp2
    clear k0 hltz
    go_loopg [5,94] l0_0.length (fun gg s5 s94 wr=>∃(i:Nat) (S:List ByteArray),s94=.int .i64 (i:Int)∧Aside0 (i≤l0_0.length)∧Aside0 (l0_0.length - i≤gg)∧Aside0 ((run (ZA.stD k l0_0 l0_1 a0_2 H0) (l0_0.length - i) i S).bind some=some r)∧Aside0 (ZA.Inv w wr gs gc #[.slice A0_0 l0_0.length c0_0,.slice A0_1 l0_1.length c0_1,.int .i64 a0_2] #[.slice A1_0 l1_0.length c1_0,.slice A1_1 l1_1.length c1_1] s5 (.slice Ah H0.length ch) S H0))
    case atStart=>exact⟨0,S,rfl,⟨Nat.zero_le _⟩,⟨by omega⟩,HQ,HI⟩
    case round=>
    clear HQ HI
    obtain⟨i,S,rfl,HK,HG,HE,HI⟩:=hrel
    by_cases hlt:i<l0_0.length
    ·have hltz:(i:Int)<(l0_0.length:Int):=by omega
     obtain⟨S1,hs,hrest⟩:=ZbD hlt HE.out
     have HE2:=Za hrest;clear hrest HE
     unfold ZA.stD at hs
     obtain⟨ad,A_,c_,e1,hx0,hx1,hx2,ln,gn⟩:=ZaX HR0.out (i:Int) (by omega) hltz
     cases e1
     rw[Int.toNat_natCast] at hx0 hx1 hx2
     replace hx0:=Zx HI.out.hb hx0
     replace hx1:=Zx HI.out.hb hx1
     replace hx2:=Zx HI.out.hb hx2
     obtain⟨nd,hnd⟩:∃nd,ZJ l0_0 (i:Int)=nd:=⟨_,rfl⟩
     rw[hnd] at hx0 hx1 hx2 ln gn hs
     obtain⟨nm,lb,wt⟩:=nd
     have HNM:=Za (show(ZJ l0_0 (i:Int)).f0=nm by rw[hnd])
     dsimp only at hx0 hx1 hx2 ln gn hs
     have lta:=Zc wr _ hx0
     have J:=Za (HI.out.below (Zo (Below.refl wr.heap.size wr) (.cells #[.string nm,.slice A_ lb.length c_,.int .i64 wt] 39)))
     have KB:=Za (Zcp wr (.cells #[.string nm,.slice A_ lb.length c_,.int .i64 wt] 39))
     have HGR:=Za fun (W:World) (hb:Below w.heap.size w W)=>Zb gn hb
     have GN:=Za (Zb gn HI.out.hb)
     have LN:=Za ln
     have hs5:=Za (show(run (ZA.stE k l0_0 l0_1 a0_2 H0 i lb) (lb.length - 0) 0 S).bind some=some S1 from by rw[Nat.sub_zero];exact(congrArg (fun z=>Option.bind z some) hs).trans rfl)
     clear gn ln hs
     go_wp2
     clear hx0 hx1 hx2 lta hltz
     obtain⟨wo,hwo⟩:∃wo,wo=wr:=⟨_,rfl⟩
     subst hwo
     have B0:=Za (Zo (Below.refl wo.heap.size wo) (.cells #[.string nm,.slice A_ lb.length c_,.int .i64 wt] 39))
     go_loopg [5,102] lb.length (fun gh s5 s102 wr=>∃(j:Nat) (S:List ByteArray),s102=.int .i64 (j:Int)∧Aside0 (j≤lb.length)∧Aside0 (lb.length - j≤gh)∧Aside0 ((run (ZA.stE k l0_0 l0_1 a0_2 H0 i lb) (lb.length - j) j S).bind some=some S1)∧Aside0 (ZA.Inv w wr gs gc #[.slice (some ad) l0_0.length c0_0,.slice A0_1 l0_1.length c0_1,.int .i64 a0_2] #[.slice A1_0 l1_0.length c1_0,.slice A1_1 l1_1.length c1_1] s5 (.slice Ah H0.length ch) S H0)∧Aside0 (wr.heap[wo.heap.size]? = some (Obj.cells #[.string nm,.slice A_ lb.length c_,.int .i64 wt] 39 (0,0)))∧Aside0 (Kd.C (Kd.int .i64) wr A_ lb.length lb))
     case atStart=>exact⟨0,S,rfl,⟨Nat.zero_le _⟩,⟨by omega⟩,hs5,J,KB,⟨Zb GN.out B0.out⟩⟩
     case round=>
     clear hs5 J KB GN B0 HI
     obtain⟨j,S,rfl,HKj,HGj,HEj,HI,KB,GN⟩:=hrel
     by_cases hltj:j<lb.length
     ·have hltzj:(j:Int)<(lb.length:Int):=by omega
      obtain⟨S2,hs,hrest⟩:=ZbD hltj HEj.out
      have HE3:=Za hrest;clear hrest HEj
      unfold ZA.stE at hs
      obtain⟨b,hb_,hs⟩:=Option.bind_eq_some_iff.1 hs
      obtain⟨adl,el,hxl⟩:=Kd.at_int GN.out (j:Int) (by omega) hltzj
      cases el
      rw[Int.toNat_natCast] at hxl
      generalize rd lb (j:Int)=x at hs hxl
      obtain⟨h0f,h1f,hqf⟩:=ZA.at_some hb_
      obtain⟨adh,eh,hxh⟩:=Kd.at_bool (Kd.R_reads' HI.out.rh).2.2 (i:Int) h0f h1f
      cases eh
      rw[hqf,Int.toNat_natCast] at hxh
      have p1:=eq_true h0f
      have p2:=eq_true h1f
      have NLB:=Za GN.out.2.1
      clear hb_ h0f h1f hqf
      cases b with
      | false=>
       rw[if_neg (by simp)] at hs
       obtain rfl:=Zg hs
       go_wp2
       go_roundg (lb.length - (j+1))
       case measure=>have:=HGj.out;omega
       case rel=>exact⟨j+1,S,by rw[ZO hltj NLB.out],⟨by omega⟩,⟨by omega⟩,HE3,HI,KB,GN⟩
      | true=>
      rw[if_pos rfl] at hs
      obtain⟨p,hp_,hs2⟩:=Option.bind_eq_some_iff.1 hs
      obtain⟨t,ht_,hs3⟩:=Option.bind_eq_some_iff.1 hs2
      by_cases htt:0≤t∧t<l0_0.length
      case neg=>rw[if_neg htt] at hs3;exact absurd hs3 (by simp)
      rw[if_pos htt] at hs3
      obtain⟨q2,q3,hS2⟩:=ZA.add_some hs3
      have HPO:=Za fun (W:World)=>ZaH.calls x p W hp_
      have HWT:=Za fun (W:World) (hb:Below w.heap.size w W)=>HWA.out W p t ht_ hb
      obtain⟨ad9,A9,c9,e9,hy0,hy1,hy2,ln9,gn9⟩:=ZaX HR0.out t htt.1 htt.2
      obtain e9':ad=ad9:=by injection e9
      rw[← e9'] at hy0
      have hnmi:(ZJ l0_0 (i:Int)).f0=nm:=HNM.out
      rw[hnmi] at q3 hS2
      generalize (ZJ l0_0 t).f0=nm9 at hy0 q3 hS2
      have HY0:=Za hy0
      have p3:=eq_true htt.1
      have p4:=eq_true htt.2
      have Q2:=Za q2;have NS:=Za hS2
      have q4:6+nm9.size+1+nm.size≤9223372036854775807:=by
       have h_:=q3
       unfold ZA.after at h_
       simp only[ByteArray.size_append] at h_
       exact h_
      have z1:(9223372036854775807<6+nm9.size)=False:=eq_false (by omega)
      have z2:(9223372036854775807<6+nm9.size+1)=False:=eq_false (by omega)
      have z3:(9223372036854775807<6+nm9.size+1+nm.size)=False:=eq_false (by omega)
      clear hs hs2 hs3 hp_ ht_ q2 q3 hS2 q4 htt hy0 hy1 hy2 ln9 gn9 e9 e9'
      go_wp2
      refine Zbd (n:=18) (S:=fun w'=>w'.cell? ⟨gs,0,none⟩=some (.slice (some ad) l0_0.length c0_0)∧w'.cell? ⟨gs,1,none⟩=some (.slice A0_1 l0_1.length c0_1)∧w'.cell? ⟨gs,2,none⟩=some (.int .i64 a0_2)∧w'.cell? ⟨wo.heap.size,0,none⟩=some (.string nm)∧w'.cell? (ad.add (t.toNat * 3))=some (.string nm9)) (ds:=[]) #[false,false,false,false,false,false,false,false,false,false,false,false,false,false,false,false,false,false] (by kernel_rfl) rfl rfl ⟨(Zm HI.out.bs 0).trans rfl,(Zm HI.out.bs 1).trans rfl,(Zm HI.out.bs 2).trans rfl,(Zm KB.out 0).trans rfl,Zx HI.out.hb HY0.out⟩ (fun hHeld=>?_)
      have J1:=Za (HI.out.below (Zp (Below.refl wr.heap.size wr)))
      have KB1:=Za (Zz KB.out)
      have GN1:=Za (Zb GN.out (Zp (Below.refl wr.heap.size wr)))
      generalize wr.drew=W1 at J1 KB1 GN1 hHeld ⊢
      refine pu (N:=some 110) 0 ?_
      refine pu (N:=some 111) 1 ?_
      refine pu (N:=some 114) 4 ?_
      refine pu (N:=some 122) 12 ?_
      refine tk (N:=some 112) 2 hHeld ?_
      refine tk (N:=some 113) 3 hHeld ?_
      refine tk (N:=some 123) 13 hHeld ?_
      refine onl (N:=some 115) 5 (fun K hK=>?_)
      refine ZaU Tryz.func98 (by kernel_rfl) rfl #[.int .i64 x] (by rfl) rfl rfl (by(try simp only[List.map_toArray,List.map_cons,List.map_nil]);first|done|rfl) ?_
      refine(HPO.out _).mono ?_
      rintro e w5 ⟨rfl,hd⟩
      have hb:=hd.below
      refine⟨_,rfl,?_⟩
      have J2:=Za (J1.out.below hb)
      have KB2:=Za (Zs KB1.out hb)
      have GN2:=Za (Zb GN1.out hb)
      clear hb hd
      refine hK.out _ _ ⟨(Zm J2.out.bs 0).trans rfl,(Zm J2.out.bs 1).trans rfl,(Zm J2.out.bs 2).trans rfl,(Zm KB2.out 0).trans rfl,Zx J2.out.hb HY0.out⟩ (fun hHeld=>?_)
      clear hK K
      refine nrm (some 115) ?_
      refine onl (N:=some 116) 6 (fun K hK=>?_)
      refine ZaU Tryz.func97 (by kernel_rfl) rfl #[.agg #[.slice (some ad) l0_0.length c0_0,.slice A0_1 l0_1.length c0_1,.int .i64 a0_2],.int .i64 p] (by rfl) rfl rfl (by(try simp only[List.map_toArray,List.map_cons,List.map_nil]);first|done|rfl) ?_
      refine(HWT.out _ J2.out.hb).mono ?_
      rintro e w6 ⟨rfl,hb⟩
      refine⟨_,rfl,?_⟩
      have J3:=Za (J2.out.below hb)
      have KB3:=Za (Zs KB2.out hb)
      have GN3:=Za (Zb GN2.out hb)
      clear hb
      refine hK.out _ _ ⟨(Zm J3.out.bs 0).trans rfl,(Zm J3.out.bs 1).trans rfl,(Zm J3.out.bs 2).trans rfl,(Zm KB3.out 0).trans rfl,Zx J3.out.hb HY0.out⟩ (fun hHeld=>?_)
      clear hK K
      refine nrm (some 116) ?_
      refine pu (N:=some 117) 7 ?_
      refine pu (N:=some 118) 8 ?_
      refine tk (N:=some 119) 9 hHeld ?_
      refine pu (N:=some 120) 10 ?_
      refine pu (N:=some 121) 11 ?_
      refine pu (N:=some 124) 14 ?_
      refine onl (N:=some 125) 15 (fun K hK=>?_)
      refine Zcs (w1:=?_) (v:=?_) (by rfl) rfl ?_ ?_
      rotate_left 2
      ·go_simp
       constructor
       ·rfl
       ·rfl
      have J4:=Za (J3.out.below (Zo (Below.refl w6.heap.size w6) (.cells #[.string (ZA.after nm9 nm)] 9)))
      have KB4:=Za (Zy KB3.out (.cells #[.string (ZA.after nm9 nm)] 9))
      refine hK.out _ _ ⟨(Zm J4.out.bs 0).trans rfl,(Zm J4.out.bs 1).trans rfl,(Zm J4.out.bs 2).trans rfl,(Zm KB4.out 0).trans rfl,Zx J4.out.hb HY0.out⟩ (fun hHeld=>?_)
      clear hK K J4 KB4
      refine nrm (some 125) ?_
      refine onl (N:=some 126) 16 (fun K hK=>?_)
      refine Kd.R_append_step Kd.string (w0:=w) w.heap.size (by rfl) (.tmp 110) (.tmp 125) 68 9 (.string ⟨#[]⟩) 16 rfl Tryz.underlying68 info9 rfl (by decide) (by omega) u5 S (ZA.after nm9 nm) [.string (ZA.after nm9 nm)] (fun _=>True) (fun _=>False) rfl rfl ?aP (fun _ hk=>hk.elim) ?aF ?aO ?aB ?aS ?aL ?_
      (case aP=>exact rfl)
      (case aB=>exact J3.out.hb)
      (case aF=>exact fun _ _=>trivial)
      (case aO=>exact J3.out.rr)
      (case aS=>exact J3.out.hb.size)
      (case aL=>have:=Q2.out;omega)
      intro vR w8 ho hb hg hat
      rw[← NS.out] at ho
      obtain⟨j_,AR,cR,eR⟩:=ZA.Inv.text J3.out ho hb hg
      subst eR;have J5:=Za j_
      have KB5:=Za (Zad KB3.out hg (Kd.R_ne J3.out.rr KB3.out (by decide)))
      have GN5:=Za (HGR.out w8 J5.out.hb)
      clear j_ ho hb hg hat
      refine hK.out _ _ ⟨(Zm J5.out.bs 0).trans rfl,(Zm J5.out.bs 1).trans rfl,(Zm J5.out.bs 2).trans rfl,(Zm KB5.out 0).trans rfl,Zx J5.out.hb HY0.out⟩ (fun hHeld=>?_)
      clear hK K
      refine nrm (some 126) ?_
      refine pu (N:=some 5) 17 ?_
      refine Zbu (by kernel_rfl) ?_
      go_wp2
      go_roundg (lb.length - (j+1))
      case measure=>have:=HGj.out;omega
      case rel=>exact⟨j+1,S2,by rw[ZO hltj NLB.out],⟨by omega⟩,⟨by omega⟩,HE3,J5,KB5,GN5⟩
     ·obtain rfl:j=lb.length:=by have:=HKj.out;omega
      obtain rfl:S=S1:=Zg (ZbX HEj.out)
      have hltz9:¬(((lb.length:Nat):Int)<(lb.length:Int)):=by omega
      go_wp2
      go_roundg (l0_0.length - (i+1))
      case measure=>have:=HG.out;omega
      case rel=>exact⟨i+1,S,by rw[ZO hlt HN0.out],⟨by omega⟩,⟨by omega⟩,HE2,HI⟩
    ·obtain rfl:i=l0_0.length:=by have:=HK.out;omega
     have hltz:¬(((l0_0.length:Nat):Int)<(l0_0.length:Int)):=by omega
     obtain rfl:S=r:=Zg (ZbX HE.out)
     clear HE
     go_wp2
     go_ret
     exact⟨_,rfl,HI.out.rr,HI.out.hb⟩
end Go.Proofs.YtoeimopgoaffcaaGreatDoor.Pr
