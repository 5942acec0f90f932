/- By a program of this session. -/
import Derived.Test.YtoeimopgoaffcaaGreatDoorBBwc1x35
namespace Go.Proofs.YtoeimopgoaffcaaGreatDoor.Pr
open RowKit YtoeimopgoaffcaaGreatDoorW.PrintWords Ni
section
variable {ns:List ZK} {ts:List PTie} {z:Int} {ln vs:List Int}
end
open YtoeimopgoaffcaaGreatDoorW.PrintLast YtoeimopgoaffcaaGreatDoorW.PrintMore
attribute [local go_sem] Zak Zai Zax Zaw Zac Zab Zaj Zah
set_option linter.unusedVariables false
set_option linter.unusedSimpArgs false
def Zct.f (k:Nat) (a0_0:Int) (l0_1:List (S112)):Option (List Int):=(Za1.f k a0_0 l0_1).bind fun b=>if b=true then((ZbQ.f k a0_0 l0_1).bind fun t=>(ZbJ.f k a0_0 l0_1).bind fun u=>(ZaY.f k u.1 u.2).bind fun I=>gath 0 t.2 I) else some []
set_option maxHeartbeats 8000000 in
set_option maxRecDepth 100000 in
theorem Zct.calls (k:Nat) (a0_0:Int) (A0_1:Option Addr) (c0_1:Nat) (l0_1:List (S112)) (r:List Int) (w:World) (hr0_1:Kd.C k112 w A0_1 l0_1.length l0_1) (hc0_1:l0_1.length≤c0_1) (h:Zct.f k a0_0 l0_1=some r) :
  Calls Tryz.prog 117 #[.agg #[.int .i64 a0_0,.slice A0_1 l0_1.length c0_1]] w fun e w'=>∃v0_:Value,e=.returned (v0_)∧Kd.R (Kd.int .i64) 3 w' w.heap.size (fun _=>True) v0_ r∧Below w.heap.size w w':=by
 unfold Zct.f at h
 obtain⟨b,hb_,h⟩:=Option.bind_eq_some_iff.1 h
 have HO:=Za fun (W:World) (hb:Below w.heap.size w W)=>Za1.calls k a0_0 A0_1 c0_1 l0_1 b W (Zb hr0_1 hb) hc0_1 hb_
 clear hb_
 cases b with
 | false=>
  obtain rfl:[]=r:=Zg ((if_neg (by simp)).symm.trans h)
  clear h
  have hu0:=Tryz.underlying54
  have hu1:=Tryz.underlying156
  clear hr0_1 hc0_1
  go_enter Tryz.func117,Tryz.ntmps117
  go_wp2_with (first|((with_reducible refine ZF (N:=1) rfl ?_);refine ZG ?hg (N:=1) ?hd (cs:=#[.int .i64 a0_0,.slice A0_1 l0_1.length c0_1]) (t:=54) ?hr ?_;(case hd=>rfl);(case hg=>rfl);(case hr=>first|(go_simp;done)|(go_simp;rfl));intro gs hg w1 hbox hb;have BS:=Za hbox;have HB:=Za hb;have s0:w1.cell? ⟨gs,0,none⟩=some (.int .i64 a0_0):=(Zm BS.out 0).trans rfl;have s1:w1.cell? ⟨gs,1,none⟩=some (.slice A0_1 l0_1.length c0_1):=(Zm BS.out 1).trans rfl;clear hbox hb hg)|(go_at_call 99;refine(HO.out _ HB.out).mono ?_;rintro e w3 ⟨rfl,hb⟩;replace BS:=Za (Zs BS.out hb);replace HB:=Za (Zr HB.out hb);clear s0 s1;have s0:w3.cell? ⟨gs,0,none⟩=some (.int .i64 a0_0):=(Zm BS.out 0).trans rfl;have s1:w3.cell? ⟨gs,1,none⟩=some (.slice A0_1 l0_1.length c0_1):=(Zm BS.out 1).trans rfl;clear hb))
  go_ret
  exact⟨_,rfl,Kd.R_nil _ _ _ _ _,HB.out⟩
 | true=>
 rw[if_pos rfl] at h
 obtain⟨t,ht_,h⟩:=Option.bind_eq_some_iff.1 h
 obtain⟨E0,S⟩:=t
 dsimp only at h
 obtain⟨u,hu_,h⟩:=Option.bind_eq_some_iff.1 h
 obtain⟨n1,E1⟩:=u
 dsimp only at h
 obtain⟨I,hI_,h⟩:=Option.bind_eq_some_iff.1 h
 have HG_:=Za fun (W:World) (hb:Below w.heap.size w W)=>ZbQ.calls k a0_0 A0_1 c0_1 l0_1 E0 S W (Zb hr0_1 hb) hc0_1 ht_
 have HH:=Za fun (W:World) (hb:Below w.heap.size w W)=>ZbJ.calls k a0_0 A0_1 c0_1 l0_1 n1 E1 W (Zb hr0_1 hb) hc0_1 hu_
 have HN:=Za fun (W:World) (A1:Option Addr) (c1:Nat) (g1:E1.length≤c1) (g2:Kd.C k184 W A1 E1.length E1)=>ZaY.calls k n1 A1 c1 E1 I W g2 g1 hI_
 clear ht_ hI_ hu_
 have OK:=Za (Zd9 h)
 clear h
 have hu0:=Tryz.underlying54
 have hu1:=Tryz.underlying156
 clear hr0_1 hc0_1
 go_enter Tryz.func117,Tryz.ntmps117
 go_wp2_with (first|((with_reducible refine ZF (N:=1) rfl ?_);refine ZG ?hg (N:=1) ?hd (cs:=#[.int .i64 a0_0,.slice A0_1 l0_1.length c0_1]) (t:=54) ?hr ?_;(case hd=>rfl);(case hg=>rfl);(case hr=>first|(go_simp;done)|(go_simp;rfl));intro gs hg w1 hbox hb;have BS:=Za hbox;have HB:=Za hb;have s0:w1.cell? ⟨gs,0,none⟩=some (.int .i64 a0_0):=(Zm BS.out 0).trans rfl;have s1:w1.cell? ⟨gs,1,none⟩=some (.slice A0_1 l0_1.length c0_1):=(Zm BS.out 1).trans rfl;clear hbox hb hg)|(go_at_call 99;refine(HO.out _ HB.out).mono ?_;rintro e w3 ⟨rfl,hb⟩;replace BS:=Za (Zs BS.out hb);replace HB:=Za (Zr HB.out hb);clear s0 s1;have s0:w3.cell? ⟨gs,0,none⟩=some (.int .i64 a0_0):=(Zm BS.out 0).trans rfl;have s1:w3.cell? ⟨gs,1,none⟩=some (.slice A0_1 l0_1.length c0_1):=(Zm BS.out 1).trans rfl;clear hb)|(go_at_call 173;have HBp:=HB;refine(HG_.out _ HB.out).mono ?_;rintro e w4 ⟨vE,vS,rfl,q0,qS,hb⟩;replace BS:=Za (Zs BS.out hb);replace HB:=Za (Zr HB.out hb);clear s0 s1;have s0:w4.cell? ⟨gs,0,none⟩=some (.int .i64 a0_0):=(Zm BS.out 0).trans rfl;have s1:w4.cell? ⟨gs,1,none⟩=some (.slice A0_1 l0_1.length c0_1):=(Zm BS.out 1).trans rfl;obtain⟨AE,cE,eE⟩:=Kd.R_slice q0;subst eE;obtain⟨AS,cS,eS⟩:=Kd.R_slice qS;subst eS;have QS:=Za (Kd.R_lower qS HBp.out.size);clear q0 qS;clear hb)|((with_reducible refine ZF (N:=16) rfl ?_);refine Kd.R_lit (Kd.int .i64) _ 3 ?hg (N:=16) ?hd (xs:=([]:List Int)) (inner:=[]) (ok:=fun _=>True) (okp:=fun _=>True) ?hr ?hp (fun _ hk=>hk) trivial (Below.refl _ _) (Nat.le_refl _) (by simp) ?_;(case hd=>rfl);(case hg=>rfl);(case hr=>first|(go_simp;done)|(go_simp;rfl));(case hp=>exact(Reps.none _ _));intro vO w5 ho hb hg_ hnew_;have L0:=Za (And.intro (Kd.R_lt QS.out) HB.out.size);have QO:=Za ho;have OL:=Za (Kd.R_lt ho);replace QS:=Za (Kd.R_below QS.out hb);obtain⟨AO,cO,eO⟩:=Kd.R_slice ho;subst eO;replace BS:=Za (Zs BS.out hb);replace HB:=Za (Zr HB.out hb);clear s0 s1;have s0:w5.cell? ⟨gs,0,none⟩=some (.int .i64 a0_0):=(Zm BS.out 0).trans rfl;have s1:w5.cell? ⟨gs,1,none⟩=some (.slice A0_1 l0_1.length c0_1):=(Zm BS.out 1).trans rfl;clear ho hb hg_ hnew_)|(go_at_call 169;refine(HH.out _ HB.out).mono ?_;rintro e w6 ⟨vE,rfl,q0,hb⟩;replace BS:=Za (Zs BS.out hb);replace HB:=Za (Zr HB.out hb);clear s0 s1;have s0:w6.cell? ⟨gs,0,none⟩=some (.int .i64 a0_0):=(Zm BS.out 0).trans rfl;have s1:w6.cell? ⟨gs,1,none⟩=some (.slice A0_1 l0_1.length c0_1):=(Zm BS.out 1).trans rfl;replace QS:=Za (Kd.R_below QS.out hb);replace QO:=Za (Kd.R_below QO.out hb);replace OL:=Za (fun k hk=>Nat.lt_of_lt_of_le (OL.out k hk) hb.size);obtain⟨AG,cG,rfl,gE_⟩:=Kd.R_reads q0;have GE:=Za gE_;clear q0 gE_;clear hb)|(go_at_call 168;refine(HN.out _ _ _ GE.out.1 (Zb GE.out.2 (by repeat(first|(with_reducible first|exact(Below.refl _ _)|apply Zo|apply Zn|apply Zp)|exact(Below.refl _ _))))).mono ?_;rintro e w9 ⟨vI,rfl,qI,hb⟩;have I0:=Za (Gat.lit (kd:=(Kd.int .i64)) (e:=3) rfl (Kd.R_below QS.out (Zr (by repeat(first|(with_reducible first|exact(Below.refl _ _)|apply Zo|apply Zn|apply Zp)|exact(Below.refl _ _))) hb)) qI (Kd.R_below QO.out (Zr (by repeat(first|(with_reducible first|exact(Below.refl _ _)|apply Zo|apply Zn|apply Zp)|exact(Below.refl _ _))) hb)) L0.out.1 (fun k hk=>Nat.lt_of_lt_of_le (OL.out k hk) (Zv (by repeat(first|(with_reducible first|exact(Below.refl _ _)|apply Zo|apply Zn|apply Zp)|exact(Below.refl _ _))))) L0.out.2 (Zv (by repeat(first|(with_reducible first|exact HB.out|apply Zo|apply Zn|apply Zp)|exact HB.out))) (Zr (by repeat(first|(with_reducible first|exact HB.out|apply Zo|apply Zn|apply Zp)|exact HB.out)) hb));obtain⟨AI,cI,eI⟩:=Kd.R_slice qI;subst eI;clear qI hb s0 s1))
 clear HG_ HN
 go_loopg [5,21] I.length (fun gg s5 s21 wr=>∃(i:Nat) (O:List Int),s21=.int .i64 (i:Int)∧Aside0 (i≤I.length)∧Aside0 (I.length - i≤gg)∧Aside0 (O.length≤i∧O ++ (I.drop i).map (fun x=>S.getD x.toNat 0)=r)∧Aside0 (Gat (Kd.int .i64) 3 w wr (.slice AS S.length cS) (.slice AI I.length cI) s5 S I O))
 case atStart=>exact⟨0,[],rfl,⟨Nat.zero_le _⟩,⟨by omega⟩,⟨Nat.le_refl _,OK.out.2.2⟩,I0⟩
 case round=>
 clear I0
 obtain⟨i,O,rfl,HK,HG,HE,HI⟩:=hrel
 by_cases hlt:i<I.length
 ·have hltz:(i:Int)<(I.length:Int):=by omega
  obtain⟨ad,q1,hx⟩:=Kd.at_int (Kd.R_reads' HI.out.ri).2.2 (i:Int) (by omega) hltz
  cases q1
  have hm:=OK.out.2.1 _ (ZaJ hlt 0)
  have HD:=HE.out.2
  rw[Zal hlt 0,List.map_cons] at HD
  rw[Int.toNat_natCast,ZaW] at hx
  generalize I.getD i 0=x at hx hm HD
  obtain⟨ad2,q2,hy⟩:=Kd.at_int (Kd.R_reads' HI.out.rs).2.2 x hm.1 hm.2
  cases q2
  have px:=eq_true hm.1
  have py:=eq_true hm.2
  obtain⟨O1,hO1⟩:∃O1,O1=O ++ [rd S x]:=⟨_,rfl⟩
  have NO:=Za hO1
  have HD2:=Za (show O1.length≤i+1∧O1 ++ (I.drop (i+1)).map (fun x=>S.getD x.toNat 0)=r from⟨by rw[hO1,List.length_append,List.length_singleton];have:=HE.out.1;omega,by rw[hO1,List.append_assoc];exact HD⟩)
  clear hm hO1 HD
  go_wp2_with ((with_reducible refine ZU (b:=.append) (xs:=#[.tmp 25,.tmp 30]) rfl ?_);at_builtin;refine Kd.R_append (Kd.int .i64) (w0:=w) w.heap.size rfl (.tmp 25) (.tmp 30) 37 3 (.int .i64 0) 8 rfl Tryz.underlying37 Zbl rfl (by decide) (by omega) u5 O (rd S x) [.int .i64 (rd S x)] (fun k=>some k≠(Value.slice (some ad2) S.length cS).ownBlock∧some k≠(Value.slice (some ad) I.length cI).ownBlock) (fun _=>False) rfl rfl ?aP (fun _ hk=>hk.elim) ?aF ?aO ?aB ?aS ?aL ?_;(case aP=>exact rfl);(case aB=>exact HI.out.hb);(case aF=>exact fun k hk=>⟨Kd.fresh' (Kd.R_lt HI.out.rs) k hk,Kd.fresh' (Kd.R_lt HI.out.ri) k hk⟩);(case aO=>exact HI.out.ro);(case aS=>exact HI.out.hb.size);(case aL=>have:=HE.out.1;have:=HK.out;have:=OK.out.1;omega);intro v1 w8 ho hb hg hat;rw[← NO.out] at ho;have J:=Za (HI.out.grow ho hb hg hat);clear ho hb hg hat)
  go_roundg (I.length - (i+1))
  case measure=>have:=HG.out;omega
  case rel=>exact⟨i+1,O1,by rw[ZO hlt (by have:=OK.out.1;omega)],⟨by omega⟩,⟨by omega⟩,HD2,J⟩
 ·obtain rfl:i=I.length:=by have:=HK.out;omega
  obtain rfl:O=r:=by
   have h:=HE.out.2
   rw[List.drop_length,List.map_nil,List.append_nil] at h
   exact h
  clear HE hlt
  go_wp2
  go_ret
  exact⟨_,rfl,Kd.R_mono HI.out.ro (fun _ _=>trivial),HI.out.hb⟩
end Go.Proofs.YtoeimopgoaffcaaGreatDoor.Pr
