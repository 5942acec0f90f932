/- By a program of this session. -/
import Derived.Test.YtoeimopgoaffcaaGreatDoorBBwc1x36
namespace Go.Proofs.YtoeimopgoaffcaaGreatDoor.Pr
open RowKit YtoeimopgoaffcaaGreatDoorW.PrintWords YtoeimopgoaffcaaGreatDoorW.PrintLast YtoeimopgoaffcaaGreatDoorW.PrintMore
attribute [local go_sem] Zak Zai Zax Zaw Zac Zab Zaj Zah
set_option linter.unusedVariables false
set_option linter.unusedSimpArgs false
open Ni
def ZcW.f (k:Nat) (l0_0:List (S39)) (l0_1:List (S82)) (a0_2:Int) (l1_0:List Int) (l1_1:List Int):Option (List ByteArray):=(Zu.f k l0_0 l0_1 a0_2 l1_0 l1_1).bind fun t=>if t.2.2=true then((ZA.f k l0_0 l0_1 a0_2 l1_0 l1_1).bind fun S=>(Zct.f k t.1 t.2.1).bind fun I=>gath ByteArray.empty S I) else some []
set_option maxHeartbeats 8000000 in
set_option maxRecDepth 100000 in
theorem ZcW.calls (k:Nat) (A0_0:Option Addr) (c0_0:Nat) (l0_0:List (S39)) (A0_1:Option Addr) (c0_1:Nat) (l0_1:List (S82)) (a0_2:Int) (A1_0:Option Addr) (c1_0:Nat) (l1_0:List Int) (A1_1:Option Addr) (c1_1:Nat) (l1_1:List Int) (r:List ByteArray) (w:World) (hr0_0:Kd.C k39 w A0_0 l0_0.length l0_0) (hc0_0:l0_0.length≤c0_0) (hr0_1:Kd.C k82 w A0_1 l0_1.length l0_1) (hc0_1:l0_1.length≤c0_1) (hr1_0:Kd.C (Kd.int .i64) w A1_0 l1_0.length l1_0) (hc1_0:l1_0.length≤c1_0) (hr1_1:Kd.C (Kd.int .i64) w A1_1 l1_1.length l1_1) (hc1_1:l1_1.length≤c1_1) (h:ZcW.f k l0_0 l0_1 a0_2 l1_0 l1_1=some r) :
  Calls Tryz.prog 44 #[.agg #[.slice A0_0 l0_0.length c0_0,.slice A0_1 l0_1.length c0_1,.int .i64 a0_2],.agg #[.slice A1_0 l1_0.length c1_0,.slice A1_1 l1_1.length c1_1]] w fun e w'=>∃v0_:Value,e=.returned (v0_)∧Kd.R Kd.string 9 w' w.heap.size (fun _=>True) v0_ r∧Below w.heap.size w w':=by
 unfold ZcW.f at h
 obtain⟨t,ht_,h⟩:=Option.bind_eq_some_iff.1 h
 obtain⟨n1,L1,b⟩:=t
 dsimp only at h
 have HP:=Za fun (W:World) (hb:Below w.heap.size w W)=>Zu.calls k A0_0 c0_0 l0_0 A0_1 c0_1 l0_1 a0_2 A1_0 c1_0 l1_0 A1_1 c1_1 l1_1 n1 L1 b W (Zb hr0_0 hb) hc0_0 (Zb hr0_1 hb) hc0_1 (Zb hr1_0 hb) hc1_0 (Zb hr1_1 hb) hc1_1 ht_
 clear ht_
 cases b with
 | false=>
  obtain rfl:[]=r:=Zg ((if_neg (by simp)).symm.trans h)
  clear h
  have hu0:=Tryz.underlying25
  have hu1:=Tryz.underlying58
  have hu2:=Tryz.underlying54
  clear hr0_0 hc0_0 hr0_1 hc0_1 hr1_0 hc1_0 hr1_1 hc1_1
  go_enter Tryz.func44,Tryz.ntmps44
  go_wp2_with (first|((with_reducible refine ZF (N:=2) rfl ?_);refine ZG ?hg (N:=2) ?hd (cs:=#[.slice A0_0 l0_0.length c0_0,.slice A0_1 l0_1.length c0_1,.int .i64 a0_2]) (t:=25) ?hr ?_;(case hd=>rfl);(case hg=>rfl);(case hr=>first|(go_simp;done)|(go_simp;rfl));intro gs hg w1 hbox hb;have BS:=Za hbox;have HB:=Za hb;clear hbox hb hg)|((with_reducible refine ZF (N:=3) rfl ?_);refine ZG ?hg (N:=3) ?hd (cs:=#[.slice A1_0 l1_0.length c1_0,.slice A1_1 l1_1.length c1_1]) (t:=58) ?hr ?_;(case hd=>rfl);(case hg=>rfl);(case hr=>first|(go_simp;done)|(go_simp;rfl));intro gc hg w2 hbox hb;have BC:=Za hbox;replace BS:=Za (Zs BS.out hb);replace HB:=Za (Zr HB.out hb);have s0:w2.cell? ⟨gs,0,none⟩=some (.slice A0_0 l0_0.length c0_0):=(Zm BS.out 0).trans rfl;have s1:w2.cell? ⟨gs,1,none⟩=some (.slice A0_1 l0_1.length c0_1):=(Zm BS.out 1).trans rfl;have s2:w2.cell? ⟨gs,2,none⟩=some (.int .i64 a0_2):=(Zm BS.out 2).trans rfl;have s3:w2.cell? ⟨gc,0,none⟩=some (.slice A1_0 l1_0.length c1_0):=(Zm BC.out 0).trans rfl;have s4:w2.cell? ⟨gc,1,none⟩=some (.slice A1_1 l1_1.length c1_1):=(Zm BC.out 1).trans rfl;clear hbox hb hg)|(go_at_call 29;refine(HP.out _ HB.out).mono ?_;rintro e w4 ⟨vL,rfl,q0,hb⟩;replace BS:=Za (Zs BS.out hb);replace BC:=Za (Zs BC.out hb);replace HB:=Za (Zr HB.out hb);clear s0 s1 s2 s3 s4;have s0:w4.cell? ⟨gs,0,none⟩=some (.slice A0_0 l0_0.length c0_0):=(Zm BS.out 0).trans rfl;have s1:w4.cell? ⟨gs,1,none⟩=some (.slice A0_1 l0_1.length c0_1):=(Zm BS.out 1).trans rfl;have s2:w4.cell? ⟨gs,2,none⟩=some (.int .i64 a0_2):=(Zm BS.out 2).trans rfl;have s3:w4.cell? ⟨gc,0,none⟩=some (.slice A1_0 l1_0.length c1_0):=(Zm BC.out 0).trans rfl;have s4:w4.cell? ⟨gc,1,none⟩=some (.slice A1_1 l1_1.length c1_1):=(Zm BC.out 1).trans rfl;obtain⟨AL,cL,rfl,gL_⟩:=Kd.R_reads q0;have GL:=Za gL_;have lgs:=ZN BS.out;have lgc:=ZN BC.out;clear q0 gL_;clear hb))
  go_ret
  exact⟨_,rfl,Kd.R_nil _ _ _ _ _,by repeat(first|(with_reducible first|exact HB.out|apply Zo|apply Zn|apply Zp)|exact HB.out)⟩
 | true=>
 rw[if_pos rfl] at h
 obtain⟨S,hS_,h⟩:=Option.bind_eq_some_iff.1 h
 obtain⟨I,hI_,h⟩:=Option.bind_eq_some_iff.1 h
 have HG_:=Za fun (W:World) (hb:Below w.heap.size w W)=>ZA.calls k A0_0 c0_0 l0_0 A0_1 c0_1 l0_1 a0_2 A1_0 c1_0 l1_0 A1_1 c1_1 l1_1 S W (Zb hr0_0 hb) hc0_0 (Zb hr0_1 hb) hc0_1 (Zb hr1_0 hb) hc1_0 (Zb hr1_1 hb) hc1_1 hS_
 have HN:=Za fun (W:World) (A1:Option Addr) (c1:Nat) (g1:L1.length≤c1) (g2:Kd.C k112 W A1 L1.length L1)=>Zct.calls k n1 A1 c1 L1 I W g2 g1 hI_
 clear hS_ hI_
 have OK:=Za (Zd9 h)
 clear h
 have hu0:=Tryz.underlying25
 have hu1:=Tryz.underlying58
 have hu2:=Tryz.underlying54
 clear hr0_0 hc0_0 hr0_1 hc0_1 hr1_0 hc1_0 hr1_1 hc1_1
 go_enter Tryz.func44,Tryz.ntmps44
 go_wp2_with (first|((with_reducible refine ZF (N:=2) rfl ?_);refine ZG ?hg (N:=2) ?hd (cs:=#[.slice A0_0 l0_0.length c0_0,.slice A0_1 l0_1.length c0_1,.int .i64 a0_2]) (t:=25) ?hr ?_;(case hd=>rfl);(case hg=>rfl);(case hr=>first|(go_simp;done)|(go_simp;rfl));intro gs hg w1 hbox hb;have BS:=Za hbox;have HB:=Za hb;clear hbox hb hg)|((with_reducible refine ZF (N:=3) rfl ?_);refine ZG ?hg (N:=3) ?hd (cs:=#[.slice A1_0 l1_0.length c1_0,.slice A1_1 l1_1.length c1_1]) (t:=58) ?hr ?_;(case hd=>rfl);(case hg=>rfl);(case hr=>first|(go_simp;done)|(go_simp;rfl));intro gc hg w2 hbox hb;have BC:=Za hbox;replace BS:=Za (Zs BS.out hb);replace HB:=Za (Zr HB.out hb);have s0:w2.cell? ⟨gs,0,none⟩=some (.slice A0_0 l0_0.length c0_0):=(Zm BS.out 0).trans rfl;have s1:w2.cell? ⟨gs,1,none⟩=some (.slice A0_1 l0_1.length c0_1):=(Zm BS.out 1).trans rfl;have s2:w2.cell? ⟨gs,2,none⟩=some (.int .i64 a0_2):=(Zm BS.out 2).trans rfl;have s3:w2.cell? ⟨gc,0,none⟩=some (.slice A1_0 l1_0.length c1_0):=(Zm BC.out 0).trans rfl;have s4:w2.cell? ⟨gc,1,none⟩=some (.slice A1_1 l1_1.length c1_1):=(Zm BC.out 1).trans rfl;clear hbox hb hg)|(go_at_call 29;refine(HP.out _ HB.out).mono ?_;rintro e w4 ⟨vL,rfl,q0,hb⟩;replace BS:=Za (Zs BS.out hb);replace BC:=Za (Zs BC.out hb);replace HB:=Za (Zr HB.out hb);clear s0 s1 s2 s3 s4;have s0:w4.cell? ⟨gs,0,none⟩=some (.slice A0_0 l0_0.length c0_0):=(Zm BS.out 0).trans rfl;have s1:w4.cell? ⟨gs,1,none⟩=some (.slice A0_1 l0_1.length c0_1):=(Zm BS.out 1).trans rfl;have s2:w4.cell? ⟨gs,2,none⟩=some (.int .i64 a0_2):=(Zm BS.out 2).trans rfl;have s3:w4.cell? ⟨gc,0,none⟩=some (.slice A1_0 l1_0.length c1_0):=(Zm BC.out 0).trans rfl;have s4:w4.cell? ⟨gc,1,none⟩=some (.slice A1_1 l1_1.length c1_1):=(Zm BC.out 1).trans rfl;obtain⟨AL,cL,rfl,gL_⟩:=Kd.R_reads q0;have GL:=Za gL_;have lgs:=ZN BS.out;have lgc:=ZN BC.out;clear q0 gL_;clear hb)|(go_at_call 116;refine(HG_.out _ (by repeat(first|(with_reducible first|exact HB.out|apply Zo|apply Zn|apply Zp)|exact HB.out))).mono ?_;rintro e w5 ⟨vS,rfl,qS,hb⟩;have HBp:=Za (Zo HB.out (.cells #[.int .i64 n1,.slice AL L1.length cL] 54));have QS:=Za (Kd.R_lower qS (Zv (by repeat(first|(with_reducible first|exact HB.out|apply Zo|apply Zn|apply Zp)|exact HB.out))));have z5:w5.cell? ⟨w4.heap.size,0,none⟩=some (.int .i64 n1):=Zx hb (by go_simp);have z6:w5.cell? ⟨w4.heap.size,1,none⟩=some (.slice AL L1.length cL):=Zx hb (by go_simp);replace GL:=Za (And.intro GL.out.1 (Zb GL.out.2 (Zr (Zo (Below.refl w4.heap.size w4) (.cells #[.int .i64 n1,.slice AL L1.length cL] 54)) hb)));replace BS:=Za (Zs (Zy BS.out _) hb);replace BC:=Za (Zs (Zy BC.out _) hb);replace HB:=Za (Zr (Zo HB.out _) hb);clear s0 s1 s2 s3 s4;have s0:w5.cell? ⟨gs,0,none⟩=some (.slice A0_0 l0_0.length c0_0):=(Zm BS.out 0).trans rfl;have s1:w5.cell? ⟨gs,1,none⟩=some (.slice A0_1 l0_1.length c0_1):=(Zm BS.out 1).trans rfl;have s2:w5.cell? ⟨gs,2,none⟩=some (.int .i64 a0_2):=(Zm BS.out 2).trans rfl;have s3:w5.cell? ⟨gc,0,none⟩=some (.slice A1_0 l1_0.length c1_0):=(Zm BC.out 0).trans rfl;have s4:w5.cell? ⟨gc,1,none⟩=some (.slice A1_1 l1_1.length c1_1):=(Zm BC.out 1).trans rfl;obtain⟨AS,cS,eS⟩:=Kd.R_slice qS;subst eS;clear qS HBp;clear hb)|((with_reducible refine ZF (N:=22) rfl ?_);refine Kd.R_lit Kd.string _ 9 ?hg (N:=22) ?hd (xs:=([]:List ByteArray)) (inner:=[]) (ok:=fun _=>True) (okp:=fun _=>True) ?hr ?hp (fun _ hk=>hk) trivial (Below.refl _ _) (Nat.le_refl _) (by simp) ?_;(case hd=>rfl);(case hg=>rfl);(case hr=>first|(go_simp;done)|(go_simp;rfl));(case hp=>exact(Reps.none _ _));intro vO w6 ho hb hg_ hnew_;have L0:=Za (And.intro (Kd.R_lt QS.out) HB.out.size);have QO:=Za ho;have OL:=Za (Kd.R_lt ho);have z7:=Zx hb z5;have z8:=Zx hb z6;clear z5 z6;replace GL:=Za (And.intro GL.out.1 (Zb GL.out.2 hb));replace QS:=Za (Kd.R_below QS.out hb);obtain⟨AO,cO,eO⟩:=Kd.R_slice ho;subst eO;replace BS:=Za (Zs BS.out hb);replace BC:=Za (Zs BC.out hb);replace HB:=Za (Zr HB.out hb);clear s0 s1 s2 s3 s4;have s0:w6.cell? ⟨gs,0,none⟩=some (.slice A0_0 l0_0.length c0_0):=(Zm BS.out 0).trans rfl;have s1:w6.cell? ⟨gs,1,none⟩=some (.slice A0_1 l0_1.length c0_1):=(Zm BS.out 1).trans rfl;have s2:w6.cell? ⟨gs,2,none⟩=some (.int .i64 a0_2):=(Zm BS.out 2).trans rfl;have s3:w6.cell? ⟨gc,0,none⟩=some (.slice A1_0 l1_0.length c1_0):=(Zm BC.out 0).trans rfl;have s4:w6.cell? ⟨gc,1,none⟩=some (.slice A1_1 l1_1.length c1_1):=(Zm BC.out 1).trans rfl;clear ho hb hg_ hnew_)|(go_at_call 117;refine(HN.out _ _ _ GL.out.1 (Zb GL.out.2 (by repeat(first|(with_reducible first|exact(Below.refl _ _)|apply Zo|apply Zn|apply Zp)|exact(Below.refl _ _))))).mono ?_;rintro e w9 ⟨vI,rfl,qI,hb⟩;have I0:=Za (Gat.lit (kd:=Kd.string) (e:=9) rfl (Kd.R_below QS.out (Zr (by repeat(first|(with_reducible first|exact(Below.refl _ _)|apply Zo|apply Zn|apply Zp)|exact(Below.refl _ _))) hb)) qI (Kd.R_below QO.out (Zr (by repeat(first|(with_reducible first|exact(Below.refl _ _)|apply Zo|apply Zn|apply Zp)|exact(Below.refl _ _))) hb)) L0.out.1 (fun k hk=>Nat.lt_of_lt_of_le (OL.out k hk) (Zv (by repeat(first|(with_reducible first|exact(Below.refl _ _)|apply Zo|apply Zn|apply Zp)|exact(Below.refl _ _))))) L0.out.2 (Zv (by repeat(first|(with_reducible first|exact HB.out|apply Zo|apply Zn|apply Zp)|exact HB.out))) (Zr (by repeat(first|(with_reducible first|exact HB.out|apply Zo|apply Zn|apply Zp)|exact HB.out)) hb));obtain⟨AI,cI,eI⟩:=Kd.R_slice qI;subst eI;clear qI hb s0 s1 s2 s3 s4 z7 z8))
 clear HG_ HN
 go_loopg [8,26] I.length (fun gg s8 s26 wr=>∃(i:Nat) (O:List ByteArray),s26=.int .i64 (i:Int)∧Aside0 (i≤I.length)∧Aside0 (I.length - i≤gg)∧Aside0 (O.length≤i∧O ++ (I.drop i).map (fun x=>S.getD x.toNat ByteArray.empty)=r)∧Aside0 (Gat Kd.string 9 w wr (.slice AS S.length cS) (.slice AI I.length cI) s8 S I O))
 case atStart=>exact⟨0,[],rfl,⟨Nat.zero_le _⟩,⟨by omega⟩,⟨Nat.le_refl _,OK.out.2.2⟩,I0⟩
 case round=>
 clear I0
 obtain⟨i,O,rfl,HK,HG,HE,HI⟩:=hrel
 by_cases hlt:i<I.length
 ·have hltz:(i:Int)<(I.length:Int):=by omega
  obtain⟨ad,q1,hx⟩:=Kd.at_int (Kd.R_reads' HI.out.ri).2.2 (i:Int) (by omega) hltz
  cases q1
  have hm:=OK.out.2.1 _ (ZaJ hlt 0)
  have HD:=HE.out.2
  rw[Zal hlt 0,List.map_cons] at HD
  rw[Int.toNat_natCast,ZaW] at hx
  generalize I.getD i 0=x at hx hm HD
  obtain⟨ad2,q2,hy⟩:=Kd.at_string (Kd.R_reads' HI.out.rs).2.2 x hm.1 hm.2
  cases q2
  have px:=eq_true hm.1
  have py:=eq_true hm.2
  obtain⟨O1,hO1⟩:∃O1,O1=O ++ [rdOf ByteArray.empty S x]:=⟨_,rfl⟩
  have NO:=Za hO1
  have HD2:=Za (show O1.length≤i+1∧O1 ++ (I.drop (i+1)).map (fun x=>S.getD x.toNat ByteArray.empty)=r from⟨by rw[hO1,List.length_append,List.length_singleton];have:=HE.out.1;omega,by rw[hO1,List.append_assoc];exact HD⟩)
  clear hm hO1 HD
  go_wp2_with ((with_reducible refine ZU (b:=.append) (xs:=#[.tmp 30,.tmp 35]) rfl ?_);at_builtin;refine Kd.R_append Kd.string (w0:=w) w.heap.size rfl (.tmp 30) (.tmp 35) 68 9 (.string ⟨#[]⟩) 16 rfl Tryz.underlying68 info9 rfl (by decide) (by omega) u8 O (rdOf ByteArray.empty S x) [.string (rdOf ByteArray.empty S x)] (fun k=>some k≠(Value.slice (some ad2) S.length cS).ownBlock∧some k≠(Value.slice (some ad) I.length cI).ownBlock) (fun _=>False) rfl rfl ?aP (fun _ hk=>hk.elim) ?aF ?aO ?aB ?aS ?aL ?_;(case aP=>exact rfl);(case aB=>exact HI.out.hb);(case aF=>exact fun k hk=>⟨Kd.fresh' (Kd.R_lt HI.out.rs) k hk,Kd.fresh' (Kd.R_lt HI.out.ri) k hk⟩);(case aO=>exact HI.out.ro);(case aS=>exact HI.out.hb.size);(case aL=>have:=HE.out.1;have:=HK.out;have:=OK.out.1;omega);intro v1 w8 ho hb hg hat;rw[← NO.out] at ho;have J:=Za (HI.out.grow ho hb hg hat);clear ho hb hg hat)
  go_roundg (I.length - (i+1))
  case measure=>have:=HG.out;omega
  case rel=>exact⟨i+1,O1,by rw[ZO hlt (by have:=OK.out.1;omega)],⟨by omega⟩,⟨by omega⟩,HD2,J⟩
 ·obtain rfl:i=I.length:=by have:=HK.out;omega
  obtain rfl:O=r:=by
   have h:=HE.out.2
   rw[List.drop_length,List.map_nil,List.append_nil] at h
   exact h
  clear HE hlt
  go_wp2
  go_ret
  exact⟨_,rfl,Kd.R_mono HI.out.ro (fun _ _=>trivial),HI.out.hb⟩
end Go.Proofs.YtoeimopgoaffcaaGreatDoor.Pr
