/- By a program of this session. -/
import Derived.Lib.ItoaNum
import Derived.Lib.Join
import Derived.Test.YtoeimopgoaffcaaGreatDoorBBec1x23
import Derived.Test.YtoeimopgoaffcaaGreatDoorBBec1x26
import Derived.Test.YtoeimopgoaffcaaGreatDoorBBec1x27
set_option maxHeartbeats 8000000
set_option maxRecDepth 100000
namespace Go.Proofs.YtoeimopgoaffcaaGreatDoor.Pr
open RowKit YtoeimopgoaffcaaGreatDoorW.PrintWords YtoeimopgoaffcaaGreatDoorW.PrintLast YtoeimopgoaffcaaGreatDoorW.PrintMore
attribute [local go_sem] Zau Zas ZaL ZaK Zaf Zae Zat Zar
set_option linter.unusedVariables false
set_option linter.unusedSimpArgs false
open Ni
def ZbJ.f (k:Nat) (a0_0:Int) (l0_1:List (S112)):Option (List Int):=(Za7.f a0_0 l0_1).bind fun b=>if b=true then((Z0.f k a0_0 l0_1).bind fun t=>(Zao.f t.1 t.2.1).bind fun I=>gath 0 t.2.2 I) else some []
theorem ZbJ.calls (k:Nat) (a0_0:Int) (A0_1:Option Addr) (c0_1:Nat) (l0_1:List (S112)) (r:List Int) (w:World) (hr0_1:Kd.C k112 w A0_1 l0_1.length l0_1) (hc0_1:l0_1.length≤c0_1) (h:ZbJ.f k a0_0 l0_1=some r) :
  Calls Tryz.prog 118 #[.agg #[.int .i64 a0_0,.slice A0_1 l0_1.length c0_1]] w fun e w'=>∃v0_:Value,e=.returned (v0_)∧Kd.R (Kd.int .i64) 3 w' w.heap.size (fun _=>True) v0_ r∧Below w.heap.size w w':=by
 unfold ZbJ.f at h
 obtain⟨b,hb_,h⟩:=Option.bind_eq_some_iff.1 h
 have HO:=Za fun (W:World) (hb:Below w.heap.size w W)=>Za7.calls a0_0 A0_1 c0_1 l0_1 b W (Zb hr0_1 hb) hc0_1 hb_
 clear hb_
 cases b with
 | false=>
  obtain rfl:[]=r:=Zg ((if_neg (by simp)).symm.trans h)
  clear h
  have hu0:=Tryz.underlying54
  have hu1:=Tryz.underlying156
  clear hr0_1 hc0_1
  go_enter Tryz.func118,Tryz.ntmps118
  go_wp2_with (first|((with_reducible refine ZG (N:=1) rfl ?_);refine ZH ?hg (N:=1) ?hd (cs:=#[.int .i64 a0_0,.slice A0_1 l0_1.length c0_1]) (t:=54) ?hr ?_;(case hd=>rfl);(case hg=>rfl);(case hr=>first|(go_simp;done)|(go_simp;rfl));intro gs hg w1 hbox hb;have BS:=Za hbox;have HB:=Za hb;have s0:w1.cell? ⟨gs,0,none⟩=some (.int .i64 a0_0):=(Zn BS.out 0).trans rfl;have s1:w1.cell? ⟨gs,1,none⟩=some (.slice A0_1 l0_1.length c0_1):=(Zn BS.out 1).trans rfl;clear hbox hb hg)|(go_at_call 105;refine(HO.out _ HB.out).mono ?_;rintro e w3 ⟨rfl,hb⟩;replace BS:=Za (Zw BS.out hb);replace HB:=Za (Zq HB.out hb);clear s0 s1;have s0:w3.cell? ⟨gs,0,none⟩=some (.int .i64 a0_0):=(Zn BS.out 0).trans rfl;have s1:w3.cell? ⟨gs,1,none⟩=some (.slice A0_1 l0_1.length c0_1):=(Zn BS.out 1).trans rfl;clear hb))
  go_ret
  exact⟨_,rfl,Kd.R_nil _ _ _ _ _,HB.out⟩
 | true=>
 rw[if_pos rfl] at h
 obtain⟨t,ht_,h⟩:=Option.bind_eq_some_iff.1 h
 obtain⟨n1,E1,S⟩:=t
 dsimp only at h
 obtain⟨I,hI_,h⟩:=Option.bind_eq_some_iff.1 h
 have HG_:=Za fun (W:World) (hb:Below w.heap.size w W)=>Z0.calls k a0_0 A0_1 c0_1 l0_1 n1 E1 S W (Zb hr0_1 hb) hc0_1 ht_
 have HN:=Za fun (W:World) (A1:Option Addr) (c1:Nat) (g1:E1.length≤c1) (g2:Kd.C k184 W A1 E1.length E1)=>Zao.calls n1 A1 c1 E1 I W g2 g1 hI_
 clear ht_ hI_
 have OK:=Za (Zee h)
 clear h
 have hu0:=Tryz.underlying54
 have hu1:=Tryz.underlying156
 clear hr0_1 hc0_1
 go_enter Tryz.func118,Tryz.ntmps118
 go_wp2_with (first|((with_reducible refine ZG (N:=1) rfl ?_);refine ZH ?hg (N:=1) ?hd (cs:=#[.int .i64 a0_0,.slice A0_1 l0_1.length c0_1]) (t:=54) ?hr ?_;(case hd=>rfl);(case hg=>rfl);(case hr=>first|(go_simp;done)|(go_simp;rfl));intro gs hg w1 hbox hb;have BS:=Za hbox;have HB:=Za hb;have s0:w1.cell? ⟨gs,0,none⟩=some (.int .i64 a0_0):=(Zn BS.out 0).trans rfl;have s1:w1.cell? ⟨gs,1,none⟩=some (.slice A0_1 l0_1.length c0_1):=(Zn BS.out 1).trans rfl;clear hbox hb hg)|(go_at_call 105;refine(HO.out _ HB.out).mono ?_;rintro e w3 ⟨rfl,hb⟩;replace BS:=Za (Zw BS.out hb);replace HB:=Za (Zq HB.out hb);clear s0 s1;have s0:w3.cell? ⟨gs,0,none⟩=some (.int .i64 a0_0):=(Zn BS.out 0).trans rfl;have s1:w3.cell? ⟨gs,1,none⟩=some (.slice A0_1 l0_1.length c0_1):=(Zn BS.out 1).trans rfl;clear hb)|(go_at_call 174;have HBp:=HB;refine(HG_.out _ HB.out).mono ?_;rintro e w4 ⟨vE,vS,rfl,q0,qS,hb⟩;replace BS:=Za (Zw BS.out hb);replace HB:=Za (Zq HB.out hb);clear s0 s1;have s0:w4.cell? ⟨gs,0,none⟩=some (.int .i64 a0_0):=(Zn BS.out 0).trans rfl;have s1:w4.cell? ⟨gs,1,none⟩=some (.slice A0_1 l0_1.length c0_1):=(Zn BS.out 1).trans rfl;obtain⟨AE,cE,rfl,gE_⟩:=Kd.R_reads q0;have GE:=Za gE_;obtain⟨AS,cS,eS⟩:=Kd.R_slice qS;subst eS;have QS:=Za (Kd.R_lower qS HBp.out.size);clear q0 gE_ qS;clear hb)|(go_at_call 170;refine(HN.out _ _ _ GE.out.1 (Zb GE.out.2 (by repeat(first|(with_reducible first|exact(Below.refl _ _)|apply Zo|apply Zm|apply Zp)|exact(Below.refl _ _))))).mono ?_;rintro e w9 ⟨vI,rfl,qI,hb⟩;have I0:=Za (Gat.nil (kd:=(Kd.int .i64)) (e:=3) (Kd.R_below QS.out (Zq (by repeat(first|(with_reducible first|exact(Below.refl _ _)|apply Zo|apply Zm|apply Zp)|exact(Below.refl _ _))) hb)) qI (Nat.le_refl _) (Zv (by repeat(first|(with_reducible first|exact HB.out|apply Zo|apply Zm|apply Zp)|exact HB.out))) (Zq (by repeat(first|(with_reducible first|exact HB.out|apply Zo|apply Zm|apply Zp)|exact HB.out)) hb));obtain⟨AI,cI,eI⟩:=Kd.R_slice qI;subst eI;clear qI hb s0 s1))
 clear HG_ HN
 go_loopg [5,19] I.length (fun gg s5 s19 wr=>∃(i:Nat) (O:List Int),s19=.int .i64 (i:Int)∧Aside0 (i≤I.length)∧Aside0 (I.length - i≤gg)∧Aside0 (O.length≤i∧O ++ (I.drop i).map (fun x=>S.getD x.toNat 0)=r)∧Aside0 (Gat (Kd.int .i64) 3 w wr (.slice AS S.length cS) (.slice AI I.length cI) s5 S I O))
 case atStart=>exact⟨0,[],rfl,⟨Nat.zero_le _⟩,⟨by omega⟩,⟨Nat.le_refl _,OK.out.2.2⟩,I0⟩
 case round=>
 clear I0
 obtain⟨i,O,rfl,HK,HG,HE,HI⟩:=hrel
 by_cases hlt:i<I.length
 ·have hltz:(i:Int)<(I.length:Int):=by omega
  obtain⟨ad,q1,hx⟩:=Kd.at_int (Kd.R_reads' HI.out.ri).2.2 (i:Int) (by omega) hltz
  cases q1
  have hm:=OK.out.2.1 _ (ZaG hlt 0)
  have HD:=HE.out.2
  rw[Z8 hlt 0,List.map_cons] at HD
  rw[Int.toNat_natCast,ZaO] at hx
  generalize I.getD i 0=x at hx hm HD
  obtain⟨ad2,q2,hy⟩:=Kd.at_int (Kd.R_reads' HI.out.rs).2.2 x hm.1 hm.2
  cases q2
  have px:=eq_true hm.1
  have py:=eq_true hm.2
  obtain⟨O1,hO1⟩:∃O1,O1=O ++ [rd S x]:=⟨_,rfl⟩
  have NO:=Za hO1
  have HD2:=Za (show O1.length≤i+1∧O1 ++ (I.drop (i+1)).map (fun x=>S.getD x.toNat 0)=r from⟨by rw[hO1,List.length_append,List.length_singleton];have:=HE.out.1;omega,by rw[hO1,List.append_assoc];exact HD⟩)
  clear hm hO1 HD
  go_wp2_with ((with_reducible refine ZT (b:=.append) (xs:=#[.tmp 23,.tmp 28]) rfl ?_);at_builtin;refine Kd.R_append (Kd.int .i64) (w0:=w) w.heap.size rfl (.tmp 23) (.tmp 28) 37 3 (.int .i64 0) 8 rfl Tryz.underlying37 ZbI rfl (by decide) (by omega) u5 O (rd S x) [.int .i64 (rd S x)] (fun k=>some k≠(Value.slice (some ad2) S.length cS).ownBlock∧some k≠(Value.slice (some ad) I.length cI).ownBlock) (fun _=>False) rfl rfl ?aP (fun _ hk=>hk.elim) ?aF ?aO ?aB ?aS ?aL ?_;(case aP=>exact rfl);(case aB=>exact HI.out.hb);(case aF=>exact fun k hk=>⟨Kd.fresh' (Kd.R_lt HI.out.rs) k hk,Kd.fresh' (Kd.R_lt HI.out.ri) k hk⟩);(case aO=>exact HI.out.ro);(case aS=>exact HI.out.hb.size);(case aL=>have:=HE.out.1;have:=HK.out;have:=OK.out.1;omega);intro v1 w8 ho hb hg hat;rw[← NO.out] at ho;have J:=Za (HI.out.grow ho hb hg hat);clear ho hb hg hat)
  go_roundg (I.length - (i+1))
  case measure=>have:=HG.out;omega
  case rel=>exact⟨i+1,O1,by rw[ZL hlt (by have:=OK.out.1;omega)],⟨by omega⟩,⟨by omega⟩,HD2,J⟩
 ·obtain rfl:i=I.length:=by have:=HK.out;omega
  obtain rfl:O=r:=by
   have h:=HE.out.2
   rw[List.drop_length,List.map_nil,List.append_nil] at h
   exact h
  clear HE hlt
  go_wp2
  go_ret
  exact⟨_,rfl,Kd.R_mono HI.out.ro (fun _ _=>trivial),HI.out.hb⟩
def Zap.f (k:Nat) (l0_0:List (S39)) (l0_1:List (S82)) (a0_2:Int) (l1_0:List Int) (l1_1:List Int):Option (List ByteArray):=(ZbO.f k l0_0 l0_1 a0_2 l1_0 l1_1).bind fun b=>if b=true then((Zz.f k l0_0 l0_1 a0_2 l1_0 l1_1).bind fun t=>(ZbJ.f k t.1 t.2.1).bind fun I=>gath ByteArray.empty t.2.2 I) else some []
theorem Zap.calls (k:Nat) (A0_0:Option Addr) (c0_0:Nat) (l0_0:List (S39)) (A0_1:Option Addr) (c0_1:Nat) (l0_1:List (S82)) (a0_2:Int) (A1_0:Option Addr) (c1_0:Nat) (l1_0:List Int) (A1_1:Option Addr) (c1_1:Nat) (l1_1:List Int) (r:List ByteArray) (w:World) (hr0_0:Kd.C k39 w A0_0 l0_0.length l0_0) (hc0_0:l0_0.length≤c0_0) (hr0_1:Kd.C k82 w A0_1 l0_1.length l0_1) (hc0_1:l0_1.length≤c0_1) (hr1_0:Kd.C (Kd.int .i64) w A1_0 l1_0.length l1_0) (hc1_0:l1_0.length≤c1_0) (hr1_1:Kd.C (Kd.int .i64) w A1_1 l1_1.length l1_1) (hc1_1:l1_1.length≤c1_1) (ht:TW w) (h:Zap.f k l0_0 l0_1 a0_2 l1_0 l1_1=some r) :
  Calls Tryz.prog 45 #[.agg #[.slice A0_0 l0_0.length c0_0,.slice A0_1 l0_1.length c0_1,.int .i64 a0_2],.agg #[.slice A1_0 l1_0.length c1_0,.slice A1_1 l1_1.length c1_1]] w fun e w'=>∃v0_:Value,e=.returned (v0_)∧Kd.R Kd.string 9 w' w.heap.size (fun _=>True) v0_ r∧Below w.heap.size w w':=by
 unfold Zap.f at h
 obtain⟨b,hb_,h⟩:=Option.bind_eq_some_iff.1 h
 have HO:=Za fun (W:World) (hb:Below w.heap.size w W)=>ZbO.calls k A0_0 c0_0 l0_0 A0_1 c0_1 l0_1 a0_2 A1_0 c1_0 l1_0 A1_1 c1_1 l1_1 b W (Zb hr0_0 hb) hc0_0 (Zb hr0_1 hb) hc0_1 (Zb hr1_0 hb) hc1_0 (Zb hr1_1 hb) hc1_1 hb_
 clear hb_;have HTW:=Za ht
 cases b with
 | false=>
  obtain rfl:[]=r:=Zg ((if_neg (by simp)).symm.trans h)
  clear h
  have hu0:=Tryz.underlying25
  have hu1:=Tryz.underlying58
  have hu2:=Tryz.underlying54
  clear hr0_0 hc0_0 hr0_1 hc0_1 hr1_0 hc1_0 hr1_1 hc1_1 ht
  go_enter Tryz.func45,Tryz.ntmps45
  go_wp2_with (first|((with_reducible refine ZG (N:=2) rfl ?_);refine ZH ?hg (N:=2) ?hd (cs:=#[.slice A0_0 l0_0.length c0_0,.slice A0_1 l0_1.length c0_1,.int .i64 a0_2]) (t:=25) ?hr ?_;(case hd=>rfl);(case hg=>rfl);(case hr=>first|(go_simp;done)|(go_simp;rfl));intro gs hg w1 hbox hb;have BS:=Za hbox;have HB:=Za hb;clear hbox hb hg)|((with_reducible refine ZG (N:=3) rfl ?_);refine ZH ?hg (N:=3) ?hd (cs:=#[.slice A1_0 l1_0.length c1_0,.slice A1_1 l1_1.length c1_1]) (t:=58) ?hr ?_;(case hd=>rfl);(case hg=>rfl);(case hr=>first|(go_simp;done)|(go_simp;rfl));intro gc hg w2 hbox hb;have BC:=Za hbox;replace BS:=Za (Zw BS.out hb);replace HB:=Za (Zq HB.out hb);have s0:w2.cell? ⟨gs,0,none⟩=some (.slice A0_0 l0_0.length c0_0):=(Zn BS.out 0).trans rfl;have s1:w2.cell? ⟨gs,1,none⟩=some (.slice A0_1 l0_1.length c0_1):=(Zn BS.out 1).trans rfl;have s2:w2.cell? ⟨gs,2,none⟩=some (.int .i64 a0_2):=(Zn BS.out 2).trans rfl;have s3:w2.cell? ⟨gc,0,none⟩=some (.slice A1_0 l1_0.length c1_0):=(Zn BC.out 0).trans rfl;have s4:w2.cell? ⟨gc,1,none⟩=some (.slice A1_1 l1_1.length c1_1):=(Zn BC.out 1).trans rfl;clear hbox hb hg)|(go_at_call 103;refine(HO.out _ HB.out).mono ?_;rintro e w3 ⟨rfl,hb⟩;replace BS:=Za (Zw BS.out hb);replace BC:=Za (Zw BC.out hb);replace HB:=Za (Zq HB.out hb);clear s0 s1 s2 s3 s4;have s0:w3.cell? ⟨gs,0,none⟩=some (.slice A0_0 l0_0.length c0_0):=(Zn BS.out 0).trans rfl;have s1:w3.cell? ⟨gs,1,none⟩=some (.slice A0_1 l0_1.length c0_1):=(Zn BS.out 1).trans rfl;have s2:w3.cell? ⟨gs,2,none⟩=some (.int .i64 a0_2):=(Zn BS.out 2).trans rfl;have s3:w3.cell? ⟨gc,0,none⟩=some (.slice A1_0 l1_0.length c1_0):=(Zn BC.out 0).trans rfl;have s4:w3.cell? ⟨gc,1,none⟩=some (.slice A1_1 l1_1.length c1_1):=(Zn BC.out 1).trans rfl;clear hb))
  go_ret
  exact⟨_,rfl,Kd.R_nil _ _ _ _ _,HB.out⟩
 | true=>
 rw[if_pos rfl] at h
 obtain⟨t,ht_,h⟩:=Option.bind_eq_some_iff.1 h
 obtain⟨n1,L1,S⟩:=t
 dsimp only at h
 obtain⟨I,hI_,h⟩:=Option.bind_eq_some_iff.1 h
 have HG_:=Za fun (W:World) (hb:Below w.heap.size w W)=>Zz.calls k A0_0 c0_0 l0_0 A0_1 c0_1 l0_1 a0_2 A1_0 c1_0 l1_0 A1_1 c1_1 l1_1 n1 L1 S W (Zb hr0_0 hb) hc0_0 (Zb hr0_1 hb) hc0_1 (Zb hr1_0 hb) hc1_0 (Zb hr1_1 hb) hc1_1 (TW.below HTW.out hb) ht_
 have HN:=Za fun (W:World) (A1:Option Addr) (c1:Nat) (g1:L1.length≤c1) (g2:Kd.C k112 W A1 L1.length L1)=>ZbJ.calls k n1 A1 c1 L1 I W g2 g1 hI_
 clear ht_ hI_
 have OK:=Za (Zee h)
 clear h
 have hu0:=Tryz.underlying25
 have hu1:=Tryz.underlying58
 have hu2:=Tryz.underlying54
 clear hr0_0 hc0_0 hr0_1 hc0_1 hr1_0 hc1_0 hr1_1 hc1_1 ht
 go_enter Tryz.func45,Tryz.ntmps45
 go_wp2_with (first|((with_reducible refine ZG (N:=2) rfl ?_);refine ZH ?hg (N:=2) ?hd (cs:=#[.slice A0_0 l0_0.length c0_0,.slice A0_1 l0_1.length c0_1,.int .i64 a0_2]) (t:=25) ?hr ?_;(case hd=>rfl);(case hg=>rfl);(case hr=>first|(go_simp;done)|(go_simp;rfl));intro gs hg w1 hbox hb;have BS:=Za hbox;have HB:=Za hb;clear hbox hb hg)|((with_reducible refine ZG (N:=3) rfl ?_);refine ZH ?hg (N:=3) ?hd (cs:=#[.slice A1_0 l1_0.length c1_0,.slice A1_1 l1_1.length c1_1]) (t:=58) ?hr ?_;(case hd=>rfl);(case hg=>rfl);(case hr=>first|(go_simp;done)|(go_simp;rfl));intro gc hg w2 hbox hb;have BC:=Za hbox;replace BS:=Za (Zw BS.out hb);replace HB:=Za (Zq HB.out hb);have s0:w2.cell? ⟨gs,0,none⟩=some (.slice A0_0 l0_0.length c0_0):=(Zn BS.out 0).trans rfl;have s1:w2.cell? ⟨gs,1,none⟩=some (.slice A0_1 l0_1.length c0_1):=(Zn BS.out 1).trans rfl;have s2:w2.cell? ⟨gs,2,none⟩=some (.int .i64 a0_2):=(Zn BS.out 2).trans rfl;have s3:w2.cell? ⟨gc,0,none⟩=some (.slice A1_0 l1_0.length c1_0):=(Zn BC.out 0).trans rfl;have s4:w2.cell? ⟨gc,1,none⟩=some (.slice A1_1 l1_1.length c1_1):=(Zn BC.out 1).trans rfl;clear hbox hb hg)|(go_at_call 103;refine(HO.out _ HB.out).mono ?_;rintro e w3 ⟨rfl,hb⟩;replace BS:=Za (Zw BS.out hb);replace BC:=Za (Zw BC.out hb);replace HB:=Za (Zq HB.out hb);clear s0 s1 s2 s3 s4;have s0:w3.cell? ⟨gs,0,none⟩=some (.slice A0_0 l0_0.length c0_0):=(Zn BS.out 0).trans rfl;have s1:w3.cell? ⟨gs,1,none⟩=some (.slice A0_1 l0_1.length c0_1):=(Zn BS.out 1).trans rfl;have s2:w3.cell? ⟨gs,2,none⟩=some (.int .i64 a0_2):=(Zn BS.out 2).trans rfl;have s3:w3.cell? ⟨gc,0,none⟩=some (.slice A1_0 l1_0.length c1_0):=(Zn BC.out 0).trans rfl;have s4:w3.cell? ⟨gc,1,none⟩=some (.slice A1_1 l1_1.length c1_1):=(Zn BC.out 1).trans rfl;clear hb)|(go_at_call 104;have HBp:=HB;refine(HG_.out _ HB.out).mono ?_;rintro e w4 ⟨vE,vS,rfl,q0,qS,hb⟩;replace BS:=Za (Zw BS.out hb);replace BC:=Za (Zw BC.out hb);replace HB:=Za (Zq HB.out hb);clear s0 s1 s2 s3 s4;have s0:w4.cell? ⟨gs,0,none⟩=some (.slice A0_0 l0_0.length c0_0):=(Zn BS.out 0).trans rfl;have s1:w4.cell? ⟨gs,1,none⟩=some (.slice A0_1 l0_1.length c0_1):=(Zn BS.out 1).trans rfl;have s2:w4.cell? ⟨gs,2,none⟩=some (.int .i64 a0_2):=(Zn BS.out 2).trans rfl;have s3:w4.cell? ⟨gc,0,none⟩=some (.slice A1_0 l1_0.length c1_0):=(Zn BC.out 0).trans rfl;have s4:w4.cell? ⟨gc,1,none⟩=some (.slice A1_1 l1_1.length c1_1):=(Zn BC.out 1).trans rfl;obtain⟨AE,cE,rfl,gE_⟩:=Kd.R_reads q0;have GE:=Za gE_;obtain⟨AS,cS,eS⟩:=Kd.R_slice qS;subst eS;have QS:=Za (Kd.R_lower qS HBp.out.size);clear q0 gE_ qS;clear hb)|(go_at_call 118;refine(HN.out _ _ _ GE.out.1 (Zb GE.out.2 (by repeat(first|(with_reducible first|exact(Below.refl _ _)|apply Zo|apply Zm|apply Zp)|exact(Below.refl _ _))))).mono ?_;rintro e w9 ⟨vI,rfl,qI,hb⟩;have I0:=Za (Gat.nil (kd:=Kd.string) (e:=9) (Kd.R_below QS.out (Zq (by repeat(first|(with_reducible first|exact(Below.refl _ _)|apply Zo|apply Zm|apply Zp)|exact(Below.refl _ _))) hb)) qI (Nat.le_refl _) (Zv (by repeat(first|(with_reducible first|exact HB.out|apply Zo|apply Zm|apply Zp)|exact HB.out))) (Zq (by repeat(first|(with_reducible first|exact HB.out|apply Zo|apply Zm|apply Zp)|exact HB.out)) hb));obtain⟨AI,cI,eI⟩:=Kd.R_slice qI;subst eI;clear qI hb s0 s1 s2 s3 s4))
 clear HG_ HN
 go_loopg [7,23] I.length (fun gg s7 s23 wr=>∃(i:Nat) (O:List ByteArray),s23=.int .i64 (i:Int)∧Aside0 (i≤I.length)∧Aside0 (I.length - i≤gg)∧Aside0 (O.length≤i∧O ++ (I.drop i).map (fun x=>S.getD x.toNat ByteArray.empty)=r)∧Aside0 (Gat Kd.string 9 w wr (.slice AS S.length cS) (.slice AI I.length cI) s7 S I O))
 case atStart=>exact⟨0,[],rfl,⟨Nat.zero_le _⟩,⟨by omega⟩,⟨Nat.le_refl _,OK.out.2.2⟩,I0⟩
 case round=>
 clear I0
 obtain⟨i,O,rfl,HK,HG,HE,HI⟩:=hrel
 by_cases hlt:i<I.length
 ·have hltz:(i:Int)<(I.length:Int):=by omega
  obtain⟨ad,q1,hx⟩:=Kd.at_int (Kd.R_reads' HI.out.ri).2.2 (i:Int) (by omega) hltz
  cases q1
  have hm:=OK.out.2.1 _ (ZaG hlt 0)
  have HD:=HE.out.2
  rw[Z8 hlt 0,List.map_cons] at HD
  rw[Int.toNat_natCast,ZaO] at hx
  generalize I.getD i 0=x at hx hm HD
  obtain⟨ad2,q2,hy⟩:=Kd.at_string (Kd.R_reads' HI.out.rs).2.2 x hm.1 hm.2
  cases q2
  have px:=eq_true hm.1
  have py:=eq_true hm.2
  obtain⟨O1,hO1⟩:∃O1,O1=O ++ [rdOf ByteArray.empty S x]:=⟨_,rfl⟩
  have NO:=Za hO1
  have HD2:=Za (show O1.length≤i+1∧O1 ++ (I.drop (i+1)).map (fun x=>S.getD x.toNat ByteArray.empty)=r from⟨by rw[hO1,List.length_append,List.length_singleton];have:=HE.out.1;omega,by rw[hO1,List.append_assoc];exact HD⟩)
  clear hm hO1 HD
  go_wp2_with ((with_reducible refine ZT (b:=.append) (xs:=#[.tmp 27,.tmp 32]) rfl ?_);at_builtin;refine Kd.R_append Kd.string (w0:=w) w.heap.size rfl (.tmp 27) (.tmp 32) 68 9 (.string ⟨#[]⟩) 16 rfl Tryz.underlying68 info9 rfl (by decide) (by omega) u7 O (rdOf ByteArray.empty S x) [.string (rdOf ByteArray.empty S x)] (fun k=>some k≠(Value.slice (some ad2) S.length cS).ownBlock∧some k≠(Value.slice (some ad) I.length cI).ownBlock) (fun _=>False) rfl rfl ?aP (fun _ hk=>hk.elim) ?aF ?aO ?aB ?aS ?aL ?_;(case aP=>exact rfl);(case aB=>exact HI.out.hb);(case aF=>exact fun k hk=>⟨Kd.fresh' (Kd.R_lt HI.out.rs) k hk,Kd.fresh' (Kd.R_lt HI.out.ri) k hk⟩);(case aO=>exact HI.out.ro);(case aS=>exact HI.out.hb.size);(case aL=>have:=HE.out.1;have:=HK.out;have:=OK.out.1;omega);intro v1 w8 ho hb hg hat;rw[← NO.out] at ho;have J:=Za (HI.out.grow ho hb hg hat);clear ho hb hg hat)
  go_roundg (I.length - (i+1))
  case measure=>have:=HG.out;omega
  case rel=>exact⟨i+1,O1,by rw[ZL hlt (by have:=OK.out.1;omega)],⟨by omega⟩,⟨by omega⟩,HD2,J⟩
 ·obtain rfl:i=I.length:=by have:=HK.out;omega
  obtain rfl:O=r:=by
   have h:=HE.out.2
   rw[List.drop_length,List.map_nil,List.append_nil] at h
   exact h
  clear HE hlt
  go_wp2
  go_ret
  exact⟨_,rfl,Kd.R_mono HI.out.ro (fun _ _=>trivial),HI.out.hb⟩
theorem Zap.c (k:Nat) (A0_0:Option Addr) (c0_0:Nat) (l0_0:List (S39)) (A0_1:Option Addr) (c0_1:Nat) (l0_1:List (S82)) (a0_2:Int) (A1_0:Option Addr) (c1_0:Nat) (l1_0:List Int) (A1_1:Option Addr) (c1_1:Nat) (l1_1:List Int) (r:List ByteArray) (w:World) (hr0_0:Kd.C k39 w A0_0 l0_0.length l0_0) (hc0_0:l0_0.length≤c0_0) (hr0_1:Kd.C k82 w A0_1 l0_1.length l0_1) (hc0_1:l0_1.length≤c0_1) (hr1_0:Kd.C (Kd.int .i64) w A1_0 l1_0.length l1_0) (hc1_0:l1_0.length≤c1_0) (hr1_1:Kd.C (Kd.int .i64) w A1_1 l1_1.length l1_1) (hc1_1:l1_1.length≤c1_1) (ht:TW w) (h:Zap.f k l0_0 l0_1 a0_2 l1_0 l1_1=some r) :
  Calls Tryz.prog 45 #[.agg #[.slice A0_0 l0_0.length c0_0,.slice A0_1 l0_1.length c0_1,.int .i64 a0_2],.agg #[.slice A1_0 l1_0.length c1_0,.slice A1_1 l1_1.length c1_1]] w fun e w'=>∃A0_ c0_,e=.returned (.slice A0_ r.length c0_)∧Aside0 (r.length≤c0_∧Kd.C Kd.string w' A0_ r.length r)∧Below w.heap.size w w':=
 (Zap.calls k A0_0 c0_0 l0_0 A0_1 c0_1 l0_1 a0_2 A1_0 c1_0 l1_0 A1_1 c1_1 l1_1 r w hr0_0 hc0_0 hr0_1 hc0_1 hr1_0 hc1_0 hr1_1 hc1_1 ht h).mono fun e w' ⟨v0_,he,q0_,hb⟩=>by
  obtain⟨A0_,c0_,rfl,g0_⟩:=Kd.R_reads q0_
  exact⟨A0_,c0_,he,⟨g0_⟩,hb⟩
theorem nodes_open {w:World} {base:Nat} {ok:Nat→Prop} {v:Value} {xs:List S39} (h:Kd.S k39 39 w base ok v xs) (hn:0<xs.length) :
  ∃g cap cur,∃f:Nat→Nat,∃lv:Nat→Value,v=.slice (some ⟨g,0,none⟩) xs.length cap∧base≤g∧ok g∧w.heap[g]? = some (.cells cur 39 (0,0))∧xs.length≤cap∧cap≤maxLen∧cur.size=cap * 3 ∧
   (∀j,j<xs.length→cur[j * 3+1]? = some (lv j)∧Kd.R (Kd.int .i64) 3 w base (fun k=>(ok k∧k≠g)∧f k=j) (lv j) (xs.getD j z39).f1):=by
 obtain⟨f,hok,inner,⟨hlen,ho⟩,hr⟩:=h
 rw[List.length_zipIdx] at ho hlen
 rcases ho with ⟨_,h0⟩|⟨g,cap,cur,h1,h2,h3,h4,h5,h6,h7⟩
 ·omega
 subst h1
 have key:∀j,j<xs.length→∃lv,cur[j * 3+1]? = some lv∧Kd.R (Kd.int .i64) 3 w base (fun k=>(ok k∧k≠g)∧f k=j) lv (xs.getD j z39).f1:=by
  intro j hj
  have hm:=hr.2 j _ (Kd.zip_at (getD_some hj z39))
  obtain⟨v1,he,hR⟩:=Ze0 hm
  refine⟨v1,?_,Kd.R_mono hR fun k hk=>⟨⟨hk.1.1,fun e=>hk.1.2 (by rw[e];rfl)⟩,hk.2⟩⟩
  have h8:inner[j * 3+1]? = some v1:=by
   have h9:((inner.drop (j * 3)).take 3)[1]? = some v1:=by rw[show(inner.drop (j * 3)).take 3=_ from he];rfl
   rw[List.getElem?_take_of_lt (by omega),List.getElem?_drop] at h9
   exact h9
  rw[← h7,List.getElem?_take_of_lt (by show _<xs.length * 3;omega)] at h8
  simpa using h8
 refine⟨g,cap,cur,f,fun j=>if hj:j<xs.length then(key j hj).choose else .nilIface,rfl,h2,hok g rfl,h3,h4,h5,h6,fun j hj=>?_⟩
 have:=(key j hj).choose_spec
 simp only[dif_pos hj]
 exact this
structure MInv (w wr:World) (ok:Nat→Prop) (f:Nat→Nat) (g n:Nat) (cur:Array Value) (i:Nat):Prop where
 sz:w.heap.size≤wr.heap.size
 far:∀k,k<w.heap.size→k≠g→¬(ok k∧f k<i)→wr.heap[k]? = w.heap[k]?
 row:∃cur':Array Value,wr.heap[g]? = some (.cells cur' 39 (0,0))∧cur'.size=cur.size∧∀j,j<n→cur'[j * 3+1]? = cur[j * 3+1]?
theorem MInv.below {w wr w1:World} {ok:Nat→Prop} {f:Nat→Nat} {g n:Nat} {cur:Array Value} {i:Nat} (h:MInv w wr ok f g n cur i) (hb:Below wr.heap.size wr w1) (hg:g<w.heap.size):MInv w w1 ok f g n cur i:=by
 obtain⟨cur',h1,h2,h3⟩:=h.row
 refine⟨Nat.le_trans h.sz hb.size,fun k hk hkg hn=>(hb.block k (Nat.lt_of_lt_of_le hk h.sz)).trans (h.far k hk hkg hn),cur',?_,h2,h3⟩
 rw[hb.block g (Nat.lt_of_lt_of_le hg h.sz)];exact h1
theorem markNodeS_k (w0 w:World) (ok:Nat→Prop) (v:Value) (xs:List S39) (hB:Below w0.heap.size w0 w) (hs:Kd.S k39 39 w w0.heap.size ok v xs) (hxs:∀x∈xs,x.f1.length≤1048576) (hl:xs.length≤1048576) (a:Int) (h0:0≤a) (h1:a≤1125899906842624) :
  Calls Tryz.prog 64 #[v,.int .i64 a] w fun e w'=>∃r:Int,e=.returned (.int .i64 r)∧Aside0 (0≤r∧r≤a+xs.length * 2097152)∧Below w0.heap.size w0 w'∧Kept w w' ok:=by
 by_cases hn:0<xs.length
 case neg=>
  obtain rfl:xs=[]:=List.eq_nil_of_length_eq_zero (by omega)
  obtain⟨A,c,rfl⟩:=Kd.S_slice hs
  have HB:=Za hB
  have HA:=Za (And.intro h0 h1)
  clear hB hs hxs hl h0 h1 hn
  go_enter Tryz.func64,Tryz.ntmps64
  go_wp2
  go_loopg [1,5] 1 (fun gg s1 s5 wr=>s1=.int .i64 a∧s5=.int .i64 0∧Aside0 (wr=w))
  case atStart=>exact⟨rfl,rfl,⟨rfl⟩⟩
  case round=>
   obtain⟨rfl,rfl,hw⟩:=hrel
   obtain rfl:=hw.out
   go_wp2
   go_ret
   exact⟨a,rfl,⟨by have:=HA.out;simp;omega⟩,HB.out,Kept.refl _ _⟩
 obtain⟨g,cap,cur,f,lv,rfl,hbg,hok,hg,hcap,hmax,hsz,hlab⟩:=nodes_open hs hn
 have hbound:∀k,ok k→w0.heap.size≤k∨True:=fun _ _=>.inr trivial
 have hlt:=ZK hg
 have HB:=Za hB;have HOK:=Za hok;have HG:=Za hg;have HBG:=Za hbg;have HLAB:=Za hlab;have HXS:=Za hxs;have HSZ:=Za hsz;have HM:=Za hmax
 obtain⟨n,hnx⟩:∃n,n=xs.length:=⟨_,rfl⟩
 rw[← hnx] at HLAB hcap hn hl
 have HNX:=Za hnx;clear hB hok hg hbg hlab hxs hsz hs hmax hbound
 rw[← hnx]
 clear hnx
 go_enter Tryz.func64,Tryz.ntmps64
 go_wp2
 go_loopg [1,5] n (fun gg s1 s5 wr=>∃kk:Nat,∃b:Int,Aside0 (kk≤n)∧Aside0 (n - kk≤gg)∧s1=.int .i64 b∧s5=.int .i64 kk∧Aside0 (0≤b∧b≤a+kk * 2097152)∧Aside0 (Below w0.heap.size w0 wr)∧Aside0 (MInv w wr ok f g n cur kk))
 case atStart=>exact⟨0,a,⟨Nat.zero_le _⟩,⟨by omega⟩,rfl,rfl,⟨by omega⟩,HB,⟨⟨Nat.le_refl _,fun _ _ _ _=>rfl,cur,HG.out,rfl,fun _ _=>rfl⟩⟩⟩
 case round=>
  obtain⟨kk,b,HK,HGG,rfl,rfl,HBD,HBr,HI⟩:=hrel
  by_cases hlt2:kk<n
  ·have hltz:(kk:Int)<(n:Int):=by omega
   have hbd:=HBD.out
   obtain⟨rt,hrt⟩:=markText_f b hbd.1 (by omega) (2 ^ 64) (Nat.le_refl _)
   have HRT:=Za hrt;clear hrt
   go_wp2_with fail
   refine(Z4.calls (2 ^ 64) b rt _ HRT.out).mono ?_
   rintro e w1 ⟨rfl,hb⟩
   have HI1:=Za (HI.out.below hb hlt)
   have HB1:=Za (HBr.out.trans (hb.mono HBr.out.size))
   clear hb
   obtain⟨cur1,hr1,hz1,hc1⟩:=HI1.out.row
   have hin:kk * 3+2<cur1.size:=by have:=HSZ.out;omega
   obtain⟨hlv,hR⟩:=HLAB.out kk hlt2
   obtain⟨Al,cl,el⟩:=Kd.R_slice hR
   have q1:w1.cell? ⟨g,kk * 3+1,none⟩=some (.slice Al (xs.getD kk z39).f1.length cl):=by
    rw[Zn hr1,hc1 kk hlt2,hlv,el]
   have f0:=Zt hr1 (kk * 3)
   have q0:=Zn hr1 (kk * 3)
   obtain⟨u0,hu0⟩:∃u,cur1[kk * 3]? = some u:=⟨_,Array.getElem?_eq_getElem (by omega)⟩
   rw[hu0] at q0
   rw[el] at hR
   have HR:=Za hR;have HR1:=Za hr1;have HC1:=Za hc1;have HZ1:=Za hz1
   have hlx:(xs.getD kk z39).f1.length≤1048576:=HXS.out _ (ZaG (by have:=HNX.out;omega) _)
   have HRL:=Za hR.1
   generalize hlab':(xs.getD kk z39).f1=lb at q1 HR hlx
   clear hlv hR el hr1 hc1 hz1 hlab' HRL
   have HMK:=Za (Zew lb hlx (b+1) (by omega) (by omega) (2 ^ 64) (Nat.le_refl _))
   go_wp2_with fail
   refine(Zad.calls (2 ^ 64) (fun k=>(ok k∧k≠g)∧f k=kk) _ lb (b+1) _ _ w0 _ ?hb ?hr HMK.out).mono ?_
   case hb=>exact Zs HB1.out HBG.out
   case hr=>exact Kd.R_step HR.out fun k hk hlt3=>(Below.heap_setCell w1 _ _ k hk.1.2).trans (HI1.out.far k hlt3 hk.1.2 (by rintro⟨_,h9⟩;have:=hk.2;omega))
   rintro e w2 ⟨rfl,_,hb2,hk2⟩
   have hr2:w2.heap[g]? = some (.cells (cur1.setIfInBounds (kk * 3) (.string rt)) 39 (0,0)):=Zfy (ZW HR1.out (kk * 3) (.string rt) rfl) hk2 (fun h9=>h9.1.2 rfl)
   have f2:=Zt hr2 (kk * 3+2)
   have q2:=Zn hr2 (kk * 3+2)
   obtain⟨u2,hu2⟩:∃u,(cur1.setIfInBounds (kk * 3) (.string rt))[kk * 3+2]? = some u:=⟨_,Array.getElem?_eq_getElem (by simp;omega)⟩
   rw[hu2] at q2
   have HR2:=Za hr2;have HB2:=Za hb2;have HK2:=Za hk2;clear hr2 hb2 hk2 hu2 hu0 f0 q0 q1
   have hw1:IntKind.i64.wrap (b+1+lb.length+1)=b+1+lb.length+1:=by simp[IntKind.wrap,IntKind.signed,IntKind.bits];omega
   have hw2:wrap64 (b+1+lb.length+1)=b+1+lb.length+1:=Zay (by omega) (by omega)
   go_wp2
   go_roundg (n - (kk+1))
   case measure=>have:=HGG.out;omega
   case rel=>
    refine⟨kk+1,b+1+lb.length+1,⟨by omega⟩,⟨by omega⟩,by first|rfl|go_num,by go_num,⟨by omega⟩,⟨Zs HB2.out HBG.out⟩,⟨?_,?_,?_⟩⟩
    ·have h9:=HK2.out.1
     have h8:=HI1.out.sz
     simp[World.setCell] at h9 ⊢
     omega
    ·intro k hk hkg hn9
     have hk8:k<w1.heap.size:=Nat.lt_of_lt_of_le hk HI1.out.sz
     rw[Below.heap_setCell w2 _ _ k hkg,HK2.out.2 k (by simpa [World.setCell] using hk8) (fun h7=>hn9 ⟨h7.1.1,by have:=h7.2;omega⟩),Below.heap_setCell w1 _ _ k hkg]
     exact HI1.out.far k hk hkg (fun h7=>hn9 ⟨h7.1,by have:=h7.2;omega⟩)
    ·refine⟨_,ZW HR2.out (kk * 3+2) _ rfl,by simpa using HZ1.out,fun j hj=>?_⟩
     rw[Array.getElem?_setIfInBounds_ne (by omega),Array.getElem?_setIfInBounds_ne (by omega)]
     exact HC1.out j hj
  ·have hltz:¬(kk:Int)<(n:Int):=by omega
   have:kk=n:=by have:=HK.out;omega
   subst this
   go_wp2
   go_ret
   refine⟨b,rfl,⟨by have:=HBD.out;have:=HNX.out;omega⟩,HBr.out,HI.out.sz,fun k hk hn9=>HI.out.far k hk (fun e=>hn9 (e ▸ HOK.out)) (fun h7=>hn9 h7.1)⟩
theorem markShow_k (w0 w:World) (b:Nat) (v0 v1:Value) (ns:List S39) (ts:List S82) (z:Int) (hB:Below w0.heap.size w0 w) (hs:Kd.S k39 39 w w0.heap.size (fun k=>k<b) v0 ns) (ht:Kd.R k82 82 w w0.heap.size (fun k=>k<b) v1 ts)
  (hxs:∀x∈ns,x.f1.length≤1048576) (hl:ns.length≤1048576) (hl2:ts.length≤1048576) (a:Int) (h0:0≤a) (h1:a≤562949953421312) :
  Calls Tryz.prog 14 #[.agg #[v0,v1,.int .i64 z],.int .i64 a] w fun e w'=>∃r:Int,e=.returned (.int .i64 r)∧Aside0 (0≤r∧r≤a+4398046511104)∧Below w0.heap.size w0 w'∧Kept w w' (fun k=>k<b):=by
 obtain⟨A0,c0,e0⟩:=Kd.S_slice hs
 obtain⟨A1,c1,e1⟩:=Kd.R_slice ht
 have hty:=Kd.R_typed ht
 have hs2:=Kd.S_bound (Kd.S_apart' hs hty (by decide))
 have hbox:∀k,(((k<b∧some k≠v1.ownBlock)∧w0.heap.size≤k∧k<w.heap.size∧∃q,q∈39 :: Kd.E k39∧∃cells,w.heap[k]? = some (.cells cells q (0,0))))→k<b∧some k≠v1.ownBlock∧k<w.heap.size:=fun k hk=>⟨hk.1.1,hk.1.2,hk.2.2.1⟩
 have HS:=Za (Kd.S_mono hs2 hbox)
 have HT:=Za (Kd.R_tight (by rfl) ht)
 have HTB:=Za fun k (hk:v1.ownBlock=some k)=>ht.1 k hk
 have HTL:=Za (Kd.R_lt ht)
 have HB:=Za hB;have HXS:=Za hxs
 have hu:=Tryz.underlying25
 subst e0;subst e1
 have hsz:=hB.size
 clear hs ht hs2 hty hbox hB hxs
 have HC1:=Za fun (W:World) (hb:Below w.heap.size w W)=>markNodeS_k w0 W _ _ ns (HB.out.trans (hb.mono hsz)) (Kd.S_below HS.out hb) HXS.out hl a h0 (by omega)
 have B1:=Za (Zo (Below.refl w.heap.size w) (.cells #[.slice A0 ns.length c0,.slice A1 ts.length c1,.int .i64 z] 25))
 go_enter Tryz.func14,Tryz.ntmps14
 go_wp2_with fail
 refine(HC1.out _ B1.out).mono ?_
 rintro e w1 ⟨r1,rfl,HR1,hb1,hk1⟩
 have s1:w1.cell? ⟨w.heap.size,1,none⟩=some (.slice A1 ts.length c1):=ZcH (W:=w.alloc _) (by go_simp) hk1 (by simp)
 have hkk:Kept w w1 (fun k=>k<b):=(Kept.of_below B1.out _).then_ hk1 (fun k hk=>.inl hk.1)
 have hr1:=HR1.out
 obtain⟨l2,hf⟩:=markTieS_f ts hl2 r1 hr1.1 (by omega) (2 ^ 64) (Nat.le_refl _)
 have HF:=Za hf
 have HT2:=Za (Kd.R_kept (Kd.R_below HT.out B1.out) hk1 (fun k hk h2=>h2.2.1 hk))
 have HB1:=Za hb1;have HKK:=Za hkk;clear hb1 hk1 hf hkk
 go_wp2_with fail
 refine(Zam.calls (2 ^ 64) (fun k=>some k=(Value.slice A1 ts.length c1).ownBlock) _ ts r1 _ _ w0 _ HB1.out HT2.out HF.out).mono ?_
 rintro e w2 ⟨rfl,_,hb2,hk2⟩
 have HB2:=Za hb2
 have HK2:=Za (HKK.out.then_ hk2 (fun k hk=>.inl (HTB.out k hk.symm)))
 clear hb2 hk2 s1
 go_wp2
 go_ret
 exact⟨_,rfl,⟨by have:=HR1.out;omega⟩,HB2.out,HK2.out⟩
def ZaY.f (l0:List Int) (a1:Int):Option (Int):=if (wrap64 (a1 - (l0.length:Int)))<0 then(some (-1)) else(some (wrap64 (a1 - (l0.length:Int))))
theorem ZaY.calls (A0:Option Addr) (c0:Nat) (l0:List Int) (a1:Int) (r:Int) (w:World) (hr0:Kd.C (Kd.int .i64) w A0 l0.length l0) (hc0:l0.length≤c0) (h:ZaY.f l0 a1=some r) :
  Calls Tryz.prog 93 #[.slice A0 l0.length c0,.int .i64 a1] w fun e w'=>e=.returned (.int .i64 r)∧ZF w w':=by
 have HR0:=Za hr0;have HC0:=Za hc0;clear hr0 hc0
 have H:(if (wrap64 (a1 - (l0.length:Int)))<0 then(some (-1)) else(some (wrap64 (a1 - (l0.length:Int)))))=some r:=h
 clear h
 by_cases c3:(wrap64 (a1 - (l0.length:Int)))<0
 ·rw[if_pos c3] at H
  have c3b0:decide ((wrap64 (a1 - (l0.length:Int)))<0)=true:=Ze c3
  clear c3
  obtain rfl:=Zg H
  go_enter Tryz.func93,Tryz.ntmps93
  go_wp2
  go_ret
  exact⟨by first|rfl|(simp;done)|(simp[*];done),by repeat(first|exact ZF.refl _|apply ZF.step)⟩
 ·rw[if_neg c3] at H
  have c3b0:decide ((wrap64 (a1 - (l0.length:Int)))<0)=false:=Zf c3
  clear c3
  obtain rfl:=Zg H
  go_enter Tryz.func93,Tryz.ntmps93
  go_wp2
  go_ret
  exact⟨by first|rfl|(simp;done)|(simp[*];done),by repeat(first|exact ZF.refl _|apply ZF.step)⟩
def Zcz.f (a0_0:ByteArray) (l0_1:List Int) (a0_2:Int) (a1:Int):Option (Int):=if (wrap64 (a1 - (a0_0.size:Int)))<0 then(some (-1)) else((ZaY.f l0_1 (wrap64 (a1 - (a0_0.size:Int)))).bind fun t2=>(if t2<0 then(some (-1)) else(some t2)))
theorem Zcz.calls (a0_0:ByteArray) (A0_1:Option Addr) (c0_1:Nat) (l0_1:List Int) (a0_2:Int) (a1:Int) (r:Int) (w:World) (hr0_1:Kd.C (Kd.int .i64) w A0_1 l0_1.length l0_1) (hc0_1:l0_1.length≤c0_1) (h:Zcz.f a0_0 l0_1 a0_2 a1=some r) :
  Calls Tryz.prog 155 #[.agg #[.string a0_0,.slice A0_1 l0_1.length c0_1,.int .i64 a0_2],.int .i64 a1] w fun e w'=>e=.returned (.int .i64 r)∧Below w.heap.size w w':=by
 have hu143:=Tryz.underlying143
 have HR0_1:=Za hr0_1;have HC0_1:=Za hc0_1;clear hr0_1 hc0_1
 have HB:=Za (Below.refl w.heap.size w)
 have H:(if (wrap64 (a1 - (a0_0.size:Int)))<0 then(some (-1)) else((ZaY.f l0_1 (wrap64 (a1 - (a0_0.size:Int)))).bind fun t2=>(if t2<0 then(some (-1)) else(some t2))))=some r:=h
 clear h
 by_cases c3:(wrap64 (a1 - (a0_0.size:Int)))<0
 ·rw[if_pos c3] at H
  have c3b0:decide ((wrap64 (a1 - (a0_0.size:Int)))<0)=true:=Ze c3
  clear c3
  obtain rfl:=Zg H
  go_enter Tryz.func155,Tryz.ntmps155
  go_wp2_with (first|((with_reducible refine ZG (N:=2) rfl ?_);refine ZH ?hg (N:=2) ?hd (cs:=#[.string a0_0,.slice A0_1 l0_1.length c0_1,.int .i64 a0_2]) (t:=143) ?hr ?_;(case hd=>rfl);(case hg=>rfl);(case hr=>first|(go_simp;done)|(go_simp;rfl));intro gb1 hg w4 hbox hb;have BK1:=Za (hbox);have GW1:=Za ((by rw[hg];exact(Zv (by repeat(first|(with_reducible first|exact HB.out|apply Zo|apply Zm|apply Zp)|exact HB.out))):w.heap.size≤gb1));have GE1:=Za ((by rw[hg];exact(Zv (by repeat(first|(with_reducible first|exact HB.out|apply Zo|apply Zm|apply Zp)|exact HB.out))):w.heap.size≤gb1));replace HB:=Za (Zq (by repeat(first|(with_reducible first|exact HB.out|apply Zo|apply Zm|apply Zp)|exact HB.out)) hb);clear hb hbox hg;have hcz5_0:w4.cell? ⟨gb1,0,none⟩=some (.string a0_0):=(Zn BK1.out 0).trans rfl;have hcz5_1:w4.cell? ⟨gb1,1,none⟩=some (.slice A0_1 l0_1.length c0_1):=(Zn BK1.out 1).trans rfl;have hcz5_2:w4.cell? ⟨gb1,2,none⟩=some (.int .i64 a0_2):=(Zn BK1.out 2).trans rfl))
  go_ret
  exact⟨by first|rfl|(simp[ZB,ZA] <;> rfl)|(simp[*,ZB,ZA] <;> rfl),by repeat(first|(with_reducible first|exact HB.out|apply Zo|apply Zm|apply Zp|refine Zs ?_ GE1.out)|exact HB.out)⟩
 ·rw[if_neg c3] at H
  have c3b0:decide ((wrap64 (a1 - (a0_0.size:Int)))<0)=false:=Zf c3
  clear c3
  replace H:=Zh H
  obtain⟨t2,A60,H⟩:=H
  replace H:(if t2<0 then(some (-1)) else(some t2))=some r:=H
  have A6:=Za A60;clear A60
  by_cases c7:t2<0
  ·rw[if_pos c7] at H
   have c7b0:decide (t2<0)=true:=Ze c7
   clear c7
   obtain rfl:=Zg H
   go_enter Tryz.func155,Tryz.ntmps155
   go_wp2_with (first|((with_reducible refine ZG (N:=2) rfl ?_);refine ZH ?hg (N:=2) ?hd (cs:=#[.string a0_0,.slice A0_1 l0_1.length c0_1,.int .i64 a0_2]) (t:=143) ?hr ?_;(case hd=>rfl);(case hg=>rfl);(case hr=>first|(go_simp;done)|(go_simp;rfl));intro gb1 hg w8 hbox hb;have BK1:=Za (hbox);have GW1:=Za ((by rw[hg];exact(Zv (by repeat(first|(with_reducible first|exact HB.out|apply Zo|apply Zm|apply Zp)|exact HB.out))):w.heap.size≤gb1));have GE1:=Za ((by rw[hg];exact(Zv (by repeat(first|(with_reducible first|exact HB.out|apply Zo|apply Zm|apply Zp)|exact HB.out))):w.heap.size≤gb1));replace HB:=Za (Zq (by repeat(first|(with_reducible first|exact HB.out|apply Zo|apply Zm|apply Zp)|exact HB.out)) hb);clear hb hbox hg;have hcz9_0:w8.cell? ⟨gb1,0,none⟩=some (.string a0_0):=(Zn BK1.out 0).trans rfl;have hcz9_1:w8.cell? ⟨gb1,1,none⟩=some (.slice A0_1 l0_1.length c0_1):=(Zn BK1.out 1).trans rfl;have hcz9_2:w8.cell? ⟨gb1,2,none⟩=some (.int .i64 a0_2):=(Zn BK1.out 2).trans rfl)|((with_reducible refine ZJ (f:=93) rfl ?_);refine ZY (some 15) rfl rfl Tryz.func93 (by kernel_rfl) rfl #[.slice A0_1 l0_1.length c0_1,.int .i64 (wrap64 (a1 - (a0_0.size:Int)))] rfl (by(try simp only[List.map_toArray,List.map_cons,List.map_nil]);first|done|rfl|(simp only[Zk,Zj];rfl)) ?_;(with_reducible refine(ZaY.calls _ _ l0_1 (wrap64 (a1 - (a0_0.size:Int))) t2 _ ?side1 ?side2 A6.out).mono ?_);(case side1=>repeat(first|exact(Zb HR0_1.out HB.out)|(with_reducible refine Kd.C_alloc ?_ _)|(with_reducible refine Kd.C_drewN ?_ _)|(with_reducible refine Kd.C_drew ?_)));(case side2=>exact HC0_1.out);rintro e w' ⟨rfl,⟨nd,rfl⟩⟩;refine⟨_,rfl,?_⟩))
   go_ret
   exact⟨by first|rfl|(simp[ZB,ZA] <;> rfl)|(simp[*,ZB,ZA] <;> rfl),by repeat(first|(with_reducible first|exact HB.out|apply Zo|apply Zm|apply Zp|refine Zs ?_ GE1.out)|exact HB.out)⟩
  ·rw[if_neg c7] at H
   have c7b0:decide (t2<0)=false:=Zf c7
   clear c7
   obtain rfl:=Zg H
   go_enter Tryz.func155,Tryz.ntmps155
   go_wp2_with (first|((with_reducible refine ZG (N:=2) rfl ?_);refine ZH ?hg (N:=2) ?hd (cs:=#[.string a0_0,.slice A0_1 l0_1.length c0_1,.int .i64 a0_2]) (t:=143) ?hr ?_;(case hd=>rfl);(case hg=>rfl);(case hr=>first|(go_simp;done)|(go_simp;rfl));intro gb1 hg w10 hbox hb;have BK1:=Za (hbox);have GW1:=Za ((by rw[hg];exact(Zv (by repeat(first|(with_reducible first|exact HB.out|apply Zo|apply Zm|apply Zp)|exact HB.out))):w.heap.size≤gb1));have GE1:=Za ((by rw[hg];exact(Zv (by repeat(first|(with_reducible first|exact HB.out|apply Zo|apply Zm|apply Zp)|exact HB.out))):w.heap.size≤gb1));replace HB:=Za (Zq (by repeat(first|(with_reducible first|exact HB.out|apply Zo|apply Zm|apply Zp)|exact HB.out)) hb);clear hb hbox hg;have hcz11_0:w10.cell? ⟨gb1,0,none⟩=some (.string a0_0):=(Zn BK1.out 0).trans rfl;have hcz11_1:w10.cell? ⟨gb1,1,none⟩=some (.slice A0_1 l0_1.length c0_1):=(Zn BK1.out 1).trans rfl;have hcz11_2:w10.cell? ⟨gb1,2,none⟩=some (.int .i64 a0_2):=(Zn BK1.out 2).trans rfl)|((with_reducible refine ZJ (f:=93) rfl ?_);refine ZY (some 15) rfl rfl Tryz.func93 (by kernel_rfl) rfl #[.slice A0_1 l0_1.length c0_1,.int .i64 (wrap64 (a1 - (a0_0.size:Int)))] rfl (by(try simp only[List.map_toArray,List.map_cons,List.map_nil]);first|done|rfl|(simp only[Zk,Zj];rfl)) ?_;(with_reducible refine(ZaY.calls _ _ l0_1 (wrap64 (a1 - (a0_0.size:Int))) t2 _ ?side1 ?side2 A6.out).mono ?_);(case side1=>repeat(first|exact(Zb HR0_1.out HB.out)|(with_reducible refine Kd.C_alloc ?_ _)|(with_reducible refine Kd.C_drewN ?_ _)|(with_reducible refine Kd.C_drew ?_)));(case side2=>exact HC0_1.out);rintro e w' ⟨rfl,⟨nd,rfl⟩⟩;refine⟨_,rfl,?_⟩))
   go_ret
   exact⟨by first|rfl|(simp[ZB,ZA] <;> rfl)|(simp[*,ZB,ZA] <;> rfl),by repeat(first|(with_reducible first|exact HB.out|apply Zo|apply Zm|apply Zp|refine Zs ?_ GE1.out)|exact HB.out)⟩
def ZaF.l0:Nat→List (S143)→Int→Int→Option (Int)
 | 0,_,_,_=>none
 | k+1,x0,x1,x5=>if x5<(x0.length:Int) then(if 0≤x5 then((Zcz.f ((ZaJ x0 x5).f0) ((ZaJ x0 x5).f1) ((ZaJ x0 x5).f2) x1).bind fun t2=>(if t2<0 then(some (-1)) else(ZaF.l0 k x0 t2 (wrap64 (x5+1))))) else(none)) else(some x1)
def ZaF.f (k:Nat) (l0:List (S143)) (a1:Int):Option (Int):=if (wrap64 (a1 - (l0.length:Int)))<0 then(some (-1)) else(ZaF.l0 k l0 (wrap64 (a1 - (l0.length:Int))) 0)
theorem ZaF.calls (k:Nat) (A0:Option Addr) (c0:Nat) (l0:List (S143)) (a1:Int) (r:Int) (w:World) (hr0:Kd.C k143 w A0 l0.length l0) (hc0:l0.length≤c0) (h:ZaF.f k l0 a1=some r) :
  Calls Tryz.prog 91 #[.slice A0 l0.length c0,.int .i64 a1] w fun e w'=>e=.returned (.int .i64 r)∧Below w.heap.size w w':=by
 have hu143:=Tryz.underlying143
 have HR0:=Za hr0;have HC0:=Za hc0;clear hr0 hc0
 have HB:=Za (Below.refl w.heap.size w)
 have H:(if (wrap64 (a1 - (l0.length:Int)))<0 then(some (-1)) else(ZaF.l0 k l0 (wrap64 (a1 - (l0.length:Int))) 0))=some r:=h
 clear h
 by_cases c3:(wrap64 (a1 - (l0.length:Int)))<0
 ·rw[if_pos c3] at H
  have c3b0:decide ((wrap64 (a1 - (l0.length:Int)))<0)=true:=Ze c3
  clear c3
  obtain rfl:=Zg H
  go_enter Tryz.func91,Tryz.ntmps91
  go_wp2
  go_ret
  exact⟨by first|rfl|(simp[ZB,ZA] <;> rfl)|(simp[*,ZB,ZA] <;> rfl),by repeat(first|(with_reducible first|exact HB.out|apply Zo|apply Zm|apply Zp)|exact HB.out)⟩
 ·rw[if_neg c3] at H
  have c3b0:decide ((wrap64 (a1 - (l0.length:Int)))<0)=false:=Zf c3
  clear c3
  have H':=Za H
  clear H
  go_enter Tryz.func91,Tryz.ntmps91
  go_wp2
  go_loopg [1,5] k (fun kq v1 v5 w'=>∃(x1_1:Int) (x5_1:Int),v1=.int .i64 x1_1∧v5=.int .i64 x5_1∧Aside0 (ZaF.l0 kq l0 x1_1 x5_1=some r)∧Aside0 (kq≤k)∧Aside0 (Below w.heap.size w w'))
  case atStart=>exact⟨(wrap64 (a1 - (l0.length:Int))),(0),(by first|rfl|(simp;done)|(simp[*];done)),(by first|rfl|(simp;done)|(simp[*];done)),H',⟨Nat.le_refl _⟩,⟨by repeat(first|(with_reducible first|exact HB.out|apply Zo|apply Zm|apply Zp)|exact HB.out)⟩⟩
  case round=>
   clear H'
   try clear p2
   try clear c3
   try clear c3b0
   obtain⟨x1_1,x5_1,rfl,rfl,HA,HK1,HB⟩:=hrel
   cases gk with
   | zero=>exact absurd HA.out (by simp[ZaF.l0])
   | succ k1=>
    have H:=HA.out
    clear HA
    simp only[ZaF.l0] at H
    by_cases c4:x5_1<(l0.length:Int)
    ·rw[if_pos c4] at H
     have c4b0:decide (x5_1<(l0.length:Int))=true:=Ze c4
     clear c4
     by_cases c5:0≤x5_1
     ·rw[if_pos c5] at H
      have c5b0:decide (0≤x5_1)=true:=Ze c5
      clear c5
      replace H:=Zh H
      obtain⟨t2,A60,H⟩:=H;have A6:=Za A60;clear A60
      by_cases c7:t2<0
      ·rw[if_pos c7] at H
       have c7b0:decide (t2<0)=true:=Ze c7
       clear c7
       obtain rfl:=Zg H
       have p1:0≤(x5_1:Int):=Zd (by first|(with_reducible assumption)|assumption)
       have q1:x5_1<(l0.length:Int):=Zd (by first|(with_reducible assumption)|assumption)
       obtain⟨ad1,A1_1,c1_1,e1,hx1_0,hx1_1,hx1_2,hl1_1,hi1_1⟩:=at_T143 HR0.out x5_1 p1 q1
       cases e1
       replace hx1_0:=(HB.out.cell (Zc w _ hx1_0)).trans hx1_0
       replace hx1_1:=(HB.out.cell (Zc w _ hx1_1)).trans hx1_1
       replace hx1_2:=(HB.out.cell (Zc w _ hx1_2)).trans hx1_2
       have HR1_1:=Za hi1_1;have HC1_1:=Za hl1_1;clear hi1_1 hl1_1
       replace p1:=eq_true p1
       replace q1:=eq_true q1
       go_wp2_with (first|((with_reducible refine ZJ (f:=155) rfl ?_);refine ZY (some 23) rfl rfl Tryz.func155 (by kernel_rfl) rfl #[.agg #[.string ((ZaJ l0 x5_1).f0),.slice A1_1 ((ZaJ l0 x5_1).f1).length c1_1,.int .i64 ((ZaJ l0 x5_1).f2)],.int .i64 x1_1] rfl (by(try simp only[List.map_toArray,List.map_cons,List.map_nil]);first|done|rfl|(simp only[Zk,Zj];rfl)) ?_;(with_reducible refine(Zcz.calls ((ZaJ l0 x5_1).f0) _ _ ((ZaJ l0 x5_1).f1) ((ZaJ l0 x5_1).f2) x1_1 t2 _ ?side1 ?side2 A6.out).mono ?_);(case side1=>repeat(first|exact(Zb HR1_1.out HB.out)|(with_reducible refine Kd.C_alloc ?_ _)|(with_reducible refine Kd.C_drewN ?_ _)|(with_reducible refine Kd.C_drew ?_)));(case side2=>exact HC1_1.out);rintro e w8 ⟨rfl,hb⟩;refine⟨_,rfl,?_⟩;replace HB:=Za (Zq (by repeat(first|(with_reducible first|exact HB.out|apply Zo|apply Zm|apply Zp)|exact HB.out)) hb);(try clear hi)))
       go_ret
       exact⟨by first|rfl|(simp[ZB,ZA] <;> rfl)|(simp[*,ZB,ZA] <;> rfl),by repeat(first|(with_reducible first|exact HB.out|apply Zo|apply Zm|apply Zp)|exact HB.out)⟩
      ·rw[if_neg c7] at H
       have c7b0:decide (t2<0)=false:=Zf c7
       clear c7
       have H':=Za H
       clear H
       have p1:0≤(x5_1:Int):=Zd (by first|(with_reducible assumption)|assumption)
       have q1:x5_1<(l0.length:Int):=Zd (by first|(with_reducible assumption)|assumption)
       obtain⟨ad1,A1_1,c1_1,e1,hx1_0,hx1_1,hx1_2,hl1_1,hi1_1⟩:=at_T143 HR0.out x5_1 p1 q1
       cases e1
       replace hx1_0:=(HB.out.cell (Zc w _ hx1_0)).trans hx1_0
       replace hx1_1:=(HB.out.cell (Zc w _ hx1_1)).trans hx1_1
       replace hx1_2:=(HB.out.cell (Zc w _ hx1_2)).trans hx1_2
       have HR1_1:=Za hi1_1;have HC1_1:=Za hl1_1;clear hi1_1 hl1_1
       replace p1:=eq_true p1
       replace q1:=eq_true q1
       go_wp2_with (first|((with_reducible refine ZJ (f:=155) rfl ?_);refine ZY (some 23) rfl rfl Tryz.func155 (by kernel_rfl) rfl #[.agg #[.string ((ZaJ l0 x5_1).f0),.slice A1_1 ((ZaJ l0 x5_1).f1).length c1_1,.int .i64 ((ZaJ l0 x5_1).f2)],.int .i64 x1_1] rfl (by(try simp only[List.map_toArray,List.map_cons,List.map_nil]);first|done|rfl|(simp only[Zk,Zj];rfl)) ?_;(with_reducible refine(Zcz.calls ((ZaJ l0 x5_1).f0) _ _ ((ZaJ l0 x5_1).f1) ((ZaJ l0 x5_1).f2) x1_1 t2 _ ?side1 ?side2 A6.out).mono ?_);(case side1=>repeat(first|exact(Zb HR1_1.out HB.out)|(with_reducible refine Kd.C_alloc ?_ _)|(with_reducible refine Kd.C_drewN ?_ _)|(with_reducible refine Kd.C_drew ?_)));(case side2=>exact HC1_1.out);rintro e w9 ⟨rfl,hb⟩;refine⟨_,rfl,?_⟩;replace HB:=Za (Zq (by repeat(first|(with_reducible first|exact HB.out|apply Zo|apply Zm|apply Zp)|exact HB.out)) hb);(try clear hi)))
       go_roundg k1
       case measure=>have:=HK1.out;omega
       case rel=>exact⟨(t2),(wrap64 (x5_1+1)),(by first|rfl|(simp;done)|(simp[*];done)),(by first|rfl|(simp;done)|(simp[*];done)),H',⟨by have:=HK1.out;omega⟩,⟨by repeat(first|(with_reducible first|exact HB.out|apply Zo|apply Zm|apply Zp)|exact HB.out)⟩⟩
     ·rw[if_neg c5] at H
      exact absurd H (by simp)
    ·rw[if_neg c4] at H
     have c4b0:decide (x5_1<(l0.length:Int))=false:=Zf c4
     clear c4
     obtain rfl:=Zg H
     go_wp2
     go_ret
     exact⟨by first|rfl|(simp[ZB,ZA] <;> rfl)|(simp[*,ZB,ZA] <;> rfl),by repeat(first|(with_reducible first|exact HB.out|apply Zo|apply Zm|apply Zp)|exact HB.out)⟩
def Zcy.f (l0:List (S147)) (a1:Int):Option (Int):=if (wrap64 (a1 - (l0.length:Int)))<0 then(some (-1)) else(some (wrap64 (a1 - (l0.length:Int))))
theorem Zcy.calls (A0:Option Addr) (c0:Nat) (l0:List (S147)) (a1:Int) (r:Int) (w:World) (hr0:Kd.C k147 w A0 l0.length l0) (hc0:l0.length≤c0) (h:Zcy.f l0 a1=some r) :
  Calls Tryz.prog 92 #[.slice A0 l0.length c0,.int .i64 a1] w fun e w'=>e=.returned (.int .i64 r)∧ZF w w':=by
 have HR0:=Za hr0;have HC0:=Za hc0;clear hr0 hc0
 have H:(if (wrap64 (a1 - (l0.length:Int)))<0 then(some (-1)) else(some (wrap64 (a1 - (l0.length:Int)))))=some r:=h
 clear h
 by_cases c3:(wrap64 (a1 - (l0.length:Int)))<0
 ·rw[if_pos c3] at H
  have c3b0:decide ((wrap64 (a1 - (l0.length:Int)))<0)=true:=Ze c3
  clear c3
  obtain rfl:=Zg H
  go_enter Tryz.func92,Tryz.ntmps92
  go_wp2
  go_ret
  exact⟨by first|rfl|(simp;done)|(simp[*];done),by repeat(first|exact ZF.refl _|apply ZF.step)⟩
 ·rw[if_neg c3] at H
  have c3b0:decide ((wrap64 (a1 - (l0.length:Int)))<0)=false:=Zf c3
  clear c3
  obtain rfl:=Zg H
  go_enter Tryz.func92,Tryz.ntmps92
  go_wp2
  go_ret
  exact⟨by first|rfl|(simp;done)|(simp[*];done),by repeat(first|exact ZF.refl _|apply ZF.step)⟩
def Zce.f (k:Nat) (l0_0:List (S143)) (l0_1:List (S147)) (a0_2:Int) (a1:Int):Option (Int):=(ZaF.f k l0_0 a1).bind fun t2=>(if t2<0 then(some (-1)) else((Zcy.f l0_1 t2).bind fun t3=>(if t3<0 then(some (-1)) else(some t3))))
theorem Zce.calls (k:Nat) (A0_0:Option Addr) (c0_0:Nat) (l0_0:List (S143)) (A0_1:Option Addr) (c0_1:Nat) (l0_1:List (S147)) (a0_2:Int) (a1:Int) (r:Int) (w:World) (hr0_0:Kd.C k143 w A0_0 l0_0.length l0_0) (hc0_0:l0_0.length≤c0_0) (hr0_1:Kd.C k147 w A0_1 l0_1.length l0_1) (hc0_1:l0_1.length≤c0_1) (h:Zce.f k l0_0 l0_1 a0_2 a1=some r) :
  Calls Tryz.prog 27 #[.agg #[.slice A0_0 l0_0.length c0_0,.slice A0_1 l0_1.length c0_1,.int .i64 a0_2],.int .i64 a1] w fun e w'=>e=.returned (.int .i64 r)∧Below w.heap.size w w':=by
 have hu47:=Tryz.underlying47
 have HR0_0:=Za hr0_0;have HC0_0:=Za hc0_0;clear hr0_0 hc0_0;have HR0_1:=Za hr0_1;have HC0_1:=Za hc0_1;clear hr0_1 hc0_1
 have HB:=Za (Below.refl w.heap.size w)
 have H:((ZaF.f k l0_0 a1).bind fun t2=>(if t2<0 then(some (-1)) else((Zcy.f l0_1 t2).bind fun t3=>(if t3<0 then(some (-1)) else(some t3)))))=some r:=h
 clear h
 replace H:=Zh H
 obtain⟨t2,A30,H⟩:=H;have A3:=Za A30;clear A30
 by_cases c4:t2<0
 ·rw[if_pos c4] at H
  have c4b0:decide (t2<0)=true:=Ze c4
  clear c4
  obtain rfl:=Zg H
  go_enter Tryz.func27,Tryz.ntmps27
  go_wp2_with (first|((with_reducible refine ZG (N:=2) rfl ?_);refine ZH ?hg (N:=2) ?hd (cs:=#[.slice A0_0 l0_0.length c0_0,.slice A0_1 l0_1.length c0_1,.int .i64 a0_2]) (t:=47) ?hr ?_;(case hd=>rfl);(case hg=>rfl);(case hr=>first|(go_simp;done)|(go_simp;rfl));intro gb1 hg w5 hbox hb;have BK1:=Za (hbox);have GW1:=Za ((by rw[hg];exact(Zv (by exact HB.out)):w.heap.size≤gb1));have GE1:=Za ((by rw[hg];exact(Zv (by exact HB.out)):w.heap.size≤gb1));replace HB:=Za (Zq (by exact HB.out) hb);clear hb hbox hg;have hcz6_0:w5.cell? ⟨gb1,0,none⟩=some (.slice A0_0 l0_0.length c0_0):=(Zn BK1.out 0).trans rfl;have hcz6_1:w5.cell? ⟨gb1,1,none⟩=some (.slice A0_1 l0_1.length c0_1):=(Zn BK1.out 1).trans rfl;have hcz6_2:w5.cell? ⟨gb1,2,none⟩=some (.int .i64 a0_2):=(Zn BK1.out 2).trans rfl)|((with_reducible refine ZJ (f:=91) rfl ?_);refine ZY (some 8) rfl rfl Tryz.func91 (by kernel_rfl) rfl #[.slice A0_0 l0_0.length c0_0,.int .i64 a1] rfl (by(try simp only[List.map_toArray,List.map_cons,List.map_nil]);first|done|rfl|(simp only[Zk,Zj];rfl)) ?_;(with_reducible refine(ZaF.calls k _ _ l0_0 a1 t2 _ ?side1 ?side2 A3.out).mono ?_);(case side1=>exact(Zb HR0_0.out HB.out));(case side2=>exact HC0_0.out);rintro e w7 ⟨rfl,hb⟩;refine⟨_,rfl,?_⟩;replace BK1:=Za (Zw (g:=gb1) (o:=.cells #[.slice A0_0 l0_0.length c0_0,.slice A0_1 l0_1.length c0_1,.int .i64 a0_2] 47 (0,0)) (by exact BK1.out) hb);replace HB:=Za (Zq (by exact HB.out) hb);(try clear hi)))
  go_ret
  exact⟨by first|rfl|(simp[ZB,ZA] <;> rfl)|(simp[*,ZB,ZA] <;> rfl),by repeat(first|(with_reducible first|exact HB.out|apply Zo|apply Zm|apply Zp|refine Zs ?_ GE1.out)|exact HB.out)⟩
 ·rw[if_neg c4] at H
  have c4b0:decide (t2<0)=false:=Zf c4
  clear c4
  replace H:=Zh H
  obtain⟨t3,A80,H⟩:=H;have A8:=Za A80;clear A80
  by_cases c9:t3<0
  ·rw[if_pos c9] at H
   have c9b0:decide (t3<0)=true:=Ze c9
   clear c9
   obtain rfl:=Zg H
   go_enter Tryz.func27,Tryz.ntmps27
   go_wp2_with (first|((with_reducible refine ZG (N:=2) rfl ?_);refine ZH ?hg (N:=2) ?hd (cs:=#[.slice A0_0 l0_0.length c0_0,.slice A0_1 l0_1.length c0_1,.int .i64 a0_2]) (t:=47) ?hr ?_;(case hd=>rfl);(case hg=>rfl);(case hr=>first|(go_simp;done)|(go_simp;rfl));intro gb1 hg w10 hbox hb;have BK1:=Za (hbox);have GW1:=Za ((by rw[hg];exact(Zv (by exact HB.out)):w.heap.size≤gb1));have GE1:=Za ((by rw[hg];exact(Zv (by exact HB.out)):w.heap.size≤gb1));replace HB:=Za (Zq (by exact HB.out) hb);clear hb hbox hg;have hcz11_0:w10.cell? ⟨gb1,0,none⟩=some (.slice A0_0 l0_0.length c0_0):=(Zn BK1.out 0).trans rfl;have hcz11_1:w10.cell? ⟨gb1,1,none⟩=some (.slice A0_1 l0_1.length c0_1):=(Zn BK1.out 1).trans rfl;have hcz11_2:w10.cell? ⟨gb1,2,none⟩=some (.int .i64 a0_2):=(Zn BK1.out 2).trans rfl)|((with_reducible refine ZJ (f:=91) rfl ?_);refine ZY (some 8) rfl rfl Tryz.func91 (by kernel_rfl) rfl #[.slice A0_0 l0_0.length c0_0,.int .i64 a1] rfl (by(try simp only[List.map_toArray,List.map_cons,List.map_nil]);first|done|rfl|(simp only[Zk,Zj];rfl)) ?_;(with_reducible refine(ZaF.calls k _ _ l0_0 a1 t2 _ ?side1 ?side2 A3.out).mono ?_);(case side1=>exact(Zb HR0_0.out HB.out));(case side2=>exact HC0_0.out);rintro e w12 ⟨rfl,hb⟩;refine⟨_,rfl,?_⟩;replace BK1:=Za (Zw (g:=gb1) (o:=.cells #[.slice A0_0 l0_0.length c0_0,.slice A0_1 l0_1.length c0_1,.int .i64 a0_2] 47 (0,0)) (by exact BK1.out) hb);replace HB:=Za (Zq (by exact HB.out) hb);have hcz13_0:w12.cell? ⟨gb1,0,none⟩=some (.slice A0_0 l0_0.length c0_0):=(Zn BK1.out 0).trans rfl;have hcz13_1:w12.cell? ⟨gb1,1,none⟩=some (.slice A0_1 l0_1.length c0_1):=(Zn BK1.out 1).trans rfl;have hcz13_2:w12.cell? ⟨gb1,2,none⟩=some (.int .i64 a0_2):=(Zn BK1.out 2).trans rfl)|((with_reducible refine ZJ (f:=92) rfl ?_);refine ZY (some 14) rfl rfl Tryz.func92 (by kernel_rfl) rfl #[.slice A0_1 l0_1.length c0_1,.int .i64 t2] rfl (by(try simp only[List.map_toArray,List.map_cons,List.map_nil]);first|done|rfl|(simp only[Zk,Zj];rfl)) ?_;(with_reducible refine(Zcy.calls _ _ l0_1 t2 t3 _ ?side1 ?side2 A8.out).mono ?_);(case side1=>exact(Zb HR0_1.out HB.out));(case side2=>exact HC0_1.out);rintro e w' ⟨rfl,⟨nd,rfl⟩⟩;refine⟨_,rfl,?_⟩))
   go_ret
   exact⟨by first|rfl|(simp[ZB,ZA] <;> rfl)|(simp[*,ZB,ZA] <;> rfl),by repeat(first|(with_reducible first|exact HB.out|apply Zo|apply Zm|apply Zp|refine Zs ?_ GE1.out)|exact HB.out)⟩
  ·rw[if_neg c9] at H
   have c9b0:decide (t3<0)=false:=Zf c9
   clear c9
   obtain rfl:=Zg H
   go_enter Tryz.func27,Tryz.ntmps27
   go_wp2_with (first|((with_reducible refine ZG (N:=2) rfl ?_);refine ZH ?hg (N:=2) ?hd (cs:=#[.slice A0_0 l0_0.length c0_0,.slice A0_1 l0_1.length c0_1,.int .i64 a0_2]) (t:=47) ?hr ?_;(case hd=>rfl);(case hg=>rfl);(case hr=>first|(go_simp;done)|(go_simp;rfl));intro gb1 hg w14 hbox hb;have BK1:=Za (hbox);have GW1:=Za ((by rw[hg];exact(Zv (by exact HB.out)):w.heap.size≤gb1));have GE1:=Za ((by rw[hg];exact(Zv (by exact HB.out)):w.heap.size≤gb1));replace HB:=Za (Zq (by exact HB.out) hb);clear hb hbox hg;have hcz15_0:w14.cell? ⟨gb1,0,none⟩=some (.slice A0_0 l0_0.length c0_0):=(Zn BK1.out 0).trans rfl;have hcz15_1:w14.cell? ⟨gb1,1,none⟩=some (.slice A0_1 l0_1.length c0_1):=(Zn BK1.out 1).trans rfl;have hcz15_2:w14.cell? ⟨gb1,2,none⟩=some (.int .i64 a0_2):=(Zn BK1.out 2).trans rfl)|((with_reducible refine ZJ (f:=91) rfl ?_);refine ZY (some 8) rfl rfl Tryz.func91 (by kernel_rfl) rfl #[.slice A0_0 l0_0.length c0_0,.int .i64 a1] rfl (by(try simp only[List.map_toArray,List.map_cons,List.map_nil]);first|done|rfl|(simp only[Zk,Zj];rfl)) ?_;(with_reducible refine(ZaF.calls k _ _ l0_0 a1 t2 _ ?side1 ?side2 A3.out).mono ?_);(case side1=>exact(Zb HR0_0.out HB.out));(case side2=>exact HC0_0.out);rintro e w16 ⟨rfl,hb⟩;refine⟨_,rfl,?_⟩;replace BK1:=Za (Zw (g:=gb1) (o:=.cells #[.slice A0_0 l0_0.length c0_0,.slice A0_1 l0_1.length c0_1,.int .i64 a0_2] 47 (0,0)) (by exact BK1.out) hb);replace HB:=Za (Zq (by exact HB.out) hb);have hcz17_0:w16.cell? ⟨gb1,0,none⟩=some (.slice A0_0 l0_0.length c0_0):=(Zn BK1.out 0).trans rfl;have hcz17_1:w16.cell? ⟨gb1,1,none⟩=some (.slice A0_1 l0_1.length c0_1):=(Zn BK1.out 1).trans rfl;have hcz17_2:w16.cell? ⟨gb1,2,none⟩=some (.int .i64 a0_2):=(Zn BK1.out 2).trans rfl)|((with_reducible refine ZJ (f:=92) rfl ?_);refine ZY (some 14) rfl rfl Tryz.func92 (by kernel_rfl) rfl #[.slice A0_1 l0_1.length c0_1,.int .i64 t2] rfl (by(try simp only[List.map_toArray,List.map_cons,List.map_nil]);first|done|rfl|(simp only[Zk,Zj];rfl)) ?_;(with_reducible refine(Zcy.calls _ _ l0_1 t2 t3 _ ?side1 ?side2 A8.out).mono ?_);(case side1=>exact(Zb HR0_1.out HB.out));(case side2=>exact HC0_1.out);rintro e w' ⟨rfl,⟨nd,rfl⟩⟩;refine⟨_,rfl,?_⟩))
   go_ret
   exact⟨by first|rfl|(simp[ZB,ZA] <;> rfl)|(simp[*,ZB,ZA] <;> rfl),by repeat(first|(with_reducible first|exact HB.out|apply Zo|apply Zm|apply Zp|refine Zs ?_ GE1.out)|exact HB.out)⟩
def Zca.f (l0_0:List Int) (l0_1:List Int) (a1:Int):Option (Int):=(ZaY.f l0_0 a1).bind fun t2=>(if t2<0 then(some (-1)) else((ZaY.f l0_1 t2).bind fun t3=>(if t3<0 then(some (-1)) else(some t3))))
theorem Zca.calls (A0_0:Option Addr) (c0_0:Nat) (l0_0:List Int) (A0_1:Option Addr) (c0_1:Nat) (l0_1:List Int) (a1:Int) (r:Int) (w:World) (hr0_0:Kd.C (Kd.int .i64) w A0_0 l0_0.length l0_0) (hc0_0:l0_0.length≤c0_0) (hr0_1:Kd.C (Kd.int .i64) w A0_1 l0_1.length l0_1) (hc0_1:l0_1.length≤c0_1) (h:Zca.f l0_0 l0_1 a1=some r) :
  Calls Tryz.prog 28 #[.agg #[.slice A0_0 l0_0.length c0_0,.slice A0_1 l0_1.length c0_1],.int .i64 a1] w fun e w'=>e=.returned (.int .i64 r)∧Below w.heap.size w w':=by
 have hu49:=Tryz.underlying49
 have HR0_0:=Za hr0_0;have HC0_0:=Za hc0_0;clear hr0_0 hc0_0;have HR0_1:=Za hr0_1;have HC0_1:=Za hc0_1;clear hr0_1 hc0_1
 have HB:=Za (Below.refl w.heap.size w)
 have H:((ZaY.f l0_0 a1).bind fun t2=>(if t2<0 then(some (-1)) else((ZaY.f l0_1 t2).bind fun t3=>(if t3<0 then(some (-1)) else(some t3)))))=some r:=h
 clear h
 replace H:=Zh H
 obtain⟨t2,A30,H⟩:=H;have A3:=Za A30;clear A30
 by_cases c4:t2<0
 ·rw[if_pos c4] at H
  have c4b0:decide (t2<0)=true:=Ze c4
  clear c4
  obtain rfl:=Zg H
  go_enter Tryz.func28,Tryz.ntmps28
  go_wp2_with (first|((with_reducible refine ZG (N:=2) rfl ?_);refine ZH ?hg (N:=2) ?hd (cs:=#[.slice A0_0 l0_0.length c0_0,.slice A0_1 l0_1.length c0_1]) (t:=49) ?hr ?_;(case hd=>rfl);(case hg=>rfl);(case hr=>first|(go_simp;done)|(go_simp;rfl));intro gb1 hg w5 hbox hb;have BK1:=Za (hbox);have GW1:=Za ((by rw[hg];exact(Zv (by repeat(first|(with_reducible first|exact HB.out|apply Zo|apply Zm|apply Zp)|exact HB.out))):w.heap.size≤gb1));have GE1:=Za ((by rw[hg];exact(Zv (by repeat(first|(with_reducible first|exact HB.out|apply Zo|apply Zm|apply Zp)|exact HB.out))):w.heap.size≤gb1));replace HB:=Za (Zq (by repeat(first|(with_reducible first|exact HB.out|apply Zo|apply Zm|apply Zp)|exact HB.out)) hb);clear hb hbox hg;have hcz6_0:w5.cell? ⟨gb1,0,none⟩=some (.slice A0_0 l0_0.length c0_0):=(Zn BK1.out 0).trans rfl;have hcz6_1:w5.cell? ⟨gb1,1,none⟩=some (.slice A0_1 l0_1.length c0_1):=(Zn BK1.out 1).trans rfl)|((with_reducible refine ZJ (f:=93) rfl ?_);refine ZY (some 8) rfl rfl Tryz.func93 (by kernel_rfl) rfl #[.slice A0_0 l0_0.length c0_0,.int .i64 a1] rfl (by(try simp only[List.map_toArray,List.map_cons,List.map_nil]);first|done|rfl|(simp only[Zk,Zj];rfl)) ?_;(with_reducible refine(ZaY.calls _ _ l0_0 a1 t2 _ ?side1 ?side2 A3.out).mono ?_);(case side1=>repeat(first|exact(Zb HR0_0.out HB.out)|(with_reducible refine Kd.C_alloc ?_ _)|(with_reducible refine Kd.C_drewN ?_ _)|(with_reducible refine Kd.C_drew ?_)));(case side2=>exact HC0_0.out);rintro e w' ⟨rfl,⟨nd,rfl⟩⟩;refine⟨_,rfl,?_⟩))
  go_ret
  exact⟨by first|rfl|(simp[ZB,ZA] <;> rfl)|(simp[*,ZB,ZA] <;> rfl),by repeat(first|(with_reducible first|exact HB.out|apply Zo|apply Zm|apply Zp|refine Zs ?_ GE1.out)|exact HB.out)⟩
 ·rw[if_neg c4] at H
  have c4b0:decide (t2<0)=false:=Zf c4
  clear c4
  replace H:=Zh H
  obtain⟨t3,A70,H⟩:=H;have A7:=Za A70;clear A70
  by_cases c8:t3<0
  ·rw[if_pos c8] at H
   have c8b0:decide (t3<0)=true:=Ze c8
   clear c8
   obtain rfl:=Zg H
   go_enter Tryz.func28,Tryz.ntmps28
   go_wp2_with (first|((with_reducible refine ZG (N:=2) rfl ?_);refine ZH ?hg (N:=2) ?hd (cs:=#[.slice A0_0 l0_0.length c0_0,.slice A0_1 l0_1.length c0_1]) (t:=49) ?hr ?_;(case hd=>rfl);(case hg=>rfl);(case hr=>first|(go_simp;done)|(go_simp;rfl));intro gb1 hg w9 hbox hb;have BK1:=Za (hbox);have GW1:=Za ((by rw[hg];exact(Zv (by repeat(first|(with_reducible first|exact HB.out|apply Zo|apply Zm|apply Zp)|exact HB.out))):w.heap.size≤gb1));have GE1:=Za ((by rw[hg];exact(Zv (by repeat(first|(with_reducible first|exact HB.out|apply Zo|apply Zm|apply Zp)|exact HB.out))):w.heap.size≤gb1));replace HB:=Za (Zq (by repeat(first|(with_reducible first|exact HB.out|apply Zo|apply Zm|apply Zp)|exact HB.out)) hb);clear hb hbox hg;have hcz10_0:w9.cell? ⟨gb1,0,none⟩=some (.slice A0_0 l0_0.length c0_0):=(Zn BK1.out 0).trans rfl;have hcz10_1:w9.cell? ⟨gb1,1,none⟩=some (.slice A0_1 l0_1.length c0_1):=(Zn BK1.out 1).trans rfl)|((with_reducible refine ZJ (f:=93) rfl ?_);refine ZY (some 8) rfl rfl Tryz.func93 (by kernel_rfl) rfl #[.slice A0_0 l0_0.length c0_0,.int .i64 a1] rfl (by(try simp only[List.map_toArray,List.map_cons,List.map_nil]);first|done|rfl|(simp only[Zk,Zj];rfl)) ?_;(with_reducible refine(ZaY.calls _ _ l0_0 a1 t2 _ ?side1 ?side2 A3.out).mono ?_);(case side1=>repeat(first|exact(Zb HR0_0.out HB.out)|(with_reducible refine Kd.C_alloc ?_ _)|(with_reducible refine Kd.C_drewN ?_ _)|(with_reducible refine Kd.C_drew ?_)));(case side2=>exact HC0_0.out);rintro e w' ⟨rfl,⟨nd,rfl⟩⟩;refine⟨_,rfl,?_⟩)|((with_reducible refine ZJ (f:=93) rfl ?_);refine ZY (some 14) rfl rfl Tryz.func93 (by kernel_rfl) rfl #[.slice A0_1 l0_1.length c0_1,.int .i64 t2] rfl (by(try simp only[List.map_toArray,List.map_cons,List.map_nil]);first|done|rfl|(simp only[Zk,Zj];rfl)) ?_;(with_reducible refine(ZaY.calls _ _ l0_1 t2 t3 _ ?side1 ?side2 A7.out).mono ?_);(case side1=>repeat(first|exact(Zb HR0_1.out (by repeat(first|(with_reducible first|exact HB.out|apply Zo|apply Zm|apply Zp|refine Zs ?_ GE1.out)|exact HB.out)))|(with_reducible refine Kd.C_alloc ?_ _)|(with_reducible refine Kd.C_drewN ?_ _)|(with_reducible refine Kd.C_drew ?_)));(case side2=>exact HC0_1.out);rintro e w' ⟨rfl,⟨nd,rfl⟩⟩;refine⟨_,rfl,?_⟩))
   go_ret
   exact⟨by first|rfl|(simp[ZB,ZA] <;> rfl)|(simp[*,ZB,ZA] <;> rfl),by repeat(first|(with_reducible first|exact HB.out|apply Zo|apply Zm|apply Zp|refine Zs ?_ GE1.out)|exact HB.out)⟩
  ·rw[if_neg c8] at H
   have c8b0:decide (t3<0)=false:=Zf c8
   clear c8
   obtain rfl:=Zg H
   go_enter Tryz.func28,Tryz.ntmps28
   go_wp2_with (first|((with_reducible refine ZG (N:=2) rfl ?_);refine ZH ?hg (N:=2) ?hd (cs:=#[.slice A0_0 l0_0.length c0_0,.slice A0_1 l0_1.length c0_1]) (t:=49) ?hr ?_;(case hd=>rfl);(case hg=>rfl);(case hr=>first|(go_simp;done)|(go_simp;rfl));intro gb1 hg w11 hbox hb;have BK1:=Za (hbox);have GW1:=Za ((by rw[hg];exact(Zv (by repeat(first|(with_reducible first|exact HB.out|apply Zo|apply Zm|apply Zp)|exact HB.out))):w.heap.size≤gb1));have GE1:=Za ((by rw[hg];exact(Zv (by repeat(first|(with_reducible first|exact HB.out|apply Zo|apply Zm|apply Zp)|exact HB.out))):w.heap.size≤gb1));replace HB:=Za (Zq (by repeat(first|(with_reducible first|exact HB.out|apply Zo|apply Zm|apply Zp)|exact HB.out)) hb);clear hb hbox hg;have hcz12_0:w11.cell? ⟨gb1,0,none⟩=some (.slice A0_0 l0_0.length c0_0):=(Zn BK1.out 0).trans rfl;have hcz12_1:w11.cell? ⟨gb1,1,none⟩=some (.slice A0_1 l0_1.length c0_1):=(Zn BK1.out 1).trans rfl)|((with_reducible refine ZJ (f:=93) rfl ?_);refine ZY (some 8) rfl rfl Tryz.func93 (by kernel_rfl) rfl #[.slice A0_0 l0_0.length c0_0,.int .i64 a1] rfl (by(try simp only[List.map_toArray,List.map_cons,List.map_nil]);first|done|rfl|(simp only[Zk,Zj];rfl)) ?_;(with_reducible refine(ZaY.calls _ _ l0_0 a1 t2 _ ?side1 ?side2 A3.out).mono ?_);(case side1=>repeat(first|exact(Zb HR0_0.out HB.out)|(with_reducible refine Kd.C_alloc ?_ _)|(with_reducible refine Kd.C_drewN ?_ _)|(with_reducible refine Kd.C_drew ?_)));(case side2=>exact HC0_0.out);rintro e w' ⟨rfl,⟨nd,rfl⟩⟩;refine⟨_,rfl,?_⟩)|((with_reducible refine ZJ (f:=93) rfl ?_);refine ZY (some 14) rfl rfl Tryz.func93 (by kernel_rfl) rfl #[.slice A0_1 l0_1.length c0_1,.int .i64 t2] rfl (by(try simp only[List.map_toArray,List.map_cons,List.map_nil]);first|done|rfl|(simp only[Zk,Zj];rfl)) ?_;(with_reducible refine(ZaY.calls _ _ l0_1 t2 t3 _ ?side1 ?side2 A7.out).mono ?_);(case side1=>repeat(first|exact(Zb HR0_1.out (by repeat(first|(with_reducible first|exact HB.out|apply Zo|apply Zm|apply Zp|refine Zs ?_ GE1.out)|exact HB.out)))|(with_reducible refine Kd.C_alloc ?_ _)|(with_reducible refine Kd.C_drewN ?_ _)|(with_reducible refine Kd.C_drew ?_)));(case side2=>exact HC0_1.out);rintro e w' ⟨rfl,⟨nd,rfl⟩⟩;refine⟨_,rfl,?_⟩))
   go_ret
   exact⟨by first|rfl|(simp[ZB,ZA] <;> rfl)|(simp[*,ZB,ZA] <;> rfl),by repeat(first|(with_reducible first|exact HB.out|apply Zo|apply Zm|apply Zp|refine Zs ?_ GE1.out)|exact HB.out)⟩
theorem laws_eqNode.same (a0:ByteArray) (A1:Option Addr) (c1:Nat) (A1':Option Addr) (c1':Nat) (l1:List Int) (a2:Int) (w:World) (hr1:Kd.C (Kd.int .i64) w A1 l1.length l1) (hc1:l1.length≤c1) (hr1':Kd.C (Kd.int .i64) w A1' l1.length l1) (hc1':l1.length≤c1') :
  Calls Tryz.prog 137 #[.agg #[.string a0,.slice A1 l1.length c1,.int .i64 a2],.agg #[.string a0,.slice A1' l1.length c1',.int .i64 a2]] w fun e w'=>e=.returned (.bool true)∧Below w.heap.size w w':=by
 have hu:=Tryz.underlying39
 have H1:=Za fun (W:World) (hb:Below w.heap.size w W)=>(ZaT.calls (2 ^ 64) A1 c1 l1 A1' c1' l1 true W (Zb hr1 hb) hc1 (Zb hr1' hb) hc1' (Zei l1 hr1.2.1 (2 ^ 64) (Nat.le_refl _))).mono fun e w' ⟨he,hd⟩=>(And.intro he hd.below:e=Ending.returned (.bool true)∧Below W.heap.size W w')
 clear hr1 hc1 hr1' hc1'
 have HB0:=Za (Zo (Zo (Below.refl w.heap.size w) (.cells #[.string a0,.slice A1 l1.length c1,.int .i64 a2] 39)) (.cells #[.string a0,.slice A1' l1.length c1',.int .i64 a2] 39))
 go_enter Tryz.func137,Tryz.ntmps137
 go_wp2_with fail
 refine(H1.out _ HB0.out).mono ?_
 rintro e w1 ⟨rfl,hb⟩
 have HB1:=Za (HB0.out.trans (hb.mono HB0.out.size))
 have s2:w1.cell? ⟨w.heap.size,2,none⟩=some (.int .i64 a2):=Zx hb (by go_simp)
 have t2:w1.cell? ⟨w.heap.size+1,2,none⟩=some (.int .i64 a2):=Zx hb (by go_simp)
 clear hb
 go_wp2
 go_ret
 exact⟨rfl,HB1.out⟩
theorem laws_eqNodeS.same (A0:Option Addr) (c0:Nat) (A0':Option Addr) (c0':Nat) (l0:List (S39)) (w:World) (hr0:Kd.C k39 w A0 l0.length l0) (hc0:l0.length≤c0) (hr0':Kd.C k39 w A0' l0.length l0) (hc0':l0.length≤c0') :
  Calls Tryz.prog 62 #[.slice A0 l0.length c0,.slice A0' l0.length c0'] w fun e w'=>e=.returned (.bool true)∧Below w.heap.size w w':=by
 have hL:l0.length≤9223372036854775807:=hr0.2.1
 have HR:=Za hr0
 have HS:=Za hr0'
 clear hr0 hr0'
 go_enter Tryz.func62,Tryz.ntmps62
 go_wp2
 go_loopg [5] l0.length (fun gg s5 wr=>∃kk:Nat,Aside0 (kk≤l0.length)∧Aside0 (l0.length - kk≤gg)∧s5=.int .i64 kk∧Aside0 (Below w.heap.size w wr))
 case atStart=>exact⟨0,⟨Nat.zero_le _⟩,⟨by omega⟩,rfl,⟨Below.refl _ _⟩⟩
 case round=>
  obtain⟨kk,HK,HG,rfl,HBr⟩:=hrel
  by_cases hlt:kk<l0.length
  ·have hltz:(kk:Int)<(l0.length:Int):=by omega
   obtain⟨adx,A1x,c1x,ex,hx0,hx1,hx2,l1x,g1x⟩:=ZaS HR.out (kk:Int) (by omega) hltz
   obtain⟨ady,A1y,c1y,ey,hy0,hy1,hy2,l1y,g1y⟩:=ZaS HS.out (kk:Int) (by omega) hltz
   cases ex
   cases ey
   rw[Int.toNat_natCast] at hx0 hx1 hx2 hy0 hy1 hy2
   generalize ZI l0 (kk:Int)=y at hx0 hx1 hx2 l1x g1x hy0 hy1 hy2 l1y g1y
   replace hx0:=Zx HBr.out hx0
   replace hx1:=Zx HBr.out hx1
   replace hx2:=Zx HBr.out hx2
   replace hy0:=Zx HBr.out hy0
   replace hy1:=Zx HBr.out hy1
   replace hy2:=Zx HBr.out hy2
   have hltx:=Zc wr _ hx0
   have hlty:=Zc wr _ hy0
   have G1x:=Za g1x;have G1y:=Za g1y;clear g1x g1y
   go_wp2_with fail
   go_region_held3 (fun w'=>Below wr.heap.size wr w'∧w'.cell? (adx.add (kk * 3))=some (.string y.f0)∧w'.cell? ⟨(adx.add (kk * 3)).block,(adx.add (kk * 3)).off+1,none⟩=some (.slice A1x y.f1.length c1x)∧w'.cell? ⟨(adx.add (kk * 3)).block,(adx.add (kk * 3)).off+2,none⟩=some (.int .i64 y.f2)∧w'.cell? (ady.add (kk * 3))=some (.string y.f0)∧w'.cell? ⟨(ady.add (kk * 3)).block,(ady.add (kk * 3)).off+1,none⟩=some (.slice A1y y.f1.length c1y)∧w'.cell? ⟨(ady.add (kk * 3)).block,(ady.add (kk * 3)).off+2,none⟩=some (.int .i64 y.f2))
    (first|(refine⟨by repeat(first|(with_reducible first|exact Below.refl _ _|apply Zo|apply Zm|apply Zp|exact(‹Below wr.heap.size wr _∧_› : Below wr.heap.size wr _∧_).1)|exact Below.refl _ _),?_⟩;go_simp;done)|(have HQ_:=Zq (‹Below wr.heap.size wr _∧_› : Below wr.heap.size wr _∧_).1 hb;exact⟨HQ_,Zx HQ_ hx0,Zx HQ_ hx1,Zx HQ_ hx2,Zx HQ_ hy0,Zx HQ_ hy1,Zx HQ_ hy2⟩))
    (first|(go_at_call 137;(refine(laws_eqNode.same y.f0 A1x c1x A1y c1y y.f1 y.f2 _ ?p0 l1x ?p1 l1y).mono ?_);(case p0=>exact(Zb (Zb G1x.out HBr.out) (‹Below wr.heap.size wr _∧_› : Below wr.heap.size wr _∧_).1));(case p1=>exact(Zb (Zb G1y.out HBr.out) (‹Below wr.heap.size wr _∧_› : Below wr.heap.size wr _∧_).1));rintro e w3 ⟨rfl,hb⟩))
   have HB3:=Za (‹Below wr.heap.size wr w3∧_› : Below wr.heap.size wr w3∧_).1
   go_wp2
   go_roundg (l0.length - (kk+1))
   case measure=>have:=HG.out;omega
   case rel=>exact⟨kk+1,⟨by omega⟩,⟨by omega⟩,by go_num,⟨HBr.out.trans (HB3.out.mono HBr.out.size)⟩⟩
  ·have hltz:¬(kk:Int)<(l0.length:Int):=by omega
   have:kk=l0.length:=by have:=HK.out;omega
   subst this
   go_wp2
   go_ret
   exact⟨rfl,HBr.out⟩
theorem laws_eqTie.same (a0:Int) (a1:Int) (a2:Int) (a3:Int) (a4:Bool) (w:World)  :
  Calls Tryz.prog 138 #[.agg #[.int .i64 a0,.int .i64 a1,.int .i64 a2,.int .i64 a3,.bool a4],.agg #[.int .i64 a0,.int .i64 a1,.int .i64 a2,.int .i64 a3,.bool a4]] w fun e w'=>e=.returned (.bool true)∧Below w.heap.size w w':=by
 have hu:=Tryz.underlying82
 have HB0:=Za (Zo (Zo (Below.refl w.heap.size w) (.cells #[.int .i64 a0,.int .i64 a1,.int .i64 a2,.int .i64 a3,.bool a4] 82)) (.cells #[.int .i64 a0,.int .i64 a1,.int .i64 a2,.int .i64 a3,.bool a4] 82))
 go_enter Tryz.func138,Tryz.ntmps138
 go_wp2
 go_ret
 exact⟨rfl,by repeat(first|exact Below.refl _ _|apply Zo|apply Zm|apply ZaN)⟩
theorem laws_eqTieS.same (A0:Option Addr) (c0:Nat) (A0':Option Addr) (c0':Nat) (l0:List (S82)) (w:World) (hr0:Kd.C k82 w A0 l0.length l0) (hc0:l0.length≤c0) (hr0':Kd.C k82 w A0' l0.length l0) (hc0':l0.length≤c0') :
  Calls Tryz.prog 63 #[.slice A0 l0.length c0,.slice A0' l0.length c0'] w fun e w'=>e=.returned (.bool true)∧Below w.heap.size w w':=by
 have hL:l0.length≤9223372036854775807:=hr0.2.1
 have HR:=Za hr0
 have HS:=Za hr0'
 clear hr0 hr0'
 go_enter Tryz.func63,Tryz.ntmps63
 go_wp2
 go_loopg [5] l0.length (fun gg s5 wr=>∃kk:Nat,Aside0 (kk≤l0.length)∧Aside0 (l0.length - kk≤gg)∧s5=.int .i64 kk∧Aside0 (Below w.heap.size w wr))
 case atStart=>exact⟨0,⟨Nat.zero_le _⟩,⟨by omega⟩,rfl,⟨Below.refl _ _⟩⟩
 case round=>
  obtain⟨kk,HK,HG,rfl,HBr⟩:=hrel
  by_cases hlt:kk<l0.length
  ·have hltz:(kk:Int)<(l0.length:Int):=by omega
   obtain⟨adx,ex,hx0,hx1,hx2,hx3,hx4⟩:=ZbS HR.out (kk:Int) (by omega) hltz
   obtain⟨ady,ey,hy0,hy1,hy2,hy3,hy4⟩:=ZbS HS.out (kk:Int) (by omega) hltz
   cases ex
   cases ey
   rw[Int.toNat_natCast] at hx0 hx1 hx2 hx3 hx4 hy0 hy1 hy2 hy3 hy4
   generalize Zu l0 (kk:Int)=y at hx0 hx1 hx2 hx3 hx4 hy0 hy1 hy2 hy3 hy4
   replace hx0:=Zx HBr.out hx0
   replace hx1:=Zx HBr.out hx1
   replace hx2:=Zx HBr.out hx2
   replace hx3:=Zx HBr.out hx3
   replace hx4:=Zx HBr.out hx4
   replace hy0:=Zx HBr.out hy0
   replace hy1:=Zx HBr.out hy1
   replace hy2:=Zx HBr.out hy2
   replace hy3:=Zx HBr.out hy3
   replace hy4:=Zx HBr.out hy4
   have hltx:=Zc wr _ hx0
   have hlty:=Zc wr _ hy0
   go_wp2_with fail
   go_region_held3 (fun w'=>Below wr.heap.size wr w'∧w'.cell? (adx.add (kk * 5))=some (.int .i64 y.f0)∧w'.cell? ⟨(adx.add (kk * 5)).block,(adx.add (kk * 5)).off+1,none⟩=some (.int .i64 y.f1)∧w'.cell? ⟨(adx.add (kk * 5)).block,(adx.add (kk * 5)).off+2,none⟩=some (.int .i64 y.f2)∧w'.cell? ⟨(adx.add (kk * 5)).block,(adx.add (kk * 5)).off+3,none⟩=some (.int .i64 y.f3)∧w'.cell? ⟨(adx.add (kk * 5)).block,(adx.add (kk * 5)).off+4,none⟩=some (.bool y.f4)∧w'.cell? (ady.add (kk * 5))=some (.int .i64 y.f0)∧w'.cell? ⟨(ady.add (kk * 5)).block,(ady.add (kk * 5)).off+1,none⟩=some (.int .i64 y.f1)∧w'.cell? ⟨(ady.add (kk * 5)).block,(ady.add (kk * 5)).off+2,none⟩=some (.int .i64 y.f2)∧w'.cell? ⟨(ady.add (kk * 5)).block,(ady.add (kk * 5)).off+3,none⟩=some (.int .i64 y.f3)∧w'.cell? ⟨(ady.add (kk * 5)).block,(ady.add (kk * 5)).off+4,none⟩=some (.bool y.f4))
    (first|(refine⟨by repeat(first|(with_reducible first|exact Below.refl _ _|apply Zo|apply Zm|apply Zp|exact(‹Below wr.heap.size wr _∧_› : Below wr.heap.size wr _∧_).1)|exact Below.refl _ _),?_⟩;go_simp;done)|(have HQ_:=Zq (‹Below wr.heap.size wr _∧_› : Below wr.heap.size wr _∧_).1 hb;exact⟨HQ_,Zx HQ_ hx0,Zx HQ_ hx1,Zx HQ_ hx2,Zx HQ_ hx3,Zx HQ_ hx4,Zx HQ_ hy0,Zx HQ_ hy1,Zx HQ_ hy2,Zx HQ_ hy3,Zx HQ_ hy4⟩))
    (first|(go_at_call 138;(refine(laws_eqTie.same y.f0 y.f1 y.f2 y.f3 y.f4 _ ).mono ?_);rintro e w3 ⟨rfl,hb⟩))
   have HB3:=Za (‹Below wr.heap.size wr w3∧_› : Below wr.heap.size wr w3∧_).1
   go_wp2
   go_roundg (l0.length - (kk+1))
   case measure=>have:=HG.out;omega
   case rel=>exact⟨kk+1,⟨by omega⟩,⟨by omega⟩,by go_num,⟨HBr.out.trans (HB3.out.mono HBr.out.size)⟩⟩
  ·have hltz:¬(kk:Int)<(l0.length:Int):=by omega
   have:kk=l0.length:=by have:=HK.out;omega
   subst this
   go_wp2
   go_ret
   exact⟨rfl,HBr.out⟩
theorem laws_eqShow.same (A0:Option Addr) (c0:Nat) (A0':Option Addr) (c0':Nat) (l0:List (S39)) (A1:Option Addr) (c1:Nat) (A1':Option Addr) (c1':Nat) (l1:List (S82)) (a2:Int) (w:World) (hr0:Kd.C k39 w A0 l0.length l0) (hc0:l0.length≤c0) (hr0':Kd.C k39 w A0' l0.length l0) (hc0':l0.length≤c0') (hr1:Kd.C k82 w A1 l1.length l1) (hc1:l1.length≤c1) (hr1':Kd.C k82 w A1' l1.length l1) (hc1':l1.length≤c1') :
  Calls Tryz.prog 13 #[.agg #[.slice A0 l0.length c0,.slice A1 l1.length c1,.int .i64 a2],.agg #[.slice A0' l0.length c0',.slice A1' l1.length c1',.int .i64 a2]] w fun e w'=>e=.returned (.bool true)∧Below w.heap.size w w':=by
 have hu:=Tryz.underlying25
 have H0:=Za fun (W:World) (hb:Below w.heap.size w W)=>laws_eqNodeS.same A0 c0 A0' c0' l0 W (Zb hr0 hb) hc0 (Zb hr0' hb) hc0'
 have H1:=Za fun (W:World) (hb:Below w.heap.size w W)=>laws_eqTieS.same A1 c1 A1' c1' l1 W (Zb hr1 hb) hc1 (Zb hr1' hb) hc1'
 clear hr0 hc0 hr0' hc0' hr1 hc1 hr1' hc1'
 have HB0:=Za (Zo (Zo (Below.refl w.heap.size w) (.cells #[.slice A0 l0.length c0,.slice A1 l1.length c1,.int .i64 a2] 25)) (.cells #[.slice A0' l0.length c0',.slice A1' l1.length c1',.int .i64 a2] 25))
 go_enter Tryz.func13,Tryz.ntmps13
 go_wp2_with fail
 refine(H0.out _ HB0.out).mono ?_
 rintro e w1 ⟨rfl,hb⟩
 have HB1:=Za (HB0.out.trans (hb.mono HB0.out.size))
 have s1:w1.cell? ⟨w.heap.size,1,none⟩=some (.slice A1 l1.length c1):=Zx hb (by go_simp)
 have t1:w1.cell? ⟨w.heap.size+1,1,none⟩=some (.slice A1' l1.length c1'):=Zx hb (by go_simp)
 have s2:w1.cell? ⟨w.heap.size,2,none⟩=some (.int .i64 a2):=Zx hb (by go_simp)
 have t2:w1.cell? ⟨w.heap.size+1,2,none⟩=some (.int .i64 a2):=Zx hb (by go_simp)
 clear hb
 go_wp2_with fail
 refine(H1.out _ HB1.out).mono ?_
 rintro e w2 ⟨rfl,hb⟩
 have HB2:=Za (HB1.out.trans (hb.mono HB1.out.size))
 replace s2:=Zx hb s2
 replace t2:=Zx hb t2
 clear hb s1 t1
 go_wp2
 go_ret
 exact⟨rfl,HB2.out⟩
theorem ZgK.same (A0:Option Addr) (c0:Nat) (A0':Option Addr) (c0':Nat) (l0:List Int) (A1:Option Addr) (c1:Nat) (A1':Option Addr) (c1':Nat) (l1:List Int) (w:World) (hr0:Kd.C (Kd.int .i64) w A0 l0.length l0) (hc0:l0.length≤c0) (hr0':Kd.C (Kd.int .i64) w A0' l0.length l0) (hc0':l0.length≤c0') (hr1:Kd.C (Kd.int .i64) w A1 l1.length l1) (hc1:l1.length≤c1) (hr1':Kd.C (Kd.int .i64) w A1' l1.length l1) (hc1':l1.length≤c1') :
  Calls Tryz.prog 34 #[.agg #[.slice A0 l0.length c0,.slice A1 l1.length c1],.agg #[.slice A0' l0.length c0',.slice A1' l1.length c1']] w fun e w'=>e=.returned (.bool true)∧Below w.heap.size w w':=by
 have hu:=Tryz.underlying58
 have H0:=Za fun (W:World) (hb:Below w.heap.size w W)=>(ZaT.calls (2 ^ 64) A0 c0 l0 A0' c0' l0 true W (Zb hr0 hb) hc0 (Zb hr0' hb) hc0' (Zei l0 hr0.2.1 (2 ^ 64) (Nat.le_refl _))).mono fun e w' ⟨he,hd⟩=>(And.intro he hd.below:e=Ending.returned (.bool true)∧Below W.heap.size W w')
 have H1:=Za fun (W:World) (hb:Below w.heap.size w W)=>(ZaT.calls (2 ^ 64) A1 c1 l1 A1' c1' l1 true W (Zb hr1 hb) hc1 (Zb hr1' hb) hc1' (Zei l1 hr1.2.1 (2 ^ 64) (Nat.le_refl _))).mono fun e w' ⟨he,hd⟩=>(And.intro he hd.below:e=Ending.returned (.bool true)∧Below W.heap.size W w')
 clear hr0 hc0 hr0' hc0' hr1 hc1 hr1' hc1'
 have HB0:=Za (Zo (Zo (Below.refl w.heap.size w) (.cells #[.slice A0 l0.length c0,.slice A1 l1.length c1] 58)) (.cells #[.slice A0' l0.length c0',.slice A1' l1.length c1'] 58))
 go_enter Tryz.func34,Tryz.ntmps34
 go_wp2_with fail
 refine(H0.out _ HB0.out).mono ?_
 rintro e w1 ⟨rfl,hb⟩
 have HB1:=Za (HB0.out.trans (hb.mono HB0.out.size))
 have s1:w1.cell? ⟨w.heap.size,1,none⟩=some (.slice A1 l1.length c1):=Zx hb (by go_simp)
 have t1:w1.cell? ⟨w.heap.size+1,1,none⟩=some (.slice A1' l1.length c1'):=Zx hb (by go_simp)
 clear hb
 go_wp2_with fail
 refine(H1.out _ HB1.out).mono ?_
 rintro e w2 ⟨rfl,hb⟩
 have HB2:=Za (HB1.out.trans (hb.mono HB1.out.size))
 clear hb s1 t1
 go_wp2
 go_ret
 exact⟨rfl,HB2.out⟩
theorem Za8.o (k:Nat) (A0_0:Option Addr) (c0_0:Nat) (l0_0:List (S143)) (A0_1:Option Addr) (c0_1:Nat) (l0_1:List (S147)) (a0_2:Int) (r1:List (S39)) (r2:List (S82)) (r3:Int) (w:World) (hr0_0:Kd.C k143 w A0_0 l0_0.length l0_0) (hc0_0:l0_0.length≤c0_0) (hr0_1:Kd.C k147 w A0_1 l0_1.length l0_1) (hc0_1:l0_1.length≤c0_1) (h:Za8.f k l0_0 l0_1 a0_2=some (r1,r2,r3)) :
  Calls Tryz.prog 30 #[.agg #[.slice A0_0 l0_0.length c0_0,.slice A0_1 l0_1.length c0_1,.int .i64 a0_2]] w fun e w'=>∃A0_ c0_ A1_ c1_,e=.returned (.agg #[.slice A0_ r1.length c0_,.slice A1_ r2.length c1_,.int .i64 r3])∧Aside0 (r1.length≤c0_∧Kd.C k39 w' A0_ r1.length r1)∧Aside0 (r2.length≤c1_∧Kd.C k82 w' A1_ r2.length r2)∧Aside0 (Kd.S k39 39 w' w.heap.size (fun k_=>True∧(w.heap.size≤k_∧k_<w'.heap.size)) (.slice A0_ r1.length c0_) r1∧Kd.R k82 82 w' w.heap.size (fun k_=>True∧(w.heap.size≤k_∧k_<w'.heap.size)) (.slice A1_ r2.length c1_) r2)∧Below w.heap.size w w':=
 (Za8.calls k A0_0 c0_0 l0_0 A0_1 c0_1 l0_1 a0_2 r1 r2 r3 w hr0_0 hc0_0 hr0_1 hc0_1 h).mono fun e w' ⟨v0_,v1_,he,q0_,q1_,hb⟩=>by
  obtain⟨A0_,c0_,rfl,g0_⟩:=Kd.S_reads q0_
  obtain⟨A1_,c1_,rfl,g1_⟩:=Kd.R_reads q1_
  exact⟨A0_,c0_,A1_,c1_,he,⟨g0_⟩,⟨g1_⟩,⟨Kd.S_mono (Kd.S_bound q0_) (fun k hk=>⟨hk.1,hk.2.1,hk.2.2.1⟩),Kd.R_mono (Kd.R_bound q1_) (fun k hk=>⟨hk.1,hk.2.1,hk.2.2.1⟩)⟩,hb⟩
theorem ZaV.o (k:Nat) (A0_0:Option Addr) (c0_0:Nat) (l0_0:List Int) (A0_1:Option Addr) (c0_1:Nat) (l0_1:List Int) (r1:List Int) (r2:List Int) (w:World) (hr0_0:Kd.C (Kd.int .i64) w A0_0 l0_0.length l0_0) (hc0_0:l0_0.length≤c0_0) (hr0_1:Kd.C (Kd.int .i64) w A0_1 l0_1.length l0_1) (hc0_1:l0_1.length≤c0_1) (h:ZaV.f k l0_0 l0_1=some (r1,r2)) :
  Calls Tryz.prog 31 #[.agg #[.slice A0_0 l0_0.length c0_0,.slice A0_1 l0_1.length c0_1]] w fun e w'=>∃A0_ c0_ A1_ c1_,e=.returned (.agg #[.slice A0_ r1.length c0_,.slice A1_ r2.length c1_])∧Aside0 (r1.length≤c0_∧Kd.C (Kd.int .i64) w' A0_ r1.length r1)∧Aside0 (r2.length≤c1_∧Kd.C (Kd.int .i64) w' A1_ r2.length r2)∧Aside0 (Kd.R (Kd.int .i64) 3 w' w.heap.size (fun k_=>(some k_≠((.slice A1_ r2.length c1_):Value).ownBlock)∧(w.heap.size≤k_∧k_<w'.heap.size)) (.slice A0_ r1.length c0_) r1∧Kd.R (Kd.int .i64) 3 w' w.heap.size (fun k_=>(some k_≠((.slice A0_ r1.length c0_):Value).ownBlock)∧(w.heap.size≤k_∧k_<w'.heap.size)) (.slice A1_ r2.length c1_) r2)∧Below w.heap.size w w':=
 (ZaV.calls k A0_0 c0_0 l0_0 A0_1 c0_1 l0_1 r1 r2 w hr0_0 hc0_0 hr0_1 hc0_1 h).mono fun e w' ⟨v0_,v1_,he,q0_,q1_,hb⟩=>by
  obtain⟨A0_,c0_,rfl,g0_⟩:=Kd.R_reads q0_
  obtain⟨A1_,c1_,rfl,g1_⟩:=Kd.R_reads q1_
  exact⟨A0_,c0_,A1_,c1_,he,⟨g0_⟩,⟨g1_⟩,⟨Kd.R_mono (Kd.R_bound q0_) (fun k hk=>⟨hk.1,hk.2.1,hk.2.2.1⟩),Kd.R_mono (Kd.R_bound q1_) (fun k hk=>⟨hk.1,hk.2.1,hk.2.2.1⟩)⟩,hb⟩
theorem Zap.o (k:Nat) (A0_0:Option Addr) (c0_0:Nat) (l0_0:List (S39)) (A0_1:Option Addr) (c0_1:Nat) (l0_1:List (S82)) (a0_2:Int) (A1_0:Option Addr) (c1_0:Nat) (l1_0:List Int) (A1_1:Option Addr) (c1_1:Nat) (l1_1:List Int) (r:List ByteArray) (w:World) (hr0_0:Kd.C k39 w A0_0 l0_0.length l0_0) (hc0_0:l0_0.length≤c0_0) (hr0_1:Kd.C k82 w A0_1 l0_1.length l0_1) (hc0_1:l0_1.length≤c0_1) (hr1_0:Kd.C (Kd.int .i64) w A1_0 l1_0.length l1_0) (hc1_0:l1_0.length≤c1_0) (hr1_1:Kd.C (Kd.int .i64) w A1_1 l1_1.length l1_1) (hc1_1:l1_1.length≤c1_1) (ht:TW w) (h:Zap.f k l0_0 l0_1 a0_2 l1_0 l1_1=some r) :
  Calls Tryz.prog 45 #[.agg #[.slice A0_0 l0_0.length c0_0,.slice A0_1 l0_1.length c0_1,.int .i64 a0_2],.agg #[.slice A1_0 l1_0.length c1_0,.slice A1_1 l1_1.length c1_1]] w fun e w'=>∃A0_ c0_,e=.returned (.slice A0_ r.length c0_)∧Aside0 (r.length≤c0_∧Kd.C Kd.string w' A0_ r.length r)∧Aside0 (Kd.R Kd.string 9 w' w.heap.size (fun k_=>True∧(w.heap.size≤k_∧k_<w'.heap.size)) (.slice A0_ r.length c0_) r)∧Below w.heap.size w w':=
 (Zap.calls k A0_0 c0_0 l0_0 A0_1 c0_1 l0_1 a0_2 A1_0 c1_0 l1_0 A1_1 c1_1 l1_1 r w hr0_0 hc0_0 hr0_1 hc0_1 hr1_0 hc1_0 hr1_1 hc1_1 ht h).mono fun e w' ⟨v0_,he,q0_,hb⟩=>by
  obtain⟨A0_,c0_,rfl,g0_⟩:=Kd.R_reads q0_
  exact⟨A0_,c0_,he,⟨g0_⟩,⟨Kd.R_mono (Kd.R_bound q0_) (fun k hk=>⟨hk.1,hk.2.1,hk.2.2.1⟩)⟩,hb⟩
theorem Zfr (l:List Int) (hl:l.length≤9223372036854775807) (a:Int) (h0:0≤a) (h1:a≤1048576):ZaY.f l a=some (if a - l.length<0 then -1 else a - l.length):=by
 unfold ZaY.f
 rw[Zay (by omega) (by omega)]
 split <;> rfl
theorem szNode_f (s:ByteArray) (l:List Int) (n:Int) (hs:s.size≤9223372036854775807) (hl:l.length≤9223372036854775807) (a:Int) (h0:0≤a) (h1:a≤1048576) :
  ∃r,Zcz.f s l n a=some r∧(r<0∨(0≤r∧r≤a∧s.size≤1048576∧l.length≤1048576)):=by
 unfold Zcz.f
 rw[Zay (by omega) (by omega)]
 by_cases h:a - (s.size:Int)<0
 ·rw[if_pos h];exact⟨_,rfl,.inl (by omega)⟩
 ·rw[if_neg h,Zfr l hl _ (by omega) (by omega),Zi]
  by_cases h2:a - (s.size:Int) - l.length<0
  ·rw[if_pos h2,if_pos (by omega)];exact⟨_,rfl,.inl (by omega)⟩
  ·rw[if_neg h2,if_neg h2];exact⟨_,rfl,.inr ⟨by omega,by omega,by omega,by omega⟩⟩
theorem toNode_f (s:ByteArray) (l:List Int) (n:Int) (hl:l.length≤35184372088832) (k:Nat) (hk:2 ^ 64≤k):ZcP.f k s l n=some (s,l,n):=by
 unfold ZcP.f
 rw[Zfp l hl k hk];rfl
theorem szNodeS_l (l:List LNode) (hl:l.length≤9223372036854775807) (hb:∀n∈l,n.f0.size≤9223372036854775807∧n.f1.length≤9223372036854775807) (k:Nat) (hk:2 ^ 64≤k) :
  ∀a:Int,0≤a→a≤1048576→∃r,ZaF.l0 k l a 0=some r∧(r<0∨(0≤r∧r≤a∧∀n∈l,n.f0.size≤1048576∧n.f1.length≤1048576)):=by
 have key:=Za2 l.length (fun k i=>∀a:Int,0≤a→a≤1048576→∃r,ZaF.l0 k l a (i:Int)=some r∧(r<0∨(0≤r∧r≤a∧∀n∈l.drop i,n.f0.size≤1048576∧n.f1.length≤1048576))) 0
  (fun k _ a h0 h1=>⟨a,by simp[ZaF.l0],.inr ⟨h0,Int.le_refl _,by simp⟩⟩)
  (fun k i _ hi ih a h0 h1=>by
   simp only[ZaF.l0]
   rw[if_pos (by omega),if_pos (by omega),rdLN_nat,ZL hi (by omega)]
   have hm:=hb _ (ZaG hi z143)
   obtain⟨r,hr,h⟩:=szNode_f (l.getD i z143).f0 (l.getD i z143).f1 (l.getD i z143).f2 hm.1 hm.2 a h0 h1
   rw[hr,Zi]
   rcases h with h|⟨h2,h3,h4,h5⟩
   ·rw[if_pos h];exact⟨_,rfl,.inl (by omega)⟩
   ·rw[if_neg (by omega)]
    obtain⟨q,hq,h⟩:=ih r h2 (by omega)
    refine⟨q,hq,?_⟩
    rcases h with h|⟨h6,h7,h8⟩
    ·exact .inl h
    ·refine .inr ⟨h6,by omega,?_⟩
     rw[Z8 hi z143]
     intro n hn
     rcases List.mem_cons.1 hn with rfl|hn
     ·exact⟨h4,h5⟩
     ·exact h8 n hn) 0 k (Nat.zero_le _) (by omega)
 intro a h0 h1
 simpa using key a h0 h1
theorem szShow_f (ns:List LNode) (ts:List LTie) (z:Int) (hn:ns.length≤9223372036854775807) (hb:∀n∈ns,n.f0.size≤9223372036854775807∧n.f1.length≤9223372036854775807) (ht:ts.length≤9223372036854775807) (k:Nat) (hk:2 ^ 64≤k) (a:Int) (h0:0≤a) (h1:a≤1048576) :
  ∃r,Zce.f k ns ts z a=some r∧(r<0∨(0≤r∧r≤a∧Zef ns ts)):=by
 unfold Zce.f ZaF.f
 rw[Zay (by omega) (by omega)]
 by_cases h:a - (ns.length:Int)<0
 ·rw[if_pos h,Zi,if_pos (by omega)];exact⟨_,rfl,.inl (by omega)⟩
 ·rw[if_neg h]
  obtain⟨r,hr,h⟩:=szNodeS_l ns hn hb k hk (a - ns.length) (by omega) (by omega)
  rw[hr,Zi]
  rcases h with h|⟨h2,h3,h4⟩
  ·rw[if_pos h];exact⟨_,rfl,.inl (by omega)⟩
  ·rw[if_neg (by omega)]
   unfold Zcy.f
   rw[Zay (by omega) (by omega)]
   by_cases h5:r - (ts.length:Int)<0
   ·rw[if_pos h5,Zi,if_pos (by omega)];exact⟨_,rfl,.inl (by omega)⟩
   ·rw[if_neg h5,Zi,if_neg h5];exact⟨_,rfl,.inr ⟨by omega,by omega,by omega,by omega,h4⟩⟩
theorem toNodeS_f (l:List LNode) (hl:l.length≤1048576) (hb:∀n∈l,n.f0.size≤1048576∧n.f1.length≤1048576) (k:Nat) (hk:2 ^ 65≤k):ZaE.f k l=some (l.map cvN):=by
 have key:=Za2 l.length (fun k i=>ZaE.l0 k l ((l.map cvN).take i ++ List.replicate ((l.map cvN).length - i) z39) (i:Int)=some (l.map cvN)) (2 ^ 64)
  (fun k _=>by simp[ZaE.l0];rw[List.take_of_length_le (by simp)])
  (fun k i hk hi ih=>by
   simp only[ZaE.l0]
   have hm:=hb _ (ZaG hi z143)
   rw[if_pos (by omega),if_pos (by omega),rdLN_nat,toNode_f _ _ _ (by omega) k hk,Zi,if_pos (by simp;omega),ZL hi (by omega),Int.toNat_natCast,ZdU (l.map cvN) _ z39 i (by simpa using hi) _ (by rw[getD_map cvN l i z143 z39 zN];rfl)]
   exact ih) 0 k (Nat.zero_le _) (by omega)
 unfold ZaE.f
 rw[if_pos (by omega),if_pos (by omega),Int.toNat_natCast]
 simpa using key
theorem toTieS_f (l:List LTie) (hl:l.length≤1048576) (k:Nat) (hk:2 ^ 64≤k):ZaQ.f k l=some (l.map cvT):=by
 have key:=Za2 l.length (fun k i=>ZaQ.l0 k l ((l.map cvT).take i ++ List.replicate ((l.map cvT).length - i) z82) (i:Int)=some (l.map cvT)) 0
  (fun k _=>by simp[ZaQ.l0];rw[List.take_of_length_le (by simp)])
  (fun k i hk hi ih=>by
   simp only[ZaQ.l0,Zdm.f]
   rw[if_pos (by omega),if_pos (by omega),rdLT_nat,Zi,if_pos (by simp;omega),ZL hi (by omega),Int.toNat_natCast,ZdU (l.map cvT) _ z82 i (by simpa using hi) _ (by rw[getD_map cvT l i z147 z82 zT];rfl)]
   exact ih) 0 k (Nat.zero_le _) (by omega)
 unfold ZaQ.f
 rw[if_pos (by omega),if_pos (by omega),Int.toNat_natCast]
 simpa using key
theorem toShow_f (ns:List LNode) (ts:List LTie) (z:Int) (h:Zef ns ts) (k:Nat) (hk:2 ^ 65≤k):Za8.f k ns ts z=some (ns.map cvN,ts.map cvT,z):=by
 unfold Za8.f
 rw[toNodeS_f ns h.1 h.2.2 k hk,Zi,toTieS_f ts h.2.1 k (by omega)];rfl
theorem szChoice_f (t v:List Int) (ht:t.length≤9223372036854775807) (hv:v.length≤9223372036854775807) (a:Int) (h0:0≤a) (h1:a≤1048576) :
  ∃r,Zca.f t v a=some r∧(r<0∨(0≤r∧r≤a∧t.length≤1048576∧v.length≤1048576)):=by
 unfold Zca.f
 rw[Zfr t ht a h0 h1,Zi]
 by_cases h:a - (t.length:Int)<0
 ·rw[if_pos h,if_pos (by omega)];exact⟨_,rfl,.inl (by omega)⟩
 ·rw[if_neg h,if_neg h,Zfr v hv _ (by omega) (by omega),Zi]
  by_cases h2:a - (t.length:Int) - v.length<0
  ·rw[if_pos h2,if_pos (by omega)];exact⟨_,rfl,.inl (by omega)⟩
  ·rw[if_neg h2,if_neg h2];exact⟨_,rfl,.inr ⟨by omega,by omega,by omega,by omega⟩⟩
theorem toChoice_f (t v:List Int) (ht:t.length≤35184372088832) (hv:v.length≤35184372088832) (k:Nat) (hk:2 ^ 64≤k):ZaV.f k t v=some (t,v):=by
 unfold ZaV.f
 rw[Zfp t ht k hk,Zi,Zfp v hv k hk];rfl
def hangs (E:List Zac) (I:Nat→Prop):Prop:=¬I 0∧∀e∈E,(I e.f1.toNat→e.f0=0∧e.f2=0)∧(I e.f0.toNat→e.f1=0∧e.f2=0)
structure AInv (E:List Zac) (N:Nat) (I:Nat→Prop) (s:BSt):Prop where
 ld:s.1.length=N
 ll:s.2.1.length=N
 W:∀v,wrap64 (s.1.getD v 0)=s.1.getD v 0
 D:∀v,I v→v<N→s.1.getD 0 0≤s.1.getD v 0
 L:∀j e,E[j]? = some e→s.2.1.getD 0 0=((j:Nat):Int)→¬I e.f0.toNat
theorem wrap_wrap (x:Int):wrap64 (wrap64 x)=wrap64 x:=by unfold wrap64;omega
theorem AInv.relax {E:List Zac} {N:Nat} {I:Nat→Prop} (hI:hangs E I) (hE:ZbL E N) {s:BSt} (h:AInv E N I s) {i:Nat} {e:Zac} (he:E[i]? = some e):AInv E N I (Pr.relax s i e):=by
 obtain⟨ld,ll,W,D,L⟩:=h
 have hm:=hI.2 e (List.mem_of_getElem? he)
 have hin:=hE e (List.mem_of_getElem? he)
 unfold Pr.relax
 split
 case isFalse=>exact⟨ld,ll,W,D,L⟩
 rename_i c
 have eu:rd s.1 e.f0=s.1.getD e.f0.toNat 0:=rfl
 have ev:rd s.1 e.f1=s.1.getD e.f1.toNat 0:=rfl
 rw[eu,ev] at c
 rw[eu]
 have hnf:¬I e.f0.toNat:=by
  intro hf
  obtain⟨h1,h2⟩:=hm.2 hf
  rw[h1,h2,Int.add_zero,W] at c
  have:=D _ hf (by omega)
  have c':s.1.getD e.f0.toNat 0<s.1.getD 0 0:=c
  omega
 refine⟨by simpa using ld,by simpa using ll,?_,?_,?_⟩
 ·intro v
  show wrap64 ((s.1.set e.f1.toNat (wrap64 (s.1.getD e.f0.toNat 0+e.f2))).getD v 0)=(s.1.set e.f1.toNat (wrap64 (s.1.getD e.f0.toNat 0+e.f2))).getD v 0
  by_cases hv:e.f1.toNat=v
  ·subst hv
   rw[Za4 (by omega),wrap_wrap]
  ·rw[Pr.getD_set_ne hv];exact W v
 ·intro v hv hvl
  show(s.1.set e.f1.toNat (wrap64 (s.1.getD e.f0.toNat 0+e.f2))).getD 0 0≤(s.1.set e.f1.toNat (wrap64 (s.1.getD e.f0.toNat 0+e.f2))).getD v 0
  have hv0:v≠0:=fun h=>hI.1 (h ▸ hv)
  by_cases h1:e.f1.toNat=0
  ·rw[h1,Za4 (by omega),Pr.getD_set_ne (by omega)]
   have:=D v hv hvl
   rw[h1] at c
   omega
  ·rw[Pr.getD_set_ne h1]
   by_cases h2:e.f1.toNat=v
   ·subst h2
    obtain⟨a,b⟩:=hm.1 hv
    rw[Za4 (by omega),a,b,Int.add_zero,show(0:Int).toNat=0 from rfl,W]
    exact Int.le_refl _
   ·rw[Pr.getD_set_ne h2];exact D v hv hvl
 ·intro j e' hj hl'
  have hl2:(s.2.1.set e.f1.toNat (i:Int)).getD 0 0=((j:Nat):Int):=hl'
  by_cases h1:e.f1.toNat=0
  ·rw[h1,Za4 (by omega)] at hl2
   obtain rfl:i=j:=by omega
   rw[he] at hj
   cases hj
   exact hnf
  ·rw[Pr.getD_set_ne h1] at hl2
   exact L j e' hj hl2
theorem AInv.rnd {E:List Zac} {N:Nat} {I:Nat→Prop} (hI:hangs E I) (hE:ZbL E N):∀(n i:Nat) (s:BSt),i+n=E.length→AInv E N I s→AInv E N I (Pr.rnd (E.drop i) i s):=by
 intro n
 induction n with
 | zero=>
  intro i s hn h
  obtain rfl:i=E.length:=by omega
  rw[List.drop_length];exact h
 | succ n ih=>
  intro i s hn h
  have hi:i<E.length:=by omega
  rw[List.drop_eq_getElem_cons hi]
  exact ih (i+1) _ (by omega) (h.relax hI hE (Zl hi))
theorem AInv.rounds {E:List Zac} {N:Nat} {I:Nat→Prop} (hI:hangs E I) (hE:ZbL E N):∀(n:Nat) (s:BSt),AInv E N I s→AInv E N I (Pr.rounds E n s)
 | 0,s,h=>h
 | n+1,s,h=>by
  have h1:AInv E N I (s.1,s.2.1,-1):=⟨h.ld,h.ll,h.W,h.D,h.L⟩
  exact AInv.rounds hI hE n _ (AInv.rnd hI hE E.length 0 _ (by omega) h1)
theorem Zes (n:Nat) (x d:Int) (v:Nat):(List.replicate n x).getD v d=if v<n then x else d:=by
 rw[List.getD_eq_getElem?_getD,List.getElem?_replicate]
 split <;> rfl
theorem AInv.start {E:List Zac} {N:Nat} {I:Nat→Prop} (hN:1≤N):AInv E N I (bst0 N):=by
 refine⟨by simp[bst0],by simp[bst0],?_,?_,?_⟩
 ·intro v
  show wrap64 ((List.replicate N 0).getD v 0)=(List.replicate N 0).getD v 0
  rw[Zes]
  split <;> exact w64_id (by omega) (by omega)
 ·intro v _ hv
  show(List.replicate N 0).getD 0 0≤(List.replicate N 0).getD v 0
  rw[Zes,Zes,if_pos hv,if_pos (by omega)]
  exact Int.le_refl _
 ·intro j e _ h
  have h2:(List.replicate N (-1)).getD 0 0=((j:Nat):Int):=h
  rw[Zes,if_pos (by omega)] at h2
  omega
theorem nc_avoid {E:List Zac} {N:Nat} {I:Nat→Prop} (hI:hangs E I) (hE:ZbL E N) (hN:1≤N) {c:Int} (hc:c∈ncB N E):0≤c∧∃e,E[c.toNat]? = some e∧¬I e.f0.toNat∧¬I e.f1.toNat:=by
 have hA:=AInv.rounds hI hE N _ (AInv.start (E:=E) (I:=I) hN)
 unfold ncB at hc
 dsimp only at hc
 split at hc
 case isTrue=>exact absurd hc (by simp)
 rename_i hch
 obtain⟨c0,e0,he0,hce,hlt,hg,hga,q0,hq1,hq2,hq3⟩:=bf_circle hE hN (by omega)
 obtain⟨s,hs⟩:∃s,s=rounds E N (bst0 N):=⟨_,rfl⟩
 rw[← hs] at hA hc hch hce hlt hg hga hq3
 have ha:backB E N s=bit E s.2.1 N e0.f1.toNat:=by
  unfold backB
  rw[hce,Int.toNat_natCast,List.getD_eq_getElem?_getD,he0];rfl
 rw[ha] at hc
 generalize bit E s.2.1 N e0.f1.toNat=a at hc hga hq3
 have per:∀m,bit E s.2.1 (m+q0) a=bit E s.2.1 m a:=fun m=>by rw[Zcg,hq3]
 have clean:∀m,¬I (bit E s.2.1 m a):=by
  intro m hm
  rw[← per m] at hm
  obtain⟨p,hp⟩:∃p,m+q0=p+1:=⟨m+q0 - 1,by omega⟩
  rw[hp] at hm
  obtain⟨_,j,e,hj,hl,hv⟩:=hga p
  rw[show bit E s.2.1 (p+1) a=bnxt E s.2.1 (bit E s.2.1 p a) from rfl,bnxt_at hj hl] at hm
  obtain⟨h1,_⟩:=(hI.2 e (List.mem_of_getElem? hj)).2 hm
  rw[h1] at hv
  rw[← hv] at hl
  exact hA.L j e hj hl hm
 rw[List.mem_reverse] at hc
 unfold cycB at hc
 obtain⟨i,_,rfl⟩:=List.mem_map.1 hc
 obtain⟨_,j,e,hj,hl,hv⟩:=hga i
 rw[hl]
 refine⟨by omega,e,by rw[Int.toNat_natCast];exact hj,?_,?_⟩
 ·have:=clean (i+1)
  rwa [show bit E s.2.1 (i+1) a=bnxt E s.2.1 (bit E s.2.1 i a) from rfl,bnxt_at hj hl] at this
 ·rw[hv];exact clean i
theorem ZaW {ns:List ZM} {ts:List PTie} {z:Int} (h:Zal ns ts z=true):ZV ns=true:=by
 unfold Zal at h
 simp only[Bool.and_eq_true] at h
 exact h.1.1.1.1
theorem Zcx {ns:List ZM} {ts:List PTie} {z:Int} (h:Zal ns ts z=true):Zbz ns ts=true:=by
 unfold Zal at h
 simp only[Bool.and_eq_true] at h
 exact h.1.1.1.2
def ZcY (ts:List PTie) (n:Nat):List Int:=((List.range n).filter fun i=>(ts.getD i z82).f4).map fun i:Nat=>(i:Int)
def Zbl (ts:List PTie):List Int:=ZcY ts ts.length
theorem Zfl (ts:List PTie) (n:Nat):ZcY ts (n+1)=if (ts.getD n z82).f4=true then ZcY ts n ++ [(n:Int)] else ZcY ts n:=by
 unfold ZcY
 rw[List.range_succ,List.filter_append,List.map_append]
 by_cases h:(ts.getD n z82).f4=true
 ·rw[if_pos h,List.filter_cons_of_pos (by simpa using h)];rfl
 ·rw[if_neg h,List.filter_cons_of_neg (by simpa using h)];simp
theorem ZeG (ts:List PTie) (n:Nat):(ZcY ts n).length≤n:=by
 unfold ZcY
 rw[List.length_map]
 exact Nat.le_trans (List.length_filter_le _ _) (by simp)
theorem freeIx_len (ts:List PTie):(Zbl ts).length≤ts.length:=ZeG ts ts.length
theorem freeIx_in {ts:List PTie} {x:Int} (h:x∈Zbl ts):0≤x∧x<ts.length:=by
 unfold Zbl ZcY at h
 obtain⟨i,hi,rfl⟩:=List.mem_map.1 h
 have:=List.mem_range.1 (List.mem_filter.1 hi).1
 omega
theorem ZfQ (ns:List ZM) (ts:List PTie) (z:Int) (hl:ts.length≤1048576) (k:Nat) (hk:2 ^ 64≤k):Z6.f k ns ts z=some (Zbl ts):=by
 have key:=Za2 ts.length (fun k i=>Z6.l0 k (ZcY ts i) ts ts.length (i:Int)=some (Zbl ts)) 0
  (fun k _=>by
   simp only[Z6.l0]
   rw[if_neg (by omega)];rfl)
  (fun k i _ hi ih=>by
   simp only[Z6.l0]
   have:=ZeG ts i
   rw[Zfl] at ih
   rw[if_pos (by omega),if_pos (by omega),if_pos (by omega),Zem,ZL hi (by omega)]
   by_cases h:(ts.getD i z82).f4=true
   ·rw[if_pos h,if_pos (by omega)];rw[if_pos h] at ih;exact ih
   ·rw[if_neg h];rw[if_neg h] at ih;exact ih) 0 k (Nat.zero_le _) (by omega)
 unfold Z6.f
 exact key
theorem l10Free_f (ns:List ZM) (ts:List PTie) (z:Int) (hl:ts.length≤1048576) (k:Nat) (hk:2 ^ 64≤k):Zab.f k ns ts z=some (Zbl ts):=by
 have key:=Za2 ts.length (fun k i=>Zab.l0 k (ZcY ts i) ts ts.length (i:Int)=some (Zbl ts)) 0
  (fun k _=>by
   simp only[Zab.l0]
   rw[if_neg (by omega)];rfl)
  (fun k i _ hi ih=>by
   simp only[Zab.l0]
   have:=ZeG ts i
   rw[Zfl] at ih
   rw[if_pos (by omega),if_pos (by omega),if_pos (by omega),Zem,ZL hi (by omega)]
   by_cases h:(ts.getD i z82).f4=true
   ·rw[if_pos h,if_pos (by omega)];rw[if_pos h] at ih;exact ih
   ·rw[if_neg h];rw[if_neg h] at ih;exact ih) 0 k (Nat.zero_le _) (by omega)
 unfold Zab.f
 exact key
def Zcu (ns:List ZM) (ts:List PTie) (ln vs:List Int):Bool:=decide (ln.length=(Zbl ts).length) && (decide (vs.length=3) && (Zcj ts (Zbl ts) ln && Zbf ns 0 vs))
def ZbW (ns:List ZM) (ts:List PTie) (z:Int) (ln vs:List Int):Bool:=Zal ns ts z && Zcu ns ts ln vs
theorem ZfL {ns:List ZM} {ts:List PTie} (z:Int) (ln vs:List Int) (hc:Zbm ns ts) (_hl:vs.length≤1048576) (k:Nat) (hk:2 ^ 66≤k):ZbN.f k ns ts z ln vs=some (Zcu ns ts ln vs):=by
 unfold ZbN.f Zcu
 rw[ZfQ ns ts z hc.2.1 _ (by omega),Zi,if_pos (List.all_eq_true.2 fun x hx=>by have:=freeIx_in hx;simpa using this)]
theorem ZfN {ns:List ZM} {ts:List PTie} {z:Int} (ln vs:List Int) (hc:Zbm ns ts) (hl:vs.length≤1048576) (k:Nat) (hk:2 ^ 66≤k):ZbO.f k ns ts z ln vs=some (ZbW ns ts z ln vs):=by
 unfold ZbO.f ZbW
 rw[ZgL (fitN_of hc),Zi]
 cases hs:Zal ns ts z with
 | false=>rfl
 | true=>rw[if_pos rfl,Bool.true_and,ZfL z ln vs hc hl k hk];rfl
theorem Zd8 {ns:List ZM} {ts:List PTie} {z:Int} (ln vs:List Int) (hc:Zbm ns ts) (_hl:vs.length≤1048576) (k:Nat) (hk:2 ^ 67≤k):Zbb.f k ns ts z ln vs=some (ZbW ns ts z ln vs):=by
 unfold Zbb.f ZbW
 rw[ZgD ns ts z (fitN_of hc) _ (by omega),Zi]
 cases hs:Zal ns ts z with
 | false=>rfl
 | true=>
  rw[if_pos rfl,Bool.true_and,l10Free_f ns ts z hc.2.1 _ (by omega),Zi,if_pos (List.all_eq_true.2 fun x hx=>by have:=freeIx_in hx;simpa using this)]
  rfl
theorem ZeR {ns:List ZM}:∀(l:List Int) (i:Nat),Zbf ns i l=true→∀n∈l,-1≤n∧n≤1
 | [],_,_,n,hn=>by simp at hn
 | v :: t,i,h,n,hn=>by
  rw[Zbf,Bool.and_eq_true] at h
  rcases List.mem_cons.1 hn with rfl|hn
  ·have h1:=h.1
   unfold valAt at h1
   simp only[Bool.or_eq_true,Bool.and_eq_true,decide_eq_true_eq] at h1
   omega
  ·exact ZeR t _ h.2 n hn
theorem ZdE {ns:List ZM} {ts:List PTie} {ln vs:List Int} (h:Zcu ns ts ln vs=true):Zcl vs=true:=by
 unfold Zcu at h
 simp only[Bool.and_eq_true,decide_eq_true_eq] at h
 unfold Zcl
 rw[Ze h.2.1,Bool.true_and,List.all_eq_true]
 intro n hn
 have:=ZeR vs 0 h.2.2.2 n hn
 simp;omega
theorem labFrom_all:∀(l:List Int) (p:Int),Zb5 p l=true→∀x∈l,Zbp x=true:=by
 intro l
 induction l with
 | nil=>intro p _ x hx;simp at hx
 | cons y t ih=>
  intro p h x hx
  simp only[Zb5,Bool.and_eq_true] at h
  rcases List.mem_cons.1 hx with rfl|hx
  ·exact h.1.1
  ·exact ih _ h.2 x hx
theorem Zd1 {l:List Int} (h:labB l=true):∀x∈l,Zbp x=true:=labFrom_all l 0 h
theorem valsB_at {v:List Int} (h:Zcl v=true):v.length=3∧∀i,-1≤v.getD i 0∧v.getD i 0≤1:=by
 simp only[Zcl,Bool.and_eq_true,decide_eq_true_eq,List.all_eq_true] at h
 refine⟨h.1,fun i=>?_⟩
 by_cases hi:i<v.length
 ·exact h.2 _ (ZaG hi 0)
 ·rw[List.getD_eq_getElem?_getD,List.getElem?_eq_none (by omega)];simp
theorem mn_min (a b:Int):mn a b=min a b:=by unfold mn;split <;> omega
theorem holds_f {x:Int} {v:List Int} (hx:Zbp x=true) (hv:Zcl v=true):impl_holds.f x v=some (if x<0 then -(v.getD (prp x - 1).toNat 0) else v.getD (prp x - 1).toNat 0):=by
 have hp:=Zde hx
 obtain⟨h3,hb⟩:=valsB_at hv
 have hb':=hb (prp x - 1).toNat
 unfold impl_holds.f
 rw[ZdY hx,Zi,Zay (i:=prp x - 1) (by omega) (by omega),if_pos (by omega),if_pos (by omega)]
 have e:rd v (prp x - 1)=v.getD (prp x - 1).toNat 0:=rfl
 rw[e,Zay (by omega) (by omega)]
 split <;> rfl
theorem l07State_f (l v:List Int) (hl:l.length≤9223372036854775807) (h1:∀x∈l,Zbp x=true) (hv:Zcl v=true) (k:Nat) (hk:2 ^ 64≤k):Z3.f k l v=some (stB l v):=by
 obtain⟨h3,hb⟩:=valsB_at hv
 have key:=Za2 l.length (fun k i=>∀a:Int,Z3.l0 k v a l l.length (i:Int)=some (Zc6 v a (l.drop i))) 0
  (fun k _ a=>by simp[Z3.l0,Zc6])
  (fun k i _ hi ih a=>by
   simp only[Z3.l0]
   have hx:=h1 _ (ZaG hi 0)
   have hp:=Zde hx
   have hb':=hb (prp (l.getD i 0) - 1).toNat
   have e:rd v (prp (l.getD i 0) - 1)=v.getD (prp (l.getD i 0) - 1).toNat 0:=rfl
   rw[if_pos (by omega),if_pos (by omega),if_pos (by omega),ZaO,ZL hi (by omega),Z8 hi 0,Zdf hx,Zi,Zay (i:=prp (l.getD i 0) - 1) (by omega) (by omega),if_pos (by omega),if_pos (by omega),e,Zay (by omega) (by omega),ih,ih,mn_min,mn_min]
   simp only[Zc6]
   split <;> rfl) 0 k (Nat.zero_le _) (by omega)
 unfold Z3.f stB
 simpa using key 1
def labStB (l v:List Int):Int:=if labB l && Zcl v then stB l v else -1
theorem Zfe (l v:List Int) (hl:l.length≤9223372036854775807) (k:Nat) (hk:2 ^ 65≤k):ZX.f k l v=some (labStB l v):=by
 unfold ZX.f labStB
 obtain⟨m,rfl⟩:∃m,k=m+1:=⟨k - 1,by omega⟩
 rw[Zc3 l hl _ (by omega),Zi]
 cases h:labB l
 ·rfl
 ·rw[if_pos rfl]
  unfold Zcp.f
  rw[Zi]
  cases h2:Zcl v
  ·rfl
  ·simp only[ZX.j0,Bool.not_true,Bool.false_eq_true,if_false]
   have key:=Za2 l.length (fun k i=>∀a:Int,ZX.l0 k v a l l.length (i:Int)=some (Zc6 v a (l.drop i))) 0
    (fun k _ a=>by simp[ZX.l0,Zc6])
    (fun k i _ hi ih a=>by
     simp only[ZX.l0]
     have hx:=Zd1 h _ (ZaG hi 0)
     rw[if_pos (by omega),if_pos (by omega),if_pos (by omega),ZaO,ZL hi (by omega),Z8 hi 0,holds_f hx h2,Zi,ih,mn_min]
     rfl) 0 m (Nat.zero_le _) (by omega)
   have:=key 1
   rw[List.drop_zero] at this
   rw[show((0:Nat):Int)=0 from rfl] at this
   rw[this];rfl
theorem ZeV {ns:List ZM} (h:ZV ns=true):∀n∈ns,labB n.f1=true:=by
 intro n hn
 obtain⟨j,hj,rfl⟩:=List.mem_iff_getElem.1 hn
 have:=Zd7 h j hj
 unfold Zc8 Zc2 at this
 rw[show ns.getD j z39=ns[j] by rw[List.getD_eq_getElem?_getD,Zl hj];rfl] at this
 simp only[Bool.and_eq_true] at this
 exact this.1.1.2
def hapB (ns:List ZM) (vs:List Int) (i:Int):Bool:=stB (ZI ns i).f1 vs == 1
theorem Zen {ns:List ZM} {i:Int} (h0:0≤i) (h1:i<ns.length):ZI ns i∈ns:=by
 obtain⟨m,rfl⟩:=Int.eq_ofNat_of_zero_le h0
 rw[show ZI ns ((m:Nat):Int)=ns.getD m z39 from Zcn ns m]
 exact ZaG (by omega) _
theorem Zf9 {ns:List ZM} {ts:List PTie} (z:Int) (ln vs:List Int) (i:Int) (hc:Zbm ns ts) (hn:ZV ns=true) (hv:Zcl vs=true) (h0:0≤i) (h1:i<ns.length) (k:Nat) (hk:2 ^ 65≤k):Za1.f k ns ts z ln vs i=some (hapB ns vs i):=by
 have hm:=Zen h0 h1
 have hs:=(hc.2.2 _ hm).2
 unfold Za1.f hapB
 rw[if_pos h0,if_pos h1,Zfe _ vs (by omega) k hk,Zi]
 unfold labStB
 rw[ZeV hn _ hm,hv];rfl
theorem ZfD {ns:List ZM} {ts:List PTie} (vs:List Int) (i:Int) (hc:Zbm ns ts) (hn:ZV ns=true) (hv:Zcl vs=true) (h0:0≤i) (h1:i<ns.length) (k:Nat) (hk:2 ^ 64≤k):Z3.f k (ZI ns i).f1 vs=some (stB (ZI ns i).f1 vs):=by
 have hm:=Zen h0 h1
 have hs:=(hc.2.2 _ hm).2
 exact l07State_f _ vs (by omega) (Zd1 (ZeV hn _ hm)) hv k hk
theorem nodeIn_iff {n x:Int} (h:Zcb n x=true):0≤x∧x<n:=by
 unfold Zcb at h
 rw[Bool.and_eq_true,decide_eq_true_eq,decide_eq_true_eq] at h
 exact h
theorem ZcQ {ns:List ZM} {ts:List PTie} {z:Int} {ln vs:List Int} (h:ZbW ns ts z ln vs=true):Zal ns ts z=true∧Zcu ns ts ln vs=true:=by
 unfold ZbW at h
 rw[Bool.and_eq_true] at h
 exact h
def bs (l:List UInt8):ByteArray:=⟨l.toArray⟩
theorem bs_of (a:ByteArray):bs a.data.toList=a:=by unfold bs;simp
theorem bs_list (l:List UInt8):(bs l).data.toList=l:=by unfold bs;simp
theorem Zeo (a b:List UInt8):bs a ++ bs b=bs (a ++ b):=by
 unfold bs
 ext1
 rw[ByteArray.data_append];simp
theorem ZcG (l:List UInt8):(bs l).size=l.length:=by unfold bs;simp[ByteArray.size]
theorem ZcK (n:Int) (h0 : -9223372036854775808≤n) (h1:n≤9223372036854775807):ZaC.f n=some (bs (Lib.itoa n)):=by
 unfold ZaC.f
 rw[if_pos ⟨h0,h1⟩];rfl
theorem dec_len:∀(d m:Nat),m<10 ^ (d+1)→(Lib.decDigits m).length≤d+1
 | d,m,hm=>by
  by_cases c:m<10
  ·rw[Lib.decDigits,dif_pos c];simp only[List.length_singleton];omega
  ·cases d with
   | zero=>simp at hm;omega
   | succ d=>
    have h:=dec_len d (m / 10) (by rw[Nat.pow_succ] at hm;omega)
    rw[Lib.decDigits,dif_neg c,List.length_append,List.length_singleton];omega
theorem ZeA (n:Int) (h0 : -9223372036854775808≤n) (h1:n≤9223372036854775807):(Lib.itoa n).length≤20:=by
 by_cases c:n<0
 ·have:=dec_len 18 n.natAbs (by omega)
  rw[Lib.itoa,if_pos c,List.length_cons];omega
 ·rw[Lib.itoa,if_neg c]
  have:=dec_len 18 n.toNat (by omega)
  omega
abbrev bl (l:List ByteArray):List (List UInt8):=l.map (·.data.toList)
theorem impl_Join_f (l:List ByteArray) (sep:ByteArray) (hl:l.length≤1048576) (hb:(Lib.join (bl l) sep.data.toList).length≤140737488355328):Zbv.f l sep=some (bs (Lib.join (bl l) sep.data.toList)):=by
 unfold Zbv.f
 rw[if_pos ⟨hl,hb⟩];rfl
theorem ZeS {ns:List ZM} {ts:List PTie}:∀(d i:Nat),Zb8 ns ts i d=true→∀j,i≤j→j<i+d→ptieB ns ts j=true
 | 0,i,_,j,h1,h2=>by omega
 | d+1,i,h,j,h1,h2=>by
  rw[Zb8,Bool.and_eq_true] at h
  by_cases e:j=i
  ·rw[e];exact h.1
  ·exact ZeS d (i+1) h.2 j (by omega) (by omega)
theorem Zej {ns:List ZM} {ts:List PTie} (h:Zbz ns ts=true) {j:Int} (h0:0≤j) (h1:j<ts.length) :
  (0≤(Zu ts j).f0∧(Zu ts j).f0<ns.length)∧(0≤(Zu ts j).f1∧(Zu ts j).f1<ns.length)∧(-20≤(Zu ts j).f2∧(Zu ts j).f2≤20)∧(-20≤(Zu ts j).f3∧(Zu ts j).f3≤20):=by
 obtain⟨m,rfl⟩:=Int.eq_ofNat_of_zero_le h0
 unfold Zbz at h
 rw[Bool.and_eq_true] at h
 have:=ZeS _ _ h.1 m (Nat.zero_le _) (by omega)
 unfold ptieB Zb2 at this
 simp only[Zcb,spanB,Bool.and_eq_true,decide_eq_true_eq] at this
 obtain⟨⟨⟨⟨⟨⟨a,b⟩,_⟩,c⟩,d⟩,_⟩,_⟩:=this
 omega
theorem ZdF {ns:List ZM} {ts:List PTie} (h:Zbz ns ts=true):ts.length≤14:=by
 unfold Zbz at h
 rw[Bool.and_eq_true,decide_eq_true_eq] at h
 exact h.2
theorem Zdv {ns:List ZM} (h:ZV ns=true):ns.length≤7:=by
 unfold ZV at h
 simp only[Bool.and_eq_true,decide_eq_true_eq] at h
 exact h.1.1.1.2
theorem Zdk {ns:List ZM} (h:ZV ns=true) {j:Int} (h0:0≤j) (h1:j<ns.length):(ZI ns j).f0.size≤8∧labB (ZI ns j).f1=true∧0≤(ZI ns j).f2∧(ZI ns j).f2≤3:=by
 obtain⟨m,rfl⟩:=Int.eq_ofNat_of_zero_le h0
 have:=Zd7 h m (by omega)
 rw[Zcn]
 unfold Zc8 Zc2 nameB at this
 simp only[Bool.and_eq_true,decide_eq_true_eq] at this
 obtain⟨⟨⟨⟨_,_,a⟩,b⟩,c,d⟩,_⟩:=this
 exact⟨a,b,c,d⟩
def nmL (ns:List ZM) (i:Int):List UInt8:=(ZI ns i).f0.data.toList
theorem nm_bs (ns:List ZM) (i:Int):(ZI ns i).f0=bs (nmL ns i):=(bs_of _).symm
theorem nm_len {ns:List ZM} (h:ZV ns=true) {j:Int} (h0:0≤j) (h1:j<ns.length):(nmL ns j).length≤8:=by
 have:=(Zdk h h0 h1).1
 rw[nm_bs,ZcG] at this
 exact this
def tieW (b:Bool):List UInt8:=if b=true then[102,114,101,101] else[116,105,101]
def tieT (ns:List ZM) (t:PTie):List UInt8:=tieW t.f4 ++ [32] ++ nmL ns t.f0 ++ [32] ++ nmL ns t.f1 ++ [32] ++ Lib.itoa t.f2 ++ [32] ++ Lib.itoa t.f3
theorem tieT_join (ns:List ZM) (t:PTie):Lib.join [tieW t.f4,nmL ns t.f0,nmL ns t.f1,Lib.itoa t.f2,Lib.itoa t.f3] [32]=tieT ns t:=by
 simp[Lib.join,Lib.joinTail,tieT]
theorem Zfq {ns:List ZM} {ts:List PTie} (hn:ZV ns=true) (h:Zbz ns ts=true) {j:Int} (h0:0≤j) (h1:j<ts.length):(tieT ns (Zu ts j)).length≤80:=by
 obtain⟨a,b,c,d⟩:=Zej h h0 h1
 have e1:=nm_len hn a.1 a.2
 have e2:=nm_len hn b.1 b.2
 have e3:=ZeA _ (show -9223372036854775808≤(Zu ts j).f2 by omega) (by omega)
 have e4:=ZeA _ (show -9223372036854775808≤(Zu ts j).f3 by omega) (by omega)
 have e5:(tieW (Zu ts j).f4).length≤4:=by unfold tieW;split <;> simp
 unfold tieT
 simp only[List.length_append,List.length_cons,List.length_nil]
 omega
theorem Zf7 {ns:List ZM} {ts:List PTie} (z:Int) (hn:ZV ns=true) (h:Zbz ns ts=true) {j:Int} (h0:0≤j) (h1:j<ts.length):Zbk.f ns ts z j=some (bs (tieT ns (Zu ts j))):=by
 obtain⟨a,b,c,d⟩:=Zej h h0 h1
 have hl:=Zfq hn h h0 h1
 unfold Zbk.f
 rw[if_pos h0,if_pos h1]
 have hj:∀w:ByteArray,w=bs (tieW (Zu ts j).f4)→Zbv.f [w,(ZI ns (Zu ts j).f0).f0,(ZI ns (Zu ts j).f1).f0,bs (Lib.itoa (Zu ts j).f2),bs (Lib.itoa (Zu ts j).f3)] ⟨#[32]⟩=some (bs (tieT ns (Zu ts j))):=by
  rintro w rfl
  rw[nm_bs,nm_bs,show(⟨#[32]⟩:ByteArray)=bs [32] from rfl]
  have e:bl [bs (tieW (Zu ts j).f4),bs (nmL ns (Zu ts j).f0),bs (nmL ns (Zu ts j).f1),bs (Lib.itoa (Zu ts j).f2),bs (Lib.itoa (Zu ts j).f3)]=[tieW (Zu ts j).f4,nmL ns (Zu ts j).f0,nmL ns (Zu ts j).f1,Lib.itoa (Zu ts j).f2,Lib.itoa (Zu ts j).f3]:=by simp only[bl,List.map_cons,List.map_nil,bs_list]
  rw[impl_Join_f _ _ (by simp) (by rw[e,bs_list,tieT_join];omega),e,bs_list,tieT_join]
 by_cases hb:(Zu ts j).f4=true
 ·rw[if_pos hb,if_pos a.1,if_pos a.2,if_pos b.1,if_pos b.2,ZcK _ (by omega) (by omega),Zi,ZcK _ (by omega) (by omega),Zi,hj _ (by unfold tieW;rw[if_pos hb];rfl),Zi]
 ·rw[if_neg hb,if_pos a.1,if_pos a.2,if_pos b.1,if_pos b.2,ZcK _ (by omega) (by omega),Zi,ZcK _ (by omega) (by omega),Zi,hj _ (by unfold tieW;rw[if_neg hb];rfl),Zi]
def cat {α:Type} (g:Nat→List α):Nat→Nat→List α
 | 0,_=>[]
 | d+1,i=>g i ++ cat g d (i+1)
theorem Zbs {α:Type} {g:Nat→List α} {m:Nat}:∀(d i:Nat),(∀j,i≤j→j<i+d→(g j).length≤m)→(cat g d i).length≤d * m
 | 0,_,_=>by simp[cat]
 | d+1,i,h=>by
  have h1:=h i (Nat.le_refl _) (by omega)
  have h2:=Zbs (g:=g) d (i+1) (fun j a b=>h j (by omega) (by omega))
  rw[cat,List.length_append,Nat.succ_mul]
  omega
theorem ZdN {α β:Type} {step:Nat→List α×List β→Option (List α×List β)} {g:Nat→List α} {h:Nat→List β} {n B:Nat}
  (hs:∀i x y,i<n→x.length+(g i).length≤B→y.length+(h i).length≤B→step i (x,y)=some (x ++ g i,y ++ h i)):∀(d i:Nat) (x:List α) (y:List β),i+d=n→x.length+(cat g d i).length≤B→y.length+(cat h d i).length≤B→run step d i (x,y)=some (x ++ cat g d i,y ++ cat h d i)
 | 0,i,x,y,_,_,_=>by simp[run,cat]
 | d+1,i,x,y,hi,hx,hy=>by
  rw[cat,List.length_append] at hx hy
  rw[run,hs i x y (by omega) (by omega) (by omega),Zi,ZdN hs d (i+1) _ _ (by omega) (by rw[List.length_append];omega) (by rw[List.length_append];omega),cat,cat,List.append_assoc,List.append_assoc]
abbrev PLk:=S112
def lkH (z:Int) (i:Nat):PLk:=⟨0,(i:Int),⟨0,z⟩⟩
def lenAt (ts:List PTie) (ln:List Int) (i:Nat):Int:=rd ln (Za9 (fun y=>decide ((i:Int)=y)) (Zbl ts))
def lkT (ts:List PTie) (ln:List Int) (i:Nat):PLk:=⟨(Zu ts (i:Int)).f0,(Zu ts (i:Int)).f1,if (Zu ts (i:Int)).f4=true then⟨lenAt ts ln i,lenAt ts ln i⟩ else⟨(Zu ts (i:Int)).f2,(Zu ts (i:Int)).f3⟩⟩
def lkW (ns:List ZM) (i:Nat) (x:Int):PLk:=⟨ZbA ns (prp x),(i:Int),⟨1,1000000⟩⟩
def lbL (ns:List ZM) (i:Nat):List Int:=(ZI ns (i:Int)).f1
def tieH (ns:List ZM) (ts:List PTie) (vs:List Int) (i:Nat):Bool:=hapB ns vs (Zu ts (i:Int)).f0 && hapB ns vs (Zu ts (i:Int)).f1
def gA (ns:List ZM) (vs:List Int) (z:Int) (i:Nat):List PLk:=if hapB ns vs (i:Int)=true then[lkH z i] else[]
def gB (ns:List ZM) (ts:List PTie) (ln vs:List Int) (i:Nat):List PLk:=if tieH ns ts vs i=true then[lkT ts ln i] else[]
def gC (ns:List ZM) (vs:List Int) (i:Nat):List PLk:=if hapB ns vs (i:Int)=true then[] else[lkH 0 i]
def gE (ns:List ZM) (vs:List Int) (i:Nat) (j:Nat):List PLk:=if hapB ns vs (i:Int)=true then[lkW ns i (rd (lbL ns i) (j:Int))] else[]
def gD (ns:List ZM) (vs:List Int) (i:Nat):List PLk:=cat (gE ns vs i) (lbL ns i).length 0
def hor (ns:List ZM) (i:Nat):ByteArray:=(⟨#[104,111,114,105,122,111,110,32]⟩:ByteArray) ++ (ZI ns (i:Int)).f0
def rA (ns:List ZM) (vs:List Int) (i:Nat):List ByteArray:=if hapB ns vs (i:Int)=true then[hor ns i] else[]
def rB (ns:List ZM) (ts:List PTie) (vs:List Int) (i:Nat):List ByteArray:=if tieH ns ts vs i=true then[bs (tieT ns (Zu ts (i:Int)))] else[]
def rC (ns:List ZM) (vs:List Int) (t:Nat→ByteArray) (i:Nat):List ByteArray:=if hapB ns vs (i:Int)=true then[] else[t i]
def aft (ns:List ZM) (i:Nat) (x:Int):ByteArray:=Zz.after (ZI ns (ZbA ns (prp x))).f0 (ZI ns (i:Int)).f0
def rE (ns:List ZM) (vs:List Int) (i:Nat) (j:Nat):List ByteArray:=if hapB ns vs (i:Int)=true then[aft ns i (rd (lbL ns i) (j:Int))] else[]
def rD (ns:List ZM) (vs:List Int) (i:Nat):List ByteArray:=cat (rE ns vs i) (lbL ns i).length 0
def Zb3 (ns:List ZM) (ts:List PTie) (z:Int) (ln vs:List Int):List PLk:=cat (gA ns vs z) ns.length 0 ++ cat (gB ns ts ln vs) ts.length 0 ++ cat (gC ns vs) ns.length 0 ++ cat (gD ns vs) ns.length 0
def Zc0 (ns:List ZM) (ts:List PTie) (vs:List Int) (t:Nat→ByteArray):List ByteArray:=cat (rA ns vs) ns.length 0 ++ cat (rB ns ts vs) ts.length 0 ++ cat (rC ns vs t) ns.length 0 ++ cat (rD ns vs) ns.length 0
theorem ZdO {α:Type} (b:Bool) (x:α):(if b=true then[x] else[]).length≤1:=by cases b <;> simp
theorem ite_len' {α:Type} (b:Bool) (x:α):(if b=true then[] else[x]).length≤1:=by cases b <;> simp
theorem gA_len (ns:List ZM) (vs:List Int) (z:Int) (i:Nat):(gA ns vs z i).length≤1:=ZdO _ _
theorem gB_len (ns:List ZM) (ts:List PTie) (ln vs:List Int) (i:Nat):(gB ns ts ln vs i).length≤1:=ZdO _ _
theorem gC_len (ns:List ZM) (vs:List Int) (i:Nat):(gC ns vs i).length≤1:=ite_len' _ _
theorem gE_len (ns:List ZM) (vs:List Int) (i j:Nat):(gE ns vs i j).length≤1:=ZdO _ _
theorem rA_len (ns:List ZM) (vs:List Int) (i:Nat):(rA ns vs i).length≤1:=ZdO _ _
theorem rB_len (ns:List ZM) (ts:List PTie) (vs:List Int) (i:Nat):(rB ns ts vs i).length≤1:=ZdO _ _
theorem rC_len (ns:List ZM) (vs:List Int) (t:Nat→ByteArray) (i:Nat):(rC ns vs t i).length≤1:=ite_len' _ _
theorem rE_len (ns:List ZM) (vs:List Int) (i j:Nat):(rE ns vs i j).length≤1:=ZdO _ _
theorem Zfj:∀(l:List Int) (p:Int),0≤p→p≤3→Zb5 p l=true→(l.length:Int)+p≤3
 | [],p,_,h,_=>by simp;omega
 | x :: t,p,h0,h1,h=>by
  rw[Zb5,Bool.and_eq_true,Bool.and_eq_true,decide_eq_true_eq] at h
  have h3:=Zde h.1.1
  have:=Zfj t (prp x) (by omega) (by omega) h.2
  rw[List.length_cons];omega
theorem labB_len {l:List Int} (h:labB l=true):l.length≤3:=by
 have:=Zfj l 0 (by omega) (by omega) h
 omega
theorem lbL_ok {ns:List ZM} (h:ZV ns=true) {i:Nat} (hi:i<ns.length):labB (lbL ns i)=true:=ZeV h _ (Zen (by omega) (by omega))
theorem gD_len {ns:List ZM} (h:ZV ns=true) (vs:List Int) {i:Nat} (hi:i<ns.length):(gD ns vs i).length≤3:=by
 have h1:=Zbs (m:=1) (g:=gE ns vs i) (lbL ns i).length 0 (fun j _ _=>gE_len ns vs i j)
 have h2:=labB_len (lbL_ok h hi)
 unfold gD
 omega
theorem rD_len {ns:List ZM} (h:ZV ns=true) (vs:List Int) {i:Nat} (hi:i<ns.length):(rD ns vs i).length≤3:=by
 have h1:=Zbs (m:=1) (g:=rE ns vs i) (lbL ns i).length 0 (fun j _ _=>rE_len ns vs i j)
 have h2:=labB_len (lbL_ok h hi)
 unfold rD
 omega
theorem Zfo {ns:List ZM} {ts:List PTie} {z:Int} (h:Zal ns ts z=true) {i:Nat} (hi:i<ns.length) {x:Int} (hx:x∈lbL ns i):0≤ZbA ns (prp x)∧ZbA ns (prp x)<ns.length:=by
 unfold Zal at h
 rw[Bool.and_eq_true] at h
 have h1:=List.all_eq_true.1 h.2 _ (Zen (ns:=ns) (i:=(i:Int)) (by omega) (by omega))
 unfold ZcC at h1
 rw[Bool.not_eq_true',List.any_eq_false] at h1
 have h2:=h1 x hx
 rw[Bool.not_eq_true',Bool.not_eq_false] at h2
 unfold Zb7 ZdR at h2
 simp only[Bool.and_eq_true,decide_eq_true_eq] at h2
 exact⟨h2.1.1.1,(ZeE _ ns).2⟩
theorem free_idx {ts:List PTie} {i:Nat} (hi:i<ts.length) (hf:(Zu ts (i:Int)).f4=true):0≤Za9 (fun y=>decide ((i:Int)=y)) (Zbl ts)∧Za9 (fun y=>decide ((i:Int)=y)) (Zbl ts)<(Zbl ts).length:=by
 refine⟨?_,(ZeE _ _).2⟩
 have h:(Zbl ts).any (fun y=>decide ((i:Int)=y))=true:=by
  refine List.any_eq_true.2 ⟨(i:Int),?_,Ze rfl⟩
  unfold Zbl ZcY
  refine List.mem_map.2 ⟨i,List.mem_filter.2 ⟨List.mem_range.2 hi,?_⟩,rfl⟩
  rw[← Zem]
  exact hf
 rw[← Zdh] at h
 exact Zd h
theorem addB {a:Zz.Acc} {x:PLk} {s:ByteArray} (h1:a.1.length<4398046511104) (h2:a.2.length<4398046511104) (h3:s.size≤9223372036854775807):Zz.add a x s=some (a.1 ++ [x],a.2 ++ [s]):=if_pos ⟨h1,h2,h3⟩
theorem hap_f {ns:List ZM} {ts:List PTie} {z:Int} {ln vs:List Int} (hc:Zbm ns ts) (hs:Zal ns ts z=true) (hv:Zcl vs=true) (k:Nat) (hk:2 ^ 65≤k) (i:Int) (h0:0≤i) (h1:i<ns.length):Zz.hap k ns ts z ln vs i=some (hapB ns vs i):=
 Zf9 z ln vs i hc (ZaW hs) hv h0 h1 k hk
theorem ZeY {ns:List ZM} (h:ZV ns=true) {i:Int} (h0:0≤i) (h1:i<ns.length):(ZI ns i).f0.size≤8:=(Zdk h h0 h1).1
theorem stA_f {ns:List ZM} {ts:List PTie} {z:Int} {vs:List Int} {hp:Int→Option Bool} (hn:ZV ns=true) (hh:∀i:Int,0≤i→i<ns.length→hp i=some (hapB ns vs i)) (i:Nat) (x:List PLk) (y:List ByteArray) (hi:i<ns.length) (hx:x.length+(gA ns vs z i).length≤4194304) (hy:y.length+(rA ns vs i).length≤4194304) :
  Zz.stA hp ns ts z i (x,y)=some (x ++ gA ns vs z i,y ++ rA ns vs i):=by
 unfold Zz.stA
 rw[hh i (by omega) (by omega),Zi]
 unfold gA at hx ⊢
 unfold rA at hy ⊢
 generalize hapB ns vs (i:Int)=b at hx hy ⊢
 cases b with
 | false=>simp only[Bool.false_eq_true,if_false,List.append_nil]
 | true=>
  simp only[if_true] at hx hy ⊢
  have:=ZeY hn (i:=(i:Int)) (by omega) (by omega)
  rw[addB (by show x.length<_;simp only[List.length_cons,List.length_nil] at hx;omega) (by show y.length<_;simp only[List.length_cons,List.length_nil] at hy;omega) (by rw[ByteArray.size_append];show 8+_≤_;omega)]
  rfl
theorem stC_f {ns:List ZM} {vs:List Int} {hp:Int→Option Bool} (hh:∀i:Int,0≤i→i<ns.length→hp i=some (hapB ns vs i)) (i:Nat) (x:List PLk) (y:List ByteArray) (hi:i<ns.length) (hx:x.length+(gC ns vs i).length≤4194304) (hy:y.length+(rC ns vs (fun _=>⟨#[]⟩) i).length≤4194304) :
  Zz.stC hp i (x,y)=some (x ++ gC ns vs i,y ++ rC ns vs (fun _=>⟨#[]⟩) i):=by
 unfold Zz.stC
 rw[hh i (by omega) (by omega),Zi]
 unfold gC at hx ⊢
 unfold rC at hy ⊢
 generalize hapB ns vs (i:Int)=b at hx hy ⊢
 cases b with
 | true=>simp only[if_true,List.append_nil]
 | false=>
  simp only[Bool.false_eq_true,if_false] at hx hy ⊢
  rw[addB (by show x.length<_;simp only[List.length_cons,List.length_nil] at hx;omega) (by show y.length<_;simp only[List.length_cons,List.length_nil] at hy;omega) (by show(0:Nat)≤_;omega)]
  rfl
theorem stE_f {ns:List ZM} {ts:List PTie} {z:Int} {vs:List Int} {hp:Int→Option Bool} (hs:Zal ns ts z=true) (hh:∀i:Int,0≤i→i<ns.length→hp i=some (hapB ns vs i)) (i:Nat) (hi:i<ns.length) (j:Nat) (x:List PLk) (y:List ByteArray) (hj:j<(lbL ns i).length) (hx:x.length+(gE ns vs i j).length≤4194304) (hy:y.length+(rE ns vs i j).length≤4194304) :
  Zz.stE hp ns ts z i (lbL ns i) j (x,y)=some (x ++ gE ns vs i j,y ++ rE ns vs i j):=by
 have hn:=ZaW hs
 have hm:rd (lbL ns i) (j:Int)∈lbL ns i:=by rw[ZaO];exact ZaG hj 0
 have hlit:=Zd1 (lbL_ok hn hi) _ hm
 have hw:=Zfo hs hi hm
 unfold Zz.stE
 rw[hh i (by omega) (by omega),Zi]
 unfold gE at hx ⊢
 unfold rE at hy ⊢
 generalize hapB ns vs (i:Int)=b at hx hy ⊢
 cases b with
 | false=>simp only[Bool.false_eq_true,if_false,List.append_nil]
 | true=>
  simp only[if_true] at hx hy ⊢
  rw[ZdY hlit,Zi,Zbw.f,Zi,if_pos hw]
  have h1:=ZeY hn (i:=(i:Int)) (by omega) (by omega)
  have h2:=ZeY hn hw.1 hw.2
  rw[addB (by show x.length<_;simp only[List.length_cons,List.length_nil] at hx;omega) (by show y.length<_;simp only[List.length_cons,List.length_nil] at hy;omega) (by unfold Zz.after;rw[ByteArray.size_append,ByteArray.size_append,ByteArray.size_append];show 6+_+1+_≤_;omega)]
  rfl
theorem stD_f {ns:List ZM} {ts:List PTie} {z:Int} {vs:List Int} {hp:Int→Option Bool} (hs:Zal ns ts z=true) (hh:∀i:Int,0≤i→i<ns.length→hp i=some (hapB ns vs i)) (i:Nat) (x:List PLk) (y:List ByteArray) (hi:i<ns.length) (hx:x.length+(gD ns vs i).length≤4194304) (hy:y.length+(rD ns vs i).length≤4194304) :
  Zz.stD hp ns ts z i (x,y)=some (x ++ gD ns vs i,y ++ rD ns vs i):=by
 unfold gD at hx ⊢
 unfold rD at hy ⊢
 show run (Zz.stE hp ns ts z i (lbL ns i)) (lbL ns i).length 0 (x,y)=_
 exact ZdN (n:=(lbL ns i).length) (B:=4194304) (fun j x y hj h1 h2=>stE_f hs hh i hi j x y hj h1 h2) _ 0 x y (by omega) hx hy
theorem stB_f {ns:List ZM} {ts:List PTie} {z:Int} {ln vs:List Int} {hp:Int→Option Bool} (hs:Zal ns ts z=true) (hl:ln.length=(Zbl ts).length) (hh:∀i:Int,0≤i→i<ns.length→hp i=some (hapB ns vs i)) (i:Nat) (x:List PLk) (y:List ByteArray) (hi:i<ts.length) (hx:x.length+(gB ns ts ln vs i).length≤4194304) (hy:y.length+(rB ns ts vs i).length≤4194304) :
  Zz.stB hp ns ts z ln (Zbl ts) i (x,y)=some (x ++ gB ns ts ln vs i,y ++ rB ns ts vs i):=by
 have hn:=ZaW hs
 have ht:=Zcx hs
 obtain⟨⟨f0,f1⟩,⟨g0,g1⟩,_⟩:=Zej ht (j:=(i:Int)) (by omega) (by omega)
 unfold Zz.stB
 rw[hh _ f0 f1,Zi]
 unfold gB tieH at hx ⊢
 unfold rB tieH at hy ⊢
 cases h1:hapB ns vs (Zu ts (i:Int)).f0 with
 | false=>simp only[Bool.false_and,Bool.false_eq_true,if_false,List.append_nil]
 | true=>
  rw[if_pos rfl,hh _ g0 g1,Zi]
  rw[h1,Bool.true_and] at hx hy
  rw[Bool.true_and]
  cases h2:hapB ns vs (Zu ts (i:Int)).f1 with
  | false=>simp only[Bool.false_eq_true,if_false,List.append_nil]
  | true=>
   rw[h2] at hx hy
   simp only[if_true] at hx hy ⊢
   have hspan:Zz.span (Zbl ts) ln i (Zu ts (i:Int))=some ((lkT ts ln i).f2.f0,(lkT ts ln i).f2.f1):=by
    unfold Zz.span lkT lenAt
    cases h4:(Zu ts (i:Int)).f4 with
    | false=>rfl
    | true=>
     have hq:=free_idx hi h4
     rw[if_pos rfl,if_pos ⟨hq.1,by rw[hl];exact hq.2⟩];rfl
   have hsz:=Zfq hn ht (j:=(i:Int)) (by omega) (by omega)
   rw[hspan,Zi,Zf7 z hn ht (by omega) (by omega),Zi,addB (by show x.length<_;simp only[List.length_cons,List.length_nil] at hx;omega) (by show y.length<_;simp only[List.length_cons,List.length_nil] at hy;omega) (by rw[ZcG];omega)]
   unfold lkT
   rfl
theorem Zf8 {ns:List ZM} {ts:List PTie} {z:Int} {ln vs:List Int} (hc:Zbm ns ts) (hs:Zal ns ts z=true) (hch:Zcu ns ts ln vs=true) (k:Nat) (hk:2 ^ 65≤k):Zz.f k ns ts z ln vs=some ((ns.length:Int),Zb3 ns ts z ln vs,Zc0 ns ts vs (fun _=>⟨#[]⟩)):=by
 have hn:=ZaW hs
 have ht:=Zcx hs
 have n7:=Zdv hn
 have t14:=ZdF ht
 have hl:ln.length=(Zbl ts).length:=by
  unfold Zcu at hch
  simp only[Bool.and_eq_true,decide_eq_true_eq] at hch
  exact hch.1
 have hh:∀i:Int,0≤i→i<ns.length→Zz.hap k ns ts z ln vs i=some (hapB ns vs i):=fun i h0 h1=>hap_f hc hs (ZdE hch) k hk i h0 h1
 have a1:=Zbs (m:=1) (g:=gA ns vs z) ns.length 0 (fun j _ _=>gA_len ns vs z j)
 have a2:=Zbs (m:=1) (g:=rA ns vs) ns.length 0 (fun j _ _=>rA_len ns vs j)
 have b1:=Zbs (m:=1) (g:=gB ns ts ln vs) ts.length 0 (fun j _ _=>gB_len ns ts ln vs j)
 have b2:=Zbs (m:=1) (g:=rB ns ts vs) ts.length 0 (fun j _ _=>rB_len ns ts vs j)
 have c1:=Zbs (m:=1) (g:=gC ns vs) ns.length 0 (fun j _ _=>gC_len ns vs j)
 have c2:=Zbs (m:=1) (g:=rC ns vs (fun _=>⟨#[]⟩)) ns.length 0 (fun j _ _=>rC_len ns vs _ j)
 have d1:=Zbs (m:=3) (g:=gD ns vs) ns.length 0 (fun j _ h=>gD_len hn vs (by omega))
 have d2:=Zbs (m:=3) (g:=rD ns vs) ns.length 0 (fun j _ h=>rD_len hn vs (by omega))
 unfold Zz.f
 rw[ZdN (g:=gA ns vs z) (h:=rA ns vs) (n:=ns.length) (B:=4194304) (fun i x y hi h1 h2=>stA_f (ts:=ts) hn hh i x y hi h1 h2) _ 0 [] [] (by omega) (by simp only[List.length_nil];omega) (by simp only[List.length_nil];omega),Zi,List.nil_append,List.nil_append]
 unfold Zz.f1
 rw[ZfQ ns ts z hc.2.1 k (by omega),Zi]
 rw[ZdN (g:=gB ns ts ln vs) (h:=rB ns ts vs) (n:=ts.length) (B:=4194304) (fun i x y hi h1 h2=>stB_f hs hl hh i x y hi h1 h2) _ 0 _ _ (by omega) (by omega) (by omega),Zi]
 unfold Zz.f2
 rw[ZdN (g:=gC ns vs) (h:=rC ns vs (fun _=>⟨#[]⟩)) (n:=ns.length) (B:=4194304) (fun i x y hi h1 h2=>stC_f hh i x y hi h1 h2) _ 0 _ _ (by omega) (by rw[List.length_append];omega) (by rw[List.length_append];omega),Zi]
 unfold Zz.f3
 rw[ZdN (g:=gD ns vs) (h:=rD ns vs) (n:=ns.length) (B:=4194304) (fun i x y hi h1 h2=>stD_f hs hh i x y hi h1 h2) _ 0 _ _ (by omega) (by simp only[List.length_append];omega) (by simp only[List.length_append];omega),Zi]
 rfl
abbrev PLink:=S112
theorem Zer {n:Int} {L:List PLink} (h:ZaI n L=true):1≤n∧n≤8∧L.length≤40∧∀x∈L,ZbU n x=true:=by
 unfold ZaI at h
 simp only[Bool.and_eq_true,Bool.not_eq_true',decide_eq_false_iff_not] at h
 obtain⟨h1,h2,h3,h4⟩:=h
 refine⟨by omega,by omega,by omega,fun x hx=>?_⟩
 have:=List.any_eq_false.1 h4 x hx
 simpa using this
theorem Zdj (n:Int) (L:List PLink) (k:Nat) (_:2 ^ 66≤k):ZaU.f k n L=some (ZaI n L):=rfl
def fin2 (e:Int) (L:List PLk):Int×List PLk×Bool:=if ZaI e L=true then(e,L,true) else(0,[],false)
def hbs (ns:List ZM) (vs:List Int) (n:Nat):List Bool:=(List.range n).map fun i:Nat=>hapB ns vs (i:Int)
theorem Ze6 (ns:List ZM) (vs:List Int) (n:Nat):(hbs ns vs n).length=n:=by unfold hbs;simp
theorem hbs_succ (ns:List ZM) (vs:List Int) (n:Nat):hbs ns vs (n+1)=hbs ns vs n ++ [hapB ns vs (n:Int)]:=by unfold hbs;rw[List.range_succ,List.map_append];rfl
theorem hbs_at (ns:List ZM) (vs:List Int) {n:Nat} {i:Int} (h0:0≤i) (h1:i<n):rdOf false (hbs ns vs n) i=hapB ns vs i:=by
 obtain⟨m,rfl⟩:=Int.eq_ofNat_of_zero_le h0
 unfold rdOf hbs
 rw[Int.toNat_natCast,List.getD_eq_getElem?_getD,List.getElem?_map,List.getElem?_range (by omega)]
 rfl
theorem ZcI {α:Type} {step:Nat→List α→Option (List α)} {g:Nat→List α} {n B:Nat}
  (hs:∀i x,i<n→x.length+(g i).length≤B→step i x=some (x ++ g i)):∀(d i:Nat) (x:List α),i+d=n→x.length+(cat g d i).length≤B→run step d i x=some (x ++ cat g d i)
 | 0,i,x,_,_=>by simp[run,cat]
 | d+1,i,x,hi,hx=>by
  rw[cat,List.length_append] at hx
  rw[run,hs i x (by omega) (by omega),Zi,ZcI hs d (i+1) _ (by omega) (by rw[List.length_append];omega),cat,List.append_assoc]
section
variable {ns:List ZM} {ts:List PTie} {z:Int} {ln vs:List Int}
theorem addLB {L:Zr.Ls} {x:PLk} (h:L.length<4398046511104):Zr.addL L x=some (L ++ [x]):=if_pos h
theorem at_hbs (ns:List ZM) (vs:List Int) {n:Nat} {i:Int} (h0:0≤i) (h1:i<n):Zr.at_ (hbs ns vs n) i=some (hapB ns vs i):=by
 unfold Zr.at_
 rw[if_pos ⟨h0,by rw[Ze6];exact h1⟩,hbs_at ns vs h0 h1]
theorem sp_stE (hs:Zal ns ts z=true) (hc:Zbm ns ts) {k:Nat} (hk:2 ^ 64≤k) (i:Nat) (hi:i<ns.length) (j:Nat) (x:List PLk) (hj:j<(lbL ns i).length) (hx:x.length+(gE ns vs i j).length≤4194304):Zr.stE k ns ts z (hbs ns vs ns.length) i (lbL ns i) j x=some (x ++ gE ns vs i j):=by
 have hn:=ZaW hs
 have hN:=hc.1
 have hm:rd (lbL ns i) (j:Int)∈lbL ns i:=by rw[ZaO];exact ZaG hj 0
 have hlit:=Zd1 (lbL_ok hn hi) _ hm
 have hp:=Zde hlit
 unfold Zr.stE
 rw[at_hbs ns vs (by omega) (by omega),Zi]
 unfold gE at hx ⊢
 generalize hapB ns vs (i:Int)=b at hx ⊢
 cases b with
 | false=>simp only[Bool.false_eq_true,if_false,List.append_nil]
 | true=>
  simp only[if_true] at hx ⊢
  rw[Zdf hlit,Zi,ZcW ns ts z _ (by omega) k hk,Zi,addLB (by simp only[List.length_cons,List.length_nil] at hx;omega),← ZdI ns (by omega)]
  rfl
theorem sp_stD (hs:Zal ns ts z=true) (hc:Zbm ns ts) {k:Nat} (hk:2 ^ 64≤k) (i:Nat) (x:List PLk) (hi:i<ns.length) (hx:x.length+(gD ns vs i).length≤4194304):Zr.stD k ns ts z (hbs ns vs ns.length) i x=some (x ++ gD ns vs i):=by
 unfold Zr.stD
 unfold gD at hx ⊢
 show run (Zr.stE k ns ts z (hbs ns vs ns.length) i (lbL ns i)) (lbL ns i).length 0 x=_
 exact ZcI (n:=(lbL ns i).length) (B:=4194304) (fun j x hj h1=>sp_stE hs hc hk i hi j x hj h1) _ 0 x (by omega) hx
theorem sp_stC (i:Nat) (x:List PLk) (hi:i<ns.length) (hx:x.length+(gC ns vs i).length≤4194304):Zr.stC (hbs ns vs ns.length) i x=some (x ++ gC ns vs i):=by
 unfold Zr.stC
 rw[at_hbs ns vs (by omega) (by omega),Zi]
 unfold gC at hx ⊢
 generalize hapB ns vs (i:Int)=b at hx ⊢
 cases b with
 | true=>simp only[if_true,List.append_nil]
 | false=>
  simp only[Bool.false_eq_true,if_false] at hx ⊢
  rw[addLB (by simp only[List.length_cons,List.length_nil] at hx;omega)]
  rfl
theorem l10Length_f (hc:Zbm ns ts) (hl:ln.length=(Zbl ts).length) {i:Nat} (hi:i<ts.length) (hf:(Zu ts (i:Int)).f4=true) (k:Nat) (hk:2 ^ 64≤k):Zaq.f k ns ts z ln vs (i:Int)=some (lenAt ts ln i):=by
 have hN:=hc.2.1
 have hF:=freeIx_len ts
 have hq:=free_idx hi hf
 unfold Zaq.f
 rw[l10Free_f ns ts z hc.2.1 k (by omega),Zi]
 unfold lenAt
 generalize hL:Zbl ts=L at *
 obtain⟨p,hp⟩:∃p:Nat,(p:Int)=Za9 (fun y=>decide ((i:Int)=y)) L:=⟨(Za9 (fun y=>decide ((i:Int)=y)) L).toNat,by omega⟩
 rw[← hp] at hq ⊢
 have hfind:L.findIdx? (fun y=>decide ((i:Int)=y))=some p:=by
  unfold Za9 at hp
  cases h:L.findIdx? (fun y=>decide ((i:Int)=y)) with
  | none=>rw[h] at hp;simp only at hp;omega
  | some m=>rw[h] at hp;simp only at hp;congr 1;omega
 obtain⟨hpl,hpt,hpb⟩:=List.findIdx?_eq_some_iff_getElem.1 hfind
 have go:∀(d j k:Nat),j+d=p→d<k→Zaq.l0 k (i:Int) L (L.length:Int) (j:Int) ln vs=some (rd ln (p:Int)):=by
  intro d
  induction d with
  | zero=>
   intro j k hj hk
   obtain⟨m,rfl⟩:∃m,k=m+1:=⟨k - 1,by omega⟩
   obtain rfl:j=p:=by omega
   simp only[Zaq.l0]
   have:rd L (j:Int)=(i:Int):=by
    rw[ZaO,List.getD_eq_getElem?_getD,Zl hpl]
    have:=Zd hpt
    exact this.symm
   rw[if_pos (by omega),if_pos (by omega),if_pos (by omega),if_pos this,if_pos (by omega)]
  | succ d ih=>
   intro j k hj hk
   obtain⟨m,rfl⟩:∃m,k=m+1:=⟨k - 1,by omega⟩
   simp only[Zaq.l0]
   have hne:¬rd L (j:Int)=(i:Int):=by
    have h:=hpb j (by omega)
    rw[ZaO,List.getD_eq_getElem?_getD,Zl (by omega)]
    intro he
    apply h
    exact Ze he.symm
   rw[if_pos (by omega),if_pos (by omega),if_pos (by omega),if_neg hne,ZL (n:=L.length) (by omega) (by omega)]
   exact ih (j+1) m (by omega) (by omega)
 exact go p 0 k (by omega) (by omega)
theorem sp_stB (hs:Zal ns ts z=true) (hc:Zbm ns ts) (hl:ln.length=(Zbl ts).length) {k:Nat} (hk:2 ^ 64≤k) (i:Nat) (x:List PLk) (hi:i<ts.length) (hx:x.length+(gB ns ts ln vs i).length≤4194304):Zr.stB k ns ts z ln vs (hbs ns vs ns.length) i x=some (x ++ gB ns ts ln vs i):=by
 have ht:=Zcx hs
 obtain⟨⟨f0,f1⟩,⟨g0,g1⟩,_⟩:=Zej ht (j:=(i:Int)) (by omega) (by omega)
 unfold Zr.stB
 rw[at_hbs ns vs f0 f1,Zi]
 unfold gB tieH at hx ⊢
 cases h1:hapB ns vs (Zu ts (i:Int)).f0 with
 | false=>simp only[Bool.false_and,Bool.false_eq_true,if_false,List.append_nil]
 | true=>
  rw[if_pos rfl,at_hbs ns vs g0 g1,Zi]
  rw[h1,Bool.true_and] at hx
  rw[Bool.true_and]
  cases h2:hapB ns vs (Zu ts (i:Int)).f1 with
  | false=>simp only[Bool.false_eq_true,if_false,List.append_nil]
  | true=>
   rw[h2] at hx
   simp only[if_true] at hx ⊢
   have hspan:Zr.span k ns ts z ln vs i (Zu ts (i:Int))=some ((lkT ts ln i).f2.f0,(lkT ts ln i).f2.f1):=by
    unfold Zr.span
    cases h4:(Zu ts (i:Int)).f4 with
    | false=>rw[if_neg (by simp)];unfold lkT;rw[h4];rfl
    | true=>rw[if_pos rfl,l10Length_f hc hl hi h4 k hk,Zi];unfold lkT;rw[h4];rfl
   rw[hspan,Zi,addLB (by simp only[List.length_cons,List.length_nil] at hx;omega)]
   rfl
theorem sp_stA (hs:Zal ns ts z=true) (hc:Zbm ns ts) (hv:Zcl vs=true) {k:Nat} (hk:2 ^ 64≤k):∀(d i:Nat) (x:List PLk),i+d=ns.length→x.length+(cat (gA ns vs z) d i).length≤4194304→run (Zr.stA k ns ts z vs) d i (hbs ns vs i,x)=some (hbs ns vs ns.length,x ++ cat (gA ns vs z) d i)
 | 0,i,x,hi,_=>by
  obtain rfl:i=ns.length:=by omega
  simp[run,cat]
 | d+1,i,x,hi,hx=>by
  have hN:=hc.1
  have hn:=ZaW hs
  rw[cat,List.length_append] at hx
  have hstep:Zr.stA k ns ts z vs i (hbs ns vs i,x)=some (hbs ns vs (i+1),x ++ gA ns vs z i):=by
   unfold Zr.stA
   rw[ZfD vs (i:Int) hc hn hv (by omega) (by omega) k (by omega),Zi,if_pos (by rw[Ze6];omega)]
   rw[show(stB (ZI ns (i:Int)).f1 vs == 1)=hapB ns vs (i:Int) from rfl,← hbs_succ,at_hbs ns vs (by omega) (by omega),Zi]
   have h2:x.length+(gA ns vs z i).length≤4194304:=by omega
   unfold gA at h2 ⊢
   generalize hapB ns vs (i:Int)=b at h2 ⊢
   cases b with
   | false=>simp only[Bool.false_eq_true,if_false,List.append_nil]
   | true=>
    simp only[if_true] at h2 ⊢
    rw[addLB (by simp only[List.length_cons,List.length_nil] at h2;omega)]
    rfl
  rw[run,hstep,Zi,sp_stA hs hc hv hk d (i+1) _ (by omega) (by rw[List.length_append];omega),cat,List.append_assoc]
def projB (ns:List ZM) (ts:List PTie) (z:Int) (ln vs:List Int):Int×List PLk×Bool:=if ZbW ns ts z ln vs=true then fin2 (ns.length:Int) (Zb3 ns ts z ln vs) else(0,[],false)
theorem ZeT (hc:Zbm ns ts) (hlv:vs.length≤1048576) (k:Nat) (hk:2 ^ 67≤k):Zr.f k ns ts z ln vs=some (projB ns ts z ln vs):=by
 unfold Zr.f projB
 rw[Zd8 ln vs hc hlv k hk,Zi]
 by_cases h:ZbW ns ts z ln vs=true
 ·rw[if_pos h,if_pos h]
  obtain⟨hs,hch⟩:=ZcQ h
  have hn:=ZaW hs
  have n7:=Zdv hn
  have t14:=ZdF (Zcx hs)
  have hl:ln.length=(Zbl ts).length:=by
   unfold Zcu at hch
   simp only[Bool.and_eq_true,decide_eq_true_eq] at hch
   exact hch.1
  have a1:=Zbs (m:=1) (g:=gA ns vs z) ns.length 0 (fun j _ _=>gA_len ns vs z j)
  have b1:=Zbs (m:=1) (g:=gB ns ts ln vs) ts.length 0 (fun j _ _=>gB_len ns ts ln vs j)
  have c1:=Zbs (m:=1) (g:=gC ns vs) ns.length 0 (fun j _ _=>gC_len ns vs j)
  have d1:=Zbs (m:=3) (g:=gD ns vs) ns.length 0 (fun j _ h=>gD_len hn vs (by omega))
  have hA:=sp_stA (z:=z) (vs:=vs) hs hc (ZdE hch) (k:=k) (by omega) ns.length 0 [] (by omega) (by simp only[List.length_nil];omega)
  rw[List.nil_append] at hA
  rw[show(([],[]):List Bool×Zr.Ls)=(hbs ns vs 0,[]) from rfl,hA,Zi]
  unfold Zr.f1
  rw[ZcI (g:=gB ns ts ln vs) (n:=ts.length) (B:=4194304) (fun i x hi h1=>sp_stB hs hc hl (by omega) i x hi h1) _ 0 _ (by omega) (by dsimp only;omega),Zi]
  unfold Zr.f2
  rw[ZcI (g:=gC ns vs) (n:=ns.length) (B:=4194304) (fun i x hi h1=>sp_stC i x hi h1) _ 0 _ (by omega) (by simp only[List.length_append];omega),Zi]
  unfold Zr.f3
  rw[ZcI (g:=gD ns vs) (n:=ns.length) (B:=4194304) (fun i x hi h1=>sp_stD hs hc (by omega) i x hi h1) _ 0 _ (by omega) (by simp only[List.length_append];omega),Zi]
  unfold Zr.f4
  rw[Zdj _ _ k (by omega),Zi]
  unfold fin2 Zb3
  split <;> rfl
 ·rw[if_neg h,if_neg h]
end
def Zdc.f (k:Nat) (l0_0:List (S39)) (l0_1:List (S82)) (a0_2:Int) (l1_0:List Int) (l1_1:List Int):Option (Int×List S112×Bool):=(ZbO.f k l0_0 l0_1 a0_2 l1_0 l1_1).bind fun t=>(if t=true then((Zz.f k l0_0 l0_1 a0_2 l1_0 l1_1).bind fun b=>((Za7.f b.1 b.2.1).bind fun t=>(if t=true then(some (b.1,b.2.1,true)) else(some (0,([]:List S112),false))))) else(some (0,([]:List S112),false)))
theorem Zdc.calls (k:Nat) (A0_0:Option Addr) (c0_0:Nat) (l0_0:List (S39)) (A0_1:Option Addr) (c0_1:Nat) (l0_1:List (S82)) (a0_2:Int) (A1_0:Option Addr) (c1_0:Nat) (l1_0:List Int) (A1_1:Option Addr) (c1_1:Nat) (l1_1:List Int) (r1:Int) (r2:List S112) (r3:Bool) (w:World) (hr0_0:Kd.C k39 w A0_0 l0_0.length l0_0) (hc0_0:l0_0.length≤c0_0) (hr0_1:Kd.C k82 w A0_1 l0_1.length l0_1) (hc0_1:l0_1.length≤c0_1) (hr1_0:Kd.C (Kd.int .i64) w A1_0 l1_0.length l1_0) (hc1_0:l1_0.length≤c1_0) (hr1_1:Kd.C (Kd.int .i64) w A1_1 l1_1.length l1_1) (hc1_1:l1_1.length≤c1_1) (ht:TW w) (h:Zdc.f k l0_0 l0_1 a0_2 l1_0 l1_1=some (r1,r2,r3)) :
  Calls Tryz.prog 32 #[.agg #[.slice A0_0 l0_0.length c0_0,.slice A0_1 l0_1.length c0_1,.int .i64 a0_2],.agg #[.slice A1_0 l1_0.length c1_0,.slice A1_1 l1_1.length c1_1]] w fun e w'=>∃v1_:Value,e=.returned (.tuple #[.agg #[.int .i64 r1,v1_],.bool r3])∧Kd.R k112 112 w' w.heap.size (fun _=>True) v1_ r2∧Below w.heap.size w w':=by
 unfold Zdc.f at h
 obtain⟨b,hb_,h⟩:=Option.bind_eq_some_iff.1 h
 have HCO:=Za fun (W:World) (hb:Below w.heap.size w W)=>ZbO.calls k A0_0 c0_0 l0_0 A0_1 c0_1 l0_1 a0_2 A1_0 c1_0 l1_0 A1_1 c1_1 l1_1 b W (Zb hr0_0 hb) hc0_0 (Zb hr0_1 hb) hc0_1 (Zb hr1_0 hb) hc1_0 (Zb hr1_1 hb) hc1_1 hb_
 have HP:=Za fun (W:World) (q1:Int) (q2:List S112) (q3:List ByteArray) (hb:Below w.heap.size w W) (hP:Zz.f k l0_0 l0_1 a0_2 l1_0 l1_1=some (q1,q2,q3))=>Zz.calls k A0_0 c0_0 l0_0 A0_1 c0_1 l0_1 a0_2 A1_0 c1_0 l1_0 A1_1 c1_1 l1_1 q1 q2 q3 W (Zb hr0_0 hb) hc0_0 (Zb hr0_1 hb) hc0_1 (Zb hr1_0 hb) hc1_0 (Zb hr1_1 hb) hc1_1 (TW.below ht hb) hP
 have HB3:=Za (show Below w.heap.size w (((w.alloc (.cells #[.slice A0_0 l0_0.length c0_0,.slice A0_1 l0_1.length c0_1,.int .i64 a0_2] 25)).alloc (.cells #[.slice A1_0 l1_0.length c1_0,.slice A1_1 l1_1.length c1_1] 58)).alloc (.cells #[.int .i64 0,.slice none 0 0] 54)) from Zo (Zo (Zo (Below.refl w.heap.size w) _) _) _)
 have K:=Za (show(((w.alloc (.cells #[.slice A0_0 l0_0.length c0_0,.slice A0_1 l0_1.length c0_1,.int .i64 a0_2] 25)).alloc (.cells #[.slice A1_0 l1_0.length c1_0,.slice A1_1 l1_1.length c1_1] 58)).alloc (.cells #[.int .i64 0,.slice none 0 0] 54)).cell? ⟨w.heap.size,0,none⟩=some (.slice A0_0 l0_0.length c0_0)∧(((w.alloc (.cells #[.slice A0_0 l0_0.length c0_0,.slice A0_1 l0_1.length c0_1,.int .i64 a0_2] 25)).alloc (.cells #[.slice A1_0 l1_0.length c1_0,.slice A1_1 l1_1.length c1_1] 58)).alloc (.cells #[.int .i64 0,.slice none 0 0] 54)).cell? ⟨w.heap.size,1,none⟩=some (.slice A0_1 l0_1.length c0_1)∧(((w.alloc (.cells #[.slice A0_0 l0_0.length c0_0,.slice A0_1 l0_1.length c0_1,.int .i64 a0_2] 25)).alloc (.cells #[.slice A1_0 l1_0.length c1_0,.slice A1_1 l1_1.length c1_1] 58)).alloc (.cells #[.int .i64 0,.slice none 0 0] 54)).cell? ⟨w.heap.size,2,none⟩=some (.int .i64 a0_2)∧(((w.alloc (.cells #[.slice A0_0 l0_0.length c0_0,.slice A0_1 l0_1.length c0_1,.int .i64 a0_2] 25)).alloc (.cells #[.slice A1_0 l1_0.length c1_0,.slice A1_1 l1_1.length c1_1] 58)).alloc (.cells #[.int .i64 0,.slice none 0 0] 54)).cell? ⟨w.heap.size+1,0,none⟩=some (.slice A1_0 l1_0.length c1_0)∧(((w.alloc (.cells #[.slice A0_0 l0_0.length c0_0,.slice A0_1 l0_1.length c0_1,.int .i64 a0_2] 25)).alloc (.cells #[.slice A1_0 l1_0.length c1_0,.slice A1_1 l1_1.length c1_1] 58)).alloc (.cells #[.int .i64 0,.slice none 0 0] 54)).cell? ⟨w.heap.size+1,1,none⟩=some (.slice A1_1 l1_1.length c1_1) from⟨by go_simp,by go_simp,by go_simp,by go_simp,by go_simp⟩)
 have B0:=Za (show(((w.alloc (.cells #[.slice A0_0 l0_0.length c0_0,.slice A0_1 l0_1.length c0_1,.int .i64 a0_2] 25)).alloc (.cells #[.slice A1_0 l1_0.length c1_0,.slice A1_1 l1_1.length c1_1] 58)).alloc (.cells #[.int .i64 0,.slice none 0 0] 54)).heap[w.heap.size+2]? = some (Obj.cells #[.int .i64 0,.slice none 0 0] 54 (0,0)) by
  have h_:=Zcq ((w.alloc (.cells #[.slice A0_0 l0_0.length c0_0,.slice A0_1 l0_1.length c0_1,.int .i64 a0_2] 25)).alloc (.cells #[.slice A1_0 l1_0.length c1_0,.slice A1_1 l1_1.length c1_1] 58)) (.cells #[.int .i64 0,.slice none 0 0] 54)
  simpa using h_)
 have HN:=Za (Nat.le_add_right w.heap.size 2)
 have hu:=Tryz.underlying25
 have hu2:=Tryz.underlying58
 have hu3:=Tryz.underlying54
 clear hr0_0 hc0_0 hr0_1 hc0_1 hr1_0 hc1_0 hr1_1 hc1_1 hb_ ht
 cases b with
 | false=>
  obtain⟨e1,e2,e3⟩:(0:Int)=r1∧[]=r2∧false=r3:=by
   have h_:=Zg ((if_neg (by simp)).symm.trans h)
   exact⟨congrArg Prod.fst h_,congrArg (fun z=>z.2.1) h_,congrArg (fun z=>z.2.2) h_⟩
  subst e1;subst e2;subst e3;clear h HP
  go_enter Tryz.func32,Tryz.ntmps32
  go_wp2_with (go_at_call 103;refine(HCO.out _ HB3.out).mono ?_;rintro e w4 ⟨rfl,hb⟩;have k0:=Zx hb K.out.1;have k1:=Zx hb K.out.2.1;have k2:=Zx hb K.out.2.2.1;have m0:=Zx hb K.out.2.2.2.1;have m1:=Zx hb K.out.2.2.2.2;have B4:=Za (Zw B0.out hb);have z0:w4.cell? ⟨w.heap.size+2,0,none⟩=some (.int .i64 0):=(Zn B4.out 0).trans rfl;have z1:w4.cell? ⟨w.heap.size+2,1,none⟩=some (.slice none 0 0):=(Zn B4.out 1).trans rfl;have fz0:=Zt B4.out 0;have fz1:=Zt B4.out 1;have HB4:=Za (HB3.out.trans (hb.mono HB3.out.size));clear hb)
  refine bodyPost_ret (Zcs rfl _ _ (w.heap.size+2) 54 #[.int .i64 0,.slice none 0 0] (0,0) _ rfl (ZW (cs:=#[.int .i64 0,.slice none 0 0]) (ZW (cs:=#[.int .i64 0,.slice none 0 0]) B4.out 0 _ rfl) 1 _ rfl) Tryz.underlying54 rfl (by kernel_rfl)) rfl ?_
  exact⟨_,rfl,Kd.R_nil _ _ _ _ _,Zs (Zs HB4.out HN.out) HN.out⟩
 | true=>
  replace h:=(if_pos rfl).symm.trans h
  obtain⟨⟨q1,q2,q3⟩,hP,h⟩:=Option.bind_eq_some_iff.1 h
  dsimp only at h
  obtain⟨c,hC,h⟩:=Option.bind_eq_some_iff.1 h
  have HPJ:=Za fun (W:World) (hb:Below w.heap.size w W)=>HP.out W q1 q2 q3 hb hP
  have HS:=Za fun (W:World) (A:Option Addr) (c_:Nat) (hc:q2.length≤c_) (hr:Kd.C k112 W A q2.length q2)=>Za7.calls q1 A c_ q2 c W hr hc hC
  clear hP hC HP
  cases c with
  | false=>
   obtain⟨e1,e2,e3⟩:(0:Int)=r1∧[]=r2∧false=r3:=by
    have h_:=Zg ((if_neg (by simp)).symm.trans h)
    exact⟨congrArg Prod.fst h_,congrArg (fun z=>z.2.1) h_,congrArg (fun z=>z.2.2) h_⟩
   subst e1;subst e2;subst e3;clear h
   go_enter Tryz.func32,Tryz.ntmps32
   go_wp2_with (first|(go_at_call 103;refine(HCO.out _ HB3.out).mono ?_;rintro e w4 ⟨rfl,hb⟩;have k0:=Zx hb K.out.1;have k1:=Zx hb K.out.2.1;have k2:=Zx hb K.out.2.2.1;have m0:=Zx hb K.out.2.2.2.1;have m1:=Zx hb K.out.2.2.2.2;have B4:=Za (Zw B0.out hb);have z0:w4.cell? ⟨w.heap.size+2,0,none⟩=some (.int .i64 0):=(Zn B4.out 0).trans rfl;have z1:w4.cell? ⟨w.heap.size+2,1,none⟩=some (.slice none 0 0):=(Zn B4.out 1).trans rfl;have fz0:=Zt B4.out 0;have fz1:=Zt B4.out 1;have HB4:=Za (HB3.out.trans (hb.mono HB3.out.size));clear hb)|(go_at_call 104;refine(HPJ.out _ HB4.out).mono ?_;rintro e w5 ⟨v1,v2,rfl,ho,ho2,hb⟩;obtain⟨A5,c5,e5⟩:=Kd.R_slice ho;subst e5;obtain⟨A6,c6,e6⟩:=Kd.R_slice ho2;subst e6;have HO:=Za (Kd.R_lower ho HB4.out.size);have B5:=Za (Zw B4.out hb);have HB5:=Za (HB4.out.trans (hb.mono HB4.out.size));clear ho ho2 hb k0 k1 k2 m0 m1 z0 z1 fz0 fz1)|(go_at_call 105;refine(HS.out _ A5 c5 (Kd.R_reads' HO.out).2.1 (Zb (Kd.R_reads' HO.out).2.2 (Zo (Below.refl _ _) _))).mono ?_;rintro e w6 ⟨rfl,hb⟩;have B6:=Za (Zw (ZC B5.out _) hb);have B7:=Za (Zw (Zcq w5 (.cells #[.int .i64 q1,.slice A5 q2.length c5] 54)) hb);have HO6:=Za (Kd.R_below (Kd.R_alloc HO.out _) hb);have HB6:=Za (Zq (Zo HB5.out _) hb);have y0:w6.cell? ⟨w5.heap.size,0,none⟩=some (.int .i64 q1):=(Zn B7.out 0).trans rfl;have y1:w6.cell? ⟨w5.heap.size,1,none⟩=some (.slice A5 q2.length c5):=(Zn B7.out 1).trans rfl;have z0:w6.cell? ⟨w.heap.size+2,0,none⟩=some (.int .i64 0):=(Zn B6.out 0).trans rfl;have z1:w6.cell? ⟨w.heap.size+2,1,none⟩=some (.slice none 0 0):=(Zn B6.out 1).trans rfl;have fz0:=Zt B6.out 0;have fz1:=Zt B6.out 1;clear hb))
   refine bodyPost_ret (Zcs rfl _ _ (w.heap.size+2) 54 #[.int .i64 0,.slice none 0 0] (0,0) _ rfl (ZW (cs:=#[.int .i64 0,.slice none 0 0]) (ZW (cs:=#[.int .i64 0,.slice none 0 0]) B6.out 0 _ rfl) 1 _ rfl) Tryz.underlying54 rfl (by kernel_rfl)) rfl ?_
   exact⟨_,rfl,Kd.R_nil _ _ _ _ _,Zs (Zs HB6.out HN.out) HN.out⟩
  | true=>
   obtain⟨e1,e2,e3⟩:q1=r1∧q2=r2∧true=r3:=by
    have h_:=Zg ((if_pos rfl).symm.trans h)
    exact⟨congrArg Prod.fst h_,congrArg (fun z=>z.2.1) h_,congrArg (fun z=>z.2.2) h_⟩
   subst e1;subst e2;subst e3;clear h
   go_enter Tryz.func32,Tryz.ntmps32
   go_wp2_with (first|(go_at_call 103;refine(HCO.out _ HB3.out).mono ?_;rintro e w4 ⟨rfl,hb⟩;have k0:=Zx hb K.out.1;have k1:=Zx hb K.out.2.1;have k2:=Zx hb K.out.2.2.1;have m0:=Zx hb K.out.2.2.2.1;have m1:=Zx hb K.out.2.2.2.2;have B4:=Za (Zw B0.out hb);have z0:w4.cell? ⟨w.heap.size+2,0,none⟩=some (.int .i64 0):=(Zn B4.out 0).trans rfl;have z1:w4.cell? ⟨w.heap.size+2,1,none⟩=some (.slice none 0 0):=(Zn B4.out 1).trans rfl;have fz0:=Zt B4.out 0;have fz1:=Zt B4.out 1;have HB4:=Za (HB3.out.trans (hb.mono HB3.out.size));clear hb)|(go_at_call 104;refine(HPJ.out _ HB4.out).mono ?_;rintro e w5 ⟨v1,v2,rfl,ho,ho2,hb⟩;obtain⟨A5,c5,e5⟩:=Kd.R_slice ho;subst e5;obtain⟨A6,c6,e6⟩:=Kd.R_slice ho2;subst e6;have HO:=Za (Kd.R_lower ho HB4.out.size);have B5:=Za (Zw B4.out hb);have HB5:=Za (HB4.out.trans (hb.mono HB4.out.size));clear ho ho2 hb k0 k1 k2 m0 m1 z0 z1 fz0 fz1)|(go_at_call 105;refine(HS.out _ A5 c5 (Kd.R_reads' HO.out).2.1 (Zb (Kd.R_reads' HO.out).2.2 (Zo (Below.refl _ _) _))).mono ?_;rintro e w6 ⟨rfl,hb⟩;have B6:=Za (Zw (ZC B5.out _) hb);have B7:=Za (Zw (Zcq w5 (.cells #[.int .i64 q1,.slice A5 q2.length c5] 54)) hb);have HO6:=Za (Kd.R_below (Kd.R_alloc HO.out _) hb);have HB6:=Za (Zq (Zo HB5.out _) hb);have y0:w6.cell? ⟨w5.heap.size,0,none⟩=some (.int .i64 q1):=(Zn B7.out 0).trans rfl;have y1:w6.cell? ⟨w5.heap.size,1,none⟩=some (.slice A5 q2.length c5):=(Zn B7.out 1).trans rfl;have z0:w6.cell? ⟨w.heap.size+2,0,none⟩=some (.int .i64 0):=(Zn B6.out 0).trans rfl;have z1:w6.cell? ⟨w.heap.size+2,1,none⟩=some (.slice none 0 0):=(Zn B6.out 1).trans rfl;have fz0:=Zt B6.out 0;have fz1:=Zt B6.out 1;clear hb))
   refine bodyPost_ret (Zcs rfl _ _ (w.heap.size+2) 54 #[.int .i64 q1,.slice A5 q2.length c5] (0,0) _ rfl (ZW (cs:=#[.int .i64 q1,.slice none 0 0]) (ZW (cs:=#[.int .i64 0,.slice none 0 0]) B6.out 0 _ rfl) 1 _ rfl) Tryz.underlying54 rfl (by kernel_rfl)) rfl ?_
   exact⟨_,rfl,Kd.R_mono (Kd.R_far (p:=⟨w.heap.size+2,1,none⟩) (Kd.R_far (p:=⟨w.heap.size+2,0,none⟩) (Kd.R_types HO6.out B6.out (by decide)) (fun _ hk=>hk.2) _) (fun _ hk=>hk.2) _) (fun _ _=>trivial),Zs (Zs HB6.out HN.out) HN.out⟩
end Go.Proofs.YtoeimopgoaffcaaGreatDoor.Pr
