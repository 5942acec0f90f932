/- By a program of this session. -/
import Derived.Test.YtoeimopgoaffcaaDoorBBcc1x1
namespace Go.Proofs.YtoeimopgoaffcaaDoor.Pr
open RowKit YtoeimopgoaffcaaDoorW.PrintWords YtoeimopgoaffcaaDoorW.PrintLast YtoeimopgoaffcaaDoorW.PrintMore
attribute [local go_sem] Zat Zar ZaG ZaF Zal Zak Zas Zaq
set_option linter.unusedVariables false
set_option linter.unusedSimpArgs false
open Ni
def Z8.l0:Nat→Int→List Int→Int→Int→List (S54)→List (S81)→Int→Option ((List (S54))×(List (S81))×Int×Int×Int)
 | 0,_,_,_,_,_,_,_=>none
 | k+1,x,b,i,o,ns,ts,z=>if x<4 then((ZH.f b i o 3).bind fun t024_=>((ZH.f b t024_.2.1 t024_.2.2 2).bind fun t027_=>((ZH.f b t027_.2.1 t027_.2.2 3).bind fun t030_=>(if ts.length<3518437208883 then(Z8.l0 k (wrap64 (x+1)) b t030_.2.1 t030_.2.2 ns (ts ++ [(⟨t027_.1,x,t024_.1,wrap64 ((wrap64 (t024_.1+1))+t030_.1),false⟩:S81)]) z) else(none))))) else((ZaD.f b i o 2).bind fun t036_=>(if t036_.1=true then((ZH.f b t036_.2.1 t036_.2.2 2).bind fun t039_=>(if ns.length<2932031007402 then((ZH.f b t039_.2.1 t039_.2.2 2).bind fun t048_=>(if ts.length<3518437208883 then(some ((ns ++ [(⟨(⟨#[100]⟩:ByteArray),(([1]:List Int)),0⟩:S54)]),(ts ++ [(⟨2,4,wrap64 (1+t039_.1),wrap64 ((wrap64 (1+t039_.1))+t048_.1),true⟩:S81)]),z,t048_.2.1,t048_.2.2)) else(none))) else(none))) else(some (ns,ts,z,t036_.2.1,t036_.2.2))))
def Z8.f (k:Nat) (b:List Int) (i:Int) (o:Int):Option ((List (S54))×(List (S81))×Int×Int×Int):=(ZH.f b i o 3).bind fun t002_=>((ZH.f b t002_.2.1 t002_.2.2 2).bind fun t015_=>((ZH.f b t015_.2.1 t015_.2.2 3).bind fun t018_=>(Z8.l0 k 2 b t018_.2.1 t018_.2.2 (([(⟨(⟨#[103,111]⟩:ByteArray),([]:List Int),0⟩:S54),(⟨(⟨#[97]⟩:ByteArray),([]:List Int),1⟩:S54),(⟨(⟨#[98]⟩:ByteArray),(([1]:List Int)),0⟩:S54),(⟨(⟨#[99]⟩:ByteArray),(([(-1)]:List Int)),0⟩:S54)]:List (S54))) (([(⟨0,1,t015_.1,wrap64 (t015_.1+t018_.1),false⟩:S81)]:List (S81))) (wrap64 (4+t002_.1)))))
set_option maxHeartbeats 8000000 in
set_option maxRecDepth 100000 in
theorem Z8.calls (k g:Nat) (b:List Int) (i o:Int) (r1:List S54) (r2:List S81) (r3 r4 r5:Int) (w0 w:World) (hI:ZB w0 w g b i o) (hB:Below w0.heap.size w0 w) (h:Z8.f k b i o=some (r1,r2,r3,r4,r5)) :
  Calls Tryd.prog 71 #[.pointer (some ⟨g,0,none⟩)] w fun e w'=>∃v0_ v1_:Value,e=.returned (.agg #[v0_,v1_,.int .i64 r3])∧Kd.N k54 54 w' w.heap.size (fun k_=>(w.heap.size≤k_)∧some k_≠(v1_:Value).ownBlock) v0_ r1∧Kd.R k81 81 w' w.heap.size (fun k_=>(w.heap.size≤k_)) v1_ r2∧ZB w0 w' g b r4 r5∧Below w0.heap.size w0 w'∧ZI w w' g none:=by
 unfold Z8.f at h
 obtain⟨⟨t1,t2,t3⟩,A0_,h⟩:=Option.bind_eq_some_iff.1 h
 dsimp only at h
 obtain⟨⟨p1,p2,p3⟩,A1_,h⟩:=Option.bind_eq_some_iff.1 h
 dsimp only at h
 obtain⟨⟨x1,i0,o0⟩,A2_,h⟩:=Option.bind_eq_some_iff.1 h
 dsimp only at h
 have A0:=Za A0_;have A1:=Za A1_;have A2:=Za A2_
 obtain⟨nb,hnb⟩:∃L_:List S54,L_=[⟨⟨#[103,111]⟩,[],0⟩,⟨⟨#[97]⟩,[],1⟩,⟨⟨#[98]⟩,[1],0⟩,⟨⟨#[99]⟩,[-1],0⟩]:=⟨_,rfl⟩
 have H':Aside0 (Z8.l0 k 2 b i0 o0 nb [⟨0,1,p1,wrap64 (p1+x1),false⟩] (wrap64 (4+t1))=some (r1,r2,r3,r4,r5)):=⟨by rw[hnb];exact h⟩
 have Nb:=Za hnb;clear A0_ A1_ A2_ h hnb
 have hu:=Tryd.underlying39
 have hu2:=Tryd.underlying81
 have hu3:=Tryd.underlying54
 have D0:=Za (Dr.new hI hB)
 clear hI hB
 go_enter Tryd.func71,Tryd.ntmps71
 go_wp2_with (first|((with_reducible refine ZK (N:=2) rfl ?_);refine ZN ?hg (N:=2) ?hd (cs:=#[.slice none 0 0,.slice none 0 0,.int .i64 0]) (t:=39) ?hr ?_;(case hd=>rfl);(case hg=>rfl);(case hr=>first|(go_simp;done)|(go_simp;rfl));intro gr hg w1 hbox hb;have D1:=Za (D0.out.below hb);have R1:=Za hbox;have GR:=Za (show w.heap.size≤gr∧w0.heap.size≤gr from⟨by rw[hg];exact Nat.le_refl _,by rw[hg];exact D0.out.vz⟩);clear hbox hb hg)|(go_at_call 59;with_reducible refine(ZH.calls g b i o 3 t1 t2 t3 w0 _ D1.out.cu D1.out.hb A0.out).mono ?_;rintro e w2 ⟨rfl,hi_,hb_,hk_⟩;have D2:=Za (D1.out.keep hi_ hb_ hk_);have R2:=Za (D1.out.keepB R1.out hk_);clear hi_ hb_ hk_)|((with_reducible refine ZK (N:=3) rfl ?_);refine ZN ?hg (N:=3) ?hd (cs:=#[.slice none 0 0,.slice none 0 0,.int .i64 0]) (t:=39) ?hr ?_;(case hd=>rfl);(case hg=>rfl);(case hr=>first|(go_simp;done)|(go_simp;rfl));intro gs hg w3 hbox hb;have D3:=Za (D2.out.below hb);have R3:=Za (Zw R2.out hb);have B3:=Za hbox;have GE:=Za (show w.heap.size≤gs∧w0.heap.size≤gs from⟨by rw[hg];exact D2.out.kp.1,by rw[hg];exact D2.out.vz⟩);have NG:=Za (show gr≠gs by rw[hg];exact Nat.ne_of_lt (ZR R2.out));have k0:w3.cell? ⟨gs,0,none⟩=some (.slice none 0 0):=(Zo B3.out 0).trans rfl;have k1:w3.cell? ⟨gs,1,none⟩=some (.slice none 0 0):=(Zo B3.out 1).trans rfl;have k2:w3.cell? ⟨gs,2,none⟩=some (.int .i64 0):=(Zo B3.out 2).trans rfl;have f0:=Zu B3.out 0;have f1:=Zu B3.out 1;have f2:=Zu B3.out 2;have r4_:=ZF (ZF (ZF R3.out (p:=⟨gs,0,none⟩) NG.out (.slice none 0 0)) (p:=⟨gs,1,none⟩) NG.out (.slice none 0 0)) (p:=⟨gs,2,none⟩) NG.out (.int .i64 (wrap64 (4+t1)));obtain⟨d4_,b4_⟩:=Dr.put3 (cN:=.slice none 0 0) (cT:=.slice none 0 0) (v1:=.int .i64 0) D3.out B3.out GE.out (.slice none 0 0) (.slice none 0 0) (.int .i64 (wrap64 (4+t1)));have D4:=Za d4_;have B4:=Za b4_;have R4:=Za r4_;clear d4_ b4_ r4_ hbox hb hg)|((with_reducible refine ZK (N:=12) rfl ?_);refine Kd.R_lit (Kd.int .i64) (w0:=_) w.heap.size 3 ?hg (N:=12) ?hd (xs:=[1]) (inner:=[.int .i64 1]) (ok:=fun k_=>w.heap.size≤k_) (okp:=fun _=>False) ?hr ?hp (fun _ hk=>hk.elim) D4.out.kp.1 (Below.refl _ _) D4.out.kp.1 (by simp) ?_;(case hd=>rfl);(case hg=>rfl);(case hr=>first|(go_simp;done)|(go_simp;rfl));(case hp=>exact(Reps.one rfl (Reps.none _ _)));intro vA w5 ho hb hg_ hn_;have D5:=Za (D4.out.below (ZaZ hb hg_));have R5:=Za (Zw R4.out (ZaZ hb hg_));have B5:=Za (Zw B4.out (ZaZ hb hg_));have LA:=Za ho;obtain⟨Aa,ca,ea⟩:=Kd.R_slice LA.out;subst ea;clear k0 k1 k2 f0 f1 f2 ho hb hg_ hn_)|((with_reducible refine ZK (N:=14) rfl ?_);refine Kd.R_lit (Kd.int .i64) (w0:=_) w.heap.size 3 ?hg (N:=14) ?hd (xs:=[(-1)]) (inner:=[.int .i64 (-1)]) (ok:=fun k_=>w.heap.size≤k_) (okp:=fun _=>False) ?hr ?hp (fun _ hk=>hk.elim) D5.out.kp.1 (Below.refl _ _) D5.out.kp.1 (by simp) ?_;(case hd=>rfl);(case hg=>rfl);(case hr=>first|(go_simp;done)|(go_simp;rfl));(case hp=>exact(Reps.one rfl (Reps.none _ _)));intro vB w6 ho hb hg_ hn_;have D6:=Za (D5.out.below (ZaZ hb hg_));have R6:=Za (Zw R5.out (ZaZ hb hg_));have B6:=Za (Zw B5.out (ZaZ hb hg_));have LB:=Za ho;replace LA:=Za (Kd.R_below LA.out (ZaZ hb hg_));obtain⟨Ab,cb,eb⟩:=Kd.R_slice LB.out;subst eb;clear ho hb hg_ hn_)|((with_reducible refine ZK (N:=16) rfl ?_);refine Kd.R_lit k54 (w0:=_) w.heap.size 54 ?hg (N:=16) ?hd (xs:=([⟨⟨#[103,111]⟩,[],0⟩,⟨⟨#[97]⟩,[],1⟩,⟨⟨#[98]⟩,[1],0⟩,⟨⟨#[99]⟩,[-1],0⟩]:List S54)) (inner:=[.string ⟨#[103,111]⟩,.slice none 0 0,.int .i64 0,.string ⟨#[97]⟩,.slice none 0 0,.int .i64 1,.string ⟨#[98]⟩,.slice Aa 1 ca,.int .i64 0,.string ⟨#[99]⟩,.slice Ab 1 cb,.int .i64 0]) (ok:=fun k_=>w.heap.size≤k_) (okp:=fun k_=>w.heap.size≤k_) ?hr ?hp (fun _ hk=>hk) D6.out.kp.1 (Below.refl _ _) D6.out.kp.1 (by simp) ?_;(case hd=>rfl);(case hg=>rfl);(case hr=>first|(go_simp;done)|(go_simp;rfl));(case hp=>exact(Reps.c3 (Zcd _ _ _ (⟨⟨#[103,111]⟩,[],0⟩:S54) (Kd.R_nil _ _ _ _ _)) (Reps.c3 (Zcd _ _ _ (⟨⟨#[97]⟩,[],1⟩:S54) (Kd.R_nil _ _ _ _ _)) (Reps.c3 (Zcd _ _ _ (⟨⟨#[98]⟩,[1],0⟩:S54) LA.out) (Reps.c3 (Zcd _ _ _ (⟨⟨#[99]⟩,[-1],0⟩:S54) LB.out) (Reps.none _ _))))));intro vN w7 ho hb hg_ hn_;rw[← Nb.out] at ho;have D7:=Za (D6.out.litN ho (ZaZ hb hg_));have R7:=Za (Zw R6.out (ZaZ hb hg_));have B7:=Za (Zw B6.out (ZaZ hb hg_));obtain⟨AN,cN,eN⟩:=Kd.R_slice D7.out.rn;subst eN;have k0:w7.cell? ⟨gs,0,none⟩=some (.slice none 0 0):=(Zo B7.out 0).trans rfl;have f0:=Zu B7.out 0;have D8:=Za (D7.out.put B7.out GE.out 0 (.slice AN nb.length cN));have B8:=Za (ZO (cs:=#[.slice none 0 0,.slice none 0 0,.int .i64 (wrap64 (4+t1))]) B7.out 0 (.slice AN nb.length cN) rfl);have R8:=Za (ZF R7.out (p:=⟨gs,0,none⟩) NG.out (.slice AN nb.length cN));clear ho hb hg_ hn_ LA LB)|(go_at_call 59;with_reducible refine(ZH.calls g b t2 t3 2 p1 p2 p3 w0 _ D8.out.cu D8.out.hb A1.out).mono ?_;rintro e w9 ⟨rfl,hi_,hb_,hk_⟩;have D9:=Za (D8.out.keep hi_ hb_ hk_);have B9:=Za (D8.out.keepB B8.out hk_);have R9:=Za (D8.out.keepB R8.out hk_);clear k0 f0;clear hi_ hb_ hk_)|(go_at_call 59;with_reducible refine(ZH.calls g b p2 p3 3 x1 i0 o0 w0 _ D9.out.cu D9.out.hb A2.out).mono ?_;rintro e w10 ⟨rfl,hi_,hb_,hk_⟩;have D10:=Za (D9.out.keep hi_ hb_ hk_);have B10:=Za (D9.out.keepB B9.out hk_);have R10:=Za (D9.out.keepB R9.out hk_);clear hi_ hb_ hk_)|((with_reducible refine ZK (N:=26) rfl ?_);refine Kd.R_lit k81 (w0:=_) w.heap.size 81 ?hg (N:=26) ?hd (xs:=([⟨0,1,p1,wrap64 (p1+x1),false⟩]:List S81)) (inner:=[.int .i64 0,.int .i64 1,.int .i64 p1,.int .i64 (wrap64 (p1+x1)),.bool false]) (ok:=fun k_=>w.heap.size≤k_) (okp:=fun k_=>w.heap.size≤k_) ?hr ?hp (fun _ hk=>hk) D10.out.kp.1 (Below.refl _ _) D10.out.kp.1 (by simp) ?_;(case hd=>rfl);(case hg=>rfl);(case hr=>first|(go_simp;done)|(go_simp;rfl));(case hp=>exact(Reps.c5 (ZcK _ _ _ (⟨0,1,p1,wrap64 (p1+x1),false⟩:S81)) (Reps.none _ _)));intro vT w11 ho hb hg_ hn_;have D11:=Za (D10.out.litT ho (ZaZ hb hg_));have R11:=Za (Zw R10.out (ZaZ hb hg_));have B11:=Za (Zw B10.out (ZaZ hb hg_));obtain⟨AT,cT,eT⟩:=Kd.R_slice D11.out.rt;subst eT;have k1:w11.cell? ⟨gs,1,none⟩=some (.slice none 0 0):=(Zo B11.out 1).trans rfl;have f1:=Zu B11.out 1;have D12:=Za (D11.out.put B11.out GE.out 1 (.slice AT 1 cT));have B12:=Za (ZO (cs:=#[.slice AN nb.length cN,.slice none 0 0,.int .i64 (wrap64 (4+t1))]) B11.out 1 (.slice AT 1 cT) rfl);have R12:=Za (ZF R11.out (p:=⟨gs,1,none⟩) NG.out (.slice AT 1 cT));clear ho hb hg_ hn_))
 clear k1 f1
 go_loopg [5] k (fun kq s5 wr=>∃(x i o:Int) (ts:List S81) (uT:Value),s5=.int .i64 x∧Aside0 (Z8.l0 kq x b i o nb ts (wrap64 (4+t1))=some (r1,r2,r3,r4,r5))∧Aside0 (kq≤k)∧Aside0 (Dr w0 w0 w wr g b i o (.slice AN nb.length cN) uT nb ts)∧Aside0 (wr.heap[gs]? = some (.cells #[.slice AN nb.length cN,uT,.int .i64 (wrap64 (4+t1))] 39 (0,0)))∧Aside0 (wr.heap[gr]? = some (.cells #[.slice none 0 0,.slice none 0 0,.int .i64 0] 39 (0,0))))
 case atStart=>exact⟨2,i0,o0,_,_,rfl,H',⟨Nat.le_refl _⟩,D12,B12,R12⟩
 case round=>
 clear H' A0 A1 A2 D0 D1 D2 D3 D4 D5 D6 D7 D8 D9 D10 D11 D12 R1 R2 R3 R4 R5 R6 R7 R8 R9 R10 R11 R12 B3 B4 B5 B6 B7 B8 B9 B10 B11 B12
 obtain⟨x,i1,o1,ts,uT,rfl,HA,HK1,D,B,RR⟩:=hrel
 cases gk with
 | zero=>exact absurd HA.out (by simp[Z8.l0])
 | succ k1=>
 have H:=HA.out
 clear HA
 simp only[Z8.l0] at H
 by_cases c:x<4
 case pos=>
  rw[if_pos c] at H
  have c0:decide (x<4)=true:=Ze c
  clear c
  obtain⟨⟨l1,l2,l3⟩,A3_,H⟩:=Option.bind_eq_some_iff.1 H
  dsimp only at H
  have A3:=Za A3_;clear A3_
  obtain⟨⟨q1,q2,q3⟩,A4_,H⟩:=Option.bind_eq_some_iff.1 H
  dsimp only at H
  have A4:=Za A4_;clear A4_
  obtain⟨⟨s1,s2,s3⟩,A5_,H⟩:=Option.bind_eq_some_iff.1 H
  dsimp only at H
  have A5:=Za A5_;clear A5_
  by_cases cl:ts.length<3518437208883
  case neg=>rw[if_neg cl] at H;exact absurd H (by simp)
  rw[if_pos cl] at H
  have ML:=Za cl;clear cl
  obtain⟨T1,hT1⟩:∃T_:List S81,T_=ts ++ [⟨q1,x,l1,wrap64 (wrap64 (l1+1)+s1),false⟩]:=⟨_,rfl⟩
  rw[← hT1] at H
  have NT:=Za hT1;have HH:=Za H;clear hT1 H
  go_wp2_with ((go_at_call 59;with_reducible refine(ZH.calls g b i1 o1 3 l1 l2 l3 w0 _ D.out.cu D.out.hb A3.out).mono ?_;rintro e w5 ⟨rfl,hi_,hb_,hk_⟩;have D5:=Za (D.out.keep hi_ hb_ hk_);have B5:=Za (D.out.keepB B.out hk_);have R5:=Za (D.out.keepB RR.out hk_);clear hi_ hb_ hk_))
  refine Za9 (n:=16) (S:=fun w'=>w'.cell? ⟨gs,1,none⟩=some (uT)) (ds:=[15]) #[false,false,false,false,false,false,false,false,false,false,false,false,false,false,false,false] (by kernel_rfl) rfl rfl ((Zo B5.out 1).trans rfl) (fun hHeld=>?_)
  have D6:=Za (D5.out.below (Zp (Below.refl w5.heap.size w5)))
  have B6:=Za (Zt B5.out)
  have R6:=Za (Zt R5.out)
  generalize w5.drew=w6 at D6 B6 R6 hHeld ⊢
  refine pu (N:=some 34) 0 ?_
  refine pu (N:=some 36) 2 ?_
  refine pu (N:=some 38) 4 ?_
  refine pu (N:=some 39) 5 ?_
  refine pu (N:=some 40) 6 ?_
  refine pu (N:=some 41) 7 ?_
  refine pu (N:=some 42) 8 ?_
  refine tk (N:=some 35) 1 hHeld ?_
  refine onl (N:=some 37) 3 (fun K hK=>?_)
  refine Za5 Tryd.func59 (by kernel_rfl) rfl #[.pointer (some ⟨g,0,none⟩),.int .i64 2] (by rfl) rfl rfl (by(try simp only[List.map_toArray,List.map_cons,List.map_nil]);first|done|rfl) ?_
  with_reducible refine(ZH.calls g b l2 l3 2 q1 q2 q3 w0 _ D6.out.cu D6.out.hb A4.out).mono ?_
  rintro e w7 ⟨rfl,hi_,hb_,hk_⟩
  refine⟨_,rfl,?_⟩
  have D7:=Za (D6.out.keep hi_ hb_ hk_)
  have B7:=Za (D6.out.keepB B6.out hk_)
  have R7:=Za (D6.out.keepB R6.out hk_)
  clear hi_ hb_ hk_
  refine hK.out _ _ ((Zo B7.out 1).trans rfl) (fun hHeld=>?_)
  clear hK K
  refine nrm (some 37) ?_
  refine onl (N:=some 43) 9 (fun K hK=>?_)
  refine Za5 Tryd.func59 (by kernel_rfl) rfl #[.pointer (some ⟨g,0,none⟩),.int .i64 3] (by rfl) rfl rfl (by(try simp only[List.map_toArray,List.map_cons,List.map_nil]);first|done|rfl) ?_
  with_reducible refine(ZH.calls g b q2 q3 3 s1 s2 s3 w0 _ D7.out.cu D7.out.hb A5.out).mono ?_
  rintro e w8 ⟨rfl,hi_,hb_,hk_⟩
  refine⟨_,rfl,?_⟩
  have D8:=Za (D7.out.keep hi_ hb_ hk_)
  have B8:=Za (D7.out.keepB B7.out hk_)
  have R8:=Za (D7.out.keepB R7.out hk_)
  clear hi_ hb_ hk_
  refine hK.out _ _ ((Zo B8.out 1).trans rfl) (fun hHeld=>?_)
  clear hK K
  refine nrm (some 43) ?_
  refine pu (N:=some 44) 10 ?_
  refine pu (N:=some 45) 11 ?_
  refine onl (N:=some 46) 12 (fun K hK=>?_)
  refine Zcv (w1:=?_) (v:=?_) (by rfl) rfl ?_ ?_
  rotate_left 2
  ·go_simp
   constructor
   ·rfl
   ·rfl
  refine hK.out _ _ ((Zo (Zr B8.out _) 1).trans rfl) (fun hHeld=>?_)
  clear hK K
  refine nrm (some 46) ?_
  refine onl (N:=some 47) 13 (fun K hK=>?_)
  refine Kd.R_append_step k81 w.heap.size (by rfl) (.tmp 35) (.tmp 46) 37 81 (.agg #[(.int .i64 0),(.int .i64 0),(.int .i64 0),(.int .i64 0),(.bool false)]) 40 rfl Tryd.underlying37 info81 rfl (by decide) (by omega) (uT) ts (⟨q1,x,l1,wrap64 (wrap64 (l1+1)+s1),false⟩:S81) [.int .i64 q1,.int .i64 x,.int .i64 l1,.int .i64 (wrap64 (wrap64 (l1+1)+s1)),.bool false] (fun k_=>w.heap.size≤k_) (fun _=>False) rfl (by first|rfl|(go_simp;rfl)) ?aP (fun _ hk=>hk.elim) ?aF ?aO (Below.refl _ _) ?aS ?aL ?_
  (case aP=>exact ZcK _ _ _ (⟨q1,x,l1,wrap64 (wrap64 (l1+1)+s1),false⟩:S81))
  (case aF=>exact fun k_ hk=>Nat.le_trans D8.out.kp.1 hk)
  (case aO=>exact D8.out.rt)
  (case aS=>exact D8.out.kp.1)
  (case aL=>have:=ML.out;omega)
  intro v9 w9 ho hb hg hat
  rw[← NT.out] at ho
  have D9:=Za (D8.out.tie ho hb hg)
  have B9:=Za (D8.out.tieB B8.out hg)
  have R9:=Za (D8.out.tieB R8.out hg)
  clear ho hb hg hat
  obtain⟨A9_,c9_,e_⟩:=Kd.R_slice D9.out.rt
  subst e_
  refine hK.out _ _ ((Zo B9.out 1).trans rfl) (fun hHeld=>?_)
  clear hK K
  refine nrm (some 47) ?_
  refine pu (N:=some 48) 14 ?_
  refine Zb3 (i:=15) (N:=none) #[true,true,true,true,true,true,true,true,true,true,true,true,true,true,true,true] rfl rfl (by kernel_rfl) (by decide) (fun K hK=>?_)
  have hs_:w9.cell? ⟨gs,1,none⟩=some (uT):=(Zo B9.out 1).trans rfl
  have hf_:=Zu B9.out 1
  refine Zcf (w1:=?_) (by rfl) rfl ?_ ?_
  rotate_left
  ·go_simp
   rfl
  refine hK.out _ _ ?_
  clear hK K
  refine Zbu (by kernel_rfl) ?_
  clear hs_ hf_
  have D10:=Za (D9.out.put B9.out GE.out 1 (.slice A9_ T1.length c9_))
  have R10:=Za (ZF R9.out (p:=⟨gs,1,none⟩) NG.out (.slice A9_ T1.length c9_))
  have B10:=Za (ZO (cs:=#[.slice AN nb.length cN,uT,.int .i64 (wrap64 (4+t1))]) B9.out 1 (.slice A9_ T1.length c9_) rfl)
  generalize w9.setCell ⟨gs,1,none⟩ (.slice A9_ T1.length c9_)=w10 at D10 R10 B10 ⊢
  go_wp2
  go_roundg k1
  case measure=>have:=HK1.out;omega
  case rel=>exact⟨_,s2,s3,T1,_,rfl,HH,⟨by have:=HK1.out;omega⟩,D10,B10,R10⟩
 rw[if_neg c] at H
 have c0:decide (x<4)=false:=Zf c
 clear c
 obtain⟨⟨u1,u2,u3⟩,A3_,H⟩:=Option.bind_eq_some_iff.1 H
 dsimp only at H
 have A3:=Za A3_;clear A3_
 obtain⟨Au,cu_,eu⟩:=Kd.R_slice D.out.rt
 subst eu
 cases u1 with
 | false=>
  obtain⟨rfl,rfl,rfl,rfl,rfl⟩:nb=r1∧ts=r2∧(wrap64 (4+t1))=r3∧u2=r4∧u3=r5:=by simpa using H
  clear H
  go_wp2_with ((go_at_call 70;with_reducible refine(ZaD.calls g b i1 o1 2 false u2 u3 w0 _ D.out.cu D.out.hb A3.out).mono ?_;rintro e w5 ⟨rfl,hi_,hb_,hk_⟩;have D5:=Za (D.out.keep hi_ hb_ hk_);have B5:=Za (D.out.keepB B.out hk_);have R5:=Za (D.out.keepB RR.out hk_);have k0:w5.cell? ⟨gs,0,none⟩=some (.slice AN nb.length cN):=(Zo B5.out 0).trans rfl;have k1_:w5.cell? ⟨gs,1,none⟩=some (.slice Au ts.length cu_):=(Zo B5.out 1).trans rfl;have k2:w5.cell? ⟨gs,2,none⟩=some (.int .i64 (wrap64 (4+t1))):=(Zo B5.out 2).trans rfl;have m0:w5.cell? ⟨gr,0,none⟩=some (.slice none 0 0):=(Zo R5.out 0).trans rfl;have m1:w5.cell? ⟨gr,1,none⟩=some (.slice none 0 0):=(Zo R5.out 1).trans rfl;have m2:w5.cell? ⟨gr,2,none⟩=some (.int .i64 0):=(Zo R5.out 2).trans rfl;have f0:=Zu R5.out 0;have f1:=Zu R5.out 1;have f2:=Zu R5.out 2;have n1:=NG.out;have n2:=NG.out.symm;clear hi_ hb_ hk_))
  obtain⟨d9,P2⟩:=Dr.put3 (cN:=.slice none 0 0) (cT:=.slice none 0 0) (v1:=.int .i64 0) D5.out R5.out GR.out (.slice AN nb.length cN) (.slice Au ts.length cu_) (.int .i64 (wrap64 (4+t1)))
  refine bodyPost_ret (results_cell_row rfl _ _ gr 39 #[.slice AN nb.length cN,.slice Au ts.length cu_,.int .i64 (wrap64 (4+t1))] (0,0) _ rfl P2 Tryd.underlying39 rfl (by kernel_rfl)) rfl ?_
  exact⟨_,_,rfl,Kd.R_N (Kd.R_apart' d9.rn (Kd.R_typed d9.rt) (by decide)),d9.rt,d9.cu,d9.hb,d9.kp⟩
 | true=>
 rw[if_pos rfl] at H
 obtain⟨⟨y1,y2,y3⟩,A4_,H⟩:=Option.bind_eq_some_iff.1 H
 dsimp only at H
 by_cases cl:nb.length<2932031007402
 case neg=>rw[if_neg cl] at H;exact absurd H (by simp)
 rw[if_pos cl] at H
 obtain⟨⟨z1,z2,z3⟩,A5_,H⟩:=Option.bind_eq_some_iff.1 H
 dsimp only at H
 by_cases cm:ts.length<3518437208883
 case neg=>rw[if_neg cm] at H;exact absurd H (by simp)
 rw[if_pos cm] at H
 have A4:=Za A4_;have A5:=Za A5_;have NL:=Za cl;have ML:=Za cm;clear A4_ A5_ cl cm
 obtain⟨nd,hnd⟩:∃L_:List S54,L_=nb ++ [⟨⟨#[100]⟩,[1],0⟩]:=⟨_,rfl⟩
 obtain⟨T2,hT2⟩:∃T_:List S81,T_=ts ++ [⟨2,4,wrap64 (1+y1),wrap64 (wrap64 (1+y1)+z1),true⟩]:=⟨_,rfl⟩
 rw[← hnd,← hT2] at H
 have Nd:=Za hnd;have NT2:=Za hT2
 obtain⟨rfl,rfl,rfl,rfl,rfl⟩:nd=r1∧T2=r2∧(wrap64 (4+t1))=r3∧z2=r4∧z3=r5:=by simpa using H
 clear hnd hT2 H
 go_wp2_with ((go_at_call 70;with_reducible refine(ZaD.calls g b i1 o1 2 true u2 u3 w0 _ D.out.cu D.out.hb A3.out).mono ?_;rintro e w5 ⟨rfl,hi_,hb_,hk_⟩;have D5:=Za (D.out.keep hi_ hb_ hk_);have B5:=Za (D.out.keepB B.out hk_);have R5:=Za (D.out.keepB RR.out hk_);skip;clear hi_ hb_ hk_))
 go_wp2_with (first|(go_at_call 59;with_reducible refine(ZH.calls g b u2 u3 2 y1 y2 y3 w0 _ D5.out.cu D5.out.hb A4.out).mono ?_;rintro e w6 ⟨rfl,hi_,hb_,hk_⟩;have D6:=Za (D5.out.keep hi_ hb_ hk_);have B6:=Za (D5.out.keepB B5.out hk_);have R6:=Za (D5.out.keepB R5.out hk_);have k0:w6.cell? ⟨gs,0,none⟩=some (.slice AN nb.length cN):=(Zo B6.out 0).trans rfl;clear hi_ hb_ hk_)|((with_reducible refine ZK (N:=56) rfl ?_);refine Kd.R_lit (Kd.int .i64) (w0:=_) w.heap.size 3 ?hg (N:=56) ?hd (xs:=[1]) (inner:=[.int .i64 1]) (ok:=fun k_=>w.heap.size≤k_) (okp:=fun _=>False) ?hr ?hp (fun _ hk=>hk.elim) D6.out.kp.1 (Below.refl _ _) D6.out.kp.1 (by simp) ?_;(case hd=>rfl);(case hg=>rfl);(case hr=>first|(go_simp;done)|(go_simp;rfl));(case hp=>exact(Reps.one rfl (Reps.none _ _)));intro vA w7 ho hb hg_ hn_;have D7:=Za (D6.out.below (ZaZ hb hg_));have R7:=Za (Zw R6.out (ZaZ hb hg_));have B7:=Za (Zw B6.out (ZaZ hb hg_));obtain⟨Aa,ca,ea⟩:=Kd.R_slice ho;subst ea;have LA:=Za (Kd.R_apart' ho (Kd.R_typed D7.out.rn) (by decide));clear k0 ho hb hg_ hn_)|((with_reducible refine Zax (b:=.append) (xs:=#[.tmp 55,.tmp 58]) rfl ?_);at_builtin;refine Kd.R_append k54 w.heap.size rfl (.tmp 55) (.tmp 58) 36 54 (.agg #[(.string ⟨#[]⟩),(.slice none 0 0),(.int .i64 0)]) 48 rfl Tryd.underlying36 info54 rfl (by decide) (by omega) (.slice AN nb.length cN) nb (⟨⟨#[100]⟩,[1],0⟩:S54) [.string ⟨#[100]⟩,.slice Aa 1 ca,.int .i64 0] (fun k_=>w.heap.size≤k_) (fun k_=>w.heap.size≤k_∧some k_≠(.slice AN nb.length cN:Value).ownBlock) rfl (by first|(go_simp;done)|(go_simp;rfl)) ?aP (fun _ hk=>hk) ?aF ?aO (Below.refl _ _) ?aS ?aL ?_;(case aP=>exact Zcd _ _ _ (⟨⟨#[100]⟩,[1],0⟩:S54) LA.out);(case aF=>exact fun k_ hk=>Nat.le_trans D7.out.kp.1 hk);(case aO=>exact D7.out.rn);(case aS=>exact D7.out.kp.1);(case aL=>have:=NL.out;omega);intro v8 w8 ho hb hg hat;rw[← Nd.out] at ho;have D8:=Za (D7.out.node ho hb hg);have B8:=Za (D7.out.nodeB B7.out hg);have R8:=Za (D7.out.nodeB R7.out hg);obtain⟨A8_,c8_,e_⟩:=Kd.R_slice D8.out.rn;subst e_;have k0:w8.cell? ⟨gs,0,none⟩=some (.slice AN nb.length cN):=(Zo B8.out 0).trans rfl;have f0:=Zu B8.out 0;clear ho hb hg hat LA))
 clear k0 f0
 have D9:=Za (D8.out.put B8.out GE.out 0 (.slice A8_ nd.length c8_))
 have R9:=Za (ZF R8.out (p:=⟨gs,0,none⟩) NG.out (.slice A8_ nd.length c8_))
 have B9:=Za (ZO (cs:=#[.slice AN nb.length cN,.slice Au ts.length cu_,.int .i64 (wrap64 (4+t1))]) B8.out 0 (.slice A8_ nd.length c8_) rfl)
 generalize w8.setCell ⟨gs,0,none⟩ (.slice A8_ nd.length c8_)=w9 at D9 R9 B9 ⊢
 refine Za9 (n:=12) (S:=fun w'=>w'.cell? ⟨gs,1,none⟩=some (.slice Au ts.length cu_)) (ds:=[11]) #[false,false,false,false,false,false,false,false,false,false,false,false] (by kernel_rfl) rfl rfl ((Zo B9.out 1).trans rfl) (fun hHeld=>?_)
 have D10:=Za (D9.out.below (Zp (Below.refl w9.heap.size w9)))
 have B10:=Za (Zt B9.out)
 have R10:=Za (Zt R9.out)
 generalize w9.drew=w10 at D10 B10 R10 hHeld ⊢
 refine pu (N:=some 61) 0 ?_
 refine pu (N:=some 63) 2 ?_
 refine pu (N:=some 64) 3 ?_
 refine pu (N:=some 65) 4 ?_
 refine tk (N:=some 62) 1 hHeld ?_
 refine onl (N:=some 66) 5 (fun K hK=>?_)
 refine Za5 Tryd.func59 (by kernel_rfl) rfl #[.pointer (some ⟨g,0,none⟩),.int .i64 2] (by rfl) rfl rfl (by(try simp only[List.map_toArray,List.map_cons,List.map_nil]);first|done|rfl) ?_
 with_reducible refine(ZH.calls g b y2 y3 2 z1 z2 z3 w0 _ D10.out.cu D10.out.hb A5.out).mono ?_
 rintro e w11 ⟨rfl,hi_,hb_,hk_⟩
 refine⟨_,rfl,?_⟩
 have D11:=Za (D10.out.keep hi_ hb_ hk_)
 have B11:=Za (D10.out.keepB B10.out hk_)
 have R11:=Za (D10.out.keepB R10.out hk_)
 clear hi_ hb_ hk_
 refine hK.out _ _ ((Zo B11.out 1).trans rfl) (fun hHeld=>?_)
 clear hK K
 refine nrm (some 66) ?_
 refine pu (N:=some 67) 6 ?_
 refine pu (N:=some 68) 7 ?_
 refine onl (N:=some 69) 8 (fun K hK=>?_)
 refine Zcv (w1:=?_) (v:=?_) (by rfl) rfl ?_ ?_
 rotate_left 2
 ·go_simp
  constructor
  ·rfl
  ·rfl
 refine hK.out _ _ ((Zo (Zr B11.out _) 1).trans rfl) (fun hHeld=>?_)
 clear hK K
 refine nrm (some 69) ?_
 refine onl (N:=some 70) 9 (fun K hK=>?_)
 refine Kd.R_append_step k81 w.heap.size (by rfl) (.tmp 62) (.tmp 69) 37 81 (.agg #[(.int .i64 0),(.int .i64 0),(.int .i64 0),(.int .i64 0),(.bool false)]) 40 rfl Tryd.underlying37 info81 rfl (by decide) (by omega) (.slice Au ts.length cu_) ts (⟨2,4,wrap64 (1+y1),wrap64 (wrap64 (1+y1)+z1),true⟩:S81) [.int .i64 2,.int .i64 4,.int .i64 (wrap64 (1+y1)),.int .i64 (wrap64 (wrap64 (1+y1)+z1)),.bool true] (fun k_=>w.heap.size≤k_) (fun _=>False) rfl (by first|rfl|(go_simp;rfl)) ?aP (fun _ hk=>hk.elim) ?aF ?aO (Below.refl _ _) ?aS ?aL ?_
 (case aP=>exact ZcK _ _ _ (⟨2,4,wrap64 (1+y1),wrap64 (wrap64 (1+y1)+z1),true⟩:S81))
 (case aF=>exact fun k_ hk=>Nat.le_trans D11.out.kp.1 hk)
 (case aO=>exact D11.out.rt)
 (case aS=>exact D11.out.kp.1)
 (case aL=>have:=ML.out;omega)
 intro v12 w12 ho hb hg hat
 rw[← NT2.out] at ho
 have D12:=Za (D11.out.tie ho hb hg)
 have B12:=Za (D11.out.tieB B11.out hg)
 have R12:=Za (D11.out.tieB R11.out hg)
 clear ho hb hg hat
 obtain⟨A12_,c12_,e_⟩:=Kd.R_slice D12.out.rt
 subst e_
 refine hK.out _ _ ((Zo B12.out 1).trans rfl) (fun hHeld=>?_)
 clear hK K
 refine nrm (some 70) ?_
 refine pu (N:=some 71) 10 ?_
 refine Zb3 (i:=11) (N:=none) #[true,true,true,true,true,true,true,true,true,true,true,true] rfl rfl (by kernel_rfl) (by decide) (fun K hK=>?_)
 have hs_:w12.cell? ⟨gs,1,none⟩=some (.slice Au ts.length cu_):=(Zo B12.out 1).trans rfl
 have hf_:=Zu B12.out 1
 refine Zcf (w1:=?_) (by rfl) rfl ?_ ?_
 rotate_left
 ·go_simp
  rfl
 refine hK.out _ _ ?_
 clear hK K
 refine Zbu (by kernel_rfl) ?_
 clear hs_ hf_
 have D13:=Za (D12.out.put B12.out GE.out 1 (.slice A12_ T2.length c12_))
 have R13:=Za (ZF R12.out (p:=⟨gs,1,none⟩) NG.out (.slice A12_ T2.length c12_))
 have B13:=Za (ZO (cs:=#[.slice A8_ nd.length c8_,.slice Au ts.length cu_,.int .i64 (wrap64 (4+t1))]) B12.out 1 (.slice A12_ T2.length c12_) rfl)
 generalize w12.setCell ⟨gs,1,none⟩ (.slice A12_ T2.length c12_)=w13 at D13 R13 B13 ⊢
 have k0:w13.cell? ⟨gs,0,none⟩=some (.slice A8_ nd.length c8_):=(Zo B13.out 0).trans rfl
 have k1_:w13.cell? ⟨gs,1,none⟩=some (.slice A12_ T2.length c12_):=(Zo B13.out 1).trans rfl
 have k2:w13.cell? ⟨gs,2,none⟩=some (.int .i64 (wrap64 (4+t1))):=(Zo B13.out 2).trans rfl
 have m0:w13.cell? ⟨gr,0,none⟩=some (.slice none 0 0):=(Zo R13.out 0).trans rfl
 have m1:w13.cell? ⟨gr,1,none⟩=some (.slice none 0 0):=(Zo R13.out 1).trans rfl
 have m2:w13.cell? ⟨gr,2,none⟩=some (.int .i64 0):=(Zo R13.out 2).trans rfl
 have f0:=Zu R13.out 0
 have f1:=Zu R13.out 1
 have f2:=Zu R13.out 2
 have n1:=NG.out
 have n2:=NG.out.symm
 go_wp2
 obtain⟨d9,P2⟩:=Dr.put3 (cN:=.slice none 0 0) (cT:=.slice none 0 0) (v1:=.int .i64 0) D13.out R13.out GR.out (.slice A8_ nd.length c8_) (.slice A12_ T2.length c12_) (.int .i64 (wrap64 (4+t1)))
 refine bodyPost_ret (results_cell_row rfl _ _ gr 39 #[.slice A8_ nd.length c8_,.slice A12_ T2.length c12_,.int .i64 (wrap64 (4+t1))] (0,0) _ rfl P2 Tryd.underlying39 rfl (by kernel_rfl)) rfl ?_
 exact⟨_,_,rfl,Kd.R_N (Kd.R_apart' d9.rn (Kd.R_typed d9.rt) (by decide)),d9.rt,d9.cu,d9.hb,d9.kp⟩
end Go.Proofs.YtoeimopgoaffcaaDoor.Pr
