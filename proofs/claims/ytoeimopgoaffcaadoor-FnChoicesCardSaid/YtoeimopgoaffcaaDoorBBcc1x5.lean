/- By a program of this session. -/
import Derived.Test.YtoeimopgoaffcaaDoorBBcc1x3
import Derived.Test.YtoeimopgoaffcaaDoorBBcc1x4
namespace Go.Proofs.YtoeimopgoaffcaaDoor.Pr
open RowKit YtoeimopgoaffcaaDoorW.PrintWords YtoeimopgoaffcaaDoorW.PrintLast YtoeimopgoaffcaaDoorW.PrintMore
attribute [local go_sem] Zat Zar ZaG ZaF Zal Zak Zas Zaq
set_option linter.unusedVariables false
set_option linter.unusedSimpArgs false
open Ni
def Zab.l0:Nat→List Int→Int→Int→Int→Int→List S54→List S81→Option (List S54×List S81×Int×Int×Int)
 | 0,_,_,_,_,_,_,_=>none
 | k+1,b,i,o,z,x,ns,ts=>if x > 0 then(ZH.f b i o 3).bind fun p=>(Zbo.f (ns.length:Int)).bind fun s=>if ns.length<1048576 then(ZH.f b p.2.1 p.2.2 (ns.length:Int)).bind fun q=>(ZH.f b q.2.1 q.2.2 3).bind fun r=>if ts.length<1048576 then(ZaD.f b r.2.1 r.2.2 2).bind fun u=>if u.1=true then(if wrap64 ((ns.length:Int)+1)<5 then(ZH.f b u.2.1 u.2.2 2).bind fun v=>(Zbo.f (wrap64 ((ns.length:Int)+1))).bind fun s2=>(ZH.f b v.2.1 v.2.2 3).bind fun y=>Zab.l0 k b y.2.1 y.2.2 z (wrap64 (x - 1)) ((ns ++ [⟨s,[],0⟩]) ++ [⟨s2,[],0⟩]) ((ts ++ [⟨q.1,(ns.length:Int),p.1,wrap64 (p.1+r.1),false⟩]) ++ [⟨(ns.length:Int),wrap64 ((ns.length:Int)+1),wrap64 (1+v.1),wrap64 (wrap64 (1+v.1)+y.1),true⟩]) else Zab.l0 k b u.2.1 u.2.2 z (wrap64 (x - 1)) (ns ++ [⟨s,[],0⟩]) (ts ++ [⟨q.1,(ns.length:Int),p.1,wrap64 (p.1+r.1),false⟩])) else Zab.l0 k b u.2.1 u.2.2 z (wrap64 (x - 1)) (ns ++ [⟨s,[],0⟩]) (ts ++ [⟨q.1,(ns.length:Int),p.1,wrap64 (p.1+r.1),false⟩]) else none else none else(Zap.f k b i o ns ts).bind fun t=>some (ns,t.1,z,t.2.1,t.2.2)
def Zab.f (k:Nat) (b:List Int) (i o:Int):Option (List S54×List S81×Int×Int×Int):=(ZH.f b i o 4).bind fun t=>(ZH.f b t.2.1 t.2.2 3).bind fun v=>Zab.l0 k b v.2.1 v.2.2 (wrap64 (4+t.1)) (wrap64 (1+v.1)) [⟨⟨#[103,111]⟩,[],0⟩] []
set_option maxHeartbeats 8000000 in
set_option maxRecDepth 100000 in
theorem Zab.calls (k g:Nat) (b:List Int) (i o:Int) (r1:List S54) (r2:List S81) (r3 r4 r5:Int) (w0 w:World) (hI:ZB w0 w g b i o) (hB:Below w0.heap.size w0 w) (h:Zab.f k b i o=some (r1,r2,r3,r4,r5)) :
  Calls Tryd.prog 72 #[.pointer (some ⟨g,0,none⟩)] w fun e w'=>∃v0_ v1_:Value,e=.returned (.agg #[v0_,v1_,.int .i64 r3])∧Kd.N k54 54 w' w.heap.size (fun k_=>(w.heap.size≤k_)∧some k_≠(v1_:Value).ownBlock) v0_ r1∧Kd.R k81 81 w' w.heap.size (fun k_=>(w.heap.size≤k_)) v1_ r2∧ZB w0 w' g b r4 r5∧Below w0.heap.size w0 w'∧ZI w w' g none:=by
 unfold Zab.f at h
 obtain⟨⟨t1,t2,t3⟩,A0_,h⟩:=Option.bind_eq_some_iff.1 h
 dsimp only at h
 obtain⟨⟨x0,i0,o0⟩,A1_,h⟩:=Option.bind_eq_some_iff.1 h
 dsimp only at h
 have A0:=Za A0_;have A1:=Za A1_
 have H':=Za h
 clear A0_ A1_ h
 have hu:=Tryd.underlying39
 have hu2:=Tryd.underlying81
 have hu3:=Tryd.underlying54
 have D0:=Za (Dr.new hI hB)
 clear hI hB
 go_enter Tryd.func72,Tryd.ntmps72
 go_wp2_with (first|((with_reducible refine ZK (N:=2) rfl ?_);refine ZN ?hg (N:=2) ?hd (cs:=#[.slice none 0 0,.slice none 0 0,.int .i64 0]) (t:=39) ?hr ?_;(case hd=>rfl);(case hg=>rfl);(case hr=>first|(go_simp;done)|(go_simp;rfl));intro gr hg w1 hbox hb;have D1:=Za (D0.out.below hb);have R1:=Za hbox;have GR:=Za (show w.heap.size≤gr∧w0.heap.size≤gr from⟨by rw[hg];exact Nat.le_refl _,by rw[hg];exact D0.out.vz⟩);clear hbox hb hg)|((with_reducible refine ZK (N:=8) rfl ?_);refine Kd.R_lit k54 _ 54 ?hg (N:=8) ?hd (xs:=([⟨⟨#[103,111]⟩,[],0⟩]:List S54)) (inner:=[.string ⟨#[103,111]⟩,.slice none 0 0,.int .i64 0]) (ok:=fun _=>True) (okp:=fun _=>True) ?hr ?hp (fun _ hk=>hk) trivial (Below.refl _ _) (Nat.le_refl _) (by simp) ?_;(case hd=>rfl);(case hg=>rfl);(case hr=>first|(go_simp;done)|(go_simp;rfl));(case hp=>exact(Reps.c3 (Zcd _ _ _ (⟨⟨#[103,111]⟩,[],0⟩:S54) (Kd.R_nil _ _ _ _ _)) (Reps.none _ _)));intro vL w2 ho hb hg_ hn_;have D2:=Za (D1.out.lit ho hb);have R2:=Za (Zw R1.out hb);clear ho hb hg_ hn_)|(go_at_call 59;with_reducible refine(ZH.calls g b i o 4 t1 t2 t3 w0 _ D2.out.cu D2.out.hb A0.out).mono ?_;rintro e w3 ⟨rfl,hi_,hb_,hk_⟩;have D3:=Za (D2.out.keep hi_ hb_ hk_);have R3:=Za (D2.out.keepB R2.out hk_);obtain⟨AL,cL,eL⟩:=Kd.R_slice D3.out.rn;subst eL;clear hi_ hb_ hk_)|((with_reducible refine ZK (N:=3) rfl ?_);refine ZN ?hg (N:=3) ?hd (cs:=#[.slice none 0 0,.slice none 0 0,.int .i64 0]) (t:=39) ?hr ?_;(case hd=>rfl);(case hg=>rfl);(case hr=>first|(go_simp;done)|(go_simp;rfl));intro gs hg w4 hbox hb;have D4:=Za (D3.out.below hb);have R4:=Za (Zw R3.out hb);have B4:=Za hbox;have GE:=Za (show w.heap.size≤gs∧w0.heap.size≤gs from⟨by rw[hg];exact D3.out.kp.1,by rw[hg];exact D3.out.vz⟩);have NG:=Za (show gr≠gs by rw[hg];exact Nat.ne_of_lt (ZR R3.out));have k0:w4.cell? ⟨gs,0,none⟩=some (.slice none 0 0):=(Zo B4.out 0).trans rfl;have k1:w4.cell? ⟨gs,1,none⟩=some (.slice none 0 0):=(Zo B4.out 1).trans rfl;have k2:w4.cell? ⟨gs,2,none⟩=some (.int .i64 0):=(Zo B4.out 2).trans rfl;have f0:=Zu B4.out 0;have f1:=Zu B4.out 1;have f2:=Zu B4.out 2;have r5_:=ZF (ZF (ZF R4.out (p:=⟨gs,0,none⟩) NG.out (.slice AL 1 cL)) (p:=⟨gs,1,none⟩) NG.out (.slice none 0 0)) (p:=⟨gs,2,none⟩) NG.out (.int .i64 (wrap64 (4+t1)));obtain⟨d5_,b5_⟩:=Dr.put3 (cN:=.slice none 0 0) (cT:=.slice none 0 0) (v1:=.int .i64 0) D4.out B4.out GE.out (.slice AL 1 cL) (.slice none 0 0) (.int .i64 (wrap64 (4+t1)));have D5:=Za d5_;have B5:=Za b5_;have R5:=Za r5_;clear d5_ b5_ r5_ hbox hb hg)|(go_at_call 59;with_reducible refine(ZH.calls g b t2 t3 3 x0 i0 o0 w0 _ D5.out.cu D5.out.hb A1.out).mono ?_;rintro e w6 ⟨rfl,hi_,hb_,hk_⟩;have D6:=Za (D5.out.keep hi_ hb_ hk_);have B6:=Za (D5.out.keepB B5.out hk_);have R6:=Za (D5.out.keepB R5.out hk_);clear hi_ hb_ hk_))
 clear k0 k1 k2 f0 f1 f2
 go_loopg [4] k (fun kq s4 wr=>∃(x i o:Int) (ns:List S54) (ts:List S81) (uN uT:Value),s4=.int .i64 x∧Aside0 (Zab.l0 kq b i o (wrap64 (4+t1)) x ns ts=some (r1,r2,r3,r4,r5))∧Aside0 (kq≤k)∧Aside0 (Dr w0 w0 w wr g b i o uN uT ns ts)∧Aside0 (wr.heap[gs]? = some (.cells #[uN,uT,.int .i64 (wrap64 (4+t1))] 39 (0,0)))∧Aside0 (wr.heap[gr]? = some (.cells #[.slice none 0 0,.slice none 0 0,.int .i64 0] 39 (0,0))))
 case atStart=>exact⟨_,i0,o0,_,[],_,_,rfl,H',⟨Nat.le_refl _⟩,D6,B6,R6⟩
 case round=>
 clear H' A0 A1 D0 D1 D2 D3 D4 D5 D6 R1 R2 R3 R4 R5 R6 B4 B5 B6
 obtain⟨x,i1,o1,ns,ts,uN,uT,rfl,HA,HK1,D,B,RR⟩:=hrel
 obtain⟨AN,cN,eN⟩:=Kd.R_slice D.out.rn
 subst eN
 cases gk with
 | zero=>exact absurd HA.out (by simp[Zab.l0])
 | succ k1=>
 have H:=HA.out
 clear HA
 simp only[Zab.l0] at H
 by_cases c:x > 0
 case neg=>
  rw[if_neg c] at H
  have c0:decide (x > 0)=false:=Zf c
  clear c
  obtain⟨⟨q1,q2,q3⟩,AM_,H⟩:=Option.bind_eq_some_iff.1 H
  dsimp only at H
  obtain⟨rfl,rfl,rfl,rfl,rfl⟩:ns=r1∧q1=r2∧(wrap64 (4+t1))=r3∧q2=r4∧q3=r5:=by simpa using H
  clear H
  have HM:=Za (Zap.callsD k1 g b i1 o1 _ uT (wrap64 (4+t1)) ns ts q1 q2 q3 wr w0 w wr D.out.base AM_)
  clear AM_
  have k0:wr.cell? ⟨gs,0,none⟩=some (.slice AN ns.length cN):=(Zo B.out 0).trans rfl
  have k1_:wr.cell? ⟨gs,1,none⟩=some uT:=(Zo B.out 1).trans rfl
  have k2:wr.cell? ⟨gs,2,none⟩=some (.int .i64 (wrap64 (4+t1))):=(Zo B.out 2).trans rfl
  have k2_:wr.cell? ⟨gr,0,none⟩=some (.slice none 0 0):=(Zo RR.out 0).trans rfl
  clear k2_
  go_wp2_with (go_at_call 106;refine HM.out.mono ?_;rintro e w8 ⟨vT,rfl,d8⟩;have D8:=Za d8;have R8:=Za (d8.sb _ _ RR.out);clear k0 k1_ k2 HM;have m0:w8.cell? ⟨gr,0,none⟩=some (.slice none 0 0):=(Zo R8.out 0).trans rfl;have m1:w8.cell? ⟨gr,1,none⟩=some (.slice none 0 0):=(Zo R8.out 1).trans rfl;have m2:w8.cell? ⟨gr,2,none⟩=some (.int .i64 0):=(Zo R8.out 2).trans rfl;have f0:=Zu R8.out 0;have f1:=Zu R8.out 1;have f2:=Zu R8.out 2;obtain⟨AT,cT,eT⟩:=Kd.R_slice D8.out.rt;subst eT;clear d8)
  obtain⟨d9,P2⟩:=Dr.put3 (cN:=.slice none 0 0) (cT:=.slice none 0 0) (v1:=.int .i64 0) (V:=w0) ⟨D8.out.cu,D8.out.rn,D8.out.rt,D8.out.hb,D8.out.kp,D8.out.ws,D8.out.hb.size,fun x cs h=>D8.out.sb x cs (D.out.sb x cs h)⟩ R8.out GR.out (.slice AN ns.length cN) (.slice AT q1.length cT) (.int .i64 (wrap64 (4+t1)))
  refine bodyPost_ret (results_cell_row rfl _ _ gr 39 #[.slice AN ns.length cN,.slice AT q1.length cT,.int .i64 (wrap64 (4+t1))] (0,0) _ rfl P2 Tryd.underlying39 rfl (by kernel_rfl)) rfl ?_
  exact⟨_,_,rfl,Kd.R_N (Kd.R_apart' d9.rn (Kd.R_typed d9.rt) (by decide)),d9.rt,d9.cu,d9.hb,d9.kp⟩
 rw[if_pos c] at H
 have c0:decide (x > 0)=true:=Ze c
 clear c
 obtain⟨⟨p1,p2,p3⟩,A1_,H⟩:=Option.bind_eq_some_iff.1 H
 dsimp only at H
 obtain⟨s,AS_,H⟩:=Option.bind_eq_some_iff.1 H
 by_cases cl:ns.length<1048576
 case neg=>rw[if_neg cl] at H;exact absurd H (by simp)
 rw[if_pos cl] at H
 obtain⟨⟨q1,q2,q3⟩,A2_,H⟩:=Option.bind_eq_some_iff.1 H
 dsimp only at H
 obtain⟨⟨rr1,rr2,rr3⟩,A3_,H⟩:=Option.bind_eq_some_iff.1 H
 dsimp only at H
 by_cases cm:ts.length<1048576
 case neg=>rw[if_neg cm] at H;exact absurd H (by simp)
 rw[if_pos cm] at H
 obtain⟨⟨u1,u2,u3⟩,A4_,H⟩:=Option.bind_eq_some_iff.1 H
 dsimp only at H
 have A1:=Za A1_;have AS:=Za AS_;have A2:=Za A2_;have A3:=Za A3_;have A4:=Za A4_;have NL:=Za cl;have ML:=Za cm;clear A1_ AS_ A2_ A3_ A4_ cl cm
 obtain⟨n1,hn1⟩:∃L_:List S54,L_=ns ++ [⟨s,[],0⟩]:=⟨_,rfl⟩
 obtain⟨T1,hT1⟩:∃T_:List S81,T_=ts ++ [⟨q1,(ns.length:Int),p1,wrap64 (p1+rr1),false⟩]:=⟨_,rfl⟩
 rw[← hn1,← hT1] at H
 have Nn:=Za hn1;have NT:=Za hT1;have HH:=Za H;clear hn1 hT1 H
 have k0:wr.cell? ⟨gs,0,none⟩=some (.slice AN ns.length cN):=(Zo B.out 0).trans rfl
 go_wp2_with ((go_at_call 59;with_reducible refine(ZH.calls g b i1 o1 3 p1 p2 p3 w0 _ D.out.cu D.out.hb A1.out).mono ?_;rintro e w5 ⟨rfl,hi_,hb_,hk_⟩;have D5:=Za (D.out.keep hi_ hb_ hk_);have B5:=Za (D.out.keepB B.out hk_);have R5:=Za (D.out.keepB RR.out hk_);clear k0;clear hi_ hb_ hk_))
 refine Za9 (n:=9) (S:=fun w'=>w'.cell? ⟨gs,0,none⟩=some (.slice AN ns.length cN)) (ds:=[8]) #[false,false,false,false,false,false,false,false,false] (by kernel_rfl) rfl rfl ((Zo B5.out 0).trans rfl) (fun hHeld=>?_)
 have D6:=Za (D5.out.below (Zp (Below.refl w5.heap.size w5)))
 have B6:=Za (Zt B5.out)
 have R6:=Za (Zt R5.out)
 generalize w5.drew=w6 at D6 B6 R6 hHeld ⊢
 refine pu (N:=some 25) 0 ?_
 refine pu (N:=some 27) 2 ?_
 refine tk (N:=some 26) 1 hHeld ?_
 refine onl (N:=some 28) 3 (fun K hK=>?_)
 refine Za5 Tryd.func105 (by kernel_rfl) rfl #[.int .i64 (ns.length:Int)] (by rfl) rfl rfl (by(try simp only[List.map_toArray,List.map_cons,List.map_nil]);first|done|rfl) ?_
 with_reducible refine(Zbo.calls (ns.length:Int) s _ AS.out).mono ?_
 rintro e w7 ⟨rfl,hb_⟩
 refine⟨_,rfl,?_⟩
 have D7:=Za (D6.out.below hb_)
 have B7:=Za (Zw B6.out hb_)
 have R7:=Za (Zw R6.out hb_)
 clear hb_
 refine hK.out _ _ ((Zo B7.out 0).trans rfl) (fun hHeld=>?_)
 clear hK K
 refine nrm (some 28) ?_
 refine pu (N:=some 29) 4 ?_
 refine onl (N:=some 30) 5 (fun K hK=>?_)
 refine Zcv (w1:=?_) (v:=?_) (by rfl) rfl ?_ ?_
 rotate_left 2
 ·go_simp
  constructor
  ·rfl
  ·rfl
 refine hK.out _ _ ((Zo (Zr B7.out _) 0).trans rfl) (fun hHeld=>?_)
 clear hK K
 refine nrm (some 30) ?_
 refine onl (N:=some 31) 6 (fun K hK=>?_)
 refine Kd.R_append_step k54 w.heap.size (by rfl) (.tmp 26) (.tmp 30) 36 54 (.agg #[(.string ⟨#[]⟩),(.slice none 0 0),(.int .i64 0)]) 48 rfl Tryd.underlying36 info54 rfl (by decide) (by omega) (.slice AN ns.length cN) ns (⟨s,[],0⟩:S54) [.string s,.slice none 0 0,.int .i64 0] (fun k_=>w.heap.size≤k_) (fun _=>False) rfl (by first|rfl|(go_simp;rfl)) ?aP (fun _ hk=>hk.elim) ?aF ?aO (Below.refl _ _) ?aS ?aL ?_
 (case aP=>exact Zcd _ _ _ (⟨s,[],0⟩:S54) (Kd.R_nil _ _ _ _ _))
 (case aF=>exact fun k_ hk=>Nat.le_trans D7.out.kp.1 hk)
 (case aO=>exact D7.out.rn)
 (case aS=>exact D7.out.kp.1)
 (case aL=>have:=NL.out;omega)
 intro v8 w8 ho hb hg hat
 rw[← Nn.out] at ho
 have D8:=Za (D7.out.node ho hb hg)
 have B8:=Za (D7.out.nodeB B7.out hg)
 have R8:=Za (D7.out.nodeB R7.out hg)
 clear ho hb hg hat
 obtain⟨A8_,c8_,e_⟩:=Kd.R_slice D8.out.rn
 subst e_
 refine hK.out _ _ ((Zo B8.out 0).trans rfl) (fun hHeld=>?_)
 clear hK K
 refine nrm (some 31) ?_
 refine pu (N:=some 32) 7 ?_
 refine Zb3 (i:=8) (N:=none) #[true,true,true,true,true,true,true,true,true] rfl rfl (by kernel_rfl) (by decide) (fun K hK=>?_)
 have hs_:w8.cell? ⟨gs,0,none⟩=some (.slice AN ns.length cN):=(Zo B8.out 0).trans rfl
 have hf_:=Zu B8.out 0
 refine Zcf (w1:=?_) (by rfl) rfl ?_ ?_
 rotate_left
 ·go_simp
  rfl
 refine hK.out _ _ ?_
 clear hK K
 refine Zbu (by kernel_rfl) ?_
 clear hs_ hf_
 have D9:=Za (D8.out.put B8.out GE.out 0 (.slice A8_ n1.length c8_))
 have R9:=Za (ZF R8.out (p:=⟨gs,0,none⟩) NG.out (.slice A8_ n1.length c8_))
 have B9:=Za (ZO (cs:=#[.slice AN ns.length cN,uT,.int .i64 (wrap64 (4+t1))]) B8.out 0 (.slice A8_ n1.length c8_) rfl)
 generalize w8.setCell ⟨gs,0,none⟩ (.slice A8_ n1.length c8_)=w9 at D9 R9 B9 ⊢
 go_wp2
 refine Za9 (n:=16) (S:=fun w'=>w'.cell? ⟨gs,1,none⟩=some (uT)) (ds:=[15]) #[false,false,false,false,false,false,false,false,false,false,false,false,false,false,false,false] (by kernel_rfl) rfl rfl ((Zo B9.out 1).trans rfl) (fun hHeld=>?_)
 have D10:=Za (D9.out.below (Zp (Below.refl w9.heap.size w9)))
 have B10:=Za (Zt B9.out)
 have R10:=Za (Zt R9.out)
 generalize w9.drew=w10 at D10 B10 R10 hHeld ⊢
 refine pu (N:=some 33) 0 ?_
 refine pu (N:=some 35) 2 ?_
 refine pu (N:=some 36) 3 ?_
 refine pu (N:=some 38) 5 ?_
 refine pu (N:=some 39) 6 ?_
 refine pu (N:=some 40) 7 ?_
 refine pu (N:=some 41) 8 ?_
 refine tk (N:=some 34) 1 hHeld ?_
 refine onl (N:=some 37) 4 (fun K hK=>?_)
 refine Za5 Tryd.func59 (by kernel_rfl) rfl #[.pointer (some ⟨g,0,none⟩),.int .i64 (ns.length:Int)] (by rfl) rfl rfl (by(try simp only[List.map_toArray,List.map_cons,List.map_nil]);first|done|rfl) ?_
 with_reducible refine(ZH.calls g b p2 p3 (ns.length:Int) q1 q2 q3 w0 _ D10.out.cu D10.out.hb A2.out).mono ?_
 rintro e w11 ⟨rfl,hi_,hb_,hk_⟩
 refine⟨_,rfl,?_⟩
 have D11:=Za (D10.out.keep hi_ hb_ hk_)
 have B11:=Za (D10.out.keepB B10.out hk_)
 have R11:=Za (D10.out.keepB R10.out hk_)
 clear hi_ hb_ hk_
 refine hK.out _ _ ((Zo B11.out 1).trans rfl) (fun hHeld=>?_)
 clear hK K
 refine nrm (some 37) ?_
 refine onl (N:=some 42) 9 (fun K hK=>?_)
 refine Za5 Tryd.func59 (by kernel_rfl) rfl #[.pointer (some ⟨g,0,none⟩),.int .i64 3] (by rfl) rfl rfl (by(try simp only[List.map_toArray,List.map_cons,List.map_nil]);first|done|rfl) ?_
 with_reducible refine(ZH.calls g b q2 q3 3 rr1 rr2 rr3 w0 _ D11.out.cu D11.out.hb A3.out).mono ?_
 rintro e w12 ⟨rfl,hi_,hb_,hk_⟩
 refine⟨_,rfl,?_⟩
 have D12:=Za (D11.out.keep hi_ hb_ hk_)
 have B12:=Za (D11.out.keepB B11.out hk_)
 have R12:=Za (D11.out.keepB R11.out hk_)
 clear hi_ hb_ hk_
 refine hK.out _ _ ((Zo B12.out 1).trans rfl) (fun hHeld=>?_)
 clear hK K
 refine nrm (some 42) ?_
 refine pu (N:=some 43) 10 ?_
 refine pu (N:=some 44) 11 ?_
 refine onl (N:=some 45) 12 (fun K hK=>?_)
 refine Zcv (w1:=?_) (v:=?_) (by rfl) rfl ?_ ?_
 rotate_left 2
 ·go_simp
  constructor
  ·rfl
  ·rfl
 refine hK.out _ _ ((Zo (Zr B12.out _) 1).trans rfl) (fun hHeld=>?_)
 clear hK K
 refine nrm (some 45) ?_
 refine onl (N:=some 46) 13 (fun K hK=>?_)
 refine Kd.R_append_step k81 w.heap.size (by rfl) (.tmp 34) (.tmp 45) 37 81 (.agg #[(.int .i64 0),(.int .i64 0),(.int .i64 0),(.int .i64 0),(.bool false)]) 40 rfl Tryd.underlying37 info81 rfl (by decide) (by omega) (uT) ts (⟨q1,(ns.length:Int),p1,wrap64 (p1+rr1),false⟩:S81) [.int .i64 q1,.int .i64 (ns.length:Int),.int .i64 p1,.int .i64 (wrap64 (p1+rr1)),.bool false] (fun k_=>w.heap.size≤k_) (fun _=>False) rfl (by first|rfl|(go_simp;rfl)) ?aP (fun _ hk=>hk.elim) ?aF ?aO (Below.refl _ _) ?aS ?aL ?_
 (case aP=>exact ZcK _ _ _ (⟨q1,(ns.length:Int),p1,wrap64 (p1+rr1),false⟩:S81))
 (case aF=>exact fun k_ hk=>Nat.le_trans D12.out.kp.1 hk)
 (case aO=>exact D12.out.rt)
 (case aS=>exact D12.out.kp.1)
 (case aL=>have:=ML.out;omega)
 intro v13 w13 ho hb hg hat
 rw[← NT.out] at ho
 have D13:=Za (D12.out.tie ho hb hg)
 have B13:=Za (D12.out.tieB B12.out hg)
 have R13:=Za (D12.out.tieB R12.out hg)
 clear ho hb hg hat
 obtain⟨A13_,c13_,e_⟩:=Kd.R_slice D13.out.rt
 subst e_
 refine hK.out _ _ ((Zo B13.out 1).trans rfl) (fun hHeld=>?_)
 clear hK K
 refine nrm (some 46) ?_
 refine pu (N:=some 47) 14 ?_
 refine Zb3 (i:=15) (N:=none) #[true,true,true,true,true,true,true,true,true,true,true,true,true,true,true,true] rfl rfl (by kernel_rfl) (by decide) (fun K hK=>?_)
 have hs_:w13.cell? ⟨gs,1,none⟩=some (uT):=(Zo B13.out 1).trans rfl
 have hf_:=Zu B13.out 1
 refine Zcf (w1:=?_) (by rfl) rfl ?_ ?_
 rotate_left
 ·go_simp
  rfl
 refine hK.out _ _ ?_
 clear hK K
 refine Zbu (by kernel_rfl) ?_
 clear hs_ hf_
 have D14:=Za (D13.out.put B13.out GE.out 1 (.slice A13_ T1.length c13_))
 have R14:=Za (ZF R13.out (p:=⟨gs,1,none⟩) NG.out (.slice A13_ T1.length c13_))
 have B14:=Za (ZO (cs:=#[.slice A8_ n1.length c8_,uT,.int .i64 (wrap64 (4+t1))]) B13.out 1 (.slice A13_ T1.length c13_) rfl)
 generalize w13.setCell ⟨gs,1,none⟩ (.slice A13_ T1.length c13_)=w14 at D14 R14 B14 ⊢
 cases u1 with
 | false=>
  have H2:=Za ((if_neg (by simp)).symm.trans HH.out)
  clear HH
  go_wp2_with ((go_at_call 70;with_reducible refine(ZaD.calls g b rr2 rr3 2 false u2 u3 w0 _ D14.out.cu D14.out.hb A4.out).mono ?_;rintro e wO ⟨rfl,hi_,hb_,hk_⟩;have DO:=Za (D14.out.keep hi_ hb_ hk_);have BO:=Za (D14.out.keepB B14.out hk_);have RO:=Za (D14.out.keepB R14.out hk_);clear hi_ hb_ hk_))
  go_roundg k1
  case measure=>have:=HK1.out;omega
  case rel=>exact⟨_,u2,u3,n1,T1,_,_,rfl,H2,⟨by have:=HK1.out;omega⟩,DO,BO,RO⟩
 | true=>
 have H2:=(if_pos rfl).symm.trans HH.out
 clear HH
 by_cases c5:wrap64 ((ns.length:Int)+1)<5
 case neg=>
  rw[if_neg c5] at H2
  have c6:decide (wrap64 ((ns.length:Int)+1)<5)=false:=Zf c5
  have H3:=Za H2;clear c5 H2
  go_wp2_with ((go_at_call 70;with_reducible refine(ZaD.calls g b rr2 rr3 2 true u2 u3 w0 _ D14.out.cu D14.out.hb A4.out).mono ?_;rintro e wO ⟨rfl,hi_,hb_,hk_⟩;have DO:=Za (D14.out.keep hi_ hb_ hk_);have BO:=Za (D14.out.keepB B14.out hk_);have RO:=Za (D14.out.keepB R14.out hk_);clear hi_ hb_ hk_))
  go_roundg k1
  case measure=>have:=HK1.out;omega
  case rel=>exact⟨_,u2,u3,n1,T1,_,_,rfl,H3,⟨by have:=HK1.out;omega⟩,DO,BO,RO⟩
 rw[if_pos c5] at H2
 have c6:decide (wrap64 ((ns.length:Int)+1)<5)=true:=Ze c5
 clear c5
 obtain⟨⟨y1,y2,y3⟩,A5_,H2⟩:=Option.bind_eq_some_iff.1 H2
 dsimp only at H2
 obtain⟨s2,AU_,H2⟩:=Option.bind_eq_some_iff.1 H2
 obtain⟨⟨z1,z2,z3⟩,A6_,H2⟩:=Option.bind_eq_some_iff.1 H2
 dsimp only at H2
 have A5:=Za A5_;have AU:=Za AU_;have A6:=Za A6_;clear A5_ AU_ A6_
 obtain⟨n2,hn2⟩:∃L_:List S54,L_=n1 ++ [⟨s2,[],0⟩]:=⟨_,rfl⟩
 obtain⟨T2,hT2⟩:∃T_:List S81,T_=T1 ++ [⟨(ns.length:Int),wrap64 ((ns.length:Int)+1),wrap64 (1+y1),wrap64 (wrap64 (1+y1)+z1),true⟩]:=⟨_,rfl⟩
 rw[← hn2,← hT2] at H2
 have Nn2:=Za hn2;have NT2:=Za hT2;have H3:=Za H2
 have NL1:=Za (show n1.length<1048577 by have:=NL.out;rw[Nn.out,List.length_append,List.length_singleton];omega)
 have ML1:=Za (show T1.length<1048577 by have:=ML.out;rw[NT.out,List.length_append,List.length_singleton];omega)
 clear hn2 hT2 H2
 go_wp2_with ((go_at_call 70;with_reducible refine(ZaD.calls g b rr2 rr3 2 true u2 u3 w0 _ D14.out.cu D14.out.hb A4.out).mono ?_;rintro e wO ⟨rfl,hi_,hb_,hk_⟩;have DO:=Za (D14.out.keep hi_ hb_ hk_);have BO:=Za (D14.out.keepB B14.out hk_);have RO:=Za (D14.out.keepB R14.out hk_);clear hi_ hb_ hk_))
 go_wp2_with ((go_at_call 59;with_reducible refine(ZH.calls g b u2 u3 2 y1 y2 y3 w0 _ DO.out.cu DO.out.hb A5.out).mono ?_;rintro e w90 ⟨rfl,hi_,hb_,hk_⟩;have D90:=Za (DO.out.keep hi_ hb_ hk_);have B90:=Za (DO.out.keepB BO.out hk_);have R90:=Za (DO.out.keepB RO.out hk_);clear hi_ hb_ hk_))
 refine Za9 (n:=10) (S:=fun w'=>w'.cell? ⟨gs,0,none⟩=some (.slice A8_ n1.length c8_)) (ds:=[9]) #[false,false,false,false,false,false,false,false,false,false] (by kernel_rfl) rfl rfl ((Zo B90.out 0).trans rfl) (fun hHeld=>?_)
 have D91:=Za (D90.out.below (Zp (Below.refl w90.heap.size w90)))
 have B91:=Za (Zt B90.out)
 have R91:=Za (Zt R90.out)
 generalize w90.drew=w91 at D91 B91 R91 hHeld ⊢
 refine pu (N:=some 58) 0 ?_
 refine pu (N:=some 60) 2 ?_
 refine pu (N:=some 61) 3 ?_
 refine tk (N:=some 59) 1 hHeld ?_
 refine onl (N:=some 62) 4 (fun K hK=>?_)
 refine Za5 Tryd.func105 (by kernel_rfl) rfl #[.int .i64 (wrap64 ((ns.length:Int)+1))] (by rfl) rfl rfl (by(try simp only[List.map_toArray,List.map_cons,List.map_nil]);first|done|rfl) ?_
 with_reducible refine(Zbo.calls (wrap64 ((ns.length:Int)+1)) s2 _ AU.out).mono ?_
 rintro e w92 ⟨rfl,hb_⟩
 refine⟨_,rfl,?_⟩
 have D92:=Za (D91.out.below hb_)
 have B92:=Za (Zw B91.out hb_)
 have R92:=Za (Zw R91.out hb_)
 clear hb_
 refine hK.out _ _ ((Zo B92.out 0).trans rfl) (fun hHeld=>?_)
 clear hK K
 refine nrm (some 62) ?_
 refine pu (N:=some 63) 5 ?_
 refine onl (N:=some 64) 6 (fun K hK=>?_)
 refine Zcv (w1:=?_) (v:=?_) (by rfl) rfl ?_ ?_
 rotate_left 2
 ·go_simp
  constructor
  ·rfl
  ·rfl
 refine hK.out _ _ ((Zo (Zr B92.out _) 0).trans rfl) (fun hHeld=>?_)
 clear hK K
 refine nrm (some 64) ?_
 refine onl (N:=some 65) 7 (fun K hK=>?_)
 refine Kd.R_append_step k54 w.heap.size (by rfl) (.tmp 59) (.tmp 64) 36 54 (.agg #[(.string ⟨#[]⟩),(.slice none 0 0),(.int .i64 0)]) 48 rfl Tryd.underlying36 info54 rfl (by decide) (by omega) (.slice A8_ n1.length c8_) n1 (⟨s2,[],0⟩:S54) [.string s2,.slice none 0 0,.int .i64 0] (fun k_=>w.heap.size≤k_) (fun _=>False) rfl (by first|rfl|(go_simp;rfl)) ?aP (fun _ hk=>hk.elim) ?aF ?aO (Below.refl _ _) ?aS ?aL ?_
 (case aP=>exact Zcd _ _ _ (⟨s2,[],0⟩:S54) (Kd.R_nil _ _ _ _ _))
 (case aF=>exact fun k_ hk=>Nat.le_trans D92.out.kp.1 hk)
 (case aO=>exact D92.out.rn)
 (case aS=>exact D92.out.kp.1)
 (case aL=>have:=NL1.out;omega)
 intro v93 w93 ho hb hg hat
 rw[← Nn2.out] at ho
 have D93:=Za (D92.out.node ho hb hg)
 have B93:=Za (D92.out.nodeB B92.out hg)
 have R93:=Za (D92.out.nodeB R92.out hg)
 clear ho hb hg hat
 obtain⟨A93_,c93_,e_⟩:=Kd.R_slice D93.out.rn
 subst e_
 refine hK.out _ _ ((Zo B93.out 0).trans rfl) (fun hHeld=>?_)
 clear hK K
 refine nrm (some 65) ?_
 refine pu (N:=some 66) 8 ?_
 refine Zb3 (i:=9) (N:=none) #[true,true,true,true,true,true,true,true,true,true] rfl rfl (by kernel_rfl) (by decide) (fun K hK=>?_)
 have hs_:w93.cell? ⟨gs,0,none⟩=some (.slice A8_ n1.length c8_):=(Zo B93.out 0).trans rfl
 have hf_:=Zu B93.out 0
 refine Zcf (w1:=?_) (by rfl) rfl ?_ ?_
 rotate_left
 ·go_simp
  rfl
 refine hK.out _ _ ?_
 clear hK K
 refine Zbu (by kernel_rfl) ?_
 clear hs_ hf_
 have D94:=Za (D93.out.put B93.out GE.out 0 (.slice A93_ n2.length c93_))
 have R94:=Za (ZF R93.out (p:=⟨gs,0,none⟩) NG.out (.slice A93_ n2.length c93_))
 have B94:=Za (ZO (cs:=#[.slice A8_ n1.length c8_,.slice A13_ T1.length c13_,.int .i64 (wrap64 (4+t1))]) B93.out 0 (.slice A93_ n2.length c93_) rfl)
 generalize w93.setCell ⟨gs,0,none⟩ (.slice A93_ n2.length c93_)=w94 at D94 R94 B94 ⊢
 go_wp2
 refine Za9 (n:=15) (S:=fun w'=>w'.cell? ⟨gs,1,none⟩=some (.slice A13_ T1.length c13_)) (ds:=[14]) #[false,false,false,false,false,false,false,false,false,false,false,false,false,false,false] (by kernel_rfl) rfl rfl ((Zo B94.out 1).trans rfl) (fun hHeld=>?_)
 have D95:=Za (D94.out.below (Zp (Below.refl w94.heap.size w94)))
 have B95:=Za (Zt B94.out)
 have R95:=Za (Zt R94.out)
 generalize w94.drew=w95 at D95 B95 R95 hHeld ⊢
 refine pu (N:=some 67) 0 ?_
 refine pu (N:=some 69) 2 ?_
 refine pu (N:=some 70) 3 ?_
 refine pu (N:=some 71) 4 ?_
 refine pu (N:=some 72) 5 ?_
 refine pu (N:=some 73) 6 ?_
 refine pu (N:=some 74) 7 ?_
 refine tk (N:=some 68) 1 hHeld ?_
 refine onl (N:=some 75) 8 (fun K hK=>?_)
 refine Za5 Tryd.func59 (by kernel_rfl) rfl #[.pointer (some ⟨g,0,none⟩),.int .i64 3] (by rfl) rfl rfl (by(try simp only[List.map_toArray,List.map_cons,List.map_nil]);first|done|rfl) ?_
 with_reducible refine(ZH.calls g b y2 y3 3 z1 z2 z3 w0 _ D95.out.cu D95.out.hb A6.out).mono ?_
 rintro e w96 ⟨rfl,hi_,hb_,hk_⟩
 refine⟨_,rfl,?_⟩
 have D96:=Za (D95.out.keep hi_ hb_ hk_)
 have B96:=Za (D95.out.keepB B95.out hk_)
 have R96:=Za (D95.out.keepB R95.out hk_)
 clear hi_ hb_ hk_
 refine hK.out _ _ ((Zo B96.out 1).trans rfl) (fun hHeld=>?_)
 clear hK K
 refine nrm (some 75) ?_
 refine pu (N:=some 76) 9 ?_
 refine pu (N:=some 77) 10 ?_
 refine onl (N:=some 78) 11 (fun K hK=>?_)
 refine Zcv (w1:=?_) (v:=?_) (by rfl) rfl ?_ ?_
 rotate_left 2
 ·go_simp
  constructor
  ·rfl
  ·rfl
 refine hK.out _ _ ((Zo (Zr B96.out _) 1).trans rfl) (fun hHeld=>?_)
 clear hK K
 refine nrm (some 78) ?_
 refine onl (N:=some 79) 12 (fun K hK=>?_)
 refine Kd.R_append_step k81 w.heap.size (by rfl) (.tmp 68) (.tmp 78) 37 81 (.agg #[(.int .i64 0),(.int .i64 0),(.int .i64 0),(.int .i64 0),(.bool false)]) 40 rfl Tryd.underlying37 info81 rfl (by decide) (by omega) (.slice A13_ T1.length c13_) T1 (⟨(ns.length:Int),wrap64 ((ns.length:Int)+1),wrap64 (1+y1),wrap64 (wrap64 (1+y1)+z1),true⟩:S81) [.int .i64 (ns.length:Int),.int .i64 (wrap64 ((ns.length:Int)+1)),.int .i64 (wrap64 (1+y1)),.int .i64 (wrap64 (wrap64 (1+y1)+z1)),.bool true] (fun k_=>w.heap.size≤k_) (fun _=>False) rfl (by first|rfl|(go_simp;rfl)) ?aP (fun _ hk=>hk.elim) ?aF ?aO (Below.refl _ _) ?aS ?aL ?_
 (case aP=>exact ZcK _ _ _ (⟨(ns.length:Int),wrap64 ((ns.length:Int)+1),wrap64 (1+y1),wrap64 (wrap64 (1+y1)+z1),true⟩:S81))
 (case aF=>exact fun k_ hk=>Nat.le_trans D96.out.kp.1 hk)
 (case aO=>exact D96.out.rt)
 (case aS=>exact D96.out.kp.1)
 (case aL=>have:=ML1.out;omega)
 intro v97 w97 ho hb hg hat
 rw[← NT2.out] at ho
 have D97:=Za (D96.out.tie ho hb hg)
 have B97:=Za (D96.out.tieB B96.out hg)
 have R97:=Za (D96.out.tieB R96.out hg)
 clear ho hb hg hat
 obtain⟨A97_,c97_,e_⟩:=Kd.R_slice D97.out.rt
 subst e_
 refine hK.out _ _ ((Zo B97.out 1).trans rfl) (fun hHeld=>?_)
 clear hK K
 refine nrm (some 79) ?_
 refine pu (N:=some 80) 13 ?_
 refine Zb3 (i:=14) (N:=none) #[true,true,true,true,true,true,true,true,true,true,true,true,true,true,true] rfl rfl (by kernel_rfl) (by decide) (fun K hK=>?_)
 have hs_:w97.cell? ⟨gs,1,none⟩=some (.slice A13_ T1.length c13_):=(Zo B97.out 1).trans rfl
 have hf_:=Zu B97.out 1
 refine Zcf (w1:=?_) (by rfl) rfl ?_ ?_
 rotate_left
 ·go_simp
  rfl
 refine hK.out _ _ ?_
 clear hK K
 refine Zbu (by kernel_rfl) ?_
 clear hs_ hf_
 have D98:=Za (D97.out.put B97.out GE.out 1 (.slice A97_ T2.length c97_))
 have R98:=Za (ZF R97.out (p:=⟨gs,1,none⟩) NG.out (.slice A97_ T2.length c97_))
 have B98:=Za (ZO (cs:=#[.slice A93_ n2.length c93_,.slice A13_ T1.length c13_,.int .i64 (wrap64 (4+t1))]) B97.out 1 (.slice A97_ T2.length c97_) rfl)
 generalize w97.setCell ⟨gs,1,none⟩ (.slice A97_ T2.length c97_)=w98 at D98 R98 B98 ⊢
 go_wp2
 go_roundg k1
 case measure=>have:=HK1.out;omega
 case rel=>exact⟨_,z2,z3,n2,T2,_,_,rfl,H3,⟨by have:=HK1.out;omega⟩,D98,B98,R98⟩
end Go.Proofs.YtoeimopgoaffcaaDoor.Pr
