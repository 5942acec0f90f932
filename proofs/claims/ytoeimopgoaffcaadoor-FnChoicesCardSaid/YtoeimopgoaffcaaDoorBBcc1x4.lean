/- By a program of this session. -/
import Derived.Test.YtoeimopgoaffcaaDoorBBcc1x1
namespace Go.Proofs.YtoeimopgoaffcaaDoor.Pr
open RowKit YtoeimopgoaffcaaDoorW.PrintWords YtoeimopgoaffcaaDoorW.PrintLast YtoeimopgoaffcaaDoorW.PrintMore
attribute [local go_sem] Zat Zar ZaG ZaF Zal Zak Zas Zaq
set_option linter.unusedVariables false
set_option linter.unusedSimpArgs false
open Ni
def Zap.l0:Nat→List Int→Int→Int→Int→Int→List S81→Option (List S81×Int×Int)
 | 0,_,_,_,_,_,_=>none
 | k+1,b,i,h,m,x,ts=>if x > 0 then(ZH.f b i h m).bind fun p=>(ZH.f b p.2.1 p.2.2 6).bind fun q=>(ZH.f b q.2.1 q.2.2 (wrap64 (m - 1))).bind fun r=>(ZH.f b r.2.1 r.2.2 6).bind fun s=>if m=0 then none else if ts.length<3518437208883 then Zap.l0 k b s.2.1 s.2.2 m (wrap64 (x - 1)) (ts ++ [⟨p.1,Int.tmod (wrap64 (wrap64 (p.1+1)+r.1)) m,wrap64 (q.1 - 3),wrap64 (wrap64 (wrap64 (q.1 - 3)+1)+s.1),false⟩]) else none else some (ts,i,h)
def Zap.f (k:Nat) (b:List Int) (i h:Int) (ns:List S54) (ts:List S81):Option (List S81×Int×Int):=(ZH.f b i h 3).bind fun t=>Zap.l0 k b t.2.1 t.2.2 (ns.length:Int) t.1 ts
set_option maxHeartbeats 8000000 in
set_option maxRecDepth 100000 in
theorem Zap.callsD (k g:Nat) (b:List Int) (i o:Int) (vN vT:Value) (z:Int) (ns:List S54) (ts:List S81) (r1:List S81) (r2 r3:Int) (V w0 w W:World) (d:Dr V w0 w W g b i o vN vT ns ts) (h:Zap.f k b i o ns ts=some (r1,r2,r3)) :
  Calls Tryd.prog 106 #[.pointer (some ⟨g,0,none⟩),.agg #[vN,vT,.int .i64 z]] W fun e w'=>∃vT':Value,e=.returned (.agg #[vN,vT',.int .i64 z])∧Dr V w0 w w' g b r2 r3 vN vT' ns r1:=by
 unfold Zap.f at h
 obtain⟨⟨x0,i0,h0⟩,A0_,h⟩:=Option.bind_eq_some_iff.1 h
 dsimp only at h
 have A0:=Za A0_
 have H':=Za h
 clear A0_ h
 have hu:=Tryd.underlying39
 have hu2:=Tryd.underlying81
 have D0:=Za d
 obtain⟨AN,cN,rfl,hcN,_⟩:=Kd.R_reads d.rn
 have HC:=Za hcN;clear d hcN
 go_enter Tryd.func106,Tryd.ntmps106
 go_wp2_with (first|((with_reducible refine ZK (N:=3) rfl ?_);refine ZN ?hg (N:=3) ?hd (cs:=#[.slice AN ns.length cN,vT,.int .i64 z]) (t:=39) ?hr ?_;(case hd=>rfl);(case hg=>rfl);(case hr=>first|(go_simp;done)|(go_simp;rfl));intro gs hg w1 hbox hb;have D1:=Za (D0.out.below hb);have B1:=Za hbox;have GE:=Za (show w.heap.size≤gs∧V.heap.size≤gs from⟨by rw[hg];exact D0.out.kp.1,by rw[hg];exact D0.out.vz⟩);clear hbox hb hg)|((with_reducible refine ZK (N:=4) rfl ?_);refine ZN ?hg (N:=4) ?hd (cs:=#[.slice none 0 0,.slice none 0 0,.int .i64 0]) (t:=39) ?hr ?_;(case hd=>rfl);(case hg=>rfl);(case hr=>first|(go_simp;done)|(go_simp;rfl));intro gr hg w2 hbox hb;have D2:=Za (D1.out.below hb);have R2:=Za hbox;have B2:=Za (Zw B1.out hb);have NG:=Za (show gs≠gr by rw[hg];exact Nat.ne_of_lt (ZR B1.out));have GR:=Za (show w.heap.size≤gr∧V.heap.size≤gr from⟨by rw[hg];exact D1.out.kp.1,by rw[hg];exact D1.out.vz⟩);have k0:w2.cell? ⟨gs,0,none⟩=some (.slice AN ns.length cN):=(Zo B2.out 0).trans rfl;clear hbox hb hg)|(go_at_call 59;with_reducible refine(ZH.calls g b i o 3 x0 i0 h0 w0 _ D2.out.cu D2.out.hb A0.out).mono ?_;rintro e w3 ⟨rfl,hi_,hb_,hk_⟩;have D3:=Za (D2.out.keep hi_ hb_ hk_);have B3:=Za (D2.out.keepB B2.out hk_);have R3:=Za (D2.out.keepB R2.out hk_);clear k0;clear hi_ hb_ hk_))
 go_loopg [6] k (fun kq s6 wr=>∃(x i o:Int) (ts1:List S81) (uT:Value),s6=.int .i64 x∧Aside0 (Zap.l0 kq b i o (ns.length:Int) x ts1=some (r1,r2,r3))∧Aside0 (kq≤k)∧Aside0 (Dr V w0 w wr g b i o (.slice AN ns.length cN) uT ns ts1)∧Aside0 (wr.heap[gs]? = some (.cells #[.slice AN ns.length cN,uT,.int .i64 z] 39 (0,0)))∧Aside0 (wr.heap[gr]? = some (.cells #[.slice none 0 0,.slice none 0 0,.int .i64 0] 39 (0,0))))
 case atStart=>exact⟨x0,i0,h0,ts,vT,rfl,H',⟨Nat.le_refl _⟩,D3,B3,R3⟩
 case round=>
 clear H' A0 D3 B3 R3
 try clear D2
 try clear B2
 try clear R2
 try clear D1
 try clear B1
 try clear D0
 obtain⟨x,i1,h1,ts1,uT,rfl,HA,HK1,D,B,RR⟩:=hrel
 cases gk with
 | zero=>exact absurd HA.out (by simp[Zap.l0])
 | succ k1=>
 have H:=HA.out
 clear HA
 simp only[Zap.l0] at H
 by_cases c:x > 0
 ·rw[if_pos c] at H
  have c0:decide (x > 0)=true:=Ze c
  clear c
  obtain⟨⟨p1,p2,p3⟩,A1_,H⟩:=Option.bind_eq_some_iff.1 H
  dsimp only at H
  have A1:=Za A1_;clear A1_
  obtain⟨⟨q1,q2,q3⟩,A2_,H⟩:=Option.bind_eq_some_iff.1 H
  dsimp only at H
  have A2:=Za A2_;clear A2_
  obtain⟨⟨rr1,rr2,rr3⟩,A3_,H⟩:=Option.bind_eq_some_iff.1 H
  dsimp only at H
  have A3:=Za A3_;clear A3_
  obtain⟨⟨s1,s2,s3⟩,A4_,H⟩:=Option.bind_eq_some_iff.1 H
  dsimp only at H
  have A4:=Za A4_;clear A4_
  by_cases cm:(ns.length:Int)=0
  ·rw[if_pos cm] at H;exact absurd H (by simp)
  rw[if_neg cm] at H
  have cm0:¬ns=[]:=fun e=>cm (by rw[e];rfl)
  clear cm
  by_cases cl:ts1.length<3518437208883
  case neg=>rw[if_neg cl] at H;exact absurd H (by simp)
  rw[if_pos cl] at H
  have NL:=Za cl;clear cl
  obtain⟨T1,hT1⟩:∃T_:List S81,T_=ts1 ++ [⟨p1,Int.tmod (wrap64 (wrap64 (p1+1)+rr1)) (ns.length:Int),wrap64 (q1 - 3),wrap64 (wrap64 (wrap64 (q1 - 3)+1)+s1),false⟩]:=⟨_,rfl⟩
  rw[← hT1] at H
  have NT:=Za hT1;have HH:=Za H;clear hT1 H
  go_wp2_with ((go_at_call 59;with_reducible refine(ZH.calls g b i1 h1 (ns.length:Int) p1 p2 p3 w0 _ D.out.cu D.out.hb A1.out).mono ?_;rintro e w4 ⟨rfl,hi_,hb_,hk_⟩;have D4:=Za (D.out.keep hi_ hb_ hk_);have B4:=Za (D.out.keepB B.out hk_);have R4:=Za (D.out.keepB RR.out hk_);clear hi_ hb_ hk_))
  go_wp2_with ((go_at_call 59;with_reducible refine(ZH.calls g b p2 p3 6 q1 q2 q3 w0 _ D4.out.cu D4.out.hb A2.out).mono ?_;rintro e w5 ⟨rfl,hi_,hb_,hk_⟩;have D5:=Za (D4.out.keep hi_ hb_ hk_);have B5:=Za (D4.out.keepB B4.out hk_);have R5:=Za (D4.out.keepB R4.out hk_);clear hi_ hb_ hk_))
  refine Za9 (n:=23) (S:=fun w'=>w'.cell? ⟨gs,1,none⟩=some uT) (ds:=[22]) #[false,false,false,false,false,false,false,false,false,false,false,false,false,false,false,false,false,false,false,false,false,false,false] (by kernel_rfl) rfl rfl ((Zo B5.out 1).trans rfl) (fun hHeld=>?_)
  have D6:=Za (D5.out.below (Zp (Below.refl w5.heap.size w5)))
  have B6:=Za (Zt B5.out)
  have R6:=Za (Zt R5.out)
  generalize w5.drew=w6 at D6 B6 R6 hHeld ⊢
  refine pu (N:=some 24) 0 ?_
  refine pu (N:=some 26) 2 ?_
  refine pu (N:=some 27) 3 ?_
  refine pu (N:=some 28) 4 ?_
  refine pu (N:=some 29) 5 ?_
  refine pu (N:=some 30) 6 ?_
  refine pu (N:=some 31) 7 ?_
  refine pu (N:=some 34) 10 ?_
  refine pu (N:=some 36) 12 ?_
  refine pu (N:=some 37) 13 ?_
  refine pu (N:=some 38) 14 ?_
  refine pu (N:=some 39) 15 ?_
  refine tk (N:=some 25) 1 hHeld ?_
  refine onl (N:=some 32) 8 (fun K hK=>?_)
  refine Za5 Tryd.func59 (by kernel_rfl) rfl #[.pointer (some ⟨g,0,none⟩),.int .i64 (wrap64 ((ns.length:Int) - 1))] (by rfl) rfl rfl (by(try simp only[List.map_toArray,List.map_cons,List.map_nil]);first|done|rfl) ?_
  with_reducible refine(ZH.calls g b q2 q3 (wrap64 ((ns.length:Int) - 1)) rr1 rr2 rr3 w0 _ D6.out.cu D6.out.hb A3.out).mono ?_
  rintro e w7 ⟨rfl,hi_,hb_,hk_⟩
  refine⟨_,rfl,?_⟩
  have D7:=Za (D6.out.keep hi_ hb_ hk_)
  have B7:=Za (D6.out.keepB B6.out hk_)
  have R7:=Za (D6.out.keepB R6.out hk_)
  clear hi_ hb_ hk_
  refine hK.out _ _ ((Zo B7.out 1).trans rfl) (fun hHeld=>?_)
  clear hK K
  refine nrm (some 32) ?_
  refine pu (N:=some 33) 9 ?_
  refine pu (N:=some 35) 11 ?_
  refine onl (N:=some 40) 16 (fun K hK=>?_)
  refine Za5 Tryd.func59 (by kernel_rfl) rfl #[.pointer (some ⟨g,0,none⟩),.int .i64 6] (by rfl) rfl rfl (by(try simp only[List.map_toArray,List.map_cons,List.map_nil]);first|done|rfl) ?_
  with_reducible refine(ZH.calls g b rr2 rr3 6 s1 s2 s3 w0 _ D7.out.cu D7.out.hb A4.out).mono ?_
  rintro e w8 ⟨rfl,hi_,hb_,hk_⟩
  refine⟨_,rfl,?_⟩
  have D8:=Za (D7.out.keep hi_ hb_ hk_)
  have B8:=Za (D7.out.keepB B7.out hk_)
  have R8:=Za (D7.out.keepB R7.out hk_)
  clear hi_ hb_ hk_
  refine hK.out _ _ ((Zo B8.out 1).trans rfl) (fun hHeld=>?_)
  clear hK K
  refine nrm (some 40) ?_
  refine pu (N:=some 41) 17 ?_
  refine pu (N:=some 42) 18 ?_
  refine onl (N:=some 43) 19 (fun K hK=>?_)
  refine Zcv (w1:=?_) (v:=?_) (by rfl) rfl ?_ ?_
  rotate_left 2
  ·go_simp
   constructor
   ·rfl
   ·rfl
  refine hK.out _ _ ((Zo (Zr B8.out _) 1).trans rfl) (fun hHeld=>?_)
  clear hK K
  refine nrm (some 43) ?_
  refine onl (N:=some 44) 20 (fun K hK=>?_)
  refine Kd.R_append_step k81 w.heap.size (by rfl) (.tmp 25) (.tmp 43) 37 81 (.agg #[(.int .i64 0),(.int .i64 0),(.int .i64 0),(.int .i64 0),(.bool false)]) 40 rfl Tryd.underlying37 info81 rfl (by decide) (by omega) uT ts1 (⟨p1,Int.tmod (wrap64 (wrap64 (p1+1)+rr1)) (ns.length:Int),wrap64 (q1 - 3),wrap64 (wrap64 (wrap64 (q1 - 3)+1)+s1),false⟩:S81) [.int .i64 p1,.int .i64 (Int.tmod (wrap64 (wrap64 (p1+1)+rr1)) (ns.length:Int)),.int .i64 (wrap64 (q1 - 3)),.int .i64 (wrap64 (wrap64 (wrap64 (q1 - 3)+1)+s1)),.bool false] (fun k_=>w.heap.size≤k_) (fun _=>False) rfl (by first|rfl|(go_simp;rfl)) ?aP (fun _ hk=>hk.elim) ?aF ?aO (Below.refl _ _) ?aS ?aL ?_
  (case aP=>exact ZcK _ _ _ (⟨p1,Int.tmod (wrap64 (wrap64 (p1+1)+rr1)) (ns.length:Int),wrap64 (q1 - 3),wrap64 (wrap64 (wrap64 (q1 - 3)+1)+s1),false⟩:S81))
  (case aF=>exact fun k_ hk=>Nat.le_trans D8.out.kp.1 hk)
  (case aO=>exact D8.out.rt)
  (case aS=>exact D8.out.kp.1)
  (case aL=>have:=NL.out;omega)
  intro v1 w9 ho hb hg hat
  rw[← NT.out] at ho
  have D9:=Za (D8.out.tie ho hb hg)
  have B9:=Za (D8.out.tieB B8.out hg)
  have R9:=Za (D8.out.tieB R8.out hg)
  clear ho hb hg hat
  obtain⟨A1_,c1_,e1_⟩:=Kd.R_slice D9.out.rt
  subst e1_
  refine hK.out _ _ ((Zo B9.out 1).trans rfl) (fun hHeld=>?_)
  clear hK K
  refine nrm (some 44) ?_
  refine pu (N:=some 45) 21 ?_
  refine Zb3 (i:=22) (N:=none) #[true,true,true,true,true,true,true,true,true,true,true,true,true,true,true,true,true,true,true,true,true,true,true] rfl rfl (by kernel_rfl) (by decide) (fun K hK=>?_)
  have hs_:w9.cell? ⟨gs,1,none⟩=some uT:=(Zo B9.out 1).trans rfl
  have hf_:=Zu B9.out 1
  refine Zcf (w1:=?_) (by rfl) rfl ?_ ?_
  rotate_left
  ·go_simp
   rfl
  refine hK.out _ _ ?_
  clear hK K
  refine Zbu (by kernel_rfl) ?_
  try go_wp2
  go_roundg k1
  case measure=>have:=HK1.out;omega
  case rel=>exact⟨_,s2,s3,T1,.slice A1_ T1.length c1_,rfl,HH,⟨by have:=HK1.out;omega⟩,⟨D9.out.put B9.out GE.out 1 _⟩,⟨ZO (cs:=#[.slice AN ns.length cN,uT,.int .i64 z]) B9.out 1 _ rfl⟩,⟨ZF R9.out (p:=⟨gs,1,none⟩) NG.out.symm _⟩⟩
 ·rw[if_neg c] at H
  have c0:decide (x > 0)=false:=Zf c
  clear c
  obtain⟨rfl,rfl,rfl⟩:ts1=r1∧i1=r2∧h1=r3:=by simpa using H
  clear H
  obtain⟨A1_,c1_,e1_⟩:=Kd.R_slice D.out.rt
  subst e1_
  have k0:wr.cell? ⟨gs,0,none⟩=some (.slice AN ns.length cN):=(Zo B.out 0).trans rfl
  have k1:wr.cell? ⟨gs,1,none⟩=some (.slice A1_ ts1.length c1_):=(Zo B.out 1).trans rfl
  have k2:wr.cell? ⟨gs,2,none⟩=some (.int .i64 z):=(Zo B.out 2).trans rfl
  have m0:wr.cell? ⟨gr,0,none⟩=some (.slice none 0 0):=(Zo RR.out 0).trans rfl
  have m1:wr.cell? ⟨gr,1,none⟩=some (.slice none 0 0):=(Zo RR.out 1).trans rfl
  have m2:wr.cell? ⟨gr,2,none⟩=some (.int .i64 0):=(Zo RR.out 2).trans rfl
  have f0:=Zu RR.out 0
  have f1:=Zu RR.out 1
  have f2:=Zu RR.out 2
  have n1:=NG.out
  have n2:=NG.out.symm
  go_wp2
  have P0:=ZO (cs:=#[.slice none 0 0,.slice none 0 0,.int .i64 0]) RR.out 0 (.slice AN ns.length cN) rfl
  have P1:=ZO (cs:=#[.slice AN ns.length cN,.slice none 0 0,.int .i64 0]) P0 1 (.slice A1_ ts1.length c1_) rfl
  have P2:=ZO (cs:=#[.slice AN ns.length cN,.slice A1_ ts1.length c1_,.int .i64 0]) P1 2 (.int .i64 z) rfl
  refine bodyPost_ret (results_cell_row rfl _ _ gr 39 #[.slice AN ns.length cN,.slice A1_ ts1.length c1_,.int .i64 z] (0,0) _ rfl P2 Tryd.underlying39 rfl (by kernel_rfl)) rfl ?_
  exact⟨_,rfl,((D.out.put RR.out GR.out 0 _).put P0 GR.out 1 _).put P1 GR.out 2 _⟩
end Go.Proofs.YtoeimopgoaffcaaDoor.Pr
