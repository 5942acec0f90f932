/- By a program of this session. -/
import Derived.Test.YtoeimopgoaffcaaDoorBBcc1x8
namespace Go.Proofs.YtoeimopgoaffcaaDoor.Pr
open RowKit YtoeimopgoaffcaaDoorW.PrintWords YtoeimopgoaffcaaDoorW.PrintLast YtoeimopgoaffcaaDoorW.PrintMore
attribute [local go_sem] Zat Zar ZaG ZaF Zal Zak Zas Zaq
set_option linter.unusedVariables false
set_option linter.unusedSimpArgs false
open Ni
def Zbh.f (k:Nat) (l0_0:List (S54)) (l0_1:List (S81)) (a0_2:Int) (a1:Int):Option (List Int×List Int):=((ZY.f k l0_0 l0_1 a0_2).bind fun L=>if okF l0_1 L=true then(wq fun p=>(Zaw.f l0_0 l0_1 a0_2 p)).bind fun q=>some (atAll l0_1 q L a1) else none)
set_option maxHeartbeats 8000000 in
set_option maxRecDepth 100000 in
theorem Zbh.calls (k:Nat) (A0_0:Option Addr) (c0_0:Nat) (l0_0:List (S54)) (A0_1:Option Addr) (c0_1:Nat) (l0_1:List (S81)) (a0_2:Int) (a1:Int) (r1:List Int) (r2:List Int) (w:World) (hr0_0:Kd.C k54 w A0_0 l0_0.length l0_0) (hc0_0:l0_0.length≤c0_0) (hr0_1:Kd.C k81 w A0_1 l0_1.length l0_1) (hc0_1:l0_1.length≤c0_1) (h:Zbh.f k l0_0 l0_1 a0_2 a1=some (r1,r2)) :
  Calls Tryd.prog 51 #[.agg #[.slice A0_0 l0_0.length c0_0,.slice A0_1 l0_1.length c0_1,.int .i64 a0_2],.int .i64 a1] w fun e w'=>∃v0_ v1_:Value,e=.returned (.agg #[v0_,v1_])∧Kd.R (Kd.int .i64) 3 w' w.heap.size (fun k_=>some k_≠(v1_:Value).ownBlock) v0_ r1∧Kd.R (Kd.int .i64) 3 w' w.heap.size (fun k_=>some k_≠(v0_:Value).ownBlock) v1_ r2∧Below w.heap.size w w':=by
 unfold Zbh.f at h
 obtain⟨L,hL_,h⟩:=Option.bind_eq_some_iff.1 h
 by_cases hok:okF l0_1 L=true
 case neg=>rw[if_neg hok] at h;exact absurd h (by simp)
 rw[if_pos hok] at h
 obtain⟨q,hq_,h⟩:=Option.bind_eq_some_iff.1 h
 have OK:=Za (okF_iff hok)
 have HE0:=Za (show atAll l0_1 q L a1=(r1,r2) from Zg h)
 have HF:=Za fun (W:World) (hb:Below w.heap.size w W)=>ZY.calls k A0_0 c0_0 l0_0 A0_1 c0_1 l0_1 a0_2 L W (Zb hr0_0 hb) hc0_0 (Zb hr0_1 hb) hc0_1 hL_
 have HW:=Za fun (W:World) (p:Nat) (h1:1≤p) (h3:p≤3) (hb:Below w.heap.size w W)=>Zaw.calls A0_0 c0_0 l0_0 A0_1 c0_1 l0_1 a0_2 (p:Int) (q (p:Int)) W (Zb hr0_0 hb) hc0_0 (Zb hr0_1 hb) hc0_1 (wq_some hq_ p h1 h3)
 clear hL_ hq_ hok;have HR0:=Za hr0_0;have HR1:=Za hr0_1
 have hu:=Tryd.underlying39
 have hu2:=Tryd.underlying44
 have hu3:=Tryd.underlying81
 clear hr0_0 hc0_0 hr0_1 hc0_1 h
 go_enter Tryd.func51,Tryd.ntmps51
 go_wp2_with (first|((with_reducible refine ZK (N:=2) rfl ?_);refine ZN ?hg (N:=2) ?hd (cs:=#[.slice A0_0 l0_0.length c0_0,.slice A0_1 l0_1.length c0_1,.int .i64 a0_2]) (t:=39) ?hr ?_;(case hd=>rfl);(case hg=>rfl);(case hr=>first|(go_simp;done)|(go_simp;rfl));intro gs hg w1 hbox hb;have BS:=Za hbox;have HB:=Za hb;clear hbox hb hg)|((with_reducible refine ZK (N:=4) rfl ?_);refine ZN ?hg (N:=4) ?hd (cs:=#[.slice none 0 0,.slice none 0 0]) (t:=44) ?hr ?_;(case hd=>rfl);(case hg=>rfl);(case hr=>first|(go_simp;done)|(go_simp;rfl));intro g4 hg w2 hbox hb;have G4:=Za (show w.heap.size≤g4 by rw[hg];exact HB.out.size);have B4:=Za hbox;replace BS:=Za (Zw BS.out hb);replace HB:=Za (Zx HB.out hb);clear hbox hb hg)|((with_reducible refine ZK (N:=5) rfl ?_);refine ZN ?hg (N:=5) ?hd (cs:=#[.slice none 0 0,.slice none 0 0]) (t:=44) ?hr ?_;(case hd=>rfl);(case hg=>rfl);(case hr=>first|(go_simp;done)|(go_simp;rfl));intro g5 hg w3 hbox hb;have G5:=Za (show w.heap.size≤g5 by rw[hg];exact HB.out.size);have N45:=Za (show g4≠g5 by rw[hg];exact Nat.ne_of_lt (ZR B4.out));have B5:=Za hbox;replace B4:=Za (Zw B4.out hb);replace BS:=Za (Zw BS.out hb);replace HB:=Za (Zx HB.out hb);have k0:w3.cell? ⟨gs,0,none⟩=some (.slice A0_0 l0_0.length c0_0):=(Zo BS.out 0).trans rfl;have k1:w3.cell? ⟨gs,1,none⟩=some (.slice A0_1 l0_1.length c0_1):=(Zo BS.out 1).trans rfl;have k2:w3.cell? ⟨gs,2,none⟩=some (.int .i64 a0_2):=(Zo BS.out 2).trans rfl;clear hbox hb hg)|(go_at_call 48;refine(HF.out _ HB.out).mono ?_;rintro e w6 ⟨vF,rfl,ho,hb⟩;obtain⟨A_,c_,e_⟩:=Kd.R_slice ho;subst e_;have I0:=Za (⟨Kd.R_nil _ _ _ _ _,Kd.R_mono (Kd.R_lower ho HB.out.size) (fun _ _=>by simp[Value.ownBlock]),Zx HB.out hb,Zw BS.out hb,Zw B4.out hb,Zw B5.out hb,N45.out,G4.out,G5.out⟩:Two w w6 gs g4 g5 #[.slice A0_0 l0_0.length c0_0,.slice A0_1 l0_1.length c0_1,.int .i64 a0_2] #[.slice none 0 0,.slice none 0 0] (.slice none 0 0) (.slice A_ L.length c_) [] L);clear ho hb k0 k1 k2))
 clear HF G4 G5 N45 B4 B5 BS HB
 have HE:=Za (show(((L.drop 0).foldl (atS l0_1) (a1,([]:List Int))).2,(Zbx q 3 1 (((L.drop 0).foldl (atS l0_1) (a1,([]:List Int))).1,[])).2)=(r1,r2) from HE0.out)
 clear HE0
 go_loopg [1,14] L.length (fun gg s1 s14 wr=>∃(i:Nat) (n:Int) (G:List Int) (uG:Value),s1=.int .i64 n∧s14=.int .i64 (i:Int)∧Aside0 (i≤L.length)∧Aside0 (L.length - i≤gg)∧Aside0 (G.length≤i)∧Aside0 ((((L.drop i).foldl (atS l0_1) (n,G)).2,(Zbx q 3 1 (((L.drop i).foldl (atS l0_1) (n,G)).1,[])).2)=(r1,r2))∧Aside0 (Two w wr gs g4 g5 #[.slice A0_0 l0_0.length c0_0,.slice A0_1 l0_1.length c0_1,.int .i64 a0_2] #[uG,.slice none 0 0] uG (.slice A_ L.length c_) G L))
 case atStart=>exact⟨0,a1,[],.slice none 0 0,rfl,rfl,⟨Nat.zero_le _⟩,⟨by omega⟩,⟨Nat.le_refl _⟩,HE,I0⟩
 case round=>
 clear HE I0
 obtain⟨i,n,G,uG,rfl,rfl,HK,HG,HN,HE,HI⟩:=hrel
 by_cases hlt:i<L.length
 ·have hltz:(i:Int)<(L.length:Int):=by omega
  obtain⟨ad,q1,hx⟩:=Kd.at_int (Kd.R_reads' HI.out.rk).2.2 (i:Int) (by omega) hltz
  cases q1
  have hm:=OK.out.2 _ (ZaY hlt 0)
  have HD:=HE.out
  rw[Za2 hlt 0,List.foldl_cons,atS] at HD
  rw[Int.toNat_natCast,Zbq] at hx
  generalize L.getD i 0=x at hx hm HD
  unfold facI at hm HD
  obtain⟨ad3,q3,hz0,hz1,hz2,hz3,hz4⟩:=Zck HR1.out x hm.1 hm.2.1
  cases q3
  dsimp only at HD
  generalize (Zz l0_1 x).f2=lo at hz2 HD hm
  generalize (Zz l0_1 x).f3=hi at hz3 HD hm
  have px:=eq_true hm.1
  have py:=eq_true hm.2.1
  have m0:(wrap64 (wrap64 (hi - lo)+1) == 0)=false:=beq_eq_false_iff_ne.2 hm.2.2
  have m1:(wrap64 (wrap64 (hi - lo)+1)=0)=False:=eq_false hm.2.2
  obtain⟨G1,hG1⟩:∃G1,G1=G ++ [wrap64 (lo+Int.tmod n (wrap64 (wrap64 (hi - lo)+1)))]:=⟨_,rfl⟩
  rw[← hG1] at HD
  have NG:=Za hG1;have HD2:=Za HD;have HZ2:=Za hz2;clear hG1 HD HE hz0 hz1 hz4 hm
  replace hz2:=ZE HI.out.hb hz2
  replace hz3:=ZE HI.out.hb hz3
  have k1:wr.cell? ⟨gs,1,none⟩=some (.slice (some ad3) l0_1.length c0_1):=(Zo HI.out.bs 1).trans rfl
  go_wp2
  go_quiet (fail)
  go_wp2
  revert nq
  intro nq1
  clear k1 hz2 hz3
  have J:=Za (HI.out.below (Zm (Below.refl wr.heap.size wr) nq1))
  refine Za9 (n:=16) (S:=fun w'=>w'.cell? ⟨g5,0,none⟩=some uG∧w'.cell? ⟨gs,1,none⟩=some (.slice (some ad3) l0_1.length c0_1)∧w'.cell? ⟨(ad3.add (x.toNat * 5)).block,(ad3.add (x.toNat * 5)).off+2,none⟩=some (.int .i64 lo)) (ds:=[15]) #[false,false,false,false,false,false,false,false,false,false,false,false,false,false,false,false] (by kernel_rfl) rfl rfl ⟨(Zo J.out.b5 0).trans rfl,(Zo J.out.bs 1).trans rfl,ZE J.out.hb HZ2.out⟩ (fun hHeld=>?_)
  have J2:=Za (J.out.below (Zp (Below.refl (wr.drewN nq1).heap.size (wr.drewN nq1))))
  generalize (wr.drewN nq1).drew=W2 at J2 hHeld ⊢
  refine pu (N:=some 32) 0 ?_
  refine pu (N:=some 34) 2 ?_
  refine pu (N:=some 36) 4 ?_
  refine pu (N:=some 40) 8 ?_
  refine pu (N:=some 41) 9 ?_
  refine pu (N:=some 42) 10 ?_
  refine tk (N:=some 33) 1 hHeld ?_
  refine tk (N:=some 35) 3 hHeld ?_
  refine pu (N:=some 37) 5 ?_
  refine pu (N:=some 38) 6 ?_
  refine tk (N:=some 39) 7 hHeld ?_
  refine pu (N:=some 43) 11 ?_
  refine onl (N:=some 44) 12 (fun K hK=>?_)
  refine Zcv (w1:=?_) (v:=?_) (by rfl) rfl ?_ ?_
  rotate_left 2
  ·go_simp
   constructor
   ·rfl
   ·rfl
  have J3:=Za (J2.out.below (Zn (Below.refl W2.heap.size W2) (.cells #[.int .i64 (wrap64 (lo+Int.tmod n (wrap64 (wrap64 (hi - lo)+1))))] 3)))
  refine hK.out _ _ ⟨(Zo J3.out.b5 0).trans rfl,(Zo J3.out.bs 1).trans rfl,ZE J3.out.hb HZ2.out⟩ (fun hHeld=>?_)
  clear hK K
  refine nrm (some 44) ?_
  refine onl (N:=some 45) 13 (fun K hK=>?_)
  refine Kd.R_append_step (Kd.int .i64) (w0:=w) w.heap.size (by rfl) (.tmp 33) (.tmp 44) 23 3 (.int .i64 0) 8 rfl Tryd.underlying23 ZbN rfl (by decide) (by omega) uG G (wrap64 (lo+Int.tmod n (wrap64 (wrap64 (hi - lo)+1)))) [.int .i64 (wrap64 (lo+Int.tmod n (wrap64 (wrap64 (hi - lo)+1))))] (fun k_=>some k_≠(.slice (some ad) L.length c_:Value).ownBlock) (fun _=>False) rfl rfl ?aP (fun _ hk=>hk.elim) ?aF ?aO ?aB ?aS ?aL ?_
  (case aP=>exact rfl)
  (case aB=>exact J2.out.hb)
  (case aF=>exact Kd.fresh' (Kd.R_lt J2.out.rk))
  (case aO=>exact J2.out.rg)
  (case aS=>exact J2.out.hb.size)
  (case aL=>have:=HN.out;have:=HK.out;have:=OK.out.1;omega)
  intro v1 w7 ho hb hg hat
  rw[← NG.out] at ho
  obtain⟨j_,⟨c5,ss⟩,A1,c1,e1⟩:=Two.grow (j:=0) J2.out ho hb hg hat rfl
  subst e1;have J4:=Za j_;have hb7:=Za hb;clear j_ ho hb hg hat
  refine hK.out _ _ ⟨(Zo c5 0).trans rfl,(Zo ss 1).trans rfl,ZE hb7.out HZ2.out⟩ (fun hHeld=>?_)
  clear hK K
  refine nrm (some 45) ?_
  refine pu (N:=some 46) 14 ?_
  refine Zb3 (i:=15) (N:=none) #[true,true,true,true,true,true,true,true,true,true,true,true,true,true,true,true] rfl rfl (by kernel_rfl) (by decide) (fun K hK=>?_)
  have h5:w7.cell? ⟨g5,0,none⟩=some uG:=(Zo c5 0).trans rfl
  have f5:=Zu c5 0
  refine Zcf (w1:=?_) (by rfl) rfl ?_ ?_
  rotate_left
  ·go_simp
   rfl
  refine hK.out _ _ ?_
  clear hK K
  refine Zbu (by kernel_rfl) ?_
  go_wp2
  go_roundg (L.length - (i+1))
  case measure=>have:=HG.out;omega
  case rel=>exact⟨i+1,_,G1,_,rfl,by rw[Z9 hlt (by have:=OK.out.1;omega)],⟨by omega⟩,⟨by omega⟩,⟨by have:=HN.out;rw[NG.out,List.length_append,List.length_singleton];omega⟩,HD2,J4⟩
 ·obtain rfl:i=L.length:=by have:=HK.out;omega
  have HE2:=Za (show(G,(Zbx q 3 1 (n,[])).2)=(r1,r2) by
   have h:=HE.out
   rw[List.drop_length] at h
   exact h)
  obtain rfl:G=r1:=congrArg Prod.fst HE2.out
  have HQ:=Za (show(Zbx q 3 1 (n,[])).2=r2 from congrArg Prod.snd HE2.out)
  have T0:=Za HI.out.turn
  obtain⟨A1,c1,e1⟩:=Kd.R_slice HI.out.rg
  subst e1;clear HE HE2 HK HG HN HI hlt OK
  go_wp2
  go_loopg [1,9] 4 (fun gg s1 s9 wr=>∃(p:Nat) (n:Int) (B:List Int) (uB:Value),s1=.int .i64 n∧s9=.int .i64 (p:Int)∧Aside0 (1≤p∧p≤4)∧Aside0 (4 - p≤gg)∧Aside0 (B.length≤4)∧Aside0 (B.length<p)∧Aside0 ((Zbx q (4 - p) p (n,B)).2=r2)∧Aside0 (Two w wr gs g4 g5 #[.slice A0_0 l0_0.length c0_0,.slice A0_1 l0_1.length c0_1,.int .i64 a0_2] #[.slice A1 G.length c1,uB] uB (.slice A1 G.length c1) B G))
  case atStart=>exact⟨1,n,[],.slice none 0 0,rfl,rfl,⟨by omega⟩,⟨by omega⟩,⟨by simp⟩,⟨by simp⟩,HQ,T0⟩
  case round=>
  clear HQ T0
  obtain⟨p,n,B,uB,rfl,rfl,HP,HG,HN,HNp,HE,HI⟩:=hrel
  have k0:wr.cell? ⟨gs,0,none⟩=some (.slice A0_0 l0_0.length c0_0):=(Zo HI.out.bs 0).trans rfl
  have k1:wr.cell? ⟨gs,1,none⟩=some (.slice A0_1 l0_1.length c0_1):=(Zo HI.out.bs 1).trans rfl
  have k2:wr.cell? ⟨gs,2,none⟩=some (.int .i64 a0_2):=(Zo HI.out.bs 2).trans rfl
  by_cases hp:p≤3
  ·have hpz:decide ((p:Int)≤3)=true:=Ze (by omega)
   have HWp:=Za fun (W:World) (hb:Below w.heap.size w W)=>HW.out W p HP.out.1 hp hb
   have HD:=HE.out
   rw[show 4 - p=(4 - (p+1))+1 by omega,Zbx,atQ] at HD
   have HS:=Za (show wrap64 ((p:Int)+1)=((p+1:Nat):Int) from Z9 (n:=4) (by omega) (by omega))
   generalize q (p:Int)=qp at HWp HD
   clear HE
   cases b2:decide (0≤qp) with
   | true=>
    rw[if_pos (show qp≥0 from Zd b2)] at HD
    dsimp only at HD
    obtain⟨B1,hB1⟩:∃B1,B1=B ++ [wrap64 (1 - wrap64 (Int.tmod n 2 * 2))]:=⟨_,rfl⟩
    rw[← hB1] at HD
    have NB:=Za hB1;have HD2:=Za HD;clear hB1 HD
    go_wp2_with (first|(go_at_call 49;refine(HWp.out _ HI.out.hb).mono ?_;rintro e w8 ⟨rfl,hb⟩;have J:=Za (HI.out.below hb);have m5:w8.cell? ⟨g5,1,none⟩=some uB:=(Zo J.out.b5 1).trans rfl;clear hb k0 k1 k2)|((with_reducible refine Zax (b:=.append) (xs:=#[.tmp 66,.tmp 68]) rfl ?_);at_builtin;refine Kd.R_append (Kd.int .i64) (w0:=w) w.heap.size rfl (.tmp 66) (.tmp 68) 23 3 (.int .i64 0) 8 rfl Tryd.underlying23 ZbN rfl (by decide) (by omega) uB B (wrap64 (1 - wrap64 (Int.tmod n 2 * 2))) [.int .i64 (wrap64 (1 - wrap64 (Int.tmod n 2 * 2)))] (fun k_=>some k_≠(.slice A1 G.length c1:Value).ownBlock) (fun _=>False) rfl rfl ?aP (fun _ hk=>hk.elim) ?aF ?aO ?aB ?aS ?aL ?_;(case aP=>exact rfl);(case aB=>exact J.out.hb);(case aF=>exact Kd.fresh' (Kd.R_lt J.out.rk));(case aO=>exact J.out.rg);(case aS=>exact J.out.hb.size);(case aL=>have:=HN.out;omega);intro v1 w9 ho hb hg hat;rw[← NB.out] at ho;obtain⟨j_,⟨c5,ss⟩,A2,c2,e2⟩:=Two.grow (j:=1) J.out ho hb hg hat rfl;subst e2;have J2:=Za j_;have h5:w9.cell? ⟨g5,1,none⟩=some uB:=(Zo c5 1).trans rfl;have f5:=Zu c5 1;clear j_ ho hb hg hat c5 ss))
    go_roundg (4 - (p+1))
    case measure=>have:=HG.out;omega
    case rel=>exact⟨p+1,_,B1,_,rfl,by first|rfl|rw[HS.out],⟨by have:=HP.out;omega⟩,⟨by omega⟩,⟨by have:=HNp.out;rw[NB.out,List.length_append,List.length_singleton];omega⟩,⟨by have:=HNp.out;rw[NB.out,List.length_append,List.length_singleton];omega⟩,HD2,J2⟩
   | false=>
    rw[if_neg (show ¬qp≥0 from of_decide_eq_false b2)] at HD
    dsimp only at HD
    obtain⟨B1,hB1⟩:∃B1,B1=B ++ [1]:=⟨_,rfl⟩
    rw[← hB1] at HD
    have NB:=Za hB1;have HD2:=Za HD;clear hB1 HD
    go_wp2_with (first|(go_at_call 49;refine(HWp.out _ HI.out.hb).mono ?_;rintro e w8 ⟨rfl,hb⟩;have J:=Za (HI.out.below hb);have m5:w8.cell? ⟨g5,1,none⟩=some uB:=(Zo J.out.b5 1).trans rfl;clear hb k0 k1 k2)|((with_reducible refine Zax (b:=.append) (xs:=#[.tmp 66,.tmp 68]) rfl ?_);at_builtin;refine Kd.R_append (Kd.int .i64) (w0:=w) w.heap.size rfl (.tmp 66) (.tmp 68) 23 3 (.int .i64 0) 8 rfl Tryd.underlying23 ZbN rfl (by decide) (by omega) uB B (1) [.int .i64 (1)] (fun k_=>some k_≠(.slice A1 G.length c1:Value).ownBlock) (fun _=>False) rfl rfl ?aP (fun _ hk=>hk.elim) ?aF ?aO ?aB ?aS ?aL ?_;(case aP=>exact rfl);(case aB=>exact J.out.hb);(case aF=>exact Kd.fresh' (Kd.R_lt J.out.rk));(case aO=>exact J.out.rg);(case aS=>exact J.out.hb.size);(case aL=>have:=HN.out;omega);intro v1 w9 ho hb hg hat;rw[← NB.out] at ho;obtain⟨j_,⟨c5,ss⟩,A2,c2,e2⟩:=Two.grow (j:=1) J.out ho hb hg hat rfl;subst e2;have J2:=Za j_;have h5:w9.cell? ⟨g5,1,none⟩=some uB:=(Zo c5 1).trans rfl;have f5:=Zu c5 1;clear j_ ho hb hg hat c5 ss))
    go_roundg (4 - (p+1))
    case measure=>have:=HG.out;omega
    case rel=>exact⟨p+1,_,B1,_,rfl,by first|rfl|rw[HS.out],⟨by have:=HP.out;omega⟩,⟨by omega⟩,⟨by have:=HNp.out;rw[NB.out,List.length_append,List.length_singleton];omega⟩,⟨by have:=HNp.out;rw[NB.out,List.length_append,List.length_singleton];omega⟩,HD2,J2⟩
  ·obtain rfl:p=4:=by have:=HP.out;omega
   have hpz:decide (((4:Nat):Int)≤3)=false:=rfl
   obtain rfl:B=r2:=HE.out
   obtain⟨A2,c2,e2⟩:=Kd.R_slice HI.out.rg
   subst e2
   have m0:wr.cell? ⟨g5,0,none⟩=some (.slice A1 G.length c1):=(Zo HI.out.b5 0).trans rfl
   have m1:wr.cell? ⟨g5,1,none⟩=some (.slice A2 B.length c2):=(Zo HI.out.b5 1).trans rfl
   have z0:wr.cell? ⟨g4,0,none⟩=some (.slice none 0 0):=(Zo HI.out.b4 0).trans rfl
   have z1:wr.cell? ⟨g4,1,none⟩=some (.slice none 0 0):=(Zo HI.out.b4 1).trans rfl
   have y0:=Zu HI.out.b4 0
   have y1:=Zu HI.out.b4 1
   clear HE k0 k1 k2
   go_wp2
   obtain⟨d0,d1,d2,d3⟩:=HI.out.done (a:=.slice A1 G.length c1) (b:=.slice A2 B.length c2)
   refine bodyPost_ret (results_cell_row rfl _ _ g4 44 #[.slice A1 G.length c1,.slice A2 B.length c2] (0,0) _ rfl d3 Tryd.underlying44 rfl (by kernel_rfl)) rfl ?_
   exact⟨_,_,rfl,d0,d1,d2⟩
end Go.Proofs.YtoeimopgoaffcaaDoor.Pr
