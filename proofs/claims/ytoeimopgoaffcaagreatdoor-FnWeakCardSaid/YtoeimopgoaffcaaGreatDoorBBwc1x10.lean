/- By a program of this session. -/
import Derived.Test.YtoeimopgoaffcaaGreatDoorBBwc1x9
namespace Go.Proofs.YtoeimopgoaffcaaGreatDoor.Pr
open RowKit YtoeimopgoaffcaaGreatDoorW.PrintWords YtoeimopgoaffcaaGreatDoorW.PrintLast YtoeimopgoaffcaaGreatDoorW.PrintMore
attribute [local go_sem] Zak Zai Zax Zaw Zac Zab Zaj Zah
set_option linter.unusedVariables false
set_option linter.unusedSimpArgs false
open Ni
def Z1.f (_k:Nat) (a0_0:Int) (l0_1:List (S112)):Option (Int×List S184×List Int):=if l0_1.length≤1048576 then some (a0_0,ZbN l0_1,ZbV 0 l0_1) else none
structure Z1.Inv (w W:World) (n:Int) (g2 g4:Nat) (uB uE uM:Value) (E:List S184) (M:List Int):Prop where
 re:Kd.R k184 184 W w.heap.size (fun _=>True) uE E
 rm:Kd.R (Kd.int .i64) 3 W w.heap.size (fun _=>True) uM M
 hb:Below w.heap.size w W
 b2:W.heap[g2]? = some (Obj.cells #[.int .i64 0,.slice none 0 0] 156 (0,0))
 b4:W.heap[g4]? = some (Obj.cells #[.int .i64 n,uB] 156 (0,0))
 n24:g2≠g4
 g2b:w.heap.size≤g2
 g4b:w.heap.size≤g4
section
variable {w W w1:World} {n:Int} {g2 g4 g:Nat} {uB uE uM v1:Value} {E E1:List S184} {M M1:List Int} {cs:Array Value}
theorem Z1.Inv.below (h:Z1.Inv w W n g2 g4 uB uE uM E M) (hb:Below W.heap.size W w1):Z1.Inv w w1 n g2 g4 uB uE uM E M:=
 ⟨Kd.R_below h.re hb,Kd.R_below h.rm hb,Zr h.hb hb,Zs h.b2 hb,Zs h.b4 hb,h.n24,h.g2b,h.g4b⟩
theorem Z1.Inv.edge (h:Z1.Inv w W n g2 g4 uB uE uM E M) (hx:W.heap[g]? = some (Obj.cells cs 112 (0,0))) (ho:Kd.R k184 184 w1 w.heap.size (fun _=>True) v1 E1) (hb:Below w.heap.size w w1) (hg:W.grownBy w1 uE.ownBlock) :
  Z1.Inv w w1 n g2 g4 uB v1 uM E1 M∧w1.heap[g]? = some (Obj.cells cs 112 (0,0)):=⟨⟨ho,Kd.R_over h.rm h.re (by decide) hg,hb,Zad h.b2 hg (Kd.R_ne h.re h.b2 (by decide)),Zad h.b4 hg (Kd.R_ne h.re h.b4 (by decide)),h.n24,h.g2b,h.g4b⟩,Zad hx hg (Kd.R_ne h.re hx (by decide))⟩
theorem Z1.Inv.idx (h:Z1.Inv w W n g2 g4 uB uE uM E M) (hx:W.heap[g]? = some (Obj.cells cs 112 (0,0))) (ho:Kd.R (Kd.int .i64) 3 w1 w.heap.size (fun _=>True) v1 M1) (hb:Below w.heap.size w w1) (hg:W.grownBy w1 uM.ownBlock) :
  (Z1.Inv w (w1.setCell ⟨g4,1,none⟩ uE) n g2 g4 uE uE v1 E M1∧(w1.setCell ⟨g4,1,none⟩ uE).heap[g]? = some (Obj.cells cs 112 (0,0)))∧(w1.cell? ⟨g4,1,none⟩=some uB∧w1.frozen? ⟨g4,1,none⟩=false∧g<w1.heap.size)∧w1.heap[g]? = some (Obj.cells cs 112 (0,0)):=by
 have c2:=Zad h.b2 hg (Kd.R_ne h.rm h.b2 (by decide))
 have c4:=Zad h.b4 hg (Kd.R_ne h.rm h.b4 (by decide))
 have cx:=Zad hx hg (Kd.R_ne h.rm hx (by decide))
 have re:=Kd.R_over h.re h.rm (by decide) hg
 exact⟨⟨⟨Kd.R_mono (Kd.R_far (p:=⟨g4,1,none⟩) (Kd.R_types re c4 (by decide)) (fun _ hk=>hk.2) uE) (fun _ _=>trivial),Kd.R_mono (Kd.R_far (p:=⟨g4,1,none⟩) (Kd.R_types ho c4 (by decide)) (fun _ hk=>hk.2) uE) (fun _ _=>trivial),Zt hb h.g4b,ZL c2 (p:=⟨g4,1,none⟩) h.n24 uE,ZR (cs:=#[.int .i64 n,uB]) c4 1 uE rfl,h.n24,h.g2b,h.g4b⟩,ZL cx (p:=⟨g4,1,none⟩) (ZbF cx c4 (by decide)) uE⟩,⟨(Zm c4 1).trans rfl,Zq c4 1,ZN cx⟩,cx⟩
theorem Z1.init (HB:Below w.heap.size w W) (B2:W.heap[g2]? = some (Obj.cells #[.int .i64 0,.slice none 0 0] 156 (0,0))) (B4:W.heap[g4]? = some (Obj.cells #[.int .i64 0,.slice none 0 0] 156 (0,0))) (N:g2≠g4) (G2:w.heap.size≤g2) (G4:w.heap.size≤g4) :
  Z1.Inv w ((W.setCell ⟨g4,0,none⟩ (.int .i64 n)).setCell ⟨g4,1,none⟩ (.slice none 0 0)) n g2 g4 (.slice none 0 0) (.slice none 0 0) (.slice none 0 0) [] []:=
 ⟨Kd.R_nil _ _ _ _ _,Kd.R_nil _ _ _ _ _,Zt (Zt HB G4) G4,ZL (ZL B2 (p:=⟨g4,0,none⟩) N _) (p:=⟨g4,1,none⟩) N _,ZR (cs:=#[.int .i64 n,.slice none 0 0]) (ZR (cs:=#[.int .i64 0,.slice none 0 0]) B4 0 _ rfl) 1 _ rfl,N,G2,G4⟩
end
set_option maxHeartbeats 8000000 in
set_option maxRecDepth 100000 in
theorem Z1.calls (k:Nat) (a0_0:Int) (A0_1:Option Addr) (c0_1:Nat) (l0_1:List (S112)) (r1:Int) (r2:List S184) (r3:List Int) (w:World) (hr0_1:Kd.C k112 w A0_1 l0_1.length l0_1) (hc0_1:l0_1.length≤c0_1) (h:Z1.f k a0_0 l0_1=some (r1,r2,r3)) :
  Calls Tryz.prog 174 #[.agg #[.int .i64 a0_0,.slice A0_1 l0_1.length c0_1]] w fun e w'=>∃v1_ v2_:Value,e=.returned (.tuple #[.agg #[.int .i64 r1,v1_],v2_])∧Kd.R k184 184 w' w.heap.size (fun _=>True) v1_ r2∧Kd.R (Kd.int .i64) 3 w' w.heap.size (fun _=>True) v2_ r3∧Below w.heap.size w w':=by
 unfold Z1.f at h
 by_cases hl:l0_1.length≤1048576
 case neg=>rw[if_neg hl] at h;exact absurd h (by simp)
 rw[if_pos hl] at h
 obtain⟨rfl,rfl,rfl⟩:a0_0=r1∧ZbN l0_1=r2∧ZbV 0 l0_1=r3:=⟨congrArg Prod.fst (Zg h),congrArg (fun z=>z.2.1) (Zg h),congrArg (fun z=>z.2.2) (Zg h)⟩
 have HR0:=Za hr0_1;have HN0:=Za hl
 have hu:=Tryz.underlying112
 have hu2:=Tryz.underlying110
 have hu3:=Tryz.underlying54
 have hu4:=Tryz.underlying156
 clear hr0_1 hc0_1 h hl
 go_enter Tryz.func174,Tryz.ntmps174
 go_wp2_with (first|((with_reducible refine ZF (N:=1) rfl ?_);refine ZG ?hg (N:=1) ?hd (cs:=#[.int .i64 a0_0,.slice A0_1 l0_1.length c0_1]) (t:=54) ?hr ?_;(case hd=>rfl);(case hg=>rfl);(case hr=>first|(go_simp;done)|(go_simp;rfl));intro g1 hg w1 hbox hb;have B1:=Za hbox;have HB:=Za hb;have k0:w1.cell? ⟨g1,0,none⟩=some (.int .i64 a0_0):=(Zm B1.out 0).trans rfl;clear hbox hb hg)|((with_reducible refine ZF (N:=2) rfl ?_);refine ZG ?hg (N:=2) ?hd (cs:=#[.int .i64 0,.slice none 0 0]) (t:=156) ?hr ?_;(case hd=>rfl);(case hg=>rfl);(case hr=>first|(go_simp;done)|(go_simp;rfl));intro g2 hg w2 hbox hb;have G2:=Za (show w.heap.size≤g2 by rw[hg];exact HB.out.size);have B2:=Za hbox;replace B1:=Za (Zs B1.out hb);replace HB:=Za (Zr HB.out hb);clear k0;have k0:w2.cell? ⟨g1,0,none⟩=some (.int .i64 a0_0):=(Zm B1.out 0).trans rfl;clear hbox hb hg)|((with_reducible refine ZF (N:=4) rfl ?_);refine ZG ?hg (N:=4) ?hd (cs:=#[.int .i64 0,.slice none 0 0]) (t:=156) ?hr ?_;(case hd=>rfl);(case hg=>rfl);(case hr=>first|(go_simp;done)|(go_simp;rfl));intro g4 hg w4 hbox hb;have G4:=Za (show w.heap.size≤g4 by rw[hg];exact HB.out.size);have N24:=Za (show g2≠g4 by rw[hg];exact Nat.ne_of_lt (ZN B2.out));have B4:=Za hbox;replace B1:=Za (Zs B1.out hb);replace B2:=Za (Zs B2.out hb);replace HB:=Za (Zr HB.out hb);have I0:=Za (Z1.init (n:=a0_0) HB.out B2.out B4.out N24.out G2.out G4.out);have N1:=ZbF B1.out B4.out (by decide);have N1':=N1.symm;clear k0;have k1:w4.cell? ⟨g1,1,none⟩=some (.slice A0_1 l0_1.length c0_1):=(Zm B1.out 1).trans rfl;have c0:w4.cell? ⟨g4,0,none⟩=some (.int .i64 0):=(Zm B4.out 0).trans rfl;have c1:w4.cell? ⟨g4,1,none⟩=some (.slice none 0 0):=(Zm B4.out 1).trans rfl;have z0:=Zq B4.out 0;have z1:=Zq B4.out 1;clear hbox hb hg))
 clear k1 c0 c1 z0 z1 N1 N1' HB G2 G4 N24 B1 B2 B4
 go_loopg [5,14] l0_1.length (fun gg s5 s14 wr=>∃(i:Nat) (E:List S184) (M:List Int) (uE:Value),s14=.int .i64 (i:Int)∧Aside0 (i≤l0_1.length)∧Aside0 (l0_1.length - i≤gg)∧Aside0 (ZcE l0_1 i E M)∧Aside0 (Z1.Inv w wr a0_0 g2 g4 uE uE s5 E M))
 case atStart=>exact⟨0,[],[],_,rfl,⟨Nat.zero_le _⟩,⟨by omega⟩,⟨ZcE.zero _⟩,I0⟩
 case round=>
 clear I0
 obtain⟨i,E,M,uE,rfl,HK,HG,HE,HI⟩:=hrel
 by_cases hlt:i<l0_1.length
 ·have hltz:(i:Int)<(l0_1.length:Int):=by omega
  obtain⟨ad,e1,hx0,hx1,hx2,hx3⟩:=Ze7 (Zb HR0.out HI.out.hb) (i:Int) (by omega) hltz
  cases e1
  have hrd:(Zcf l0_1 (i:Int))=l0_1.getD i z112:=by unfold Zcf;rw[Int.toNat_natCast]
  rw[hrd] at hx0 hx1 hx2 hx3
  rw[Int.toNat_natCast] at hx0 hx1 hx2 hx3
  obtain⟨⟨f0,f1,⟨f2,f3⟩⟩,hx⟩:∃x,l0_1.getD i z112=x:=⟨_,rfl⟩
  have D:=HE.out.next hlt hx
  rw[hx] at hx0 hx1 hx2 hx3
  dsimp only at hx0 hx1 hx2 hx3
  have hlta:=Zc wr _ hx0
  have LE:=Za (show E.length≤2097152∧M.length≤2097152 from⟨by have:=HE.out.1;have:=HN0.out;omega,by have:=HE.out.2.1;have:=HN0.out;omega⟩)
  have J0:=Za (HI.out.below (Zo (Below.refl wr.heap.size wr) (.cells #[.int .i64 f0,.int .i64 f1,.int .i64 f2,.int .i64 f3] 112)))
  have BX0:=Za (Zcp wr (.cells #[.int .i64 f0,.int .i64 f1,.int .i64 f2,.int .i64 f3] 112))
  have NX:=ZbF J0.out.b4 BX0.out (by decide)
  have NX':=NX.symm
  have m4:wr.cell? ⟨g4,1,none⟩=some uE:=(Zm HI.out.b4 1).trans rfl
  have lt4:=ZN HI.out.b4
  clear hrd hx HE
  cases b1:(f3 != (1000000:Int)) with
  | false=>
   cases b2:(f2 != (-1000000:Int)) with
   | false=>
    rw[b1,b2] at D
    simp only[Bool.false_eq_true,if_true,if_false,List.append_nil] at D
    have HD:=Za D;clear D
    go_wp2
    go_roundg (l0_1.length - (i+1))
    case measure=>have:=HG.out;omega
    case rel=>exact⟨i+1,_,_,_,by rw[ZO hlt (by have:=HN0.out;omega)],⟨by omega⟩,⟨by omega⟩,HD,⟨J0.out⟩⟩
   | true=>
    rw[b1,b2] at D
    simp only[Bool.false_eq_true,if_true,if_false,List.append_nil] at D
    obtain⟨E1,hE_⟩:∃L_:List S184,L_=E ++ [⟨f1,f0,wrap64 (-f2)⟩]:=⟨_,rfl⟩
    rw[← hE_] at D
    have NE1:=Za hE_;clear hE_;have HD:=Za D;clear D
    go_wp2_with (first|((with_reducible refine ZU (b:=.append) (xs:=#[.tmp 45,.tmp 55]) rfl ?_);at_builtin;refine Kd.R_append k184 (w0:=w) w.heap.size rfl (.tmp 45) (.tmp 55) 154 184 (.agg #[(.int .i64 0),(.int .i64 0),(.int .i64 0)]) 24 rfl Tryz.underlying154 Zdf rfl (by decide) (by omega) uE E ⟨f1,f0,wrap64 (-f2)⟩ [.int .i64 f1,.int .i64 f0,.int .i64 (wrap64 (-f2))] (fun _=>True) (fun _=>False) rfl (by first|(go_simp;done)|(go_simp;rfl)) ?aP (fun _ hk=>hk.elim) ?aF ?aO ?aB ?aS ?aL ?_;(case aP=>exact Zc3 _ _ _ (⟨f1,f0,wrap64 (-f2)⟩:S184));(case aB=>exact J0.out.hb);(case aF=>exact fun _ _=>trivial);(case aO=>exact J0.out.re);(case aS=>exact J0.out.hb.size);(case aL=>have:=LE.out.1;omega);intro v1 w1 ho hb hg hat;rw[← NE1.out] at ho;obtain⟨j_,x_⟩:=Z1.Inv.edge J0.out BX0.out ho hb hg;obtain⟨A1,c1,e_⟩:=Kd.R_slice ho;subst e_;have J1:=Za j_;have BX1:=Za x_;clear j_ x_;clear ho hb hg hat)|((with_reducible refine ZU (b:=.append) (xs:=#[.tmp 57,.tmp 59]) rfl ?_);at_builtin;refine Kd.R_append (Kd.int .i64) (w0:=w) w.heap.size rfl (.tmp 57) (.tmp 59) 37 3 (.int .i64 0) 8 rfl Tryz.underlying37 Zbl rfl (by decide) (by omega) u5 M (i:Int) [.int .i64 (i:Int)] (fun _=>True) (fun _=>False) rfl rfl ?aP (fun _ hk=>hk.elim) ?aF ?aO ?aB ?aS ?aL ?_;(case aP=>exact rfl);(case aB=>exact J1.out.hb);(case aF=>exact fun _ _=>trivial);(case aO=>exact J1.out.rm);(case aS=>exact J1.out.hb.size);(case aL=>have:=LE.out.2;omega);intro v2 w2 ho hb hg hat;obtain⟨⟨j_,x_⟩,⟨q1,q2,q3⟩,y_⟩:=Z1.Inv.idx J1.out BX1.out ho hb hg;have J2:=Za j_;have BX2:=Za x_;clear j_ x_ y_;clear ho hb hg hat))
    go_roundg (l0_1.length - (i+1))
    case measure=>have:=HG.out;omega
    case rel=>exact⟨i+1,_,_,_,by rw[ZO hlt (by have:=HN0.out;omega)],⟨by omega⟩,⟨by omega⟩,HD,⟨J2.out⟩⟩
  | true=>
   cases b2:(f2 != (-1000000:Int)) with
   | false=>
    rw[b1,b2] at D
    simp only[Bool.false_eq_true,if_true,if_false,List.append_nil] at D
    obtain⟨E1,hE_⟩:∃L_:List S184,L_=E ++ [⟨f0,f1,f3⟩]:=⟨_,rfl⟩
    rw[← hE_] at D
    have NE1:=Za hE_;clear hE_;have HD:=Za D;clear D
    go_wp2_with (first|((with_reducible refine ZU (b:=.append) (xs:=#[.tmp 24,.tmp 33]) rfl ?_);at_builtin;refine Kd.R_append k184 (w0:=w) w.heap.size rfl (.tmp 24) (.tmp 33) 154 184 (.agg #[(.int .i64 0),(.int .i64 0),(.int .i64 0)]) 24 rfl Tryz.underlying154 Zdf rfl (by decide) (by omega) uE E ⟨f0,f1,f3⟩ [.int .i64 f0,.int .i64 f1,.int .i64 f3] (fun _=>True) (fun _=>False) rfl (by first|(go_simp;done)|(go_simp;rfl)) ?aP (fun _ hk=>hk.elim) ?aF ?aO ?aB ?aS ?aL ?_;(case aP=>exact Zc3 _ _ _ (⟨f0,f1,f3⟩:S184));(case aB=>exact J0.out.hb);(case aF=>exact fun _ _=>trivial);(case aO=>exact J0.out.re);(case aS=>exact J0.out.hb.size);(case aL=>have:=LE.out.1;omega);intro v1 w1 ho hb hg hat;rw[← NE1.out] at ho;obtain⟨j_,x_⟩:=Z1.Inv.edge J0.out BX0.out ho hb hg;obtain⟨A1,c1,e_⟩:=Kd.R_slice ho;subst e_;have J1:=Za j_;have BX1:=Za x_;clear j_ x_;clear ho hb hg hat)|((with_reducible refine ZU (b:=.append) (xs:=#[.tmp 35,.tmp 37]) rfl ?_);at_builtin;refine Kd.R_append (Kd.int .i64) (w0:=w) w.heap.size rfl (.tmp 35) (.tmp 37) 37 3 (.int .i64 0) 8 rfl Tryz.underlying37 Zbl rfl (by decide) (by omega) u5 M (i:Int) [.int .i64 (i:Int)] (fun _=>True) (fun _=>False) rfl rfl ?aP (fun _ hk=>hk.elim) ?aF ?aO ?aB ?aS ?aL ?_;(case aP=>exact rfl);(case aB=>exact J1.out.hb);(case aF=>exact fun _ _=>trivial);(case aO=>exact J1.out.rm);(case aS=>exact J1.out.hb.size);(case aL=>have:=LE.out.2;omega);intro v2 w2 ho hb hg hat;obtain⟨⟨j_,x_⟩,⟨q1,q2,q3⟩,y_⟩:=Z1.Inv.idx J1.out BX1.out ho hb hg;have J2:=Za j_;have BX2:=Za x_;have k0:w2.cell? ⟨wr.heap.size,0,none⟩=some (.int .i64 f0):=(Zm y_ 0).trans rfl;have k1:w2.cell? ⟨wr.heap.size,1,none⟩=some (.int .i64 f1):=(Zm y_ 1).trans rfl;have k2:w2.cell? ⟨wr.heap.size,2,none⟩=some (.int .i64 f2):=(Zm y_ 2).trans rfl;clear j_ x_ y_;clear ho hb hg hat))
    go_roundg (l0_1.length - (i+1))
    case measure=>have:=HG.out;omega
    case rel=>exact⟨i+1,_,_,_,by rw[ZO hlt (by have:=HN0.out;omega)],⟨by omega⟩,⟨by omega⟩,HD,⟨J2.out⟩⟩
   | true=>
    rw[b1,b2] at D
    simp only[Bool.false_eq_true,if_true,if_false,List.append_nil] at D
    obtain⟨E1,hE_⟩:∃L_:List S184,L_=E ++ [⟨f0,f1,f3⟩]:=⟨_,rfl⟩
    rw[← hE_] at D
    have NE1:=Za hE_;clear hE_
    obtain⟨E3,hE_⟩:∃L_:List S184,L_=E1 ++ [⟨f1,f0,wrap64 (-f2)⟩]:=⟨_,rfl⟩
    rw[← hE_] at D
    have NE3:=Za hE_;clear hE_;have HD:=Za D;clear D
    go_wp2_with (first|((with_reducible refine ZU (b:=.append) (xs:=#[.tmp 24,.tmp 33]) rfl ?_);at_builtin;refine Kd.R_append k184 (w0:=w) w.heap.size rfl (.tmp 24) (.tmp 33) 154 184 (.agg #[(.int .i64 0),(.int .i64 0),(.int .i64 0)]) 24 rfl Tryz.underlying154 Zdf rfl (by decide) (by omega) uE E ⟨f0,f1,f3⟩ [.int .i64 f0,.int .i64 f1,.int .i64 f3] (fun _=>True) (fun _=>False) rfl (by first|(go_simp;done)|(go_simp;rfl)) ?aP (fun _ hk=>hk.elim) ?aF ?aO ?aB ?aS ?aL ?_;(case aP=>exact Zc3 _ _ _ (⟨f0,f1,f3⟩:S184));(case aB=>exact J0.out.hb);(case aF=>exact fun _ _=>trivial);(case aO=>exact J0.out.re);(case aS=>exact J0.out.hb.size);(case aL=>have:=LE.out.1;omega);intro v1 w1 ho hb hg hat;rw[← NE1.out] at ho;obtain⟨j_,x_⟩:=Z1.Inv.edge J0.out BX0.out ho hb hg;obtain⟨A1,c1,e_⟩:=Kd.R_slice ho;subst e_;have J1:=Za j_;have BX1:=Za x_;clear j_ x_;clear ho hb hg hat)|((with_reducible refine ZU (b:=.append) (xs:=#[.tmp 35,.tmp 37]) rfl ?_);at_builtin;refine Kd.R_append (Kd.int .i64) (w0:=w) w.heap.size rfl (.tmp 35) (.tmp 37) 37 3 (.int .i64 0) 8 rfl Tryz.underlying37 Zbl rfl (by decide) (by omega) u5 M (i:Int) [.int .i64 (i:Int)] (fun _=>True) (fun _=>False) rfl rfl ?aP (fun _ hk=>hk.elim) ?aF ?aO ?aB ?aS ?aL ?_;(case aP=>exact rfl);(case aB=>exact J1.out.hb);(case aF=>exact fun _ _=>trivial);(case aO=>exact J1.out.rm);(case aS=>exact J1.out.hb.size);(case aL=>have:=LE.out.2;omega);intro v2 w2 ho hb hg hat;obtain⟨⟨j_,x_⟩,⟨q1,q2,q3⟩,y_⟩:=Z1.Inv.idx J1.out BX1.out ho hb hg;have J2:=Za j_;have BX2:=Za x_;have k0:w2.cell? ⟨wr.heap.size,0,none⟩=some (.int .i64 f0):=(Zm y_ 0).trans rfl;have k1:w2.cell? ⟨wr.heap.size,1,none⟩=some (.int .i64 f1):=(Zm y_ 1).trans rfl;have k2:w2.cell? ⟨wr.heap.size,2,none⟩=some (.int .i64 f2):=(Zm y_ 2).trans rfl;clear j_ x_ y_;clear ho hb hg hat)|((with_reducible refine ZU (b:=.append) (xs:=#[.tmp 45,.tmp 55]) rfl ?_);at_builtin;refine Kd.R_append k184 (w0:=w) w.heap.size rfl (.tmp 45) (.tmp 55) 154 184 (.agg #[(.int .i64 0),(.int .i64 0),(.int .i64 0)]) 24 rfl Tryz.underlying154 Zdf rfl (by decide) (by omega) (.slice A1 E1.length c1) E1 ⟨f1,f0,wrap64 (-f2)⟩ [.int .i64 f1,.int .i64 f0,.int .i64 (wrap64 (-f2))] (fun _=>True) (fun _=>False) rfl (by first|(go_simp;done)|(go_simp;rfl)) ?aP (fun _ hk=>hk.elim) ?aF ?aO ?aB ?aS ?aL ?_;(case aP=>exact Zc3 _ _ _ (⟨f1,f0,wrap64 (-f2)⟩:S184));(case aB=>exact J2.out.hb);(case aF=>exact fun _ _=>trivial);(case aO=>exact J2.out.re);(case aS=>exact J2.out.hb.size);(case aL=>have:=LE.out.1;have:=NE1.out;subst this;simp only[List.length_append,List.length_singleton];omega);intro v3 w3 ho hb hg hat;rw[← NE3.out] at ho;obtain⟨j_,x_⟩:=Z1.Inv.edge J2.out BX2.out ho hb hg;obtain⟨A3,c3,e_⟩:=Kd.R_slice ho;subst e_;have J3:=Za j_;have BX3:=Za x_;clear j_ x_;clear ho hb hg hat)|((with_reducible refine ZU (b:=.append) (xs:=#[.tmp 57,.tmp 59]) rfl ?_);at_builtin;refine Kd.R_append (Kd.int .i64) (w0:=w) w.heap.size rfl (.tmp 57) (.tmp 59) 37 3 (.int .i64 0) 8 rfl Tryz.underlying37 Zbl rfl (by decide) (by omega) v2 (M ++ [(i:Int)]) (i:Int) [.int .i64 (i:Int)] (fun _=>True) (fun _=>False) rfl rfl ?aP (fun _ hk=>hk.elim) ?aF ?aO ?aB ?aS ?aL ?_;(case aP=>exact rfl);(case aB=>exact J3.out.hb);(case aF=>exact fun _ _=>trivial);(case aO=>exact J3.out.rm);(case aS=>exact J3.out.hb.size);(case aL=>have:=LE.out.2;simp only[List.length_append,List.length_singleton];omega);intro v4 w4 ho hb hg hat;obtain⟨⟨j_,x_⟩,⟨q1,q2,q3⟩,y_⟩:=Z1.Inv.idx J3.out BX3.out ho hb hg;have J4:=Za j_;have BX4:=Za x_;clear j_ x_ y_;clear ho hb hg hat))
    go_roundg (l0_1.length - (i+1))
    case measure=>have:=HG.out;omega
    case rel=>exact⟨i+1,_,_,_,by rw[ZO hlt (by have:=HN0.out;omega)],⟨by omega⟩,⟨by omega⟩,HD,⟨J4.out⟩⟩
 ·obtain rfl:i=l0_1.length:=by have:=HK.out;omega
  obtain⟨rfl,rfl⟩:=HE.out.all
  clear HE hlt
  obtain⟨A_,c_,e_⟩:=Kd.R_slice HI.out.re
  subst e_
  have m0:wr.cell? ⟨g4,0,none⟩=some (.int .i64 a0_0):=(Zm HI.out.b4 0).trans rfl
  have m1:wr.cell? ⟨g4,1,none⟩=some (.slice A_ (ZbN l0_1).length c_):=(Zm HI.out.b4 1).trans rfl
  have z0:wr.cell? ⟨g2,0,none⟩=some (.int .i64 0):=(Zm HI.out.b2 0).trans rfl
  have z1:wr.cell? ⟨g2,1,none⟩=some (.slice none 0 0):=(Zm HI.out.b2 1).trans rfl
  have y0:=Zq HI.out.b2 0
  have y1:=Zq HI.out.b2 1
  go_wp2
  refine bodyPost_ret (Zbq rfl _ _ g2 156 #[.int .i64 a0_0,.slice A_ (ZbN l0_1).length c_] (0,0) _ rfl (ZR (cs:=#[.int .i64 a0_0,.slice none 0 0]) (ZR (cs:=#[.int .i64 0,.slice none 0 0]) HI.out.b2 0 _ rfl) 1 _ rfl) Tryz.underlying156 rfl (by kernel_rfl)) rfl ?_
  exact⟨_,_,rfl,Kd.R_mono (Kd.R_far (p:=⟨g2,1,none⟩) (Kd.R_far (p:=⟨g2,0,none⟩) (Kd.R_types HI.out.re HI.out.b2 (by decide)) (fun _ hk=>hk.2) _) (fun _ hk=>hk.2) _) (fun _ _=>trivial),Kd.R_mono (Kd.R_far (p:=⟨g2,1,none⟩) (Kd.R_far (p:=⟨g2,0,none⟩) (Kd.R_types HI.out.rm HI.out.b2 (by decide)) (fun _ hk=>hk.2) _) (fun _ hk=>hk.2) _) (fun _ _=>trivial),Zt (Zt HI.out.hb HI.out.g2b) HI.out.g2b⟩
end Go.Proofs.YtoeimopgoaffcaaGreatDoor.Pr
