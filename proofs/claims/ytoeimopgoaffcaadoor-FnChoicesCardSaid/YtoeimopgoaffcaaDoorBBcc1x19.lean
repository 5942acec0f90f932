/- By a program of this session. -/
import Derived.Test.YtoeimopgoaffcaaDoorBBcc1x18
namespace Go.Proofs.YtoeimopgoaffcaaDoor.Pr
open RowKit YtoeimopgoaffcaaDoorW.PrintWords YtoeimopgoaffcaaDoorW.PrintLast YtoeimopgoaffcaaDoorW.PrintMore
attribute [local go_sem] Zat Zar ZaG ZaF Zal Zak Zas Zaq
set_option linter.unusedVariables false
set_option linter.unusedSimpArgs false
open Ni
def ZZ.f (_k:Nat) (a0_0:Int) (l0_1:List (S113)):Option (Int×List S121×List Int):=if l0_1.length≤1048576 then some (a0_0,ZbS l0_1,Zcz 0 l0_1) else none
structure ZZ.Inv (w W:World) (n:Int) (g2 g4:Nat) (uB uE uM:Value) (E:List S121) (M:List Int):Prop where
 re:Kd.R k121 121 W w.heap.size (fun _=>True) uE E
 rm:Kd.R (Kd.int .i64) 3 W w.heap.size (fun _=>True) uM M
 hb:Below w.heap.size w W
 b2:W.heap[g2]? = some (Obj.cells #[.int .i64 0,.slice none 0 0] 91 (0,0))
 b4:W.heap[g4]? = some (Obj.cells #[.int .i64 n,uB] 91 (0,0))
 n24:g2≠g4
 g2b:w.heap.size≤g2
 g4b:w.heap.size≤g4
section
variable {w W w1:World} {n:Int} {g2 g4 g:Nat} {uB uE uM v1:Value} {E E1:List S121} {M M1:List Int} {cs:Array Value}
theorem ZZ.Inv.below (h:ZZ.Inv w W n g2 g4 uB uE uM E M) (hb:Below W.heap.size W w1):ZZ.Inv w w1 n g2 g4 uB uE uM E M:=
 ⟨Kd.R_below h.re hb,Kd.R_below h.rm hb,Zx h.hb hb,Zw h.b2 hb,Zw h.b4 hb,h.n24,h.g2b,h.g4b⟩
theorem ZZ.Inv.edge (h:ZZ.Inv w W n g2 g4 uB uE uM E M) (hx:W.heap[g]? = some (Obj.cells cs 113 (0,0))) (ho:Kd.R k121 121 w1 w.heap.size (fun _=>True) v1 E1) (hb:Below w.heap.size w w1) (hg:W.grownBy w1 uE.ownBlock) :
  ZZ.Inv w w1 n g2 g4 uB v1 uM E1 M∧w1.heap[g]? = some (Obj.cells cs 113 (0,0)):=⟨⟨ho,Kd.R_over h.rm h.re (by decide) hg,hb,Zao h.b2 hg (Kd.R_ne h.re h.b2 (by decide)),Zao h.b4 hg (Kd.R_ne h.re h.b4 (by decide)),h.n24,h.g2b,h.g4b⟩,Zao hx hg (Kd.R_ne h.re hx (by decide))⟩
theorem ZZ.Inv.idx (h:ZZ.Inv w W n g2 g4 uB uE uM E M) (hx:W.heap[g]? = some (Obj.cells cs 113 (0,0))) (ho:Kd.R (Kd.int .i64) 3 w1 w.heap.size (fun _=>True) v1 M1) (hb:Below w.heap.size w w1) (hg:W.grownBy w1 uM.ownBlock) :
  (ZZ.Inv w (w1.setCell ⟨g4,1,none⟩ uE) n g2 g4 uE uE v1 E M1∧(w1.setCell ⟨g4,1,none⟩ uE).heap[g]? = some (Obj.cells cs 113 (0,0)))∧(w1.cell? ⟨g4,1,none⟩=some uB∧w1.frozen? ⟨g4,1,none⟩=false∧g<w1.heap.size)∧w1.heap[g]? = some (Obj.cells cs 113 (0,0)):=by
 have c2:=Zao h.b2 hg (Kd.R_ne h.rm h.b2 (by decide))
 have c4:=Zao h.b4 hg (Kd.R_ne h.rm h.b4 (by decide))
 have cx:=Zao hx hg (Kd.R_ne h.rm hx (by decide))
 have re:=Kd.R_over h.re h.rm (by decide) hg
 exact⟨⟨⟨Kd.R_mono (Kd.R_far (p:=⟨g4,1,none⟩) (Kd.R_types re c4 (by decide)) (fun _ hk=>hk.2) uE) (fun _ _=>trivial),Kd.R_mono (Kd.R_far (p:=⟨g4,1,none⟩) (Kd.R_types ho c4 (by decide)) (fun _ hk=>hk.2) uE) (fun _ _=>trivial),Zq hb h.g4b,ZF c2 (p:=⟨g4,1,none⟩) h.n24 uE,ZO (cs:=#[.int .i64 n,uB]) c4 1 uE rfl,h.n24,h.g2b,h.g4b⟩,ZF cx (p:=⟨g4,1,none⟩) (Zbv cx c4 (by decide)) uE⟩,⟨(Zo c4 1).trans rfl,Zu c4 1,ZR cx⟩,cx⟩
theorem ZZ.init (HB:Below w.heap.size w W) (B2:W.heap[g2]? = some (Obj.cells #[.int .i64 0,.slice none 0 0] 91 (0,0))) (B4:W.heap[g4]? = some (Obj.cells #[.int .i64 0,.slice none 0 0] 91 (0,0))) (N:g2≠g4) (G2:w.heap.size≤g2) (G4:w.heap.size≤g4) :
  ZZ.Inv w ((W.setCell ⟨g4,0,none⟩ (.int .i64 n)).setCell ⟨g4,1,none⟩ (.slice none 0 0)) n g2 g4 (.slice none 0 0) (.slice none 0 0) (.slice none 0 0) [] []:=
 ⟨Kd.R_nil _ _ _ _ _,Kd.R_nil _ _ _ _ _,Zq (Zq HB G4) G4,ZF (ZF B2 (p:=⟨g4,0,none⟩) N _) (p:=⟨g4,1,none⟩) N _,ZO (cs:=#[.int .i64 n,.slice none 0 0]) (ZO (cs:=#[.int .i64 0,.slice none 0 0]) B4 0 _ rfl) 1 _ rfl,N,G2,G4⟩
end
set_option maxHeartbeats 8000000 in
set_option maxRecDepth 100000 in
theorem ZZ.calls (k:Nat) (a0_0:Int) (A0_1:Option Addr) (c0_1:Nat) (l0_1:List (S113)) (r1:Int) (r2:List S121) (r3:List Int) (w:World) (hr0_1:Kd.C k113 w A0_1 l0_1.length l0_1) (hc0_1:l0_1.length≤c0_1) (h:ZZ.f k a0_0 l0_1=some (r1,r2,r3)) :
  Calls Tryd.prog 87 #[.agg #[.int .i64 a0_0,.slice A0_1 l0_1.length c0_1]] w fun e w'=>∃v1_ v2_:Value,e=.returned (.tuple #[.agg #[.int .i64 r1,v1_],v2_])∧Kd.R k121 121 w' w.heap.size (fun _=>True) v1_ r2∧Kd.R (Kd.int .i64) 3 w' w.heap.size (fun _=>True) v2_ r3∧Below w.heap.size w w':=by
 unfold ZZ.f at h
 by_cases hl:l0_1.length≤1048576
 case neg=>rw[if_neg hl] at h;exact absurd h (by simp)
 rw[if_pos hl] at h
 obtain⟨rfl,rfl,rfl⟩:a0_0=r1∧ZbS l0_1=r2∧Zcz 0 l0_1=r3:=⟨congrArg Prod.fst (Zg h),congrArg (fun z=>z.2.1) (Zg h),congrArg (fun z=>z.2.2) (Zg h)⟩
 have HR0:=Za hr0_1;have HN0:=Za hl
 have hu:=Tryd.underlying113
 have hu2:=Tryd.underlying111
 have hu3:=Tryd.underlying50
 have hu4:=Tryd.underlying91
 clear hr0_1 hc0_1 h hl
 go_enter Tryd.func87,Tryd.ntmps87
 go_wp2_with (first|((with_reducible refine ZK (N:=1) rfl ?_);refine ZN ?hg (N:=1) ?hd (cs:=#[.int .i64 a0_0,.slice A0_1 l0_1.length c0_1]) (t:=50) ?hr ?_;(case hd=>rfl);(case hg=>rfl);(case hr=>first|(go_simp;done)|(go_simp;rfl));intro g1 hg w1 hbox hb;have B1:=Za hbox;have HB:=Za hb;have k0:w1.cell? ⟨g1,0,none⟩=some (.int .i64 a0_0):=(Zo B1.out 0).trans rfl;clear hbox hb hg)|((with_reducible refine ZK (N:=2) rfl ?_);refine ZN ?hg (N:=2) ?hd (cs:=#[.int .i64 0,.slice none 0 0]) (t:=91) ?hr ?_;(case hd=>rfl);(case hg=>rfl);(case hr=>first|(go_simp;done)|(go_simp;rfl));intro g2 hg w2 hbox hb;have G2:=Za (show w.heap.size≤g2 by rw[hg];exact HB.out.size);have B2:=Za hbox;replace B1:=Za (Zw B1.out hb);replace HB:=Za (Zx HB.out hb);clear k0;have k0:w2.cell? ⟨g1,0,none⟩=some (.int .i64 a0_0):=(Zo B1.out 0).trans rfl;clear hbox hb hg)|((with_reducible refine ZK (N:=4) rfl ?_);refine ZN ?hg (N:=4) ?hd (cs:=#[.int .i64 0,.slice none 0 0]) (t:=91) ?hr ?_;(case hd=>rfl);(case hg=>rfl);(case hr=>first|(go_simp;done)|(go_simp;rfl));intro g4 hg w4 hbox hb;have G4:=Za (show w.heap.size≤g4 by rw[hg];exact HB.out.size);have N24:=Za (show g2≠g4 by rw[hg];exact Nat.ne_of_lt (ZR B2.out));have B4:=Za hbox;replace B1:=Za (Zw B1.out hb);replace B2:=Za (Zw B2.out hb);replace HB:=Za (Zx HB.out hb);have I0:=Za (ZZ.init (n:=a0_0) HB.out B2.out B4.out N24.out G2.out G4.out);have N1:=Zbv B1.out B4.out (by decide);have N1':=N1.symm;clear k0;have k1:w4.cell? ⟨g1,1,none⟩=some (.slice A0_1 l0_1.length c0_1):=(Zo B1.out 1).trans rfl;have c0:w4.cell? ⟨g4,0,none⟩=some (.int .i64 0):=(Zo B4.out 0).trans rfl;have c1:w4.cell? ⟨g4,1,none⟩=some (.slice none 0 0):=(Zo B4.out 1).trans rfl;have z0:=Zu B4.out 0;have z1:=Zu B4.out 1;clear hbox hb hg))
 clear k1 c0 c1 z0 z1 N1 N1' HB G2 G4 N24 B1 B2 B4
 go_loopg [5,14] l0_1.length (fun gg s5 s14 wr=>∃(i:Nat) (E:List S121) (M:List Int) (uE:Value),s14=.int .i64 (i:Int)∧Aside0 (i≤l0_1.length)∧Aside0 (l0_1.length - i≤gg)∧Aside0 (Zb5 l0_1 i E M)∧Aside0 (ZZ.Inv w wr a0_0 g2 g4 uE uE s5 E M))
 case atStart=>exact⟨0,[],[],_,rfl,⟨Nat.zero_le _⟩,⟨by omega⟩,⟨Zb5.zero _⟩,I0⟩
 case round=>
 clear I0
 obtain⟨i,E,M,uE,rfl,HK,HG,HE,HI⟩:=hrel
 by_cases hlt:i<l0_1.length
 ·have hltz:(i:Int)<(l0_1.length:Int):=by omega
  obtain⟨ad,e1,hx0,hx1,hx2,hx3⟩:=at_T113 (Zb HR0.out HI.out.hb) (i:Int) (by omega) hltz
  cases e1
  have hrd:(Zb2 l0_1 (i:Int))=l0_1.getD i z113:=by unfold Zb2;rw[Int.toNat_natCast]
  rw[hrd] at hx0 hx1 hx2 hx3
  rw[Int.toNat_natCast] at hx0 hx1 hx2 hx3
  obtain⟨⟨f0,f1,⟨f2,f3⟩⟩,hx⟩:∃x,l0_1.getD i z113=x:=⟨_,rfl⟩
  have D:=HE.out.next hlt hx
  rw[hx] at hx0 hx1 hx2 hx3
  dsimp only at hx0 hx1 hx2 hx3
  have hlta:=Zc wr _ hx0
  have LE:=Za (show E.length≤2097152∧M.length≤2097152 from⟨by have:=HE.out.1;have:=HN0.out;omega,by have:=HE.out.2.1;have:=HN0.out;omega⟩)
  have J0:=Za (HI.out.below (Zn (Below.refl wr.heap.size wr) (.cells #[.int .i64 f0,.int .i64 f1,.int .i64 f2,.int .i64 f3] 113)))
  have BX0:=Za (Zcr wr (.cells #[.int .i64 f0,.int .i64 f1,.int .i64 f2,.int .i64 f3] 113))
  have NX:=Zbv J0.out.b4 BX0.out (by decide)
  have NX':=NX.symm
  have m4:wr.cell? ⟨g4,1,none⟩=some uE:=(Zo HI.out.b4 1).trans rfl
  have lt4:=ZR HI.out.b4
  clear hrd hx HE
  cases b1:(f3 != (1000000:Int)) with
  | false=>
   cases b2:(f2 != (-1000000:Int)) with
   | false=>
    rw[b1,b2] at D
    simp only[Bool.false_eq_true,if_true,if_false,List.append_nil] at D
    have HD:=Za D;clear D
    go_wp2
    go_roundg (l0_1.length - (i+1))
    case measure=>have:=HG.out;omega
    case rel=>exact⟨i+1,_,_,_,by rw[Z9 hlt (by have:=HN0.out;omega)],⟨by omega⟩,⟨by omega⟩,HD,⟨J0.out⟩⟩
   | true=>
    rw[b1,b2] at D
    simp only[Bool.false_eq_true,if_true,if_false,List.append_nil] at D
    obtain⟨E1,hE_⟩:∃L_:List S121,L_=E ++ [⟨f1,f0,wrap64 (-f2)⟩]:=⟨_,rfl⟩
    rw[← hE_] at D
    have NE1:=Za hE_;clear hE_;have HD:=Za D;clear D
    go_wp2_with (first|((with_reducible refine Zax (b:=.append) (xs:=#[.tmp 45,.tmp 55]) rfl ?_);at_builtin;refine Kd.R_append k121 (w0:=w) w.heap.size rfl (.tmp 45) (.tmp 55) 89 121 (.agg #[(.int .i64 0),(.int .i64 0),(.int .i64 0)]) 24 rfl Tryd.underlying89 ZdN rfl (by decide) (by omega) uE E ⟨f1,f0,wrap64 (-f2)⟩ [.int .i64 f1,.int .i64 f0,.int .i64 (wrap64 (-f2))] (fun _=>True) (fun _=>False) rfl (by first|(go_simp;done)|(go_simp;rfl)) ?aP (fun _ hk=>hk.elim) ?aF ?aO ?aB ?aS ?aL ?_;(case aP=>exact Zdg _ _ _ (⟨f1,f0,wrap64 (-f2)⟩:S121));(case aB=>exact J0.out.hb);(case aF=>exact fun _ _=>trivial);(case aO=>exact J0.out.re);(case aS=>exact J0.out.hb.size);(case aL=>have:=LE.out.1;omega);intro v1 w1 ho hb hg hat;rw[← NE1.out] at ho;obtain⟨j_,x_⟩:=ZZ.Inv.edge J0.out BX0.out ho hb hg;obtain⟨A1,c1,e_⟩:=Kd.R_slice ho;subst e_;have J1:=Za j_;have BX1:=Za x_;clear j_ x_;clear ho hb hg hat)|((with_reducible refine Zax (b:=.append) (xs:=#[.tmp 57,.tmp 59]) rfl ?_);at_builtin;refine Kd.R_append (Kd.int .i64) (w0:=w) w.heap.size rfl (.tmp 57) (.tmp 59) 23 3 (.int .i64 0) 8 rfl Tryd.underlying23 ZbN rfl (by decide) (by omega) u5 M (i:Int) [.int .i64 (i:Int)] (fun _=>True) (fun _=>False) rfl rfl ?aP (fun _ hk=>hk.elim) ?aF ?aO ?aB ?aS ?aL ?_;(case aP=>exact rfl);(case aB=>exact J1.out.hb);(case aF=>exact fun _ _=>trivial);(case aO=>exact J1.out.rm);(case aS=>exact J1.out.hb.size);(case aL=>have:=LE.out.2;omega);intro v2 w2 ho hb hg hat;obtain⟨⟨j_,x_⟩,⟨q1,q2,q3⟩,y_⟩:=ZZ.Inv.idx J1.out BX1.out ho hb hg;have J2:=Za j_;have BX2:=Za x_;clear j_ x_ y_;clear ho hb hg hat))
    go_roundg (l0_1.length - (i+1))
    case measure=>have:=HG.out;omega
    case rel=>exact⟨i+1,_,_,_,by rw[Z9 hlt (by have:=HN0.out;omega)],⟨by omega⟩,⟨by omega⟩,HD,⟨J2.out⟩⟩
  | true=>
   cases b2:(f2 != (-1000000:Int)) with
   | false=>
    rw[b1,b2] at D
    simp only[Bool.false_eq_true,if_true,if_false,List.append_nil] at D
    obtain⟨E1,hE_⟩:∃L_:List S121,L_=E ++ [⟨f0,f1,f3⟩]:=⟨_,rfl⟩
    rw[← hE_] at D
    have NE1:=Za hE_;clear hE_;have HD:=Za D;clear D
    go_wp2_with (first|((with_reducible refine Zax (b:=.append) (xs:=#[.tmp 24,.tmp 33]) rfl ?_);at_builtin;refine Kd.R_append k121 (w0:=w) w.heap.size rfl (.tmp 24) (.tmp 33) 89 121 (.agg #[(.int .i64 0),(.int .i64 0),(.int .i64 0)]) 24 rfl Tryd.underlying89 ZdN rfl (by decide) (by omega) uE E ⟨f0,f1,f3⟩ [.int .i64 f0,.int .i64 f1,.int .i64 f3] (fun _=>True) (fun _=>False) rfl (by first|(go_simp;done)|(go_simp;rfl)) ?aP (fun _ hk=>hk.elim) ?aF ?aO ?aB ?aS ?aL ?_;(case aP=>exact Zdg _ _ _ (⟨f0,f1,f3⟩:S121));(case aB=>exact J0.out.hb);(case aF=>exact fun _ _=>trivial);(case aO=>exact J0.out.re);(case aS=>exact J0.out.hb.size);(case aL=>have:=LE.out.1;omega);intro v1 w1 ho hb hg hat;rw[← NE1.out] at ho;obtain⟨j_,x_⟩:=ZZ.Inv.edge J0.out BX0.out ho hb hg;obtain⟨A1,c1,e_⟩:=Kd.R_slice ho;subst e_;have J1:=Za j_;have BX1:=Za x_;clear j_ x_;clear ho hb hg hat)|((with_reducible refine Zax (b:=.append) (xs:=#[.tmp 35,.tmp 37]) rfl ?_);at_builtin;refine Kd.R_append (Kd.int .i64) (w0:=w) w.heap.size rfl (.tmp 35) (.tmp 37) 23 3 (.int .i64 0) 8 rfl Tryd.underlying23 ZbN rfl (by decide) (by omega) u5 M (i:Int) [.int .i64 (i:Int)] (fun _=>True) (fun _=>False) rfl rfl ?aP (fun _ hk=>hk.elim) ?aF ?aO ?aB ?aS ?aL ?_;(case aP=>exact rfl);(case aB=>exact J1.out.hb);(case aF=>exact fun _ _=>trivial);(case aO=>exact J1.out.rm);(case aS=>exact J1.out.hb.size);(case aL=>have:=LE.out.2;omega);intro v2 w2 ho hb hg hat;obtain⟨⟨j_,x_⟩,⟨q1,q2,q3⟩,y_⟩:=ZZ.Inv.idx J1.out BX1.out ho hb hg;have J2:=Za j_;have BX2:=Za x_;have k0:w2.cell? ⟨wr.heap.size,0,none⟩=some (.int .i64 f0):=(Zo y_ 0).trans rfl;have k1:w2.cell? ⟨wr.heap.size,1,none⟩=some (.int .i64 f1):=(Zo y_ 1).trans rfl;have k2:w2.cell? ⟨wr.heap.size,2,none⟩=some (.int .i64 f2):=(Zo y_ 2).trans rfl;clear j_ x_ y_;clear ho hb hg hat))
    go_roundg (l0_1.length - (i+1))
    case measure=>have:=HG.out;omega
    case rel=>exact⟨i+1,_,_,_,by rw[Z9 hlt (by have:=HN0.out;omega)],⟨by omega⟩,⟨by omega⟩,HD,⟨J2.out⟩⟩
   | true=>
    rw[b1,b2] at D
    simp only[Bool.false_eq_true,if_true,if_false,List.append_nil] at D
    obtain⟨E1,hE_⟩:∃L_:List S121,L_=E ++ [⟨f0,f1,f3⟩]:=⟨_,rfl⟩
    rw[← hE_] at D
    have NE1:=Za hE_;clear hE_
    obtain⟨E3,hE_⟩:∃L_:List S121,L_=E1 ++ [⟨f1,f0,wrap64 (-f2)⟩]:=⟨_,rfl⟩
    rw[← hE_] at D
    have NE3:=Za hE_;clear hE_;have HD:=Za D;clear D
    go_wp2_with (first|((with_reducible refine Zax (b:=.append) (xs:=#[.tmp 24,.tmp 33]) rfl ?_);at_builtin;refine Kd.R_append k121 (w0:=w) w.heap.size rfl (.tmp 24) (.tmp 33) 89 121 (.agg #[(.int .i64 0),(.int .i64 0),(.int .i64 0)]) 24 rfl Tryd.underlying89 ZdN rfl (by decide) (by omega) uE E ⟨f0,f1,f3⟩ [.int .i64 f0,.int .i64 f1,.int .i64 f3] (fun _=>True) (fun _=>False) rfl (by first|(go_simp;done)|(go_simp;rfl)) ?aP (fun _ hk=>hk.elim) ?aF ?aO ?aB ?aS ?aL ?_;(case aP=>exact Zdg _ _ _ (⟨f0,f1,f3⟩:S121));(case aB=>exact J0.out.hb);(case aF=>exact fun _ _=>trivial);(case aO=>exact J0.out.re);(case aS=>exact J0.out.hb.size);(case aL=>have:=LE.out.1;omega);intro v1 w1 ho hb hg hat;rw[← NE1.out] at ho;obtain⟨j_,x_⟩:=ZZ.Inv.edge J0.out BX0.out ho hb hg;obtain⟨A1,c1,e_⟩:=Kd.R_slice ho;subst e_;have J1:=Za j_;have BX1:=Za x_;clear j_ x_;clear ho hb hg hat)|((with_reducible refine Zax (b:=.append) (xs:=#[.tmp 35,.tmp 37]) rfl ?_);at_builtin;refine Kd.R_append (Kd.int .i64) (w0:=w) w.heap.size rfl (.tmp 35) (.tmp 37) 23 3 (.int .i64 0) 8 rfl Tryd.underlying23 ZbN rfl (by decide) (by omega) u5 M (i:Int) [.int .i64 (i:Int)] (fun _=>True) (fun _=>False) rfl rfl ?aP (fun _ hk=>hk.elim) ?aF ?aO ?aB ?aS ?aL ?_;(case aP=>exact rfl);(case aB=>exact J1.out.hb);(case aF=>exact fun _ _=>trivial);(case aO=>exact J1.out.rm);(case aS=>exact J1.out.hb.size);(case aL=>have:=LE.out.2;omega);intro v2 w2 ho hb hg hat;obtain⟨⟨j_,x_⟩,⟨q1,q2,q3⟩,y_⟩:=ZZ.Inv.idx J1.out BX1.out ho hb hg;have J2:=Za j_;have BX2:=Za x_;have k0:w2.cell? ⟨wr.heap.size,0,none⟩=some (.int .i64 f0):=(Zo y_ 0).trans rfl;have k1:w2.cell? ⟨wr.heap.size,1,none⟩=some (.int .i64 f1):=(Zo y_ 1).trans rfl;have k2:w2.cell? ⟨wr.heap.size,2,none⟩=some (.int .i64 f2):=(Zo y_ 2).trans rfl;clear j_ x_ y_;clear ho hb hg hat)|((with_reducible refine Zax (b:=.append) (xs:=#[.tmp 45,.tmp 55]) rfl ?_);at_builtin;refine Kd.R_append k121 (w0:=w) w.heap.size rfl (.tmp 45) (.tmp 55) 89 121 (.agg #[(.int .i64 0),(.int .i64 0),(.int .i64 0)]) 24 rfl Tryd.underlying89 ZdN rfl (by decide) (by omega) (.slice A1 E1.length c1) E1 ⟨f1,f0,wrap64 (-f2)⟩ [.int .i64 f1,.int .i64 f0,.int .i64 (wrap64 (-f2))] (fun _=>True) (fun _=>False) rfl (by first|(go_simp;done)|(go_simp;rfl)) ?aP (fun _ hk=>hk.elim) ?aF ?aO ?aB ?aS ?aL ?_;(case aP=>exact Zdg _ _ _ (⟨f1,f0,wrap64 (-f2)⟩:S121));(case aB=>exact J2.out.hb);(case aF=>exact fun _ _=>trivial);(case aO=>exact J2.out.re);(case aS=>exact J2.out.hb.size);(case aL=>have:=LE.out.1;have:=NE1.out;subst this;simp only[List.length_append,List.length_singleton];omega);intro v3 w3 ho hb hg hat;rw[← NE3.out] at ho;obtain⟨j_,x_⟩:=ZZ.Inv.edge J2.out BX2.out ho hb hg;obtain⟨A3,c3,e_⟩:=Kd.R_slice ho;subst e_;have J3:=Za j_;have BX3:=Za x_;clear j_ x_;clear ho hb hg hat)|((with_reducible refine Zax (b:=.append) (xs:=#[.tmp 57,.tmp 59]) rfl ?_);at_builtin;refine Kd.R_append (Kd.int .i64) (w0:=w) w.heap.size rfl (.tmp 57) (.tmp 59) 23 3 (.int .i64 0) 8 rfl Tryd.underlying23 ZbN rfl (by decide) (by omega) v2 (M ++ [(i:Int)]) (i:Int) [.int .i64 (i:Int)] (fun _=>True) (fun _=>False) rfl rfl ?aP (fun _ hk=>hk.elim) ?aF ?aO ?aB ?aS ?aL ?_;(case aP=>exact rfl);(case aB=>exact J3.out.hb);(case aF=>exact fun _ _=>trivial);(case aO=>exact J3.out.rm);(case aS=>exact J3.out.hb.size);(case aL=>have:=LE.out.2;simp only[List.length_append,List.length_singleton];omega);intro v4 w4 ho hb hg hat;obtain⟨⟨j_,x_⟩,⟨q1,q2,q3⟩,y_⟩:=ZZ.Inv.idx J3.out BX3.out ho hb hg;have J4:=Za j_;have BX4:=Za x_;clear j_ x_ y_;clear ho hb hg hat))
    go_roundg (l0_1.length - (i+1))
    case measure=>have:=HG.out;omega
    case rel=>exact⟨i+1,_,_,_,by rw[Z9 hlt (by have:=HN0.out;omega)],⟨by omega⟩,⟨by omega⟩,HD,⟨J4.out⟩⟩
 ·obtain rfl:i=l0_1.length:=by have:=HK.out;omega
  obtain⟨rfl,rfl⟩:=HE.out.all
  clear HE hlt
  obtain⟨A_,c_,e_⟩:=Kd.R_slice HI.out.re
  subst e_
  have m0:wr.cell? ⟨g4,0,none⟩=some (.int .i64 a0_0):=(Zo HI.out.b4 0).trans rfl
  have m1:wr.cell? ⟨g4,1,none⟩=some (.slice A_ (ZbS l0_1).length c_):=(Zo HI.out.b4 1).trans rfl
  have z0:wr.cell? ⟨g2,0,none⟩=some (.int .i64 0):=(Zo HI.out.b2 0).trans rfl
  have z1:wr.cell? ⟨g2,1,none⟩=some (.slice none 0 0):=(Zo HI.out.b2 1).trans rfl
  have y0:=Zu HI.out.b2 0
  have y1:=Zu HI.out.b2 1
  go_wp2
  refine bodyPost_ret (ZbB rfl _ _ g2 91 #[.int .i64 a0_0,.slice A_ (ZbS l0_1).length c_] (0,0) _ rfl (ZO (cs:=#[.int .i64 a0_0,.slice none 0 0]) (ZO (cs:=#[.int .i64 0,.slice none 0 0]) HI.out.b2 0 _ rfl) 1 _ rfl) Tryd.underlying91 rfl (by kernel_rfl)) rfl ?_
  exact⟨_,_,rfl,Kd.R_mono (Kd.R_far (p:=⟨g2,1,none⟩) (Kd.R_far (p:=⟨g2,0,none⟩) (Kd.R_types HI.out.re HI.out.b2 (by decide)) (fun _ hk=>hk.2) _) (fun _ hk=>hk.2) _) (fun _ _=>trivial),Kd.R_mono (Kd.R_far (p:=⟨g2,1,none⟩) (Kd.R_far (p:=⟨g2,0,none⟩) (Kd.R_types HI.out.rm HI.out.b2 (by decide)) (fun _ hk=>hk.2) _) (fun _ hk=>hk.2) _) (fun _ _=>trivial),Zq (Zq HI.out.hb HI.out.g2b) HI.out.g2b⟩
end Go.Proofs.YtoeimopgoaffcaaDoor.Pr
