/- By a program of this session. -/
import Derived.Test.YtoeimopgoaffcaaGreatDoorBBwc1x9
namespace Go.Proofs.YtoeimopgoaffcaaGreatDoor.Pr
open RowKit YtoeimopgoaffcaaGreatDoorW.PrintWords YtoeimopgoaffcaaGreatDoorW.PrintLast YtoeimopgoaffcaaGreatDoorW.PrintMore
attribute [local go_sem] Zak Zai Zax Zaw Zac Zab Zaj Zah
set_option linter.unusedVariables false
set_option linter.unusedSimpArgs false
open Ni
def ZbQ.f (_k:Nat) (a0_0:Int) (l0_1:List (S112)):Option (List S184×List Int):=if l0_1.length≤1048576 then some (ZbN l0_1,ZbV 0 l0_1) else none
set_option maxHeartbeats 8000000 in
set_option maxRecDepth 100000 in
theorem ZbQ.calls (k:Nat) (a0_0:Int) (A0_1:Option Addr) (c0_1:Nat) (l0_1:List (S112)) (r1:List S184) (r2:List Int) (w:World) (hr0_1:Kd.C k112 w A0_1 l0_1.length l0_1) (hc0_1:l0_1.length≤c0_1) (h:ZbQ.f k a0_0 l0_1=some (r1,r2)) :
  Calls Tryz.prog 173 #[.agg #[.int .i64 a0_0,.slice A0_1 l0_1.length c0_1]] w fun e w'=>∃v0_ v1_:Value,e=.returned (.tuple #[v0_,v1_])∧Kd.R k184 184 w' w.heap.size (fun _=>True) v0_ r1∧Kd.R (Kd.int .i64) 3 w' w.heap.size (fun _=>True) v1_ r2∧Below w.heap.size w w':=by
 unfold ZbQ.f at h
 by_cases hl:l0_1.length≤1048576
 case neg=>rw[if_neg hl] at h;exact absurd h (by simp)
 rw[if_pos hl] at h
 obtain⟨rfl,rfl⟩:ZbN l0_1=r1∧ZbV 0 l0_1=r2:=⟨congrArg Prod.fst (Zg h),congrArg Prod.snd (Zg h)⟩
 have HR0:=Za hr0_1;have HN0:=Za hl
 have HB0:=Za (Zo (Below.refl w.heap.size w) (.cells #[.int .i64 a0_0,.slice A0_1 l0_1.length c0_1] 54))
 have hu:=Tryz.underlying112
 have hu2:=Tryz.underlying110
 have hu3:=Tryz.underlying54
 clear hr0_1 hc0_1 h hl
 go_enter Tryz.func173,Tryz.ntmps173
 go_wp2_with (first|((with_reducible refine ZF (N:=8) rfl ?_);refine Kd.R_lit k184 _ 184 ?hg (N:=8) ?hd (xs:=([]:List S184)) (inner:=[]) (ok:=fun _=>True) (okp:=fun _=>True) ?hr ?hp (fun _ hk=>hk) trivial (Below.refl _ _) (Nat.le_refl _) (by simp) ?_;(case hd=>rfl);(case hg=>rfl);(case hr=>first|(go_simp;done)|(go_simp;rfl));(case hp=>exact(Reps.none _ _));intro v8 w8 ho hb hg_ hnew_;have O8:=Za (Kd.R_lower ho (Zv (by repeat(first|(with_reducible first|exact HB0.out|apply Zo|apply Zn|apply Zp)|exact HB0.out))));have B8:=Za (Zr (by repeat(first|(with_reducible first|exact HB0.out|apply Zo|apply Zn|apply Zp)|exact HB0.out)) hb);have k8:w8.cell? ⟨w.heap.size,1,none⟩=some (.slice A0_1 l0_1.length c0_1):=Zx hb (by go_simp);clear ho hb hg_ hnew_)|((with_reducible refine ZF (N:=9) rfl ?_);refine Kd.R_lit (Kd.int .i64) _ 3 ?hg (N:=9) ?hd (xs:=([]:List Int)) (inner:=[]) (ok:=fun _=>True) (okp:=fun _=>True) ?hr ?hp (fun _ hk=>hk) trivial (Below.refl _ _) (Nat.le_refl _) (by simp) ?_;(case hd=>rfl);(case hg=>rfl);(case hr=>first|(go_simp;done)|(go_simp;rfl));(case hp=>exact(Reps.none _ _));intro v9 w9 ho hb hg_ hnew_;have I0:=Za (⟨Kd.R_below O8.out hb,Kd.R_lower ho B8.out.size,Zr B8.out hb⟩:EInv w w9 v8 v9 [] []);have k9:w9.cell? ⟨w.heap.size,1,none⟩=some (.slice A0_1 l0_1.length c0_1):=Zx hb k8;clear ho hb hg_ hnew_ k8))
 clear k9
 go_loopg [4,5,13] l0_1.length (fun gg s4 s5 s13 wr=>∃(i:Nat) (E:List S184) (M:List Int),s13=.int .i64 (i:Int)∧Aside0 (i≤l0_1.length)∧Aside0 (l0_1.length - i≤gg)∧Aside0 (ZcE l0_1 i E M)∧Aside0 (EInv w wr s4 s5 E M))
 case atStart=>exact⟨0,[],[],rfl,⟨Nat.zero_le _⟩,⟨by omega⟩,⟨ZcE.zero _⟩,I0⟩
 case round=>
 clear I0 O8 B8 HB0
 obtain⟨i,E,M,rfl,HK,HG,HE,HI⟩:=hrel
 by_cases hlt:i<l0_1.length
 ·have hltz:(i:Int)<(l0_1.length:Int):=by omega
  obtain⟨ad,e1,hx0,hx1,hx2,hx3⟩:=Ze7 (Zb HR0.out HI.out.hb) (i:Int) (by omega) hltz
  cases e1
  have hrd:(Zcf l0_1 (i:Int))=l0_1.getD i z112:=by unfold Zcf;rw[Int.toNat_natCast]
  rw[hrd] at hx0 hx1 hx2 hx3
  rw[Int.toNat_natCast] at hx0 hx1 hx2 hx3
  obtain⟨⟨f0,f1,⟨f2,f3⟩⟩,hx⟩:∃x,l0_1.getD i z112=x:=⟨_,rfl⟩
  have HD:=Za (HE.out.next hlt hx)
  rw[hx] at hx0 hx1 hx2 hx3
  dsimp only at hx0 hx1 hx2 hx3
  have hlta:=Zc wr _ hx0
  have LE:=Za (show E.length≤2097152∧M.length≤2097152 from⟨by have:=HE.out.1;have:=HN0.out;omega,by have:=HE.out.2.1;have:=HN0.out;omega⟩)
  have J0:=Za (HI.out.below (Zo (Below.refl wr.heap.size wr) (.cells #[.int .i64 f0,.int .i64 f1,.int .i64 f2,.int .i64 f3] 112)))
  have BX0:=Za (Zcp wr (.cells #[.int .i64 f0,.int .i64 f1,.int .i64 f2,.int .i64 f3] 112))
  clear hrd hx HE
  have D:=HD.out
  clear HD
  cases b1:(f3 != (1000000:Int)) with
  | false=>
   cases b2:(f2 != (-1000000:Int)) with
   | false=>
    rw[b1,b2] at D
    simp only[Bool.false_eq_true,if_true,if_false,List.append_nil] at D
    have HD:=Za D;clear D
    go_wp2
    go_roundg (l0_1.length - (i+1))
    case measure=>have:=HG.out;omega
    case rel=>exact⟨i+1,_,_,by rw[ZO hlt (by have:=HN0.out;omega)],⟨by omega⟩,⟨by omega⟩,HD,⟨J0.out⟩⟩
   | true=>
    rw[b1,b2] at D
    simp only[Bool.false_eq_true,if_true,if_false,List.append_nil] at D
    have HD:=Za D;clear D
    go_wp2_with (first|((with_reducible refine ZU (b:=.append) (xs:=#[.tmp 41,.tmp 51]) rfl ?_);at_builtin;refine Kd.R_append k184 (w0:=w) w.heap.size rfl (.tmp 41) (.tmp 51) 154 184 (.agg #[(.int .i64 0),(.int .i64 0),(.int .i64 0)]) 24 rfl Tryz.underlying154 Zdf rfl (by decide) (by omega) u4 E ⟨f1,f0,wrap64 (-f2)⟩ [.int .i64 f1,.int .i64 f0,.int .i64 (wrap64 (-f2))] (fun _=>True) (fun _=>False) rfl (by first|(go_simp;done)|(go_simp;rfl)) ?aP (fun _ hk=>hk.elim) ?aF ?aO ?aB ?aS ?aL ?_;(case aP=>exact Zc3 _ _ _ (⟨f1,f0,wrap64 (-f2)⟩:S184));(case aB=>exact J0.out.hb);(case aF=>exact fun _ _=>trivial);(case aO=>exact J0.out.re);(case aS=>exact J0.out.hb.size);(case aL=>have:=LE.out.1;omega);intro v1 w1 ho hb hg hat;obtain⟨j_,x_⟩:=EInv.edge J0.out BX0.out ho hb hg;have J1:=Za j_;have BX1:=Za x_;clear j_ x_ ho hb hg hat;skip)|((with_reducible refine ZU (b:=.append) (xs:=#[.tmp 53,.tmp 55]) rfl ?_);at_builtin;refine Kd.R_append (Kd.int .i64) (w0:=w) w.heap.size rfl (.tmp 53) (.tmp 55) 37 3 (.int .i64 0) 8 rfl Tryz.underlying37 Zbl rfl (by decide) (by omega) u5 M (i:Int) [.int .i64 (i:Int)] (fun _=>True) (fun _=>False) rfl rfl ?aP (fun _ hk=>hk.elim) ?aF ?aO ?aB ?aS ?aL ?_;(case aP=>exact rfl);(case aB=>exact J1.out.hb);(case aF=>exact fun _ _=>trivial);(case aO=>exact J1.out.rm);(case aS=>exact J1.out.hb.size);(case aL=>have:=LE.out.2;omega);intro v2 w2 ho hb hg hat;obtain⟨j_,x_⟩:=EInv.idx J1.out BX1.out ho hb hg;have J2:=Za j_;have BX2:=Za x_;clear j_ x_ ho hb hg hat;skip))
    go_roundg (l0_1.length - (i+1))
    case measure=>have:=HG.out;omega
    case rel=>exact⟨i+1,_,_,by rw[ZO hlt (by have:=HN0.out;omega)],⟨by omega⟩,⟨by omega⟩,HD,⟨J2.out⟩⟩
  | true=>
   cases b2:(f2 != (-1000000:Int)) with
   | false=>
    rw[b1,b2] at D
    simp only[Bool.false_eq_true,if_true,if_false,List.append_nil] at D
    have HD:=Za D;clear D
    go_wp2_with (first|((with_reducible refine ZU (b:=.append) (xs:=#[.tmp 22,.tmp 31]) rfl ?_);at_builtin;refine Kd.R_append k184 (w0:=w) w.heap.size rfl (.tmp 22) (.tmp 31) 154 184 (.agg #[(.int .i64 0),(.int .i64 0),(.int .i64 0)]) 24 rfl Tryz.underlying154 Zdf rfl (by decide) (by omega) u4 E ⟨f0,f1,f3⟩ [.int .i64 f0,.int .i64 f1,.int .i64 f3] (fun _=>True) (fun _=>False) rfl (by first|(go_simp;done)|(go_simp;rfl)) ?aP (fun _ hk=>hk.elim) ?aF ?aO ?aB ?aS ?aL ?_;(case aP=>exact Zc3 _ _ _ (⟨f0,f1,f3⟩:S184));(case aB=>exact J0.out.hb);(case aF=>exact fun _ _=>trivial);(case aO=>exact J0.out.re);(case aS=>exact J0.out.hb.size);(case aL=>have:=LE.out.1;omega);intro v1 w1 ho hb hg hat;obtain⟨j_,x_⟩:=EInv.edge J0.out BX0.out ho hb hg;have J1:=Za j_;have BX1:=Za x_;clear j_ x_ ho hb hg hat;have k1_0:w1.cell? ⟨wr.heap.size,0,none⟩=some (.int .i64 f0):=(Zm BX1.out 0).trans rfl;have k1_1:w1.cell? ⟨wr.heap.size,1,none⟩=some (.int .i64 f1):=(Zm BX1.out 1).trans rfl;have k1_2:w1.cell? ⟨wr.heap.size,2,none⟩=some (.int .i64 f2):=(Zm BX1.out 2).trans rfl;have lt1:=ZN BX1.out)|((with_reducible refine ZU (b:=.append) (xs:=#[.tmp 33,.tmp 35]) rfl ?_);at_builtin;refine Kd.R_append (Kd.int .i64) (w0:=w) w.heap.size rfl (.tmp 33) (.tmp 35) 37 3 (.int .i64 0) 8 rfl Tryz.underlying37 Zbl rfl (by decide) (by omega) u5 M (i:Int) [.int .i64 (i:Int)] (fun _=>True) (fun _=>False) rfl rfl ?aP (fun _ hk=>hk.elim) ?aF ?aO ?aB ?aS ?aL ?_;(case aP=>exact rfl);(case aB=>exact J1.out.hb);(case aF=>exact fun _ _=>trivial);(case aO=>exact J1.out.rm);(case aS=>exact J1.out.hb.size);(case aL=>have:=LE.out.2;omega);intro v2 w2 ho hb hg hat;obtain⟨j_,x_⟩:=EInv.idx J1.out BX1.out ho hb hg;have J2:=Za j_;have BX2:=Za x_;clear j_ x_ ho hb hg hat;clear k1_0 k1_1 k1_2;have k2_0:w2.cell? ⟨wr.heap.size,0,none⟩=some (.int .i64 f0):=(Zm BX2.out 0).trans rfl;have k2_1:w2.cell? ⟨wr.heap.size,1,none⟩=some (.int .i64 f1):=(Zm BX2.out 1).trans rfl;have k2_2:w2.cell? ⟨wr.heap.size,2,none⟩=some (.int .i64 f2):=(Zm BX2.out 2).trans rfl;have lt2:=ZN BX2.out))
    go_roundg (l0_1.length - (i+1))
    case measure=>have:=HG.out;omega
    case rel=>exact⟨i+1,_,_,by rw[ZO hlt (by have:=HN0.out;omega)],⟨by omega⟩,⟨by omega⟩,HD,⟨J2.out⟩⟩
   | true=>
    rw[b1,b2] at D
    simp only[Bool.false_eq_true,if_true,if_false,List.append_nil] at D
    have HD:=Za D;clear D
    go_wp2_with (first|((with_reducible refine ZU (b:=.append) (xs:=#[.tmp 22,.tmp 31]) rfl ?_);at_builtin;refine Kd.R_append k184 (w0:=w) w.heap.size rfl (.tmp 22) (.tmp 31) 154 184 (.agg #[(.int .i64 0),(.int .i64 0),(.int .i64 0)]) 24 rfl Tryz.underlying154 Zdf rfl (by decide) (by omega) u4 E ⟨f0,f1,f3⟩ [.int .i64 f0,.int .i64 f1,.int .i64 f3] (fun _=>True) (fun _=>False) rfl (by first|(go_simp;done)|(go_simp;rfl)) ?aP (fun _ hk=>hk.elim) ?aF ?aO ?aB ?aS ?aL ?_;(case aP=>exact Zc3 _ _ _ (⟨f0,f1,f3⟩:S184));(case aB=>exact J0.out.hb);(case aF=>exact fun _ _=>trivial);(case aO=>exact J0.out.re);(case aS=>exact J0.out.hb.size);(case aL=>have:=LE.out.1;omega);intro v1 w1 ho hb hg hat;obtain⟨j_,x_⟩:=EInv.edge J0.out BX0.out ho hb hg;have J1:=Za j_;have BX1:=Za x_;clear j_ x_ ho hb hg hat;have k1_0:w1.cell? ⟨wr.heap.size,0,none⟩=some (.int .i64 f0):=(Zm BX1.out 0).trans rfl;have k1_1:w1.cell? ⟨wr.heap.size,1,none⟩=some (.int .i64 f1):=(Zm BX1.out 1).trans rfl;have k1_2:w1.cell? ⟨wr.heap.size,2,none⟩=some (.int .i64 f2):=(Zm BX1.out 2).trans rfl;have lt1:=ZN BX1.out)|((with_reducible refine ZU (b:=.append) (xs:=#[.tmp 33,.tmp 35]) rfl ?_);at_builtin;refine Kd.R_append (Kd.int .i64) (w0:=w) w.heap.size rfl (.tmp 33) (.tmp 35) 37 3 (.int .i64 0) 8 rfl Tryz.underlying37 Zbl rfl (by decide) (by omega) u5 M (i:Int) [.int .i64 (i:Int)] (fun _=>True) (fun _=>False) rfl rfl ?aP (fun _ hk=>hk.elim) ?aF ?aO ?aB ?aS ?aL ?_;(case aP=>exact rfl);(case aB=>exact J1.out.hb);(case aF=>exact fun _ _=>trivial);(case aO=>exact J1.out.rm);(case aS=>exact J1.out.hb.size);(case aL=>have:=LE.out.2;omega);intro v2 w2 ho hb hg hat;obtain⟨j_,x_⟩:=EInv.idx J1.out BX1.out ho hb hg;have J2:=Za j_;have BX2:=Za x_;clear j_ x_ ho hb hg hat;clear k1_0 k1_1 k1_2;have k2_0:w2.cell? ⟨wr.heap.size,0,none⟩=some (.int .i64 f0):=(Zm BX2.out 0).trans rfl;have k2_1:w2.cell? ⟨wr.heap.size,1,none⟩=some (.int .i64 f1):=(Zm BX2.out 1).trans rfl;have k2_2:w2.cell? ⟨wr.heap.size,2,none⟩=some (.int .i64 f2):=(Zm BX2.out 2).trans rfl;have lt2:=ZN BX2.out)|((with_reducible refine ZU (b:=.append) (xs:=#[.tmp 41,.tmp 51]) rfl ?_);at_builtin;refine Kd.R_append k184 (w0:=w) w.heap.size rfl (.tmp 41) (.tmp 51) 154 184 (.agg #[(.int .i64 0),(.int .i64 0),(.int .i64 0)]) 24 rfl Tryz.underlying154 Zdf rfl (by decide) (by omega) v1 (E ++ [⟨f0,f1,f3⟩]) ⟨f1,f0,wrap64 (-f2)⟩ [.int .i64 f1,.int .i64 f0,.int .i64 (wrap64 (-f2))] (fun _=>True) (fun _=>False) rfl (by first|(go_simp;done)|(go_simp;rfl)) ?aP (fun _ hk=>hk.elim) ?aF ?aO ?aB ?aS ?aL ?_;(case aP=>exact Zc3 _ _ _ (⟨f1,f0,wrap64 (-f2)⟩:S184));(case aB=>exact J2.out.hb);(case aF=>exact fun _ _=>trivial);(case aO=>exact J2.out.re);(case aS=>exact J2.out.hb.size);(case aL=>have:=LE.out.1;simp only[List.length_append,List.length_singleton];omega);intro v3 w3 ho hb hg hat;obtain⟨j_,x_⟩:=EInv.edge J2.out BX2.out ho hb hg;have J3:=Za j_;have BX3:=Za x_;clear j_ x_ ho hb hg hat;skip)|((with_reducible refine ZU (b:=.append) (xs:=#[.tmp 53,.tmp 55]) rfl ?_);at_builtin;refine Kd.R_append (Kd.int .i64) (w0:=w) w.heap.size rfl (.tmp 53) (.tmp 55) 37 3 (.int .i64 0) 8 rfl Tryz.underlying37 Zbl rfl (by decide) (by omega) v2 (M ++ [(i:Int)]) (i:Int) [.int .i64 (i:Int)] (fun _=>True) (fun _=>False) rfl rfl ?aP (fun _ hk=>hk.elim) ?aF ?aO ?aB ?aS ?aL ?_;(case aP=>exact rfl);(case aB=>exact J3.out.hb);(case aF=>exact fun _ _=>trivial);(case aO=>exact J3.out.rm);(case aS=>exact J3.out.hb.size);(case aL=>have:=LE.out.2;simp only[List.length_append,List.length_singleton];omega);intro v4 w4 ho hb hg hat;obtain⟨j_,x_⟩:=EInv.idx J3.out BX3.out ho hb hg;have J4:=Za j_;have BX4:=Za x_;clear j_ x_ ho hb hg hat;skip))
    go_roundg (l0_1.length - (i+1))
    case measure=>have:=HG.out;omega
    case rel=>exact⟨i+1,_,_,by rw[ZO hlt (by have:=HN0.out;omega)],⟨by omega⟩,⟨by omega⟩,HD,⟨J4.out⟩⟩
 ·obtain rfl:i=l0_1.length:=by have:=HK.out;omega
  obtain⟨rfl,rfl⟩:=HE.out.all
  clear HE hlt
  go_wp2
  go_ret2
  exact⟨_,_,rfl,HI.out.re,HI.out.rm,HI.out.hb⟩
end Go.Proofs.YtoeimopgoaffcaaGreatDoor.Pr
