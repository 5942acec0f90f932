/- By a program of this session. -/
import Derived.Test.YtoeimopgoaffcaaDoorBBcc1x12
namespace Go.Proofs.YtoeimopgoaffcaaDoor.Pr
open RowKit YtoeimopgoaffcaaDoorW.PrintWords YtoeimopgoaffcaaDoorW.PrintLast YtoeimopgoaffcaaDoorW.PrintMore
attribute [local go_sem] Zat Zar ZaG ZaF Zal Zak Zas Zaq
set_option linter.unusedVariables false
set_option linter.unusedSimpArgs false
open Ni
def ZaP.f (l0_0:List (S54)) (l0_1:List (S81)) (a0_2:Int) (a1:Int):Option (ByteArray):=if 0≤a1 then(if a1<(l0_1.length:Int) then(if (Zz l0_1 a1).f4=true then(if 0≤((Zz l0_1 a1).f0) then(if ((Zz l0_1 a1).f0)<(l0_0.length:Int) then(if 0≤((Zz l0_1 a1).f1) then(if ((Zz l0_1 a1).f1)<(l0_0.length:Int) then((Zae.f ((Zz l0_1 a1).f2)).bind fun s=>((Zae.f ((Zz l0_1 a1).f3)).bind fun t=>((Za1.f ([(⟨#[102,114,101,101]⟩:ByteArray),(Zy l0_0 (Zz l0_1 a1).f0).f0,(Zy l0_0 (Zz l0_1 a1).f1).f0,s,t]:List ByteArray) (⟨#[32]⟩:ByteArray)).bind fun u=>(some u)))) else(none)) else(none)) else(none)) else(none)) else(if 0≤((Zz l0_1 a1).f0) then(if ((Zz l0_1 a1).f0)<(l0_0.length:Int) then(if 0≤((Zz l0_1 a1).f1) then(if ((Zz l0_1 a1).f1)<(l0_0.length:Int) then((Zae.f ((Zz l0_1 a1).f2)).bind fun s=>((Zae.f ((Zz l0_1 a1).f3)).bind fun t=>((Za1.f ([(⟨#[116,105,101]⟩:ByteArray),(Zy l0_0 (Zz l0_1 a1).f0).f0,(Zy l0_0 (Zz l0_1 a1).f1).f0,s,t]:List ByteArray) (⟨#[32]⟩:ByteArray)).bind fun u=>(some u)))) else(none)) else(none)) else(none)) else(none))) else(none)) else(none)
theorem ZaP.parts (l0_0:List (S54)) (l0_1:List (S81)) (a0_2:Int) {a1:Int} {r:ByteArray} (h:ZaP.f l0_0 l0_1 a0_2 a1=some r):0≤a1∧a1<l0_1.length∧(0≤(Zz l0_1 a1).f0∧(Zz l0_1 a1).f0<l0_0.length∧0≤(Zz l0_1 a1).f1∧(Zz l0_1 a1).f1<l0_0.length)∧∃s t,Zae.f (Zz l0_1 a1).f2=some s∧Zae.f (Zz l0_1 a1).f3=some t∧Za1.f [if (Zz l0_1 a1).f4=true then(⟨#[102,114,101,101]⟩:ByteArray) else(⟨#[116,105,101]⟩:ByteArray),(Zy l0_0 (Zz l0_1 a1).f0).f0,(Zy l0_0 (Zz l0_1 a1).f1).f0,s,t] (⟨#[32]⟩:ByteArray)=some r:=by
 have key:∀wd:ByteArray,(if 0≤((Zz l0_1 a1).f0) then(if ((Zz l0_1 a1).f0)<(l0_0.length:Int) then(if 0≤((Zz l0_1 a1).f1) then(if ((Zz l0_1 a1).f1)<(l0_0.length:Int) then((Zae.f ((Zz l0_1 a1).f2)).bind fun s=>((Zae.f ((Zz l0_1 a1).f3)).bind fun t=>((Za1.f ([wd,(Zy l0_0 (Zz l0_1 a1).f0).f0,(Zy l0_0 (Zz l0_1 a1).f1).f0,s,t]:List ByteArray) (⟨#[32]⟩:ByteArray)).bind fun u=>(some u)))) else(none)) else(none)) else(none)) else(none))=some r→(0≤(Zz l0_1 a1).f0∧(Zz l0_1 a1).f0<l0_0.length∧0≤(Zz l0_1 a1).f1∧(Zz l0_1 a1).f1<l0_0.length)∧∃s t,Zae.f (Zz l0_1 a1).f2=some s∧Zae.f (Zz l0_1 a1).f3=some t∧Za1.f [wd,(Zy l0_0 (Zz l0_1 a1).f0).f0,(Zy l0_0 (Zz l0_1 a1).f1).f0,s,t] (⟨#[32]⟩:ByteArray)=some r:=by
  intro wd h
  split at h
  ·split at h
   ·split at h
    ·split at h
     ·obtain⟨s,h1,h⟩:=Option.bind_eq_some_iff.1 h
      obtain⟨t,h2,h⟩:=Option.bind_eq_some_iff.1 h
      obtain⟨u,h3,h⟩:=Option.bind_eq_some_iff.1 h
      obtain rfl:=Zg h
      exact⟨⟨by assumption,by assumption,by assumption,by assumption⟩,s,t,h1,h2,h3⟩
     ·exact absurd h (by simp)
    ·exact absurd h (by simp)
   ·exact absurd h (by simp)
  ·exact absurd h (by simp)
 unfold ZaP.f at h
 split at h
 ·split at h
  ·refine⟨by assumption,by assumption,?_⟩
   split at h
   ·rename_i h4
    rw[if_pos h4]
    exact key _ h
   ·rename_i h4
    rw[if_neg h4]
    exact key _ h
  ·exact absurd h (by simp)
 ·exact absurd h (by simp)
set_option maxHeartbeats 8000000 in
set_option maxRecDepth 100000 in
theorem ZaP.calls (A0_0:Option Addr) (c0_0:Nat) (l0_0:List (S54)) (A0_1:Option Addr) (c0_1:Nat) (l0_1:List (S81)) (a0_2:Int) (a1:Int) (r:ByteArray) (w:World) (hr0_0:Kd.C k54 w A0_0 l0_0.length l0_0) (hc0_0:l0_0.length≤c0_0) (hr0_1:Kd.C k81 w A0_1 l0_1.length l0_1) (hc0_1:l0_1.length≤c0_1) (ht:TW w) (h:ZaP.f l0_0 l0_1 a0_2 a1=some r) :
  Calls Tryd.prog 80 #[.agg #[.slice A0_0 l0_0.length c0_0,.slice A0_1 l0_1.length c0_1,.int .i64 a0_2],.int .i64 a1] w fun e w'=>e=.returned (.string r)∧Below w.heap.size w w':=by
 obtain⟨h0,h1,⟨h2,h3,h4,h5⟩,s1,s2,hs1,hs2,hj⟩:=ZaP.parts _ _ _ h
 obtain⟨ad,e1,hx0,hx1,hx2,hx3,hx4⟩:=Zck hr0_1 a1 h0 h1
 cases e1
 generalize Zz l0_1 a1=td at *
 obtain⟨tf,tt,tl,th,tb⟩:=td
 dsimp only at *
 obtain⟨ad0,Af,cf,e2,hf0,hf1,hf2,lf,gf⟩:=Zbw hr0_0 tf h2 h3
 cases e2
 obtain⟨ad1,At,ct,e3,ht0,ht1,ht2,lt_,gt⟩:=Zbw hr0_0 tt h4 h5
 cases e3
 generalize (Zy l0_0 tf).f0=nf at *
 generalize (Zy l0_0 tt).f0=nt at *
 have HT:=Za ht;have HS1:=Za hs1;have HS2:=Za hs2
 have HX:=Za (And.intro hf0 ht0)
 have p0:=eq_true h0
 have p1:=eq_true h1
 have p2:=eq_true h2
 have p3:=eq_true h3
 have p4:=eq_true h4
 have p5:=eq_true h5
 have lta:=Zc w _ hx0
 have hu:=Tryd.underlying39
 have hu2:=Tryd.underlying81
 have hu3:=Tryd.underlying54
 clear hr0_0 hc0_0 hr0_1 hc0_1 ht hs1 hs2 h h0 h1 h2 h3 h4 h5 hf0 hf1 hf2 lf gf ht0 ht1 ht2 lt_ gt
 have HB2:=Za (show Below w.heap.size w ((w.alloc (.cells #[.slice (some ad0) l0_0.length c0_0,.slice (some ad) l0_1.length c0_1,.int .i64 a0_2] 39)).alloc (.cells #[.int .i64 tf,.int .i64 tt,.int .i64 tl,.int .i64 th,.bool tb] 81)) from Zn (Zn (Below.refl w.heap.size w) _) _)
 have K2:=Za (show((w.alloc (.cells #[.slice (some ad0) l0_0.length c0_0,.slice (some ad) l0_1.length c0_1,.int .i64 a0_2] 39)).alloc (.cells #[.int .i64 tf,.int .i64 tt,.int .i64 tl,.int .i64 th,.bool tb] 81)).cell? ⟨w.heap.size,0,none⟩=some (.slice (some ad0) l0_0.length c0_0)∧((w.alloc (.cells #[.slice (some ad0) l0_0.length c0_0,.slice (some ad) l0_1.length c0_1,.int .i64 a0_2] 39)).alloc (.cells #[.int .i64 tf,.int .i64 tt,.int .i64 tl,.int .i64 th,.bool tb] 81)).cell? ⟨w.heap.size+1,0,none⟩=some (.int .i64 tf)∧((w.alloc (.cells #[.slice (some ad0) l0_0.length c0_0,.slice (some ad) l0_1.length c0_1,.int .i64 a0_2] 39)).alloc (.cells #[.int .i64 tf,.int .i64 tt,.int .i64 tl,.int .i64 th,.bool tb] 81)).cell? ⟨w.heap.size+1,1,none⟩=some (.int .i64 tt)∧((w.alloc (.cells #[.slice (some ad0) l0_0.length c0_0,.slice (some ad) l0_1.length c0_1,.int .i64 a0_2] 39)).alloc (.cells #[.int .i64 tf,.int .i64 tt,.int .i64 tl,.int .i64 th,.bool tb] 81)).cell? ⟨w.heap.size+1,2,none⟩=some (.int .i64 tl)∧((w.alloc (.cells #[.slice (some ad0) l0_0.length c0_0,.slice (some ad) l0_1.length c0_1,.int .i64 a0_2] 39)).alloc (.cells #[.int .i64 tf,.int .i64 tt,.int .i64 tl,.int .i64 th,.bool tb] 81)).cell? ⟨w.heap.size+1,3,none⟩=some (.int .i64 th) from⟨by go_simp,by go_simp,by go_simp,by go_simp,by go_simp⟩)
 cases tb
 all_goals
  simp only[Bool.false_eq_true,if_true,if_false] at hj
  have HJ:=Za hj;clear hj
  go_enter Tryd.func80,Tryd.ntmps80
  go_wp2_with fail
  clear hx0 hx1 hx2 hx3 hx4 lta
  generalize World.alloc _ _=W2 at HB2 K2 ⊢
  have HK:=Za fun (W:World) (hb:Below W2.heap.size W2 W)=>And.intro (ZE hb K2.out.1) (And.intro (ZE hb K2.out.2.1) (And.intro (ZE hb K2.out.2.2.1) (And.intro (ZE hb K2.out.2.2.2.1) (And.intro (ZE hb K2.out.2.2.2.2) (And.intro (ZE (HB2.out.trans (hb.mono HB2.out.size)) HX.out.1) (ZE (HB2.out.trans (hb.mono HB2.out.size)) HX.out.2))))))
  have HD:=Za (Zp (Below.refl W2.heap.size W2))
  refine Za9 (n:=24) (S:=fun w'=>w'.cell? ⟨w.heap.size,0,none⟩=some (.slice (some ad0) l0_0.length c0_0)∧w'.cell? ⟨w.heap.size+1,0,none⟩=some (.int .i64 tf)∧w'.cell? ⟨w.heap.size+1,1,none⟩=some (.int .i64 tt)∧w'.cell? ⟨w.heap.size+1,2,none⟩=some (.int .i64 tl)∧w'.cell? ⟨w.heap.size+1,3,none⟩=some (.int .i64 th)∧w'.cell? (ad0.add (tf.toNat * 3))=some (.string nf)∧w'.cell? (ad0.add (tt.toNat * 3))=some (.string nt)) (ds:=[]) #[false,false,false,false,false,false,false,false,false,false,false,false,false,false,false,false,false,false,false,false,false,false,false,false] (by kernel_rfl) rfl rfl ⟨(HK.out _ HD.out).1,(HK.out _ HD.out).2.1,(HK.out _ HD.out).2.2.1,(HK.out _ HD.out).2.2.2.1,(HK.out _ HD.out).2.2.2.2.1,(HK.out _ HD.out).2.2.2.2.2.1,(HK.out _ HD.out).2.2.2.2.2.2⟩ (fun hHeld=>?_)
  generalize W2.drew=W3 at HD hHeld ⊢
  refine pu (N:=some 14) 0 ?_
  refine pu (N:=some 15) 1 ?_
  refine pu (N:=some 17) 3 ?_
  refine pu (N:=some 22) 8 ?_
  refine pu (N:=some 24) 10 ?_
  refine pu (N:=some 29) 15 ?_
  refine pu (N:=some 32) 18 ?_
  refine tk (N:=some 16) 2 hHeld ?_
  refine tk (N:=some 18) 4 hHeld ?_
  refine pu (N:=some 19) 5 ?_
  refine pu (N:=some 20) 6 ?_
  refine tk (N:=some 21) 7 hHeld ?_
  refine tk (N:=some 23) 9 hHeld ?_
  refine tk (N:=some 25) 11 hHeld ?_
  refine pu (N:=some 26) 12 ?_
  refine pu (N:=some 27) 13 ?_
  refine tk (N:=some 28) 14 hHeld ?_
  refine tk (N:=some 30) 16 hHeld ?_
  refine tk (N:=some 33) 19 hHeld ?_
  refine onl (N:=some 31) 17 (fun K hK=>?_)
  refine Za5 Tryd.func29 (by kernel_rfl) rfl #[.int .i64 tl] (by rfl) rfl rfl (by(try simp only[List.map_toArray,List.map_cons,List.map_nil]);first|done|rfl) ?_
  refine(Zae.calls tl s1 _ (TW.below HT.out (HB2.out.trans (HD.out.mono HB2.out.size))) HS1.out).mono ?_
  rintro e w4 ⟨rfl,hb⟩
  refine⟨_,rfl,?_⟩
  have HD4:=Za (Zx HD.out hb)
  clear hb
  refine hK.out _ _ ⟨(HK.out _ HD4.out).1,(HK.out _ HD4.out).2.1,(HK.out _ HD4.out).2.2.1,(HK.out _ HD4.out).2.2.2.1,(HK.out _ HD4.out).2.2.2.2.1,(HK.out _ HD4.out).2.2.2.2.2.1,(HK.out _ HD4.out).2.2.2.2.2.2⟩ (fun hHeld=>?_)
  clear hK K
  refine nrm (some 31) ?_
  refine onl (N:=some 34) 20 (fun K hK=>?_)
  refine Za5 Tryd.func29 (by kernel_rfl) rfl #[.int .i64 th] (by rfl) rfl rfl (by(try simp only[List.map_toArray,List.map_cons,List.map_nil]);first|done|rfl) ?_
  refine(Zae.calls th s2 _ (TW.below HT.out (HB2.out.trans (HD4.out.mono HB2.out.size))) HS2.out).mono ?_
  rintro e w5 ⟨rfl,hb⟩
  refine⟨_,rfl,?_⟩
  have HD5:=Za (Zx HD4.out hb)
  clear hb
  refine hK.out _ _ ⟨(HK.out _ HD5.out).1,(HK.out _ HD5.out).2.1,(HK.out _ HD5.out).2.2.1,(HK.out _ HD5.out).2.2.2.1,(HK.out _ HD5.out).2.2.2.2.1,(HK.out _ HD5.out).2.2.2.2.2.1,(HK.out _ HD5.out).2.2.2.2.2.2⟩ (fun hHeld=>?_)
  clear hK K
  refine nrm (some 34) ?_
  refine onl (N:=some 35) 21 (fun K hK=>?_)
  first|(refine Kd.R_lit_step Kd.string _ 9 ?hg (N:=35) ?hd (xs:=[(⟨#[102,114,101,101]⟩:ByteArray),nf,nt,s1,s2]) (inner:=[.string (⟨#[102,114,101,101]⟩:ByteArray),.string nf,.string nt,.string s1,.string s2]) (ok:=fun _=>True) (okp:=fun _=>True) ?hr ?hp (fun _ hk=>hk) trivial (Below.refl _ _) (Nat.le_refl _) (by simp) ?_;(case hd=>rfl);(case hg=>rfl);(case hr=>first|(go_simp;done)|(go_simp;rfl));(case hp=>exact(Reps.one (show Kd.M Kd.string _ _ _ (⟨#[102,114,101,101]⟩:ByteArray) [.string (⟨#[102,114,101,101]⟩:ByteArray)] from rfl) (Reps.one (show Kd.M Kd.string _ _ _ nf [.string nf] from rfl) (Reps.one (show Kd.M Kd.string _ _ _ nt [.string nt] from rfl) (Reps.one (show Kd.M Kd.string _ _ _ s1 [.string s1] from rfl) (Reps.one (show Kd.M Kd.string _ _ _ s2 [.string s2] from rfl) (Reps.none _ _))))))))|(refine Kd.R_lit_step Kd.string _ 9 ?hg (N:=35) ?hd (xs:=[(⟨#[116,105,101]⟩:ByteArray),nf,nt,s1,s2]) (inner:=[.string (⟨#[116,105,101]⟩:ByteArray),.string nf,.string nt,.string s1,.string s2]) (ok:=fun _=>True) (okp:=fun _=>True) ?hr ?hp (fun _ hk=>hk) trivial (Below.refl _ _) (Nat.le_refl _) (by simp) ?_;(case hd=>rfl);(case hg=>rfl);(case hr=>first|(go_simp;done)|(go_simp;rfl));(case hp=>exact(Reps.one (show Kd.M Kd.string _ _ _ (⟨#[116,105,101]⟩:ByteArray) [.string (⟨#[116,105,101]⟩:ByteArray)] from rfl) (Reps.one (show Kd.M Kd.string _ _ _ nf [.string nf] from rfl) (Reps.one (show Kd.M Kd.string _ _ _ nt [.string nt] from rfl) (Reps.one (show Kd.M Kd.string _ _ _ s1 [.string s1] from rfl) (Reps.one (show Kd.M Kd.string _ _ _ s2 [.string s2] from rfl) (Reps.none _ _))))))))
  intro v6 w6 ho hb hg_ hnew_
  clear hg_ hnew_;have HO:=Za ho
  have HD6:=Za (Zx HD5.out hb)
  obtain⟨A6,c6,e6⟩:=Kd.R_slice ho
  subst e6;clear ho hb
  refine hK.out _ _ ⟨(HK.out _ HD6.out).1,(HK.out _ HD6.out).2.1,(HK.out _ HD6.out).2.2.1,(HK.out _ HD6.out).2.2.2.1,(HK.out _ HD6.out).2.2.2.2.1,(HK.out _ HD6.out).2.2.2.2.2.1,(HK.out _ HD6.out).2.2.2.2.2.2⟩ (fun hHeld=>?_)
  clear hK K
  refine nrm (some 35) ?_
  refine onl (N:=some 36) 22 (fun K hK=>?_)
  refine Za5 Tryd.func31 (by kernel_rfl) rfl #[.slice A6 5 c6,.string (⟨#[32]⟩:ByteArray)] (by rfl) rfl rfl (by(try simp only[List.map_toArray,List.map_cons,List.map_nil]);first|done|rfl) ?_
  refine(Za1.calls A6 c6 _ (⟨#[32]⟩:ByteArray) r _ (Kd.R_reads' HO.out).2.2 (Kd.R_reads' HO.out).2.1 (R_spot HO.out) HJ.out).mono ?_
  rintro e w7 ⟨rfl,hb⟩
  refine⟨_,rfl,?_⟩
  have HD7:=Za (Zx HD6.out hb)
  clear hb
  refine hK.out _ _ ⟨(HK.out _ HD7.out).1,(HK.out _ HD7.out).2.1,(HK.out _ HD7.out).2.2.1,(HK.out _ HD7.out).2.2.2.1,(HK.out _ HD7.out).2.2.2.2.1,(HK.out _ HD7.out).2.2.2.2.2.1,(HK.out _ HD7.out).2.2.2.2.2.2⟩ (fun hHeld=>?_)
  clear hK K
  refine nrm (some 36) ?_
  refine pu (N:=some 4) 23 ?_
  refine Zbu (by kernel_rfl) ?_
  go_wp2
  go_ret
  exact⟨rfl,HB2.out.trans (HD7.out.mono HB2.out.size)⟩
end Go.Proofs.YtoeimopgoaffcaaDoor.Pr
