/- By a program of this session. -/
import Derived.Test.YtoeimopgoaffcaaGreatDoorBBwc1x28
namespace Go.Proofs.YtoeimopgoaffcaaGreatDoor.Pr
open RowKit YtoeimopgoaffcaaGreatDoorW.PrintWords YtoeimopgoaffcaaGreatDoorW.PrintLast YtoeimopgoaffcaaGreatDoorW.PrintMore
attribute [local go_sem] Zak Zai Zax Zaw Zac Zab Zaj Zah
set_option linter.unusedVariables false
set_option linter.unusedSimpArgs false
open Ni
abbrev Zu.Ls:=List S112
def Zu.addL (L:Zu.Ls) (x:S112):Option Zu.Ls:=if L.length<4398046511104 then some (L ++ [x]) else none
theorem Zu.addL_some {L L':Zu.Ls} {x:S112} (h:Zu.addL L x=some L'):L.length<4398046511104∧L'=L ++ [x]:=by
 unfold Zu.addL at h
 by_cases hc:L.length<4398046511104
 ·rw[if_pos hc] at h
  exact⟨hc,(Zg h).symm⟩
 ·rw[if_neg hc] at h;exact absurd h (by simp)
def Zu.at_ (H:List Bool) (i:Int):Option Bool:=if 0≤i∧i<H.length then some (rdOf false H i) else none
theorem Zu.at_some {H:List Bool} {i:Int} {b:Bool} (h:Zu.at_ H i=some b):0≤i∧i<H.length∧rdOf false H i=b:=by
 unfold Zu.at_ at h
 by_cases hc:0≤i∧i<H.length
 ·rw[if_pos hc] at h
  exact⟨hc.1,hc.2,Zg h⟩
 ·rw[if_neg hc] at h;exact absurd h (by simp)
def Zu.stA (k:Nat) (l0_0:List (S39)) (l0_1:List (S82)) (a0_2:Int) (vs:List Int) (i:Nat) (a:List Bool×Zu.Ls):Option (List Bool×Zu.Ls):=(Zav.f k (ZJ l0_0 (i:Int)).f1 vs).bind fun s=>if a.1.length<140737488355328 then(Zu.at_ (a.1 ++ [s == 1]) (i:Int)).bind fun b=>if b=true then(Zu.addL a.2 ⟨0,(i:Int),⟨0,a0_2⟩⟩).bind fun L=>some (a.1 ++ [s == 1],L) else some (a.1 ++ [s == 1],a.2) else none
def Zu.span (k:Nat) (l0_0:List (S39)) (l0_1:List (S82)) (a0_2:Int) (l1_0:List Int) (l1_1:List Int) (i:Nat) (t:S82):Option (Int×Int):=if t.f4=true then(ZaZ.f k l0_0 l0_1 a0_2 l1_0 l1_1 (i:Int)).bind fun l=>some (l,l) else some (t.f2,t.f3)
def Zu.stB (k:Nat) (l0_0:List (S39)) (l0_1:List (S82)) (a0_2:Int) (l1_0:List Int) (l1_1:List Int) (H:List Bool) (i:Nat) (L:Zu.Ls):Option Zu.Ls:=
 (Zu.at_ H (ZE l0_1 (i:Int)).f0).bind fun b=>if b=true then(Zu.at_ H (ZE l0_1 (i:Int)).f1).bind fun c=>if c=true then(Zu.span k l0_0 l0_1 a0_2 l1_0 l1_1 i (ZE l0_1 (i:Int))).bind fun q=>Zu.addL L ⟨(ZE l0_1 (i:Int)).f0,(ZE l0_1 (i:Int)).f1,⟨q.1,q.2⟩⟩ else some L else some L
def Zu.stC (H:List Bool) (i:Nat) (L:Zu.Ls):Option Zu.Ls:=(Zu.at_ H (i:Int)).bind fun b=>if b=true then some L else Zu.addL L ⟨0,(i:Int),⟨0,0⟩⟩
def Zu.stE (k:Nat) (l0_0:List (S39)) (l0_1:List (S82)) (a0_2:Int) (H:List Bool) (i:Nat) (lb:List Int) (j:Nat) (L:Zu.Ls):Option Zu.Ls:=(Zu.at_ H (i:Int)).bind fun b=>if b=true then(ZaH.f (rd lb (j:Int))).bind fun p=>(ZZ.f k l0_0 l0_1 a0_2 p).bind fun t=>Zu.addL L ⟨t,(i:Int),⟨1,1000000⟩⟩ else some L
def Zu.stD (k:Nat) (l0_0:List (S39)) (l0_1:List (S82)) (a0_2:Int) (H:List Bool) (i:Nat) (L:Zu.Ls):Option Zu.Ls:=run (Zu.stE k l0_0 l0_1 a0_2 H i (ZJ l0_0 (i:Int)).f1) (ZJ l0_0 (i:Int)).f1.length 0 L
def Zu.f4 (k:Nat) (n:Nat) (L:Zu.Ls):Option (Int×Zu.Ls×Bool):=(Za1.f k (n:Int) L).bind fun b=>if b=true then some ((n:Int),L,true) else some (0,[],false)
def Zu.f3 (k:Nat) (l0_0:List (S39)) (l0_1:List (S82)) (a0_2:Int) (H:List Bool) (L:Zu.Ls):Option (Int×Zu.Ls×Bool):=(run (Zu.stD k l0_0 l0_1 a0_2 H) l0_0.length 0 L).bind (Zu.f4 k l0_0.length)
def Zu.f2 (k:Nat) (l0_0:List (S39)) (l0_1:List (S82)) (a0_2:Int) (H:List Bool) (L:Zu.Ls):Option (Int×Zu.Ls×Bool):=(run (Zu.stC H) l0_0.length 0 L).bind (Zu.f3 k l0_0 l0_1 a0_2 H)
def Zu.f1 (k:Nat) (l0_0:List (S39)) (l0_1:List (S82)) (a0_2:Int) (l1_0:List Int) (l1_1:List Int) (a:List Bool×Zu.Ls):Option (Int×Zu.Ls×Bool):=(run (Zu.stB k l0_0 l0_1 a0_2 l1_0 l1_1 a.1) l0_1.length 0 a.2).bind (Zu.f2 k l0_0 l0_1 a0_2 a.1)
def Zu.f (k:Nat) (l0_0:List (S39)) (l0_1:List (S82)) (a0_2:Int) (l1_0:List Int) (l1_1:List Int):Option (Int×Zu.Ls×Bool):=(Zbo.f k l0_0 l0_1 a0_2 l1_0 l1_1).bind fun b=>if b=true then(run (Zu.stA k l0_0 l0_1 a0_2 l1_1) l0_0.length 0 ([],[])).bind (Zu.f1 k l0_0 l0_1 a0_2 l1_0 l1_1) else some (0,[],false)
structure Zu.Inv (w W:World) (n:Int) (gs gc g4 g6:Nat) (vs vc:Array Value) (uL uH:Value) (L:Zu.Ls) (H:List Bool):Prop where
 b6:W.heap[g6]? = some (Obj.cells #[Value.int .i64 n,uL] 54 (0,0))
 rl:Kd.R k112 112 W w.heap.size (fun _=>True) uL L
 rh:Kd.R Kd.bool 4 W w.heap.size (fun _=>True) uH H
 hb:Below w.heap.size w W
 bs:W.heap[gs]? = some (Obj.cells vs 25 (0,0))
 bc:W.heap[gc]? = some (Obj.cells vc 58 (0,0))
 b4:W.heap[g4]? = some (Obj.cells #[.int .i64 0,.slice none 0 0] 54 (0,0))
 n4:g4≠g6
 g4b:w.heap.size≤g4
 g6b:w.heap.size≤g6
theorem Zu.Inv.below {w W W':World} {n:Int} {gs gc g4 g6:Nat} {vs vc:Array Value} {uL uH:Value} {L:Zu.Ls} {H:List Bool} (h:Zu.Inv w W n gs gc g4 g6 vs vc uL uH L H) (hb:Below W.heap.size W W'):Zu.Inv w W' n gs gc g4 g6 vs vc uL uH L H:=
 ⟨Zs h.b6 hb,Kd.R_below h.rl hb,Kd.R_below h.rh hb,Zr h.hb hb,Zs h.bs hb,Zs h.bc hb,Zs h.b4 hb,h.n4,h.g4b,h.g6b⟩
theorem Zu.Inv.link {w W w1:World} {n:Int} {gs gc g4 g6:Nat} {vs vc:Array Value} {uL uH v1:Value} {L L1:Zu.Ls} {H:List Bool} (h:Zu.Inv w W n gs gc g4 g6 vs vc uL uH L H) (ho:Kd.R k112 112 w1 w.heap.size (fun _=>True) v1 L1) (hb:Below w.heap.size w w1) (hg:W.grownBy w1 uL.ownBlock) :
  Zu.Inv w (w1.setCell ⟨g6,1,none⟩ v1) n gs gc g4 g6 vs vc v1 uH L1 H∧(w1.cell? ⟨g6,1,none⟩=some uL∧w1.frozen? ⟨g6,1,none⟩=false)∧∃A c,v1=.slice A L1.length c:=by
 have c6:=Zad h.b6 hg (Kd.R_ne h.rl h.b6 (by decide))
 have cs:=Zad h.bs hg (Kd.R_ne h.rl h.bs (by decide))
 have cc:=Zad h.bc hg (Kd.R_ne h.rl h.bc (by decide))
 have c4:=Zad h.b4 hg (Kd.R_ne h.rl h.b4 (by decide))
 have hh:=Kd.R_over h.rh h.rl (by decide) hg
 exact⟨⟨ZR (cs:=#[.int .i64 n,uL]) c6 1 v1 rfl,Kd.R_mono (Kd.R_far (p:=⟨g6,1,none⟩) (Kd.R_types ho c6 (by decide)) (fun _ hk=>hk.2) v1) (fun _ _=>trivial),Kd.R_mono (Kd.R_far (p:=⟨g6,1,none⟩) (Kd.R_types hh c6 (by decide)) (fun _ hk=>hk.2) v1) (fun _ _=>trivial),Zt hb h.g6b,ZL cs (p:=⟨g6,1,none⟩) (ZbF cs c6 (by decide)) v1,ZL cc (p:=⟨g6,1,none⟩) (ZbF cc c6 (by decide)) v1,ZL c4 (p:=⟨g6,1,none⟩) h.n4 v1,h.n4,h.g4b,h.g6b⟩,⟨(Zm c6 1).trans rfl,Zq c6 1⟩,Kd.R_slice ho⟩
theorem Zu.Inv.told {w W w1:World} {n:Int} {gs gc g4 g6:Nat} {vs vc:Array Value} {uL uH v1:Value} {L:Zu.Ls} {H H1:List Bool} (h:Zu.Inv w W n gs gc g4 g6 vs vc uL uH L H) (ho:Kd.R Kd.bool 4 w1 w.heap.size (fun _=>True) v1 H1) (hb:Below w.heap.size w w1) (hg:W.grownBy w1 uH.ownBlock) :
  Zu.Inv w w1 n gs gc g4 g6 vs vc uL v1 L H1∧∃A c,v1=.slice A H1.length c:=
 ⟨⟨Zad h.b6 hg (Kd.R_ne h.rh h.b6 (by decide)),Kd.R_over h.rl h.rh (by decide) hg,ho,hb,Zad h.bs hg (Kd.R_ne h.rh h.bs (by decide)),Zad h.bc hg (Kd.R_ne h.rh h.bc (by decide)),Zad h.b4 hg (Kd.R_ne h.rh h.b4 (by decide)),h.n4,h.g4b,h.g6b⟩,Kd.R_slice ho⟩
theorem Zu.init {w W w5:World} {n:Int} {gs gc g4 g6:Nat} {vs vc:Array Value} {v7:Value} (HB:Below w.heap.size w W) (BS:W.heap[gs]? = some (Obj.cells vs 25 (0,0))) (BC:W.heap[gc]? = some (Obj.cells vc 58 (0,0))) (B4:W.heap[g4]? = some (Obj.cells #[.int .i64 0,.slice none 0 0] 54 (0,0))) (B6:W.heap[g6]? = some (Obj.cells #[.int .i64 0,.slice none 0 0] 54 (0,0))) (N4:g4≠g6) (G4:w.heap.size≤g4) (G6:w.heap.size≤g6)
  (ho:Kd.R Kd.bool 4 w5 ((W.setCell ⟨g6,0,none⟩ (.int .i64 n)).setCell ⟨g6,1,none⟩ (.slice none 0 0)).heap.size (fun _=>True) v7 []) (hb:Below ((W.setCell ⟨g6,0,none⟩ (.int .i64 n)).setCell ⟨g6,1,none⟩ (.slice none 0 0)).heap.size ((W.setCell ⟨g6,0,none⟩ (.int .i64 n)).setCell ⟨g6,1,none⟩ (.slice none 0 0)) w5) :
  Zu.Inv w w5 n gs gc g4 g6 vs vc (.slice none 0 0) v7 [] []:=by
 have hX:=Zt (j:=1) (v:=.slice none 0 0) (Zt (j:=0) (v:=.int .i64 n) HB G6) G6
 have far:∀{g:Nat} {o:Array Value} {t:Nat},W.heap[g]? = some (Obj.cells o t (0,0))→g≠g6→((W.setCell ⟨g6,0,none⟩ (.int .i64 n)).setCell ⟨g6,1,none⟩ (.slice none 0 0)).heap[g]? = some (Obj.cells o t (0,0)):=fun h hne=>ZL (ZL h (p:=⟨g6,0,none⟩) hne _) (p:=⟨g6,1,none⟩) hne _
 exact⟨Zs (ZR (cs:=#[.int .i64 n,.slice none 0 0]) (ZR (cs:=#[.int .i64 0,.slice none 0 0]) B6 0 (.int .i64 n) rfl) 1 (.slice none 0 0) rfl) hb,Kd.R_nil _ _ _ _ _,Kd.R_lower ho hX.size,Zr hX hb,Zs (far BS (ZbF BS B6 (by decide))) hb,Zs (far BC (ZbF BC B6 (by decide))) hb,Zs (far B4 N4) hb,N4,G4,G6⟩
set_option maxHeartbeats 16000000 in
set_option maxRecDepth 100000 in
theorem Zu.calls (k:Nat) (A0_0:Option Addr) (c0_0:Nat) (l0_0:List (S39)) (A0_1:Option Addr) (c0_1:Nat) (l0_1:List (S82)) (a0_2:Int) (A1_0:Option Addr) (c1_0:Nat) (l1_0:List Int) (A1_1:Option Addr) (c1_1:Nat) (l1_1:List Int) (r1:Int) (r2:List S112) (r3:Bool) (w:World) (hr0_0:Kd.C k39 w A0_0 l0_0.length l0_0) (hc0_0:l0_0.length≤c0_0) (hr0_1:Kd.C k82 w A0_1 l0_1.length l0_1) (hc0_1:l0_1.length≤c0_1) (hr1_0:Kd.C (Kd.int .i64) w A1_0 l1_0.length l1_0) (hc1_0:l1_0.length≤c1_0) (hr1_1:Kd.C (Kd.int .i64) w A1_1 l1_1.length l1_1) (hc1_1:l1_1.length≤c1_1) (h:Zu.f k l0_0 l0_1 a0_2 l1_0 l1_1=some (r1,r2,r3)) :
  Calls Tryz.prog 29 #[.agg #[.slice A0_0 l0_0.length c0_0,.slice A0_1 l0_1.length c0_1,.int .i64 a0_2],.agg #[.slice A1_0 l1_0.length c1_0,.slice A1_1 l1_1.length c1_1]] w fun e w'=>∃v1_:Value,e=.returned (.tuple #[.agg #[.int .i64 r1,v1_],.bool r3])∧Kd.R k112 112 w' w.heap.size (fun _=>True) v1_ r2∧Below w.heap.size w w':=by
 unfold Zu.f at h
 obtain⟨b,hb_,h⟩:=Option.bind_eq_some_iff.1 h
 have H:=Za h
 have HCO:=Za fun (W:World) (hb:Below w.heap.size w W)=>Zbo.calls k A0_0 c0_0 l0_0 A0_1 c0_1 l0_1 a0_2 A1_0 c1_0 l1_0 A1_1 c1_1 l1_1 b W (Zb hr0_0 hb) hc0_0 (Zb hr0_1 hb) hc0_1 (Zb hr1_0 hb) hc1_0 (Zb hr1_1 hb) hc1_1 hb_
 have HS7:=Za fun (W:World) (A:Option Addr) (c:Nat) (l:List Int) (s:Int) (hb:Below w.heap.size w W) (hl:l.length≤c) (hr:Kd.C (Kd.int .i64) w A l.length l) (hf:Zav.f k l l1_1=some s)=>Zav.calls k A c l A1_1 c1_1 l1_1 s W (Zb hr hb) hl (Zb hr1_1 hb) hc1_1 hf
 have HLN:=Za fun (W:World) (i l:Int) (hb:Below w.heap.size w W) (hf:ZaZ.f k l0_0 l0_1 a0_2 l1_0 l1_1 i=some l)=>ZaZ.calls k A0_0 c0_0 l0_0 A0_1 c0_1 l0_1 a0_2 A1_0 c1_0 l1_0 A1_1 c1_1 l1_1 i l W (Zb hr0_0 hb) hc0_0 (Zb hr0_1 hb) hc0_1 (Zb hr1_0 hb) hc1_0 (Zb hr1_1 hb) hc1_1 hf
 have HWA:=Za fun (W:World) (q:Int) (t:Int) (hb:Below w.heap.size w W) (hf:ZZ.f k l0_0 l0_1 a0_2 q=some t)=>ZZ.calls k A0_0 c0_0 l0_0 A0_1 c0_1 l0_1 a0_2 q t W (Zb hr0_0 hb) hc0_0 (Zb hr0_1 hb) hc0_1 hf
 have HR0:=Za hr0_0;have HR1:=Za hr0_1
 have HN0:=Za hr0_0.2.1
 have HN1:=Za hr0_1.2.1
 clear hr0_0 hc0_0 hr0_1 hc0_1 hr1_0 hc1_0 hr1_1 hc1_1 h hb_
 have hu:=Tryz.underlying25
 have hu2:=Tryz.underlying58
 have hu3:=Tryz.underlying54
 have hu4:=Tryz.underlying39
 have hu5:=Tryz.underlying82
 have hu6:=Tryz.underlying112
 have hu7:=Tryz.underlying110
 go_enter Tryz.func29,Tryz.ntmps29
 cases b with
 | false=>
  obtain⟨e1,e2,e3⟩:(0:Int)=r1∧[]=r2∧false=r3:=by
   have h_:=Zg ((if_neg (by simp)).symm.trans H.out)
   exact⟨congrArg Prod.fst h_,congrArg (fun z=>z.2.1) h_,congrArg (fun z=>z.2.2) h_⟩
  subst e1;subst e2;subst e3
  go_wp2_with (first|((with_reducible refine ZF (N:=2) rfl ?_);refine ZG ?hg (N:=2) ?hd (cs:=#[.slice A0_0 l0_0.length c0_0,.slice A0_1 l0_1.length c0_1,.int .i64 a0_2]) (t:=25) ?hr ?_;(case hd=>rfl);(case hg=>rfl);(case hr=>first|(go_simp;done)|(go_simp;rfl));intro gs hg w1 hbox hb;have BS:=Za hbox;have HB:=Za hb;clear hbox hb hg)|((with_reducible refine ZF (N:=3) rfl ?_);refine ZG ?hg (N:=3) ?hd (cs:=#[.slice A1_0 l1_0.length c1_0,.slice A1_1 l1_1.length c1_1]) (t:=58) ?hr ?_;(case hd=>rfl);(case hg=>rfl);(case hr=>first|(go_simp;done)|(go_simp;rfl));intro gc hg w2 hbox hb;have BC:=Za hbox;replace BS:=Za (Zs BS.out hb);replace HB:=Za (Zr HB.out hb);clear hbox hb hg)|((with_reducible refine ZF (N:=4) rfl ?_);refine ZG ?hg (N:=4) ?hd (cs:=#[.int .i64 0,.slice none 0 0]) (t:=54) ?hr ?_;(case hd=>rfl);(case hg=>rfl);(case hr=>first|(go_simp;done)|(go_simp;rfl));intro g4 hg w3 hbox hb;have G4:=Za (show w.heap.size≤g4 by rw[hg];exact HB.out.size);have B4:=Za hbox;replace BC:=Za (Zs BC.out hb);replace BS:=Za (Zs BS.out hb);replace HB:=Za (Zr HB.out hb);have k0:w3.cell? ⟨gs,0,none⟩=some (.slice A0_0 l0_0.length c0_0):=(Zm BS.out 0).trans rfl;have k1:w3.cell? ⟨gs,1,none⟩=some (.slice A0_1 l0_1.length c0_1):=(Zm BS.out 1).trans rfl;have k2:w3.cell? ⟨gs,2,none⟩=some (.int .i64 a0_2):=(Zm BS.out 2).trans rfl;have m0:w3.cell? ⟨gc,0,none⟩=some (.slice A1_0 l1_0.length c1_0):=(Zm BC.out 0).trans rfl;have m1:w3.cell? ⟨gc,1,none⟩=some (.slice A1_1 l1_1.length c1_1):=(Zm BC.out 1).trans rfl;clear hbox hb hg)|(go_at_call 94;refine(HCO.out _ HB.out).mono ?_;rintro e w5 ⟨rfl,hb⟩;replace B4:=Za (Zs B4.out hb);replace BC:=Za (Zs BC.out hb);replace BS:=Za (Zs BS.out hb);replace HB:=Za (Zr HB.out hb);clear hb k0 k1 k2 m0 m1;have z0:w5.cell? ⟨g4,0,none⟩=some (.int .i64 0):=(Zm B4.out 0).trans rfl;have z1:w5.cell? ⟨g4,1,none⟩=some (.slice none 0 0):=(Zm B4.out 1).trans rfl;have fz0:=Zq B4.out 0;have fz1:=Zq B4.out 1;have k0:w5.cell? ⟨gs,0,none⟩=some (.slice A0_0 l0_0.length c0_0):=(Zm BS.out 0).trans rfl))
  refine bodyPost_ret (Zbq rfl _ _ g4 54 #[.int .i64 0,.slice none 0 0] (0,0) _ rfl (ZR (cs:=#[.int .i64 0,.slice none 0 0]) (ZR (cs:=#[.int .i64 0,.slice none 0 0]) B4.out 0 _ rfl) 1 _ rfl) Tryz.underlying54 rfl (by kernel_rfl)) rfl ?_
  exact⟨_,rfl,Kd.R_nil _ _ _ _ _,Zt (Zt HB.out G4.out) G4.out⟩
 | true=>
 replace H:=Za ((if_pos rfl).symm.trans H.out)
 go_wp2_with (first|((with_reducible refine ZF (N:=2) rfl ?_);refine ZG ?hg (N:=2) ?hd (cs:=#[.slice A0_0 l0_0.length c0_0,.slice A0_1 l0_1.length c0_1,.int .i64 a0_2]) (t:=25) ?hr ?_;(case hd=>rfl);(case hg=>rfl);(case hr=>first|(go_simp;done)|(go_simp;rfl));intro gs hg w1 hbox hb;have BS:=Za hbox;have HB:=Za hb;clear hbox hb hg)|((with_reducible refine ZF (N:=3) rfl ?_);refine ZG ?hg (N:=3) ?hd (cs:=#[.slice A1_0 l1_0.length c1_0,.slice A1_1 l1_1.length c1_1]) (t:=58) ?hr ?_;(case hd=>rfl);(case hg=>rfl);(case hr=>first|(go_simp;done)|(go_simp;rfl));intro gc hg w2 hbox hb;have BC:=Za hbox;replace BS:=Za (Zs BS.out hb);replace HB:=Za (Zr HB.out hb);clear hbox hb hg)|((with_reducible refine ZF (N:=4) rfl ?_);refine ZG ?hg (N:=4) ?hd (cs:=#[.int .i64 0,.slice none 0 0]) (t:=54) ?hr ?_;(case hd=>rfl);(case hg=>rfl);(case hr=>first|(go_simp;done)|(go_simp;rfl));intro g4 hg w3 hbox hb;have G4:=Za (show w.heap.size≤g4 by rw[hg];exact HB.out.size);have B4:=Za hbox;replace BC:=Za (Zs BC.out hb);replace BS:=Za (Zs BS.out hb);replace HB:=Za (Zr HB.out hb);have k0:w3.cell? ⟨gs,0,none⟩=some (.slice A0_0 l0_0.length c0_0):=(Zm BS.out 0).trans rfl;have k1:w3.cell? ⟨gs,1,none⟩=some (.slice A0_1 l0_1.length c0_1):=(Zm BS.out 1).trans rfl;have k2:w3.cell? ⟨gs,2,none⟩=some (.int .i64 a0_2):=(Zm BS.out 2).trans rfl;have m0:w3.cell? ⟨gc,0,none⟩=some (.slice A1_0 l1_0.length c1_0):=(Zm BC.out 0).trans rfl;have m1:w3.cell? ⟨gc,1,none⟩=some (.slice A1_1 l1_1.length c1_1):=(Zm BC.out 1).trans rfl;clear hbox hb hg)|(go_at_call 94;refine(HCO.out _ HB.out).mono ?_;rintro e w5 ⟨rfl,hb⟩;replace B4:=Za (Zs B4.out hb);replace BC:=Za (Zs BC.out hb);replace BS:=Za (Zs BS.out hb);replace HB:=Za (Zr HB.out hb);clear hb k0 k1 k2 m0 m1;have z0:w5.cell? ⟨g4,0,none⟩=some (.int .i64 0):=(Zm B4.out 0).trans rfl;have z1:w5.cell? ⟨g4,1,none⟩=some (.slice none 0 0):=(Zm B4.out 1).trans rfl;have fz0:=Zq B4.out 0;have fz1:=Zq B4.out 1;have k0:w5.cell? ⟨gs,0,none⟩=some (.slice A0_0 l0_0.length c0_0):=(Zm BS.out 0).trans rfl)|((with_reducible refine ZF (N:=6) rfl ?_);refine ZG ?hg (N:=6) ?hd (cs:=#[.int .i64 0,.slice none 0 0]) (t:=54) ?hr ?_;(case hd=>rfl);(case hg=>rfl);(case hr=>first|(go_simp;done)|(go_simp;rfl));intro g6 hg w6 hbox hb;have G6:=Za (show w.heap.size≤g6 by rw[hg];exact HB.out.size);have B6:=Za hbox;have N4:=Za (show g4≠g6 by rw[hg];exact Nat.ne_of_lt (ZN B4.out));replace B4:=Za (Zs B4.out hb);replace BC:=Za (Zs BC.out hb);replace BS:=Za (Zs BS.out hb);replace HB:=Za (Zr HB.out hb);have c0:w6.cell? ⟨g6,0,none⟩=some (.int .i64 0):=(Zm B6.out 0).trans rfl;have c1:w6.cell? ⟨g6,1,none⟩=some (.slice none 0 0):=(Zm B6.out 1).trans rfl;have f0:=Zq B6.out 0;have f1:=Zq B6.out 1;clear hbox hb hg k0 z0 z1 fz0 fz1)|((with_reducible refine ZF (N:=27) rfl ?_);refine Kd.R_lit Kd.bool _ 4 ?hg (N:=27) ?hd (xs:=([]:List Bool)) (inner:=[]) (ok:=fun _=>True) (okp:=fun _=>True) ?hr ?hp (fun _ hk=>hk) trivial (Below.refl _ _) (Nat.le_refl _) (by simp) ?_;(case hd=>rfl);(case hg=>rfl);(case hr=>first|(go_simp;done)|(go_simp;rfl));(case hp=>exact(Reps.none _ _));intro v7 w7 ho hb hg_ hnew_;have I0:=Za (Zu.init HB.out BS.out BC.out B4.out B6.out N4.out G4.out G6.out ho hb);have k0:w7.cell? ⟨gs,0,none⟩=some (.slice A0_0 l0_0.length c0_0):=(Zm I0.out.bs 0).trans rfl;clear ho hb hg_ hnew_ c0 c1 f0 f1 BS BC B4 B6 HB G4 G6 N4))
 clear k0
 go_loopg [7,31] l0_0.length (fun gg s7 s31 wr=>∃(i:Nat) (H0:List Bool) (L:Zu.Ls) (uL:Value),s31=.int .i64 (i:Int)∧Aside0 (i≤l0_0.length)∧Aside0 (l0_0.length - i≤gg)∧Aside0 ((run (Zu.stA k l0_0 l0_1 a0_2 l1_1) (l0_0.length - i) i (H0,L)).bind (Zu.f1 k l0_0 l0_1 a0_2 l1_0 l1_1)=some (r1,r2,r3))∧Aside0 (Zu.Inv w wr (l0_0.length:Int) gs gc g4 g6 #[.slice A0_0 l0_0.length c0_0,.slice A0_1 l0_1.length c0_1,.int .i64 a0_2] #[.slice A1_0 l1_0.length c1_0,.slice A1_1 l1_1.length c1_1] uL s7 L H0))
 case atStart=>exact⟨0,[],[],.slice none 0 0,rfl,⟨Nat.zero_le _⟩,⟨by omega⟩,H,I0⟩
 case round=>
 clear H I0
 obtain⟨i,H0,L,uL,rfl,HK,HG,HE,HI⟩:=hrel
 by_cases hlt:i<l0_0.length
 ·have hltz:(i:Int)<(l0_0.length:Int):=by omega
  obtain⟨a',hs,hrest⟩:=ZbD hlt HE.out
  have HE2:=Za hrest;clear hrest HE
  unfold Zu.stA at hs
  obtain⟨s,hb_,hs⟩:=Option.bind_eq_some_iff.1 hs
  by_cases hq1:H0.length<140737488355328
  case neg=>rw[if_neg hq1] at hs;exact absurd hs (by simp)
  rw[if_pos hq1] at hs
  have Q1:=Za hq1
  obtain⟨b,hat_,hs⟩:=Option.bind_eq_some_iff.1 hs
  obtain⟨H1,hH1⟩:∃H1:List Bool,H1=H0 ++ [s == 1]:=⟨_,rfl⟩
  dsimp only at hat_ hs
  rw[← hH1] at hat_ hs
  have NH:=Za hH1
  obtain⟨h0i,h1i,hqb⟩:=Zu.at_some hat_
  have p1:=eq_true h0i
  have p2:=eq_true h1i
  have HQ:=Za hqb;clear hq1 hat_ hH1 h0i h1i hqb
  obtain⟨ad,A_,c_,e1,hx0,hx1,hx2,ln,gn⟩:=ZaX HR0.out (i:Int) (by omega) hltz
  cases e1
  rw[Int.toNat_natCast] at hx0 hx1 hx2
  replace hx0:=Zx HI.out.hb hx0
  replace hx1:=Zx HI.out.hb hx1
  replace hx2:=Zx HI.out.hb hx2
  generalize ZJ l0_0 (i:Int)=nd at hx0 hx1 hx2 hb_ ln gn
  obtain⟨nm,lb,wt⟩:=nd
  dsimp only at hx0 hx1 hx2 hb_ ln gn
  have lta:=Zc wr _ hx0
  have k0:wr.cell? ⟨gs,0,none⟩=some (.slice (some ad) l0_0.length c0_0):=(Zm HI.out.bs 0).trans rfl
  have k1:wr.cell? ⟨gs,1,none⟩=some (.slice A0_1 l0_1.length c0_1):=(Zm HI.out.bs 1).trans rfl
  have k2:wr.cell? ⟨gs,2,none⟩=some (.int .i64 a0_2):=(Zm HI.out.bs 2).trans rfl
  have m0:wr.cell? ⟨gc,0,none⟩=some (.slice A1_0 l1_0.length c1_0):=(Zm HI.out.bc 0).trans rfl
  have m1:wr.cell? ⟨gc,1,none⟩=some (.slice A1_1 l1_1.length c1_1):=(Zm HI.out.bc 1).trans rfl
  have lgs:=ZN HI.out.bs
  have lgc:=ZN HI.out.bc
  have J:=Za (HI.out.below (Zo (Below.refl wr.heap.size wr) (.cells #[.string nm,.slice A_ lb.length c_,.int .i64 wt] 39)))
  have HC:=Za (HS7.out _ A_ c_ lb s J.out.hb ln gn hb_)
  clear ln gn hb_
  cases b with
  | false=>
   rw[if_neg (by simp)] at hs
   obtain rfl:=Zg hs
   clear hs
   go_wp2_with (first|(go_at_call 95;refine HC.out.mono ?_;rintro e w6 ⟨rfl,hb⟩;have J2:=Za (J.out.below hb);clear hb)|((with_reducible refine ZU (b:=.append) (xs:=#[.tmp 36,.tmp 43]) rfl ?_);at_builtin;refine Kd.R_append Kd.bool (w0:=w) w.heap.size rfl (.tmp 36) (.tmp 43) 107 4 (.bool false) 1 rfl Tryz.underlying107 info4 rfl (by decide) (by omega) u7 H0 (s == 1) [.bool (s == 1)] (fun _=>True) (fun _=>False) rfl rfl ?aP (fun _ hk=>hk.elim) ?aF ?aO ?aB ?aS ?aL ?_;(case aP=>exact rfl);(case aB=>exact J2.out.hb);(case aF=>exact fun _ _=>trivial);(case aO=>exact J2.out.rh);(case aS=>exact J2.out.hb.size);(case aL=>have:=Q1.out;omega);intro vH w7 ho hb hg hat;rw[← NH.out] at ho;obtain⟨j_,AH,cH,eH⟩:=Zu.Inv.told J2.out ho hb hg;subst eH;have J3:=Za j_;clear j_ ho hb hg hat;obtain⟨adh,eh,hxh⟩:=Kd.at_bool (Kd.R_reads' J3.out.rh).2.2 (i:Int) (of_eq_true p1) (of_eq_true p2);cases eh;rw[Int.toNat_natCast,HQ.out] at hxh;have k2:w7.cell? ⟨gs,2,none⟩=some (.int .i64 a0_2):=(Zm J3.out.bs 2).trans rfl;have kL:w7.cell? ⟨g6,1,none⟩=some (uL):=(Zm J3.out.b6 1).trans rfl))
   go_roundg (l0_0.length - (i+1))
   case measure=>have:=HG.out;omega
   case rel=>exact⟨i+1,H1,L,uL,by rw[ZO hlt HN0.out],⟨by omega⟩,⟨by omega⟩,HE2,J3⟩
  | true=>
   rw[if_pos rfl] at hs
   obtain⟨L1,hL1,hs⟩:=Option.bind_eq_some_iff.1 hs
   obtain rfl:=Zg hs
   obtain⟨q2,hL2⟩:=Zu.addL_some hL1
   have Q2:=Za q2;have NL:=Za hL2;clear hs hL1 q2 hL2
   go_wp2_with (first|(go_at_call 95;refine HC.out.mono ?_;rintro e w6 ⟨rfl,hb⟩;have J2:=Za (J.out.below hb);clear hb)|((with_reducible refine ZU (b:=.append) (xs:=#[.tmp 36,.tmp 43]) rfl ?_);at_builtin;refine Kd.R_append Kd.bool (w0:=w) w.heap.size rfl (.tmp 36) (.tmp 43) 107 4 (.bool false) 1 rfl Tryz.underlying107 info4 rfl (by decide) (by omega) u7 H0 (s == 1) [.bool (s == 1)] (fun _=>True) (fun _=>False) rfl rfl ?aP (fun _ hk=>hk.elim) ?aF ?aO ?aB ?aS ?aL ?_;(case aP=>exact rfl);(case aB=>exact J2.out.hb);(case aF=>exact fun _ _=>trivial);(case aO=>exact J2.out.rh);(case aS=>exact J2.out.hb.size);(case aL=>have:=Q1.out;omega);intro vH w7 ho hb hg hat;rw[← NH.out] at ho;obtain⟨j_,AH,cH,eH⟩:=Zu.Inv.told J2.out ho hb hg;subst eH;have J3:=Za j_;clear j_ ho hb hg hat;obtain⟨adh,eh,hxh⟩:=Kd.at_bool (Kd.R_reads' J3.out.rh).2.2 (i:Int) (of_eq_true p1) (of_eq_true p2);cases eh;rw[Int.toNat_natCast,HQ.out] at hxh;have k2:w7.cell? ⟨gs,2,none⟩=some (.int .i64 a0_2):=(Zm J3.out.bs 2).trans rfl;have kL:w7.cell? ⟨g6,1,none⟩=some (uL):=(Zm J3.out.b6 1).trans rfl)|((with_reducible refine ZU (b:=.append) (xs:=#[.tmp 50,.tmp 56]) rfl ?_);at_builtin;refine Kd.R_append k112 (w0:=w) w.heap.size rfl (.tmp 50) (.tmp 56) 52 112 (.agg #[(.int .i64 0),(.int .i64 0),(.int .i64 0),(.int .i64 0)]) 32 rfl Tryz.underlying52 ZdN rfl (by decide) (by omega) uL L ⟨0,(i:Int),⟨0,a0_2⟩⟩ [.int .i64 0,.int .i64 (i:Int),.int .i64 0,.int .i64 a0_2] (fun _=>True) (fun _=>False) rfl (by first|(go_simp;done)|(go_simp;rfl)) ?aP (fun _ hk=>hk.elim) ?aF ?aO ?aB ?aS ?aL ?_;(case aP=>exact Zdr _ _ _ (⟨0,(i:Int),⟨0,a0_2⟩⟩:S112));(case aB=>exact J3.out.hb);(case aF=>exact fun _ _=>trivial);(case aO=>exact J3.out.rl);(case aS=>exact J3.out.hb.size);(case aL=>have:=Q2.out;omega);intro vL w8 ho hb hg hat;rw[← NL.out] at ho;obtain⟨j_,⟨e5,e6⟩,AL,cL,eL⟩:=Zu.Inv.link J3.out ho hb hg;subst eL;have J4:=Za j_;clear j_ ho hb hg hat))
   go_roundg (l0_0.length - (i+1))
   case measure=>have:=HG.out;omega
   case rel=>exact⟨i+1,H1,L1,_,by rw[ZO hlt HN0.out],⟨by omega⟩,⟨by omega⟩,HE2,J4⟩
 ·obtain rfl:i=l0_0.length:=by have:=HK.out;omega
  have HQ:=Za (ZbX HE.out)
  have hltz:¬(((l0_0.length:Nat):Int)<(l0_0.length:Int)):=by omega
  unfold Zu.f1 at HQ
  clear HE HK HG
  obtain⟨Ah,ch,eh⟩:=Kd.R_slice HI.out.rh
  subst eh
  dsimp only at HQ
  have k1:wr.cell? ⟨gs,1,none⟩=some (.slice A0_1 l0_1.length c0_1):=(Zm HI.out.bs 1).trans rfl
  go_wp2
  clear k1 hltz
  go_loopg [63] l0_1.length (fun gg s63 wr=>∃(i:Nat) (L:Zu.Ls) (uL:Value),s63=.int .i64 (i:Int)∧Aside0 (i≤l0_1.length)∧Aside0 (l0_1.length - i≤gg)∧Aside0 ((run (Zu.stB k l0_0 l0_1 a0_2 l1_0 l1_1 H0) (l0_1.length - i) i L).bind (Zu.f2 k l0_0 l0_1 a0_2 H0)=some (r1,r2,r3))∧Aside0 (Zu.Inv w wr (l0_0.length:Int) gs gc g4 g6 #[.slice A0_0 l0_0.length c0_0,.slice A0_1 l0_1.length c0_1,.int .i64 a0_2] #[.slice A1_0 l1_0.length c1_0,.slice A1_1 l1_1.length c1_1] uL (.slice Ah H0.length ch) L H0))
  case atStart=>exact⟨0,L,uL,rfl,⟨Nat.zero_le _⟩,⟨by omega⟩,HQ,HI⟩
  case round=>
  clear HQ HI
  obtain⟨i,L,uL,rfl,HK,HG,HE,HI⟩:=hrel
  by_cases hlt:i<l0_1.length
  ·have hltz:(i:Int)<(l0_1.length:Int):=by omega
   obtain⟨L1,hs,hrest⟩:=ZbD hlt HE.out
   have HE2:=Za hrest;clear hrest HE
   unfold Zu.stB at hs
   obtain⟨b,hb_,hs⟩:=Option.bind_eq_some_iff.1 hs
   obtain⟨ad,e1,hx0,hx1,hx2,hx3,hx4⟩:=ZbG HR1.out (i:Int) (by omega) hltz
   cases e1
   rw[Int.toNat_natCast] at hx0 hx1 hx2 hx3 hx4
   replace hx0:=Zx HI.out.hb hx0
   replace hx1:=Zx HI.out.hb hx1
   replace hx2:=Zx HI.out.hb hx2
   replace hx3:=Zx HI.out.hb hx3
   replace hx4:=Zx HI.out.hb hx4
   generalize ZE l0_1 (i:Int)=td at hx0 hx1 hx2 hx3 hx4 hs hb_
   obtain⟨tf,tt,tl,th,tb⟩:=td
   dsimp only at hx0 hx1 hx2 hx3 hx4 hs hb_
   have lta:=Zc wr _ hx0
   have k0:wr.cell? ⟨gs,0,none⟩=some (.slice A0_0 l0_0.length c0_0):=(Zm HI.out.bs 0).trans rfl
   have k1:wr.cell? ⟨gs,1,none⟩=some (.slice (some ad) l0_1.length c0_1):=(Zm HI.out.bs 1).trans rfl
   have k2:wr.cell? ⟨gs,2,none⟩=some (.int .i64 a0_2):=(Zm HI.out.bs 2).trans rfl
   have m0:wr.cell? ⟨gc,0,none⟩=some (.slice A1_0 l1_0.length c1_0):=(Zm HI.out.bc 0).trans rfl
   have m1:wr.cell? ⟨gc,1,none⟩=some (.slice A1_1 l1_1.length c1_1):=(Zm HI.out.bc 1).trans rfl
   have kL:wr.cell? ⟨g6,1,none⟩=some (uL):=(Zm HI.out.b6 1).trans rfl
   have lgs:=ZN HI.out.bs
   have lgc:=ZN HI.out.bc
   have lg6:=ZN HI.out.b6
   have J:=Za (HI.out.below (Zo (Below.refl wr.heap.size wr) (.cells #[.int .i64 tf,.int .i64 tt,.int .i64 tl,.int .i64 th,.bool tb] 82)))
   obtain⟨h0f,h1f,hqf⟩:=Zu.at_some hb_
   obtain⟨adh,eh,hxf⟩:=Kd.at_bool (Kd.R_reads' HI.out.rh).2.2 tf h0f h1f
   cases eh
   rw[hqf] at hxf
   have lth:=Zc wr _ hxf
   have p1:=eq_true h0f
   have p2:=eq_true h1f
   clear hb_ h0f h1f hqf
   cases b with
   | false=>
    rw[if_neg (by simp)] at hs
    obtain rfl:=Zg hs
    clear hs
    go_wp2
    go_roundg (l0_1.length - (i+1))
    case measure=>have:=HG.out;omega
    case rel=>exact⟨i+1,L,uL,by rw[ZO hlt HN1.out],⟨by omega⟩,⟨by omega⟩,HE2,J⟩
   | true=>
    rw[if_pos rfl] at hs
    obtain⟨c,hc_,hs⟩:=Option.bind_eq_some_iff.1 hs
    obtain⟨h0t,h1t,hqt⟩:=Zu.at_some hc_
    obtain⟨adh2,eh2,hxt⟩:=Kd.at_bool (Kd.R_reads' HI.out.rh).2.2 tt h0t h1t
    cases eh2
    rw[hqt] at hxt
    have lth2:=Zc wr _ hxt
    have p3:=eq_true h0t
    have p4:=eq_true h1t
    clear hc_ h0t h1t hqt
    cases c with
    | false=>
     rw[if_neg (by simp)] at hs
     obtain rfl:=Zg hs
     clear hs
     go_wp2
     go_roundg (l0_1.length - (i+1))
     case measure=>have:=HG.out;omega
     case rel=>exact⟨i+1,L,uL,by rw[ZO hlt HN1.out],⟨by omega⟩,⟨by omega⟩,HE2,J⟩
    | true=>
     rw[if_pos rfl] at hs
     obtain⟨q,hq,hs⟩:=Option.bind_eq_some_iff.1 hs
     obtain⟨q2,hL2⟩:=Zu.addL_some hs
     have Q2:=Za q2;have NL:=Za hL2
     have HX:=Za (Zo (Zo (Below.refl wr.heap.size wr) (.cells #[.int .i64 tf,.int .i64 tt,.int .i64 tl,.int .i64 th,.bool tb] 82)) (.cells #[.int .i64 tf,.int .i64 tt,.int .i64 tl,.int .i64 th] 112))
     have JX:=Za (HI.out.below HX.out)
     clear hs q2 hL2
     cases tb with
     | false=>
      obtain rfl:=Zg (show some (tl,th)=some q from hq)
      dsimp only at NL
      clear hq
      go_wp2_with ((with_reducible refine ZU (b:=.append) (xs:=#[.tmp 106,.tmp 108]) rfl ?_);at_builtin;refine Kd.R_append k112 (w0:=w) w.heap.size rfl (.tmp 106) (.tmp 108) 52 112 (.agg #[(.int .i64 0),(.int .i64 0),(.int .i64 0),(.int .i64 0)]) 32 rfl Tryz.underlying52 ZdN rfl (by decide) (by omega) uL L ⟨tf,tt,⟨tl,th⟩⟩ [.int .i64 tf,.int .i64 tt,.int .i64 tl,.int .i64 th] (fun _=>True) (fun _=>False) rfl (by first|(go_simp;done)|(go_simp;rfl)) ?aP (fun _ hk=>hk.elim) ?aF ?aO ?aB ?aS ?aL ?_;(case aP=>exact Zdr _ _ _ (⟨tf,tt,⟨tl,th⟩⟩:S112));(case aB=>exact JX.out.hb);(case aF=>exact fun _ _=>trivial);(case aO=>exact JX.out.rl);(case aS=>exact JX.out.hb.size);(case aL=>have:=Q2.out;omega);intro vL w8 ho hb hg hat;rw[← NL.out] at ho;obtain⟨j_,⟨e5,e6⟩,AL,cL,eL⟩:=Zu.Inv.link JX.out ho hb hg;subst eL;have J4:=Za j_;clear j_ ho hb hg hat)
      go_roundg (l0_1.length - (i+1))
      case measure=>have:=HG.out;omega
      case rel=>exact⟨i+1,L1,_,by rw[ZO hlt HN1.out],⟨by omega⟩,⟨by omega⟩,HE2,J4⟩
     | true=>
      obtain⟨l,hl_,hq⟩:=Option.bind_eq_some_iff.1 (show(ZaZ.f k l0_0 l0_1 a0_2 l1_0 l1_1 (i:Int)).bind (fun l=>some (l,l))=some q from hq)
      obtain rfl:=Zg hq
      dsimp only at NL
      have HCL:=Za fun (W:World) (hb:Below w.heap.size w W)=>HLN.out W (i:Int) l hb hl_
      have KL:=Za (show((wr.alloc (.cells #[.int .i64 tf,.int .i64 tt,.int .i64 tl,.int .i64 th,.bool true] 82)).alloc (.cells #[.int .i64 tf,.int .i64 tt,.int .i64 tl,.int .i64 th] 112)).heap[wr.heap.size+1]? = some (Obj.cells #[.int .i64 tf,.int .i64 tt,.int .i64 tl,.int .i64 th] 112 (0,0)) by
       have h_:=Zcp (wr.alloc (.cells #[.int .i64 tf,.int .i64 tt,.int .i64 tl,.int .i64 th,.bool true] 82)) (.cells #[.int .i64 tf,.int .i64 tt,.int .i64 tl,.int .i64 th] 112)
       simpa using h_)
      have hne:g6≠wr.heap.size+1:=by omega
      have hne2:=hne.symm
      clear hq hl_
      go_wp2_with (first|(go_at_call 96;refine(HCL.out _ JX.out.hb).mono ?_;rintro e w6 ⟨rfl,hb⟩;have KL6:=Za (Zs KL.out hb);have J6:=Za (JX.out.below hb);have J7:=Za (HI.out.below (Zt (j:=3) (v:=.int .i64 l) (Zt (j:=2) (v:=.int .i64 l) (Zr HX.out hb) (Nat.le_succ wr.heap.size)) (Nat.le_succ wr.heap.size)));clear k0 k1 k2 m0 m1 kL hb;have kL:w6.cell? ⟨g6,1,none⟩=some uL:=(Zm J6.out.b6 1).trans rfl;have y0:w6.cell? ⟨wr.heap.size+1,0,none⟩=some (.int .i64 tf):=(Zm KL6.out 0).trans rfl;have fy0:=Zq KL6.out 0;have y1:w6.cell? ⟨wr.heap.size+1,1,none⟩=some (.int .i64 tt):=(Zm KL6.out 1).trans rfl;have fy1:=Zq KL6.out 1;have y2:w6.cell? ⟨wr.heap.size+1,2,none⟩=some (.int .i64 tl):=(Zm KL6.out 2).trans rfl;have fy2:=Zq KL6.out 2;have y3:w6.cell? ⟨wr.heap.size+1,3,none⟩=some (.int .i64 th):=(Zm KL6.out 3).trans rfl;have fy3:=Zq KL6.out 3)|((with_reducible refine ZU (b:=.append) (xs:=#[.tmp 106,.tmp 108]) rfl ?_);at_builtin;refine Kd.R_append k112 (w0:=w) w.heap.size rfl (.tmp 106) (.tmp 108) 52 112 (.agg #[(.int .i64 0),(.int .i64 0),(.int .i64 0),(.int .i64 0)]) 32 rfl Tryz.underlying52 ZdN rfl (by decide) (by omega) uL L ⟨tf,tt,⟨l,l⟩⟩ [.int .i64 tf,.int .i64 tt,.int .i64 l,.int .i64 l] (fun _=>True) (fun _=>False) rfl (by first|(go_simp;done)|(go_simp;rfl)) ?aP (fun _ hk=>hk.elim) ?aF ?aO ?aB ?aS ?aL ?_;(case aP=>exact Zdr _ _ _ (⟨tf,tt,⟨l,l⟩⟩:S112));(case aB=>exact J7.out.hb);(case aF=>exact fun _ _=>trivial);(case aO=>exact J7.out.rl);(case aS=>exact J7.out.hb.size);(case aL=>have:=Q2.out;omega);intro vL w8 ho hb hg hat;rw[← NL.out] at ho;obtain⟨j_,⟨e5,e6⟩,AL,cL,eL⟩:=Zu.Inv.link J7.out ho hb hg;subst eL;have J4:=Za j_;clear j_ ho hb hg hat))
      go_roundg (l0_1.length - (i+1))
      case measure=>have:=HG.out;omega
      case rel=>exact⟨i+1,L1,_,by rw[ZO hlt HN1.out],⟨by omega⟩,⟨by omega⟩,HE2,J4⟩
  ·obtain rfl:i=l0_1.length:=by have:=HK.out;omega
   have HQ:=Za (ZbX HE.out)
   have hltz:¬(((l0_1.length:Nat):Int)<(l0_1.length:Int)):=by omega
   unfold Zu.f2 at HQ
   clear HE HK HG
   have k0:wr.cell? ⟨gs,0,none⟩=some (.slice A0_0 l0_0.length c0_0):=(Zm HI.out.bs 0).trans rfl
   go_wp2
   clear k0 hltz
   go_loopg [115] l0_0.length (fun gg s115 wr=>∃(i:Nat) (L:Zu.Ls) (uL:Value),s115=.int .i64 (i:Int)∧Aside0 (i≤l0_0.length)∧Aside0 (l0_0.length - i≤gg)∧Aside0 ((run (Zu.stC H0) (l0_0.length - i) i L).bind (Zu.f3 k l0_0 l0_1 a0_2 H0)=some (r1,r2,r3))∧Aside0 (Zu.Inv w wr (l0_0.length:Int) gs gc g4 g6 #[.slice A0_0 l0_0.length c0_0,.slice A0_1 l0_1.length c0_1,.int .i64 a0_2] #[.slice A1_0 l1_0.length c1_0,.slice A1_1 l1_1.length c1_1] uL (.slice Ah H0.length ch) L H0))
   case atStart=>exact⟨0,L,uL,rfl,⟨Nat.zero_le _⟩,⟨by omega⟩,HQ,HI⟩
   case round=>
   clear HQ HI
   obtain⟨i,L,uL,rfl,HK,HG,HE,HI⟩:=hrel
   by_cases hlt:i<l0_0.length
   ·have hltz:(i:Int)<(l0_0.length:Int):=by omega
    obtain⟨L1,hs,hrest⟩:=ZbD hlt HE.out
    have HE2:=Za hrest;clear hrest HE
    unfold Zu.stC at hs
    obtain⟨b,hb_,hs⟩:=Option.bind_eq_some_iff.1 hs
    obtain⟨h0f,h1f,hqf⟩:=Zu.at_some hb_
    obtain⟨adh,eh,hxf⟩:=Kd.at_bool (Kd.R_reads' HI.out.rh).2.2 (i:Int) h0f h1f
    cases eh
    rw[Int.toNat_natCast,hqf] at hxf
    have p1:=eq_true h0f
    have p2:=eq_true h1f
    have kL:wr.cell? ⟨g6,1,none⟩=some (uL):=(Zm HI.out.b6 1).trans rfl
    clear hb_ h0f h1f hqf
    cases b with
    | true=>
     rw[if_pos rfl] at hs
     obtain rfl:=Zg hs
     clear hs
     go_wp2
     go_roundg (l0_0.length - (i+1))
     case measure=>have:=HG.out;omega
     case rel=>exact⟨i+1,L,uL,by rw[ZO hlt HN0.out],⟨by omega⟩,⟨by omega⟩,HE2,HI⟩
    | false=>
     rw[if_neg (by simp)] at hs
     obtain⟨q2,hL2⟩:=Zu.addL_some hs
     have Q2:=Za q2;have NL:=Za hL2;clear hs q2 hL2
     go_wp2_with ((with_reducible refine ZU (b:=.append) (xs:=#[.tmp 124,.tmp 127]) rfl ?_);at_builtin;refine Kd.R_append k112 (w0:=w) w.heap.size rfl (.tmp 124) (.tmp 127) 52 112 (.agg #[(.int .i64 0),(.int .i64 0),(.int .i64 0),(.int .i64 0)]) 32 rfl Tryz.underlying52 ZdN rfl (by decide) (by omega) uL L ⟨0,(i:Int),⟨0,0⟩⟩ [.int .i64 0,.int .i64 (i:Int),.int .i64 0,.int .i64 0] (fun _=>True) (fun _=>False) rfl (by first|(go_simp;done)|(go_simp;rfl)) ?aP (fun _ hk=>hk.elim) ?aF ?aO ?aB ?aS ?aL ?_;(case aP=>exact Zdr _ _ _ (⟨0,(i:Int),⟨0,0⟩⟩:S112));(case aB=>exact HI.out.hb);(case aF=>exact fun _ _=>trivial);(case aO=>exact HI.out.rl);(case aS=>exact HI.out.hb.size);(case aL=>have:=Q2.out;omega);intro vL w8 ho hb hg hat;rw[← NL.out] at ho;obtain⟨j_,⟨e5,e6⟩,AL,cL,eL⟩:=Zu.Inv.link HI.out ho hb hg;subst eL;have J4:=Za j_;clear j_ ho hb hg hat)
     go_roundg (l0_0.length - (i+1))
     case measure=>have:=HG.out;omega
     case rel=>exact⟨i+1,L1,_,by rw[ZO hlt HN0.out],⟨by omega⟩,⟨by omega⟩,HE2,J4⟩
   ·obtain rfl:i=l0_0.length:=by have:=HK.out;omega
    have HQ:=Za (ZbX HE.out)
    have hltz:¬(((l0_0.length:Nat):Int)<(l0_0.length:Int)):=by omega
    unfold Zu.f3 at HQ
    clear HE HK HG
    have k0:wr.cell? ⟨gs,0,none⟩=some (.slice A0_0 l0_0.length c0_0):=(Zm HI.out.bs 0).trans rfl
    go_wp2
    clear k0 hltz
    go_loopg [134] l0_0.length (fun gg s134 wr=>∃(i:Nat) (L:Zu.Ls) (uL:Value),s134=.int .i64 (i:Int)∧Aside0 (i≤l0_0.length)∧Aside0 (l0_0.length - i≤gg)∧Aside0 ((run (Zu.stD k l0_0 l0_1 a0_2 H0) (l0_0.length - i) i L).bind (Zu.f4 k l0_0.length)=some (r1,r2,r3))∧Aside0 (Zu.Inv w wr (l0_0.length:Int) gs gc g4 g6 #[.slice A0_0 l0_0.length c0_0,.slice A0_1 l0_1.length c0_1,.int .i64 a0_2] #[.slice A1_0 l1_0.length c1_0,.slice A1_1 l1_1.length c1_1] uL (.slice Ah H0.length ch) L H0))
    case atStart=>exact⟨0,L,uL,rfl,⟨Nat.zero_le _⟩,⟨by omega⟩,HQ,HI⟩
    case round=>
    clear HQ HI
    obtain⟨i,L,uL,rfl,HK,HG,HE,HI⟩:=hrel
    by_cases hlt:i<l0_0.length
    ·have hltz:(i:Int)<(l0_0.length:Int):=by omega
     obtain⟨L1,hs,hrest⟩:=ZbD hlt HE.out
     have HE2:=Za hrest;clear hrest HE
     unfold Zu.stD at hs
     obtain⟨ad,A_,c_,e1,hx0,hx1,hx2,ln,gn⟩:=ZaX HR0.out (i:Int) (by omega) hltz
     cases e1
     rw[Int.toNat_natCast] at hx0 hx1 hx2
     replace hx0:=Zx HI.out.hb hx0
     replace hx1:=Zx HI.out.hb hx1
     replace hx2:=Zx HI.out.hb hx2
     generalize ZJ l0_0 (i:Int)=nd at hx0 hx1 hx2 hs ln gn
     obtain⟨nm,lb,wt⟩:=nd
     dsimp only at hx0 hx1 hx2 hs ln gn
     have lta:=Zc wr _ hx0
     have J:=Za (HI.out.below (Zo (Below.refl wr.heap.size wr) (.cells #[.string nm,.slice A_ lb.length c_,.int .i64 wt] 39)))
     have GN:=Za gn
     have LN:=Za gn.2.1
     have HS:=Za (show(run (Zu.stE k l0_0 l0_1 a0_2 H0 i lb) (lb.length - 0) 0 L).bind some=some L1 from by rw[Nat.sub_zero];rw[hs];rfl)
     clear ln gn hs
     go_wp2
     clear hx0 hx1 hx2 lta HI
     go_loopg [142] lb.length (fun gg s142 wr=>∃(j:Nat) (L:Zu.Ls) (uL:Value),s142=.int .i64 (j:Int)∧Aside0 (j≤lb.length)∧Aside0 (lb.length - j≤gg)∧Aside0 ((run (Zu.stE k l0_0 l0_1 a0_2 H0 i lb) (lb.length - j) j L).bind some=some L1)∧Aside0 (Zu.Inv w wr (l0_0.length:Int) gs gc g4 g6 #[.slice (some ad) l0_0.length c0_0,.slice A0_1 l0_1.length c0_1,.int .i64 a0_2] #[.slice A1_0 l1_0.length c1_0,.slice A1_1 l1_1.length c1_1] uL (.slice Ah H0.length ch) L H0))
     case atStart=>exact⟨0,L,uL,rfl,⟨Nat.zero_le _⟩,⟨by omega⟩,HS,J⟩
     case round=>
     clear HS J
     obtain⟨j,L,uL,rfl,HKj,HGj,HEj,HI⟩:=hrel
     by_cases hlj:j<lb.length
     ·have hljz:(j:Int)<(lb.length:Int):=by omega
      obtain⟨L2,hs,hrest⟩:=ZbD hlj HEj.out
      have HEj2:=Za hrest;clear hrest HEj
      unfold Zu.stE at hs
      obtain⟨b,hb_,hs⟩:=Option.bind_eq_some_iff.1 hs
      obtain⟨h0f,h1f,hqf⟩:=Zu.at_some hb_
      obtain⟨adh,eh,hxf⟩:=Kd.at_bool (Kd.R_reads' HI.out.rh).2.2 (i:Int) h0f h1f
      cases eh
      rw[Int.toNat_natCast,hqf] at hxf
      have p1:=eq_true h0f
      have p2:=eq_true h1f
      obtain⟨adb,e2,hy⟩:=Kd.at_int GN.out (j:Int) (by omega) hljz
      cases e2
      rw[Int.toNat_natCast] at hy
      replace hy:=Zx HI.out.hb hy
      generalize rd lb (j:Int)=x at hy hs
      clear hb_ h0f h1f hqf
      cases b with
      | false=>
       rw[if_neg (by simp)] at hs
       obtain rfl:=Zg hs
       clear hs
       go_wp2
       go_roundg (lb.length - (j+1))
       case measure=>have:=HGj.out;omega
       case rel=>exact⟨j+1,L,uL,by rw[ZO hlj LN.out],⟨by omega⟩,⟨by omega⟩,HEj2,HI⟩
      | true=>
       rw[if_pos rfl] at hs
       obtain⟨p,hp_,hs⟩:=Option.bind_eq_some_iff.1 hs
       obtain⟨t,ht_,hs⟩:=Option.bind_eq_some_iff.1 hs
       have HPO:=Za fun (W:World)=>ZaH.calls x p W hp_
       have HWT:=Za fun (W:World) (hb:Below w.heap.size w W)=>HWA.out W p t hb ht_
       obtain⟨q2,hL2⟩:=Zu.addL_some hs
       have Q2:=Za q2;have NL:=Za hL2;clear hs q2 hL2 hp_ ht_
       go_wp2_with fail
       have J3:=Za (HI.out.below (Zp (Below.refl _ _)))
       refine Zbd (n:=13) (S:=fun w'=>w'.cell? ⟨g6,1,none⟩=some uL∧w'.cell? ⟨gs,0,none⟩=some (.slice (some ad) l0_0.length c0_0)∧w'.cell? ⟨gs,1,none⟩=some (.slice A0_1 l0_1.length c0_1)∧w'.cell? ⟨gs,2,none⟩=some (.int .i64 a0_2)) (ds:=[10,12]) #[false,false,false,false,false,false,false,false,false,false,false,false,false] (by kernel_rfl) rfl rfl ⟨(Zm J3.out.b6 1).trans rfl,(Zm J3.out.bs 0).trans rfl,(Zm J3.out.bs 1).trans rfl,(Zm J3.out.bs 2).trans rfl⟩ (fun hHeld=>?_)
       refine pu (N:=some 150) 0 ?_
       refine pu (N:=some 153) 3 ?_
       refine pu (N:=some 156) 6 ?_
       refine pu (N:=some 157) 7 ?_
       refine tk (N:=some 151) 1 hHeld ?_
       refine tk (N:=some 152) 2 hHeld ?_
       refine onl (N:=some 154) 4 (fun K hK=>?_)
       refine ZaU Tryz.func98 (by kernel_rfl) rfl #[.int .i64 x] (by rfl) rfl rfl (by(try simp only[List.map_toArray,List.map_cons,List.map_nil]);first|done|rfl) ?_
       refine(HPO.out _).mono ?_
       rintro e w7 ⟨rfl,hd⟩
       refine⟨_,rfl,?_⟩
       have J4:=Za (J3.out.below hd.below)
       clear hd
       refine hK.out _ _ ⟨(Zm J4.out.b6 1).trans rfl,(Zm J4.out.bs 0).trans rfl,(Zm J4.out.bs 1).trans rfl,(Zm J4.out.bs 2).trans rfl⟩ (fun hHeld=>?_)
       clear hK K
       refine nrm (some 154) ?_
       refine onl (N:=some 155) 5 (fun K hK=>?_)
       refine ZaU Tryz.func97 (by kernel_rfl) rfl #[.agg #[.slice (some ad) l0_0.length c0_0,.slice A0_1 l0_1.length c0_1,.int .i64 a0_2],.int .i64 p] (by rfl) rfl rfl (by(try simp only[List.map_toArray,List.map_cons,List.map_nil]);first|done|rfl) ?_
       refine(HWT.out _ J4.out.hb).mono ?_
       rintro e w8 ⟨rfl,hb⟩
       refine⟨_,rfl,?_⟩
       have J5:=Za (J4.out.below hb)
       clear hb
       refine hK.out _ _ ⟨(Zm J5.out.b6 1).trans rfl,(Zm J5.out.bs 0).trans rfl,(Zm J5.out.bs 1).trans rfl,(Zm J5.out.bs 2).trans rfl⟩ (fun hHeld=>?_)
       clear hK K
       refine nrm (some 155) ?_
       refine pu (N:=some 158) 8 ?_
       refine onl (N:=some 159) 9 (fun K hK=>?_)
       refine Zcs (w1:=?_) (v:=?_) (by rfl) rfl ?_ ?_
       rotate_left 2
       ·go_simp
        constructor
        ·rfl
        ·rfl
       refine hK.out _ _ ⟨(Zm (Zy J5.out.b6 _) 1).trans rfl,(Zm (Zy J5.out.bs _) 0).trans rfl,(Zm (Zy J5.out.bs _) 1).trans rfl,(Zm (Zy J5.out.bs _) 2).trans rfl⟩ (fun hHeld=>?_)
       clear hK K
       refine nrm (some 159) ?_
       refine ZcA (i:=10) (N:=some 160) #[true,true,true,true,true,true,true,true,true,true,true,false,false] rfl rfl (by kernel_rfl) (by decide) (fun K hK=>?_)
       refine Kd.R_append_step k112 (w0:=w) w.heap.size (by rfl) (.tmp 151) (.tmp 159) 52 112 (.agg #[(.int .i64 0),(.int .i64 0),(.int .i64 0),(.int .i64 0)]) 32 rfl Tryz.underlying52 ZdN rfl (by decide) (by omega) uL L ⟨t,(i:Int),⟨1,1000000⟩⟩ [.int .i64 t,.int .i64 (i:Int),.int .i64 1,.int .i64 1000000] (fun _=>True) (fun _=>False) rfl rfl ?aP (fun _ hk=>hk.elim) ?aF ?aO ?aB ?aS ?aL ?_
       (case aP=>exact Zdr _ _ _ (⟨t,(i:Int),⟨1,1000000⟩⟩:S112))
       (case aB=>exact J5.out.hb)
       (case aF=>exact fun _ _=>trivial)
       (case aO=>exact J5.out.rl)
       (case aS=>exact J5.out.hb.size)
       (case aL=>have:=Q2.out;omega)
       intro vL w9 ho hb hg hat
       rw[← NL.out] at ho
       obtain⟨j_,⟨e5,e6⟩,AL,cL,eL⟩:=Zu.Inv.link J5.out ho hb hg
       subst eL;have J6:=Za j_;clear j_ ho hb hg hat
       refine hK.out _ _ ?_
       clear hK K
       refine nrm (some 160) ?_
       refine pu (N:=some 161) 11 ?_
       refine ZcA (i:=12) (N:=none) #[true,true,true,true,true,true,true,true,true,true,true,true,true] rfl rfl (by kernel_rfl) (by decide) (fun K hK=>?_)
       refine Zc5 (w1:=?_) (by rfl) rfl ?_ ?_
       rotate_left
       ·go_simp
        rfl
       refine hK.out _ _ ?_
       clear hK K
       refine Zbu (by kernel_rfl) ?_
       go_wp2
       go_roundg (lb.length - (j+1))
       case measure=>have:=HGj.out;omega
       case rel=>exact⟨j+1,L2,_,by rw[ZO hlj LN.out],⟨by omega⟩,⟨by omega⟩,HEj2,J6⟩
     ·obtain rfl:j=lb.length:=by have:=HKj.out;omega
      obtain rfl:L=L1:=Zg (ZbX HEj.out)
      have hljz:¬(((lb.length:Nat):Int)<(lb.length:Int)):=by omega
      clear HEj HKj HGj
      go_wp2
      go_roundg (l0_0.length - (i+1))
      case measure=>have:=HG.out;omega
      case rel=>exact⟨i+1,L,uL,by rw[ZO hlt HN0.out],⟨by omega⟩,⟨by omega⟩,HE2,HI⟩
    ·obtain rfl:i=l0_0.length:=by have:=HK.out;omega
     have HQ:=Za (ZbX HE.out)
     have hltz:¬(((l0_0.length:Nat):Int)<(l0_0.length:Int)):=by omega
     unfold Zu.f4 at HQ
     clear HE HK HG
     obtain⟨b,hb_,hr_⟩:=Option.bind_eq_some_iff.1 HQ.out
     have HF:=Za hr_
     obtain⟨AL,cL,eL⟩:=Kd.R_slice HI.out.rl
     subst eL
     have HC:=Za (Za1.calls k ((l0_0.length:Nat):Int) AL cL L b wr (Kd.R_reads' HI.out.rl).2.2 (Kd.R_reads' HI.out.rl).2.1 hb_)
     have kN:wr.cell? ⟨g6,0,none⟩=some (.int .i64 (l0_0.length:Int)):=(Zm HI.out.b6 0).trans rfl
     have kL:wr.cell? ⟨g6,1,none⟩=some (.slice AL L.length cL):=(Zm HI.out.b6 1).trans rfl
     clear HQ hb_ hr_
     cases b with
     | false=>
      obtain⟨e1,e2,e3⟩:(0:Int)=r1∧[]=r2∧false=r3:=by
       have h_:=Zg ((if_neg (by simp)).symm.trans HF.out)
       exact⟨congrArg Prod.fst h_,congrArg (fun z=>z.2.1) h_,congrArg (fun z=>z.2.2) h_⟩
      subst e1;subst e2;subst e3
      go_wp2_with (go_at_call 99;refine HC.out.mono ?_;rintro e w6 ⟨rfl,hb⟩;have J2:=Za (HI.out.below hb);clear kN kL hb;have kN:w6.cell? ⟨g6,0,none⟩=some (.int .i64 (l0_0.length:Int)):=(Zm J2.out.b6 0).trans rfl;have kL:w6.cell? ⟨g6,1,none⟩=some (.slice AL L.length cL):=(Zm J2.out.b6 1).trans rfl;have z0:w6.cell? ⟨g4,0,none⟩=some (.int .i64 0):=(Zm J2.out.b4 0).trans rfl;have z1:w6.cell? ⟨g4,1,none⟩=some (.slice none 0 0):=(Zm J2.out.b4 1).trans rfl;have fz0:=Zq J2.out.b4 0;have fz1:=Zq J2.out.b4 1;have hn4:=J2.out.n4;have hn5:=J2.out.n4.symm)
      refine bodyPost_ret (Zbq rfl _ _ g4 54 #[.int .i64 0,.slice none 0 0] (0,0) _ rfl (ZR (cs:=#[.int .i64 0,.slice none 0 0]) (ZR (cs:=#[.int .i64 0,.slice none 0 0]) J2.out.b4 0 _ rfl) 1 _ rfl) Tryz.underlying54 rfl (by kernel_rfl)) rfl ?_
      exact⟨_,rfl,Kd.R_nil _ _ _ _ _,Zt (Zt J2.out.hb J2.out.g4b) J2.out.g4b⟩
     | true=>
      obtain⟨e1,e2,e3⟩:((l0_0.length:Nat):Int)=r1∧L=r2∧true=r3:=by
       have h_:=Zg ((if_pos rfl).symm.trans HF.out)
       exact⟨congrArg Prod.fst h_,congrArg (fun z=>z.2.1) h_,congrArg (fun z=>z.2.2) h_⟩
      subst e1;subst e2;subst e3
      go_wp2_with (go_at_call 99;refine HC.out.mono ?_;rintro e w6 ⟨rfl,hb⟩;have J2:=Za (HI.out.below hb);clear kN kL hb;have kN:w6.cell? ⟨g6,0,none⟩=some (.int .i64 (l0_0.length:Int)):=(Zm J2.out.b6 0).trans rfl;have kL:w6.cell? ⟨g6,1,none⟩=some (.slice AL L.length cL):=(Zm J2.out.b6 1).trans rfl;have z0:w6.cell? ⟨g4,0,none⟩=some (.int .i64 0):=(Zm J2.out.b4 0).trans rfl;have z1:w6.cell? ⟨g4,1,none⟩=some (.slice none 0 0):=(Zm J2.out.b4 1).trans rfl;have fz0:=Zq J2.out.b4 0;have fz1:=Zq J2.out.b4 1;have hn4:=J2.out.n4;have hn5:=J2.out.n4.symm)
      refine bodyPost_ret (Zbq rfl _ _ g4 54 #[.int .i64 ((l0_0.length:Nat):Int),.slice AL L.length cL] (0,0) _ rfl (ZR (cs:=#[.int .i64 ((l0_0.length:Nat):Int),.slice none 0 0]) (ZR (cs:=#[.int .i64 0,.slice none 0 0]) J2.out.b4 0 _ rfl) 1 _ rfl) Tryz.underlying54 rfl (by kernel_rfl)) rfl ?_
      exact⟨_,rfl,Kd.R_mono (Kd.R_far (p:=⟨g4,1,none⟩) (Kd.R_far (p:=⟨g4,0,none⟩) (Kd.R_types J2.out.rl J2.out.b4 (by decide)) (fun _ hk=>hk.2) _) (fun _ hk=>hk.2) _) (fun _ _=>trivial),Zt (Zt J2.out.hb J2.out.g4b) J2.out.g4b⟩
end Go.Proofs.YtoeimopgoaffcaaGreatDoor.Pr
