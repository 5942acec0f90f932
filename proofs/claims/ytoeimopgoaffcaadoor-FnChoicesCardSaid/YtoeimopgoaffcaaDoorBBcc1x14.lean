/- By a program of this session. -/
import Derived.StillTailTactics
import Derived.Test.YtoeimopgoaffcaaDoorBBcc1x13
namespace Go.Proofs.YtoeimopgoaffcaaDoor.Pr
open RowKit YtoeimopgoaffcaaDoorW.PrintWords YtoeimopgoaffcaaDoorW.PrintLast YtoeimopgoaffcaaDoorW.PrintMore
attribute [local go_sem] Zat Zar ZaG ZaF Zal Zak Zas Zaq
set_option linter.unusedVariables false
set_option linter.unusedSimpArgs false
open Ni
abbrev Zv.Acc:=List S113×List ByteArray
def Zv.add (a:Zv.Acc) (x:S113) (s:ByteArray):Option Zv.Acc:=if a.1.length<4398046511104∧a.2.length<4398046511104∧s.size≤9223372036854775807 then some (a.1 ++ [x],a.2 ++ [s]) else none
theorem Zv.add_some {a a':Zv.Acc} {x:S113} {s:ByteArray} (h:Zv.add a x s=some a'):a.1.length<4398046511104∧a.2.length<4398046511104∧s.size≤9223372036854775807∧a'=(a.1 ++ [x],a.2 ++ [s]):=by
 unfold Zv.add at h
 by_cases hc:a.1.length<4398046511104∧a.2.length<4398046511104∧s.size≤9223372036854775807
 ·rw[if_pos hc] at h
  exact⟨hc.1,hc.2.1,hc.2.2,(Zg h).symm⟩
 ·rw[if_neg hc] at h;exact absurd h (by simp)
def Zv.hap (k:Nat) (l0_0:List (S54)) (l0_1:List (S81)) (a0_2:Int) (l1_0:List Int) (l1_1:List Int) (i:Int):Option Bool:=Z7.f k l0_0 l0_1 a0_2 l1_0 l1_1 i
def Zv.stA (hp:Int→Option Bool) (l0_0:List (S54)) (l0_1:List (S81)) (a0_2:Int) (i:Nat) (a:Zv.Acc):Option Zv.Acc:=(hp (i:Int)).bind fun b=>if b=true then Zv.add a ⟨0,(i:Int),⟨0,a0_2⟩⟩ ((⟨#[104,111,114,105,122,111,110,32]⟩:ByteArray) ++ (Zy l0_0 (i:Int)).f0) else some a
def Zv.span (fr ln:List Int) (i:Nat) (t:S81):Option (Int×Int):=if t.f4=true then(if 0≤ZaK (fun y=>decide ((i:Int)=y)) fr∧ZaK (fun y=>decide ((i:Int)=y)) fr<ln.length then some (rd ln (ZaK (fun y=>decide ((i:Int)=y)) fr),rd ln (ZaK (fun y=>decide ((i:Int)=y)) fr)) else none) else some (t.f2,t.f3)
def Zv.stB (hp:Int→Option Bool) (l0_0:List (S54)) (l0_1:List (S81)) (a0_2:Int) (ln fr:List Int) (i:Nat) (a:Zv.Acc):Option Zv.Acc:=
 (hp (Zz l0_1 (i:Int)).f0).bind fun b=>if b=true then(hp (Zz l0_1 (i:Int)).f1).bind fun c=>if c=true then(Zv.span fr ln i (Zz l0_1 (i:Int))).bind fun q=>(ZaP.f l0_0 l0_1 a0_2 (i:Int)).bind fun s=>Zv.add a ⟨(Zz l0_1 (i:Int)).f0,(Zz l0_1 (i:Int)).f1,⟨q.1,q.2⟩⟩ s else some a else some a
def Zv.stC (hp:Int→Option Bool) (i:Nat) (a:Zv.Acc):Option Zv.Acc:=(hp (i:Int)).bind fun b=>if b=true then some a else Zv.add a ⟨0,(i:Int),⟨0,0⟩⟩ (⟨#[]⟩:ByteArray)
def Zv.after (x y:ByteArray):ByteArray:=(((⟨#[97,102,116,101,114,32]⟩:ByteArray) ++ x) ++ (⟨#[32]⟩:ByteArray)) ++ y
def Zv.stE (hp:Int→Option Bool) (l0_0:List (S54)) (l0_1:List (S81)) (a0_2:Int) (i:Nat) (lb:List Int) (j:Nat) (a:Zv.Acc):Option Zv.Acc:=
 (hp (i:Int)).bind fun b=>if b=true then(Zag.f (rd lb (j:Int))).bind fun p=>(Zaw.f l0_0 l0_1 a0_2 p).bind fun t=>if 0≤t∧t<l0_0.length then Zv.add a ⟨t,(i:Int),⟨1,1000000⟩⟩ (Zv.after (Zy l0_0 t).f0 (Zy l0_0 (i:Int)).f0) else none else some a
def Zv.stD (hp:Int→Option Bool) (l0_0:List (S54)) (l0_1:List (S81)) (a0_2:Int) (i:Nat) (a:Zv.Acc):Option Zv.Acc:=run (Zv.stE hp l0_0 l0_1 a0_2 i (Zy l0_0 (i:Int)).f1) (Zy l0_0 (i:Int)).f1.length 0 a
def Zv.f4 (n:Nat) (a:Zv.Acc):Option (Int×List S113×List ByteArray):=some ((n:Int),a.1,a.2)
def Zv.f3 (hp:Int→Option Bool) (l0_0:List (S54)) (l0_1:List (S81)) (a0_2:Int) (a:Zv.Acc):Option (Int×List S113×List ByteArray):=(run (Zv.stD hp l0_0 l0_1 a0_2) l0_0.length 0 a).bind (Zv.f4 l0_0.length)
def Zv.f2 (hp:Int→Option Bool) (l0_0:List (S54)) (l0_1:List (S81)) (a0_2:Int) (a:Zv.Acc):Option (Int×List S113×List ByteArray):=(run (Zv.stC hp) l0_0.length 0 a).bind (Zv.f3 hp l0_0 l0_1 a0_2)
def Zv.f1 (k:Nat) (hp:Int→Option Bool) (l0_0:List (S54)) (l0_1:List (S81)) (a0_2:Int) (ln:List Int) (a:Zv.Acc):Option (Int×List S113×List ByteArray):=(ZY.f k l0_0 l0_1 a0_2).bind fun fr=>(run (Zv.stB hp l0_0 l0_1 a0_2 ln fr) l0_1.length 0 a).bind (Zv.f2 hp l0_0 l0_1 a0_2)
def Zv.f (k:Nat) (l0_0:List (S54)) (l0_1:List (S81)) (a0_2:Int) (l1_0:List Int) (l1_1:List Int):Option (Int×List S113×List ByteArray):=(run (Zv.stA (Zv.hap k l0_0 l0_1 a0_2 l1_0 l1_1) l0_0 l0_1 a0_2) l0_0.length 0 ([],[])).bind (Zv.f1 k (Zv.hap k l0_0 l0_1 a0_2 l1_0 l1_1) l0_0 l0_1 a0_2 l1_0)
theorem Zv.goesC {P : Program} {ops : Array Oper} {Q : Exit → Act → World → Prop} {oi : Oper} {N : Option Tmp} {a : Act} {w : World} {K : Act → World → Prop} {f : FuncId} {fn : Func} {xs : Array Operand} {ts : Array TypeId} (t : Tmp) (lb : Array Value) (hf : P.funcs[f]? = some fn) (hname : (fn.name == "runtime.NumGoroutine") = false) (hb : fn.body.isSome = true) (args : Array Value)
  (hw:Region.wanted oi (yielded ops a.tmps)=true) (hN:oi.dst=N) (hop:oi.op=.call { callee:=.value (.tmp t),args:=xs,argTypes:=ts }) (hv:a.eval (.tmp t)=.func (.func f) #[] lb) (hargs:xs.map a.eval ++ lb=args)
  (h:Calls P f args w fun e w'=>∃v,e=.returned v∧K (a.put N v) w'):if Region.wanted oi (yielded ops a.tmps)=true then Oper.wp P oi a w K Q else K (a.put N undef) w:=by
 refine call_ f args hw hN ?_ h
 have he:=enters_ hf hname hb args w
 unfold execOp
 simp[hop,resolve,Deferred.ofValue,invoke,hv,hargs,he]
theorem Zv.quietX {P:Program} {f:FuncId} {args:Array Value} {W:World} {a x:Nat} {v:Value} (h:Calls P f args (W.drewN (a+x)) fun e w'=>e=.returned v∧∃m,w'=(W.drewN (a+x)).drewN m):Calls P f args (W.drewN (a+x)) fun e w''=>e=.returned v∧∃n,w''=W.drewN (a+n):=
 h.mono fun _ _ ⟨he,m,hm⟩=>⟨he,x+m,by rw[hm,World.drewN_drewN,Nat.add_assoc]⟩
theorem Zv.quiet0 {P:Program} {f:FuncId} {args:Array Value} {W:World} {x:Nat} {v:Value} (h:Calls P f args (W.drewN x) fun e w'=>e=.returned v∧∃m,w'=(W.drewN x).drewN m):Calls P f args (W.drewN x) fun e w''=>e=.returned v∧∃n,w''=W.drewN n:=
 h.mono fun _ _ ⟨he,m,hm⟩=>⟨he,x+m,by rw[hm,World.drewN_drewN]⟩
structure Zv.Inv (w W:World) (n:Int) (gs gc g4 g6 g7:Nat) (vs vc:Array Value) (uL uR:Value) (a:Zv.Acc):Prop where
 st:ZX.St w W n g6 g7 uL uR a.1 a.2
 bs:W.heap[gs]? = some (Obj.cells vs 39 (0,0))
 bc:W.heap[gc]? = some (Obj.cells vc 44 (0,0))
 b4:W.heap[g4]? = some (Obj.cells #[.int .i64 0,.slice none 0 0] 50 (0,0))
 n4:g4≠g6
 g4b:w.heap.size≤g4
theorem Zv.Inv.below {w W W':World} {n:Int} {gs gc g4 g6 g7:Nat} {vs vc:Array Value} {uL uR:Value} {a:Zv.Acc} (h:Zv.Inv w W n gs gc g4 g6 g7 vs vc uL uR a) (hb:Below W.heap.size W W'):Zv.Inv w W' n gs gc g4 g6 g7 vs vc uL uR a:=
 ⟨⟨Zw h.st.b6 hb,Zw h.st.b7 hb,Kd.R_below h.st.rl hb,Kd.R_below h.st.rr hb,Zx h.st.hb hb,h.st.g6b,h.st.g7b⟩,Zw h.bs hb,Zw h.bc hb,Zw h.b4 hb,h.n4,h.g4b⟩
theorem Zv.Inv.clo {w W W':World} {n:Int} {gs gc g4 g6 g7:Nat} {vs vc:Array Value} {uL uR uL' uR':Value} {a:Zv.Acc} {L:List S113} {S:List ByteArray} (h:Zv.Inv w W n gs gc g4 g6 g7 vs vc uL uR a) (hs:ZX.St w W' n g6 g7 uL' uR' L S) (hf:ZX.Fr g6 W W'):Zv.Inv w W' n gs gc g4 g6 g7 vs vc uL' uR' (L,S):=
 ⟨hs,(hf _ _ _ h.bs (Zbv h.bs h.st.b6 (by decide)) (by decide) (by decide) (by decide)).trans h.bs,(hf _ _ _ h.bc (Zbv h.bc h.st.b6 (by decide)) (by decide) (by decide) (by decide)).trans h.bc,(hf _ _ _ h.b4 h.n4 (by decide) (by decide) (by decide)).trans h.b4,h.n4,h.g4b⟩
theorem Zv.row {w W W':World} {n:Int} {g6 g7:Nat} {uL uR:Value} {L:List S113} {S:List ByteArray} {base:Nat} {ok:Nat→Prop} {v:Value} {xs:List Int} (h:ZX.St w W n g6 g7 uL uR L S) (hf:ZX.Fr g6 W W') (hr:Kd.R (Kd.int .i64) 3 W base ok v xs):Kd.R (Kd.int .i64) 3 W' base ok v xs:=by
 refine Kd.R_mono (ok':=ok) (Kd.R_move (Kd.R_bound hr) fun j hj=>?_) (fun _ hk=>hk.1)
 obtain⟨_,_,_,q,hq,cs,hc⟩:=hj
 have hq3:q=3:=by simpa [Kd.int,Kd.scalar] using hq
 subst hq3
 exact hf j cs _ hc (Zbv hc h.b6 (by decide)) (by decide) (by decide) (by decide)
theorem Zv.init {w W w5:World} {n:Int} {gs gc g4 g6 g7:Nat} {vs vc:Array Value} (HB:Below w.heap.size w W) (BS:W.heap[gs]? = some (Obj.cells vs 39 (0,0))) (BC:W.heap[gc]? = some (Obj.cells vc 44 (0,0))) (B4:W.heap[g4]? = some (Obj.cells #[.int .i64 0,.slice none 0 0] 50 (0,0))) (B6:W.heap[g6]? = some (Obj.cells #[.int .i64 0,.slice none 0 0] 50 (0,0))) (N4:g4≠g6) (G4:w.heap.size≤g4) (G6:w.heap.size≤g6)
  (hg:g7=((W.setCell ⟨g6,0,none⟩ (.int .i64 n)).setCell ⟨g6,1,none⟩ (.slice none 0 0)).heap.size) (hbox:w5.heap[g7]? = some (Obj.cells #[.slice none 0 0] 60 (0,0))) (hb:Below ((W.setCell ⟨g6,0,none⟩ (.int .i64 n)).setCell ⟨g6,1,none⟩ (.slice none 0 0)).heap.size ((W.setCell ⟨g6,0,none⟩ (.int .i64 n)).setCell ⟨g6,1,none⟩ (.slice none 0 0)) w5) :
  Zv.Inv w w5 n gs gc g4 g6 g7 vs vc (.slice none 0 0) (.slice none 0 0) ([],[]):=by
 have hX:=Zq (j:=1) (v:=.slice none 0 0) (Zq (j:=0) (v:=.int .i64 n) HB G6) G6
 have far:∀{g:Nat} {o:Array Value} {t:Nat},W.heap[g]? = some (Obj.cells o t (0,0))→g≠g6→((W.setCell ⟨g6,0,none⟩ (.int .i64 n)).setCell ⟨g6,1,none⟩ (.slice none 0 0)).heap[g]? = some (Obj.cells o t (0,0)):=fun h hne=>ZF (ZF h (p:=⟨g6,0,none⟩) hne _) (p:=⟨g6,1,none⟩) hne _
 exact⟨⟨Zw (ZO (cs:=#[.int .i64 n,.slice none 0 0]) (ZO (cs:=#[.int .i64 0,.slice none 0 0]) B6 0 (.int .i64 n) rfl) 1 (.slice none 0 0) rfl) hb,hbox,Kd.R_nil _ _ _ _ _,Kd.R_nil _ _ _ _ _,Zx hX hb,G6,by rw[hg];exact hX.size⟩,Zw (far BS (Zbv BS B6 (by decide))) hb,Zw (far BC (Zbv BC B6 (by decide))) hb,Zw (far B4 N4) hb,N4,G4⟩
set_option maxHeartbeats 16000000 in
set_option maxRecDepth 100000 in
theorem Zv.calls (k:Nat) (A0_0:Option Addr) (c0_0:Nat) (l0_0:List (S54)) (A0_1:Option Addr) (c0_1:Nat) (l0_1:List (S81)) (a0_2:Int) (A1_0:Option Addr) (c1_0:Nat) (l1_0:List Int) (A1_1:Option Addr) (c1_1:Nat) (l1_1:List Int) (r1:Int) (r2:List S113) (r3:List ByteArray) (w:World) (hr0_0:Kd.C k54 w A0_0 l0_0.length l0_0) (hc0_0:l0_0.length≤c0_0) (hr0_1:Kd.C k81 w A0_1 l0_1.length l0_1) (hc0_1:l0_1.length≤c0_1) (hr1_0:Kd.C (Kd.int .i64) w A1_0 l1_0.length l1_0) (hc1_0:l1_0.length≤c1_0) (hr1_1:Kd.C (Kd.int .i64) w A1_1 l1_1.length l1_1) (hc1_1:l1_1.length≤c1_1) (ht:TW w) (h:Zv.f k l0_0 l0_1 a0_2 l1_0 l1_1=some (r1,r2,r3)) :
  Calls Tryd.prog 53 #[.agg #[.slice A0_0 l0_0.length c0_0,.slice A0_1 l0_1.length c0_1,.int .i64 a0_2],.agg #[.slice A1_0 l1_0.length c1_0,.slice A1_1 l1_1.length c1_1]] w fun e w'=>∃v1_ v2_:Value,e=.returned (.tuple #[.agg #[.int .i64 r1,v1_],v2_])∧Kd.R k113 113 w' w.heap.size (fun _=>True) v1_ r2∧Kd.R Kd.string 9 w' w.heap.size (fun _=>True) v2_ r3∧Below w.heap.size w w':=by
 unfold Zv.f at h
 have H:=Za h
 have HH:=Za fun (W:World) (i:Int) (b:Bool) (hb:Below w.heap.size w W) (hf:Zv.hap k l0_0 l0_1 a0_2 l1_0 l1_1 i=some b)=>Z7.calls k A0_0 c0_0 l0_0 A0_1 c0_1 l0_1 a0_2 A1_0 c1_0 l1_0 A1_1 c1_1 l1_1 i b W (Zb hr0_0 hb) hc0_0 (Zb hr0_1 hb) hc0_1 (Zb hr1_0 hb) hc1_0 (Zb hr1_1 hb) hc1_1 hf
 have HFT:=Za fun (W:World) (fr:List Int) (hb:Below w.heap.size w W) (hf:ZY.f k l0_0 l0_1 a0_2=some fr)=>ZY.calls k A0_0 c0_0 l0_0 A0_1 c0_1 l0_1 a0_2 fr W (Zb hr0_0 hb) hc0_0 (Zb hr0_1 hb) hc0_1 hf
 have HTT:=Za fun (W:World) (i:Int) (s:ByteArray) (hb:Below w.heap.size w W) (hf:ZaP.f l0_0 l0_1 a0_2 i=some s)=>ZaP.calls A0_0 c0_0 l0_0 A0_1 c0_1 l0_1 a0_2 i s W (Zb hr0_0 hb) hc0_0 (Zb hr0_1 hb) hc0_1 (TW.below ht hb) hf
 have HWA:=Za fun (W:World) (q:Int) (t:Int) (hb:Below w.heap.size w W) (hf:Zaw.f l0_0 l0_1 a0_2 q=some t)=>Zaw.calls A0_0 c0_0 l0_0 A0_1 c0_1 l0_1 a0_2 q t W (Zb hr0_0 hb) hc0_0 (Zb hr0_1 hb) hc0_1 hf
 have HR0:=Za hr0_0;have HR1:=Za hr0_1;have HR2:=Za hr1_0
 have HN0:=Za hr0_0.2.1
 have HN1:=Za hr0_1.2.1
 clear hr0_0 hc0_0 hr0_1 hc0_1 hr1_0 hc1_0 hr1_1 hc1_1 ht h
 generalize hhp:Zv.hap k l0_0 l0_1 a0_2 l1_0 l1_1=hp at H HH
 clear hhp
 have hu:=Tryd.underlying39
 have hu2:=Tryd.underlying44
 have hu3:=Tryd.underlying50
 have hu4:=Tryd.underlying54
 have hu5:=Tryd.underlying81
 go_enter Tryd.func53,Tryd.ntmps53
 go_wp2_with (first|((with_reducible refine ZK (N:=2) rfl ?_);refine ZN ?hg (N:=2) ?hd (cs:=#[.slice A0_0 l0_0.length c0_0,.slice A0_1 l0_1.length c0_1,.int .i64 a0_2]) (t:=39) ?hr ?_;(case hd=>rfl);(case hg=>rfl);(case hr=>first|(go_simp;done)|(go_simp;rfl));intro gs hg w1 hbox hb;have BS:=Za hbox;have HB:=Za hb;clear hbox hb hg)|((with_reducible refine ZK (N:=3) rfl ?_);refine ZN ?hg (N:=3) ?hd (cs:=#[.slice A1_0 l1_0.length c1_0,.slice A1_1 l1_1.length c1_1]) (t:=44) ?hr ?_;(case hd=>rfl);(case hg=>rfl);(case hr=>first|(go_simp;done)|(go_simp;rfl));intro gc hg w2 hbox hb;have BC:=Za hbox;replace BS:=Za (Zw BS.out hb);replace HB:=Za (Zx HB.out hb);clear hbox hb hg)|((with_reducible refine ZK (N:=4) rfl ?_);refine ZN ?hg (N:=4) ?hd (cs:=#[.int .i64 0,.slice none 0 0]) (t:=50) ?hr ?_;(case hd=>rfl);(case hg=>rfl);(case hr=>first|(go_simp;done)|(go_simp;rfl));intro g4 hg w3 hbox hb;have G4:=Za (show w.heap.size≤g4 by rw[hg];exact HB.out.size);have B4:=Za hbox;replace BC:=Za (Zw BC.out hb);replace BS:=Za (Zw BS.out hb);replace HB:=Za (Zx HB.out hb);have k0:w3.cell? ⟨gs,0,none⟩=some (.slice A0_0 l0_0.length c0_0):=(Zo BS.out 0).trans rfl;clear hbox hb hg)|((with_reducible refine ZK (N:=6) rfl ?_);refine ZN ?hg (N:=6) ?hd (cs:=#[.int .i64 0,.slice none 0 0]) (t:=50) ?hr ?_;(case hd=>rfl);(case hg=>rfl);(case hr=>first|(go_simp;done)|(go_simp;rfl));intro g6 hg w4 hbox hb;have G6:=Za (show w.heap.size≤g6 by rw[hg];exact HB.out.size);have B6:=Za hbox;have N4:=Za (show g4≠g6 by rw[hg];exact Nat.ne_of_lt (ZR B4.out));replace B4:=Za (Zw B4.out hb);replace BC:=Za (Zw BC.out hb);replace BS:=Za (Zw BS.out hb);replace HB:=Za (Zx HB.out hb);have c0:w4.cell? ⟨g6,0,none⟩=some (.int .i64 0):=(Zo B6.out 0).trans rfl;have c1:w4.cell? ⟨g6,1,none⟩=some (.slice none 0 0):=(Zo B6.out 1).trans rfl;have f0:=Zu B6.out 0;have f1:=Zu B6.out 1;clear hbox hb hg k0)|((with_reducible refine ZK (N:=7) rfl ?_);refine ZN ?hg (N:=7) ?hd (cs:=#[.slice none 0 0]) (t:=60) ?hr ?_;(case hd=>rfl);(case hg=>rfl);(case hr=>first|(go_simp;done)|(go_simp;rfl));intro g7 hg w5 hbox hb;have I0:=Za (Zv.init HB.out BS.out BC.out B4.out B6.out N4.out G4.out G6.out hg hbox hb);have k0:w5.cell? ⟨gs,0,none⟩=some (.slice A0_0 l0_0.length c0_0):=(Zo I0.out.bs 0).trans rfl;clear hbox hb hg c0 c1 f0 f1 BS BC B4 B6 HB G4 G6 N4))
 clear k0
 go_loopg [30] l0_0.length (fun gg s30 wr=>∃(i:Nat) (a:Zv.Acc) (uL uR:Value),s30=.int .i64 (i:Int)∧Aside0 (i≤l0_0.length)∧Aside0 (l0_0.length - i≤gg)∧Aside0 ((run (Zv.stA hp l0_0 l0_1 a0_2) (l0_0.length - i) i a).bind (Zv.f1 k hp l0_0 l0_1 a0_2 l1_0)=some (r1,r2,r3))∧Aside0 (Zv.Inv w wr (l0_0.length:Int) gs gc g4 g6 g7 #[.slice A0_0 l0_0.length c0_0,.slice A0_1 l0_1.length c0_1,.int .i64 a0_2] #[.slice A1_0 l1_0.length c1_0,.slice A1_1 l1_1.length c1_1] uL uR a))
 case atStart=>exact⟨0,([],[]),.slice none 0 0,.slice none 0 0,rfl,⟨Nat.zero_le _⟩,⟨by omega⟩,H,I0⟩
 case round=>
 clear H I0
 obtain⟨i,a,uL,uR,rfl,HK,HG,HE,HI⟩:=hrel
 by_cases hlt:i<l0_0.length
 ·have hltz:(i:Int)<(l0_0.length:Int):=by omega
  obtain⟨a',hs,hrest⟩:=ZcP hlt HE.out
  have HE2:=Za hrest;clear hrest HE
  unfold Zv.stA at hs
  obtain⟨b,hb_,hs⟩:=Option.bind_eq_some_iff.1 hs
  obtain⟨ad,A_,c_,e1,hx0,hx1,hx2,ln,gn⟩:=Zbw HR0.out (i:Int) (by omega) hltz
  cases e1
  rw[Int.toNat_natCast] at hx0 hx1 hx2
  replace hx0:=ZE HI.out.st.hb hx0
  replace hx1:=ZE HI.out.st.hb hx1
  replace hx2:=ZE HI.out.st.hb hx2
  generalize Zy l0_0 (i:Int)=nd at hx0 hx1 hx2 hs ln gn
  obtain⟨nm,lb,wt⟩:=nd
  dsimp only at hx0 hx1 hx2 hs
  have lta:=Zc wr _ hx0
  have k0:wr.cell? ⟨gs,0,none⟩=some (.slice (some ad) l0_0.length c0_0):=(Zo HI.out.bs 0).trans rfl
  have k1:wr.cell? ⟨gs,1,none⟩=some (.slice A0_1 l0_1.length c0_1):=(Zo HI.out.bs 1).trans rfl
  have k2:wr.cell? ⟨gs,2,none⟩=some (.int .i64 a0_2):=(Zo HI.out.bs 2).trans rfl
  have m0:wr.cell? ⟨gc,0,none⟩=some (.slice A1_0 l1_0.length c1_0):=(Zo HI.out.bc 0).trans rfl
  have m1:wr.cell? ⟨gc,1,none⟩=some (.slice A1_1 l1_1.length c1_1):=(Zo HI.out.bc 1).trans rfl
  have lgs:=ZR HI.out.bs
  have lgc:=ZR HI.out.bc
  have J:=Za (HI.out.below (Zn (Below.refl wr.heap.size wr) (.cells #[.string nm,.slice A_ lb.length c_,.int .i64 wt] 54)))
  have HC:=Za (HH.out _ (i:Int) b J.out.st.hb hb_)
  have KN:=Za (show(wr.alloc (.cells #[.string nm,.slice A_ lb.length c_,.int .i64 wt] 54)).cell? ⟨wr.heap.size,0,none⟩=some (.string nm) by go_simp)
  clear ln gn hb_
  cases b with
  | false=>
   rw[if_neg (by simp)] at hs
   obtain rfl:=Zg hs
   clear hs
   go_wp2_with (go_at_call 56;refine HC.out.mono ?_;rintro e w6 ⟨rfl,hb⟩;have J2:=Za (J.out.below hb);clear hb)
   go_roundg (l0_0.length - (i+1))
   case measure=>have:=HG.out;omega
   case rel=>exact⟨i+1,a,uL,uR,by rw[Z9 hlt HN0.out],⟨by omega⟩,⟨by omega⟩,HE2,J2⟩
  | true=>
   rw[if_pos rfl] at hs
   obtain⟨q1,q2,q3,rfl⟩:=Zv.add_some hs
   have Q1:=Za q1;have Q2:=Za q2
   have q4:(9223372036854775807<8+nm.size)=False:=eq_false (Nat.not_lt.2 (by have h_:=q3;simp only[ByteArray.size_append] at h_;exact h_))
   clear hs q1 q2 q3
   go_wp2_with (first|(go_at_call 56;refine HC.out.mono ?_;rintro e w6 ⟨rfl,hb⟩;have J2:=Za (J.out.below hb);have kn:=ZE hb KN.out;have k2:w6.cell? ⟨gs,2,none⟩=some (.int .i64 a0_2):=(Zo J2.out.bs 2).trans rfl;clear hb)|(go_at_call 79;refine(ZX.clo w w6 _ g6 g7 uL uR a.1 a.2 _ _ _ _ _ J2.out.st Q1.out Q2.out).mono ?_;rintro e w7 ⟨rfl,uL',uR',hst,hfr⟩;have J3:=Za (J2.out.clo hst hfr);clear hst hfr))
   go_roundg (l0_0.length - (i+1))
   case measure=>have:=HG.out;omega
   case rel=>exact⟨i+1,_,uL',uR',by rw[Z9 hlt HN0.out],⟨by omega⟩,⟨by omega⟩,HE2,J3⟩
 ·obtain rfl:i=l0_0.length:=by have:=HK.out;omega
  have HE2:=Za (Zc5 HE.out)
  have hltz:¬(((l0_0.length:Nat):Int)<(l0_0.length:Int)):=by omega
  clear HE
  unfold Zv.f1 at HE2
  obtain⟨fr,hfr,hrest⟩:=Option.bind_eq_some_iff.1 HE2.out
  have HQ:=Za hrest
  have HCF:=Za (HFT.out wr fr HI.out.st.hb hfr)
  clear HE2 hfr hrest HFT
  have k0:wr.cell? ⟨gs,0,none⟩=some (.slice A0_0 l0_0.length c0_0):=(Zo HI.out.bs 0).trans rfl
  have k1:wr.cell? ⟨gs,1,none⟩=some (.slice A0_1 l0_1.length c0_1):=(Zo HI.out.bs 1).trans rfl
  have k2:wr.cell? ⟨gs,2,none⟩=some (.int .i64 a0_2):=(Zo HI.out.bs 2).trans rfl
  have lgs:=ZR HI.out.bs
  go_wp2_with (go_at_call 48;refine HCF.out.mono ?_;rintro e w6 ⟨v6,rfl,ho,hb⟩;obtain⟨Af,cf,e6⟩:=Kd.R_slice ho;subst e6;have HF:=Za (Kd.R_lower ho HI.out.st.hb.size);have J:=Za (HI.out.below hb);clear k0 k1 k2;have k0:w6.cell? ⟨gs,0,none⟩=some (.slice A0_0 l0_0.length c0_0):=(Zo J.out.bs 0).trans rfl;have k1:w6.cell? ⟨gs,1,none⟩=some (.slice A0_1 l0_1.length c0_1):=(Zo J.out.bs 1).trans rfl;have k2:w6.cell? ⟨gs,2,none⟩=some (.int .i64 a0_2):=(Zo J.out.bs 2).trans rfl;clear ho hb)
  clear HI HK HG HCF k0 k1 k2 lgs hltz
  go_loopg [53] l0_1.length (fun gg s53 wr=>∃(i:Nat) (a:Zv.Acc) (uL uR:Value),s53=.int .i64 (i:Int)∧Aside0 (i≤l0_1.length)∧Aside0 (l0_1.length - i≤gg)∧Aside0 ((run (Zv.stB hp l0_0 l0_1 a0_2 l1_0 fr) (l0_1.length - i) i a).bind (Zv.f2 hp l0_0 l0_1 a0_2)=some (r1,r2,r3))∧Aside0 (Zv.Inv w wr (l0_0.length:Int) gs gc g4 g6 g7 #[.slice A0_0 l0_0.length c0_0,.slice A0_1 l0_1.length c0_1,.int .i64 a0_2] #[.slice A1_0 l1_0.length c1_0,.slice A1_1 l1_1.length c1_1] uL uR a)∧Aside0 (Kd.R (Kd.int .i64) 3 wr w.heap.size (fun _=>True) (.slice Af fr.length cf) fr))
  case atStart=>exact⟨0,a,uL,uR,rfl,⟨Nat.zero_le _⟩,⟨by omega⟩,HQ,J,HF⟩
  case round=>
  clear HQ J HF
  obtain⟨i,a,uL,uR,rfl,HK,HG,HE,HI,HF⟩:=hrel
  by_cases hlt:i<l0_1.length
  ·have hltz:(i:Int)<(l0_1.length:Int):=by omega
   obtain⟨a',hs,hrest⟩:=ZcP hlt HE.out
   have HE2:=Za hrest;clear hrest HE
   unfold Zv.stB at hs
   obtain⟨b,hb_,hs⟩:=Option.bind_eq_some_iff.1 hs
   obtain⟨ad,e1,hx0,hx1,hx2,hx3,hx4⟩:=Zck HR1.out (i:Int) (by omega) hltz
   cases e1
   rw[Int.toNat_natCast] at hx0 hx1 hx2 hx3 hx4
   replace hx0:=ZE HI.out.st.hb hx0
   replace hx1:=ZE HI.out.st.hb hx1
   replace hx2:=ZE HI.out.st.hb hx2
   replace hx3:=ZE HI.out.st.hb hx3
   replace hx4:=ZE HI.out.st.hb hx4
   generalize Zz l0_1 (i:Int)=td at hx0 hx1 hx2 hx3 hx4 hs hb_
   obtain⟨tf,tt,tl,th,tb⟩:=td
   dsimp only at hx0 hx1 hx2 hx3 hx4 hs hb_
   have lta:=Zc wr _ hx0
   have k0:wr.cell? ⟨gs,0,none⟩=some (.slice A0_0 l0_0.length c0_0):=(Zo HI.out.bs 0).trans rfl
   have k1:wr.cell? ⟨gs,1,none⟩=some (.slice (some ad) l0_1.length c0_1):=(Zo HI.out.bs 1).trans rfl
   have k2:wr.cell? ⟨gs,2,none⟩=some (.int .i64 a0_2):=(Zo HI.out.bs 2).trans rfl
   have m0:wr.cell? ⟨gc,0,none⟩=some (.slice A1_0 l1_0.length c1_0):=(Zo HI.out.bc 0).trans rfl
   have m1:wr.cell? ⟨gc,1,none⟩=some (.slice A1_1 l1_1.length c1_1):=(Zo HI.out.bc 1).trans rfl
   have lgs:=ZR HI.out.bs
   have lgc:=ZR HI.out.bc
   have J:=Za (HI.out.below (Zn (Below.refl wr.heap.size wr) (.cells #[.int .i64 tf,.int .i64 tt,.int .i64 tl,.int .i64 th,.bool tb] 81)))
   have HF1:=Za (Kd.R_alloc HF.out (.cells #[.int .i64 tf,.int .i64 tt,.int .i64 tl,.int .i64 th,.bool tb] 81))
   have HC:=Za (HH.out _ tf b J.out.st.hb hb_)
   have KB:=Za (Zcr wr (.cells #[.int .i64 tf,.int .i64 tt,.int .i64 tl,.int .i64 th,.bool tb] 81))
   clear hb_
   cases b with
   | false=>
    rw[if_neg (by simp)] at hs
    obtain rfl:=Zg hs
    clear hs
    go_wp2_with (go_at_call 56;refine HC.out.mono ?_;rintro e w6 ⟨rfl,hb⟩;have J2:=Za (J.out.below hb);have HF2:=Za (Kd.R_below HF1.out hb);clear hb)
    go_roundg (l0_1.length - (i+1))
    case measure=>have:=HG.out;omega
    case rel=>exact⟨i+1,a,uL,uR,by rw[Z9 hlt HN1.out],⟨by omega⟩,⟨by omega⟩,HE2,J2,HF2⟩
   | true=>
    rw[if_pos rfl] at hs
    obtain⟨c,hc_,hs⟩:=Option.bind_eq_some_iff.1 hs
    have HC2:=Za fun (W:World) (hb:Below w.heap.size w W)=>HH.out W tt c hb hc_
    clear hc_
    cases c with
    | false=>
     rw[if_neg (by simp)] at hs
     obtain rfl:=Zg hs
     clear hs
     go_wp2_with (first|(go_at_call 56;with_reducible refine HC.out.mono ?_;rintro e w6 ⟨rfl,hb⟩;have J2:=Za (J.out.below hb);have HF2:=Za (Kd.R_below HF1.out hb);have KB2:=Za (Zw KB.out hb);clear k0 k1 k2 m0 m1;have k0:w6.cell? ⟨gs,0,none⟩=some (.slice A0_0 l0_0.length c0_0):=(Zo J2.out.bs 0).trans rfl;have k1:w6.cell? ⟨gs,1,none⟩=some (.slice (some ad) l0_1.length c0_1):=(Zo J2.out.bs 1).trans rfl;have k2:w6.cell? ⟨gs,2,none⟩=some (.int .i64 a0_2):=(Zo J2.out.bs 2).trans rfl;have m0:w6.cell? ⟨gc,0,none⟩=some (.slice A1_0 l1_0.length c1_0):=(Zo J2.out.bc 0).trans rfl;have m1:w6.cell? ⟨gc,1,none⟩=some (.slice A1_1 l1_1.length c1_1):=(Zo J2.out.bc 1).trans rfl;have t1:w6.cell? ⟨wr.heap.size,1,none⟩=some (.int .i64 tt):=(Zo KB2.out 1).trans rfl;clear hb)|(go_at_call 56;with_reducible refine(HC2.out w6 J2.out.st.hb).mono ?_;rintro e w7 ⟨rfl,hb⟩;have J3:=Za (J2.out.below hb);have HF3:=Za (Kd.R_below HF2.out hb);have KB3:=Za (Zw KB2.out hb);clear k0 k1 k2 m0 m1 t1;have k0:w7.cell? ⟨gs,0,none⟩=some (.slice A0_0 l0_0.length c0_0):=(Zo J3.out.bs 0).trans rfl;have k1:w7.cell? ⟨gs,1,none⟩=some (.slice (some ad) l0_1.length c0_1):=(Zo J3.out.bs 1).trans rfl;have k2:w7.cell? ⟨gs,2,none⟩=some (.int .i64 a0_2):=(Zo J3.out.bs 2).trans rfl;have m0:w7.cell? ⟨gc,0,none⟩=some (.slice A1_0 l1_0.length c1_0):=(Zo J3.out.bc 0).trans rfl;have m1:w7.cell? ⟨gc,1,none⟩=some (.slice A1_1 l1_1.length c1_1):=(Zo J3.out.bc 1).trans rfl;clear hb))
     go_roundg (l0_1.length - (i+1))
     case measure=>have:=HG.out;omega
     case rel=>exact⟨i+1,a,uL,uR,by rw[Z9 hlt HN1.out],⟨by omega⟩,⟨by omega⟩,HE2,J3,HF3⟩
    | true=>
     rw[if_pos rfl] at hs
     obtain⟨q,hq,hs⟩:=Option.bind_eq_some_iff.1 hs
     obtain⟨s,hs_,hs⟩:=Option.bind_eq_some_iff.1 hs
     have HC3:=Za fun (W:World) (hb:Below w.heap.size w W)=>HTT.out W (i:Int) s hb hs_
     obtain⟨q1,q2,q3,rfl⟩:=Zv.add_some hs
     have Q1:=Za q1;have Q2:=Za q2;clear hs hs_ q1 q2 q3
     cases tb with
     | false=>
      obtain rfl:=Zg (show some (tl,th)=some q from hq)
      clear hq
      go_wp2_with (first|(go_at_call 56;with_reducible refine HC.out.mono ?_;rintro e w6 ⟨rfl,hb⟩;have J2:=Za (J.out.below hb);have HF2:=Za (Kd.R_below HF1.out hb);have KB2:=Za (Zw KB.out hb);clear k0 k1 k2 m0 m1;have k0:w6.cell? ⟨gs,0,none⟩=some (.slice A0_0 l0_0.length c0_0):=(Zo J2.out.bs 0).trans rfl;have k1:w6.cell? ⟨gs,1,none⟩=some (.slice (some ad) l0_1.length c0_1):=(Zo J2.out.bs 1).trans rfl;have k2:w6.cell? ⟨gs,2,none⟩=some (.int .i64 a0_2):=(Zo J2.out.bs 2).trans rfl;have m0:w6.cell? ⟨gc,0,none⟩=some (.slice A1_0 l1_0.length c1_0):=(Zo J2.out.bc 0).trans rfl;have m1:w6.cell? ⟨gc,1,none⟩=some (.slice A1_1 l1_1.length c1_1):=(Zo J2.out.bc 1).trans rfl;have t1:w6.cell? ⟨wr.heap.size,1,none⟩=some (.int .i64 tt):=(Zo KB2.out 1).trans rfl;clear hb)|(go_at_call 56;with_reducible refine(HC2.out w6 J2.out.st.hb).mono ?_;rintro e w7 ⟨rfl,hb⟩;have J3:=Za (J2.out.below hb);have HF3:=Za (Kd.R_below HF2.out hb);have KB3:=Za (Zw KB2.out hb);clear k0 k1 k2 m0 m1 t1;have k0:w7.cell? ⟨gs,0,none⟩=some (.slice A0_0 l0_0.length c0_0):=(Zo J3.out.bs 0).trans rfl;have k1:w7.cell? ⟨gs,1,none⟩=some (.slice (some ad) l0_1.length c0_1):=(Zo J3.out.bs 1).trans rfl;have k2:w7.cell? ⟨gs,2,none⟩=some (.int .i64 a0_2):=(Zo J3.out.bs 2).trans rfl;have m0:w7.cell? ⟨gc,0,none⟩=some (.slice A1_0 l1_0.length c1_0):=(Zo J3.out.bc 0).trans rfl;have m1:w7.cell? ⟨gc,1,none⟩=some (.slice A1_1 l1_1.length c1_1):=(Zo J3.out.bc 1).trans rfl;clear hb))
      have t0:w7.cell? ⟨wr.heap.size,0,none⟩=some (.int .i64 tf):=(Zo KB3.out 0).trans rfl
      have t1:w7.cell? ⟨wr.heap.size,1,none⟩=some (.int .i64 tt):=(Zo KB3.out 1).trans rfl
      have t2:w7.cell? ⟨wr.heap.size,2,none⟩=some (.int .i64 tl):=(Zo KB3.out 2).trans rfl
      have t3:w7.cell? ⟨wr.heap.size,3,none⟩=some (.int .i64 th):=(Zo KB3.out 3).trans rfl
      have t4:w7.cell? ⟨wr.heap.size,4,none⟩=some (.bool false):=(Zo KB3.out 4).trans rfl
      go_quiet (fail)
      go_wp2_with fail
      have J4:=Za (J3.out.below (Zp (Zm (Below.refl _ _) nq)))
      have HF4:=Za (Kd.R_below HF3.out (Zp (Zm (Below.refl _ _) nq)))
      have KB4:=Za (Zw KB3.out (Zp (Zm (Below.refl _ _) nq)))
      clear k0 k1 k2 m0 m1 t0 t1 t2 t3 t4 J3 HF3 KB3
      refine Za9 (n:=11) (S:=fun w'=>w'.cell? ⟨wr.heap.size,0,none⟩=some (.int .i64 tf)∧w'.cell? ⟨wr.heap.size,1,none⟩=some (.int .i64 tt)∧w'.cell? ⟨gs,0,none⟩=some (.slice A0_0 l0_0.length c0_0)∧w'.cell? ⟨gs,1,none⟩=some (.slice (some ad) l0_1.length c0_1)∧w'.cell? ⟨gs,2,none⟩=some (.int .i64 a0_2)) (ds:=[10]) #[false,false,false,false,false,false,false,false,false,false,false] (by kernel_rfl) rfl rfl ⟨(Zo KB4.out 0).trans rfl,(Zo KB4.out 1).trans rfl,(Zo J4.out.bs 0).trans rfl,(Zo J4.out.bs 1).trans rfl,(Zo J4.out.bs 2).trans rfl⟩ (fun hHeld=>?_)
      refine pu (N:=some 86) 0 ?_
      refine pu (N:=some 87) 1 ?_
      refine pu (N:=some 89) 3 ?_
      refine pu (N:=some 91) 5 ?_
      refine pu (N:=some 92) 6 ?_
      refine pu (N:=some 94) 8 ?_
      refine tk (N:=some 88) 2 hHeld ?_
      refine tk (N:=some 90) 4 hHeld ?_
      refine tk (N:=some 93) 7 hHeld ?_
      refine onl (N:=some 95) 9 (fun K hK=>?_)
      refine Za5 Tryd.func80 (by kernel_rfl) rfl #[.agg #[.slice A0_0 l0_0.length c0_0,.slice (some ad) l0_1.length c0_1,.int .i64 a0_2],.int .i64 (i:Int)] (by rfl) rfl rfl (by(try simp only[List.map_toArray,List.map_cons,List.map_nil]);first|done|rfl) ?_
      refine(HC3.out _ J4.out.st.hb).mono ?_
      rintro e w9 ⟨rfl,hb⟩
      refine⟨_,rfl,?_⟩
      have J5:=Za (J4.out.below hb)
      have HF5:=Za (Kd.R_below HF4.out hb)
      have KB5:=Za (Zw KB4.out hb)
      clear hb
      refine hK.out _ _ ⟨(Zo KB5.out 0).trans rfl,(Zo KB5.out 1).trans rfl,(Zo J5.out.bs 0).trans rfl,(Zo J5.out.bs 1).trans rfl,(Zo J5.out.bs 2).trans rfl⟩ (fun hHeld=>?_)
      clear hK K
      refine nrm (some 95) ?_
      refine Zb3 (i:=10) (N:=some 96) #[true,true,true,true,true,true,true,true,true,true,true] rfl rfl (by kernel_rfl) (by decide) (fun K hK=>?_)
      refine Zv.goesC 86 #[.pointer (some ⟨g6,0,none⟩),.pointer (some ⟨g7,0,none⟩)] Tryd.func79 (by kernel_rfl) rfl #[.int .i64 tf,.int .i64 tt,.int .i64 (tl),.int .i64 (th),.string s,.pointer (some ⟨g6,0,none⟩),.pointer (some ⟨g7,0,none⟩)] (by rfl) rfl rfl rfl (by(try simp only[List.map_toArray,List.map_cons,List.map_nil]);first|done|rfl) ?_
      refine(ZX.clo w w9 _ g6 g7 uL uR a.1 a.2 _ _ _ _ _ J5.out.st Q1.out Q2.out).mono ?_
      rintro e w10 ⟨rfl,uL2,uR2,hst,hfr⟩
      refine⟨_,rfl,?_⟩
      have J6:=Za (J5.out.clo hst hfr)
      have HF6:=Za (Zv.row J5.out.st hfr HF5.out)
      clear hst hfr
      refine hK.out _ _ ?_
      clear hK K
      refine nrm (some 96) ?_
      refine Zbu (by kernel_rfl) ?_
      go_wp2
      go_roundg (l0_1.length - (i+1))
      case measure=>have:=HG.out;omega
      case rel=>exact⟨i+1,_,uL2,uR2,by rw[Z9 hlt HN1.out],⟨by omega⟩,⟨by omega⟩,HE2,J6,HF6⟩
     | true=>
      obtain⟨ix,hix0⟩:∃ix,ix=ZaK (fun y=>decide ((i:Int)=y)) fr:=⟨_,rfl⟩
      unfold Zv.span at hq
      rw[← hix0,if_pos rfl] at hq
      by_cases hix:0≤ix∧ix<l1_0.length
      case neg=>rw[if_neg hix] at hq;exact absurd hq (by simp)
      rw[if_pos hix] at hq
      obtain rfl:=Zg hq
      obtain⟨adl,e2,hy⟩:=Kd.at_int HR2.out ix hix.1 hix.2
      cases e2
      have HIX:=Za fun (W:World) (hf:Kd.R (Kd.int .i64) 3 W w.heap.size (fun _=>True) (.slice Af fr.length cf) fr)=>(show Calls Tryd.prog 65 #[.slice Af fr.length cf,.int .i64 (i:Int)] W fun e w'=>e=.returned (.int .i64 ix)∧∃n,w'=W.drewN n from by rw[hix0];exact Zba.quiet Af cf fr (i:Int) W (Kd.R_reads' hf).2.2)
      have p1:=eq_true hix.1
      have p2:=eq_true hix.2
      clear hq hix hix0
      dsimp only at HE2
      generalize rd l1_0 ix=y at hy HE2
      go_wp2_with (first|(go_at_call 56;with_reducible refine HC.out.mono ?_;rintro e w6 ⟨rfl,hb⟩;have J2:=Za (J.out.below hb);have HF2:=Za (Kd.R_below HF1.out hb);have KB2:=Za (Zw KB.out hb);clear k0 k1 k2 m0 m1;have k0:w6.cell? ⟨gs,0,none⟩=some (.slice A0_0 l0_0.length c0_0):=(Zo J2.out.bs 0).trans rfl;have k1:w6.cell? ⟨gs,1,none⟩=some (.slice (some ad) l0_1.length c0_1):=(Zo J2.out.bs 1).trans rfl;have k2:w6.cell? ⟨gs,2,none⟩=some (.int .i64 a0_2):=(Zo J2.out.bs 2).trans rfl;have m0:w6.cell? ⟨gc,0,none⟩=some (.slice (some adl) l1_0.length c1_0):=(Zo J2.out.bc 0).trans rfl;have m1:w6.cell? ⟨gc,1,none⟩=some (.slice A1_1 l1_1.length c1_1):=(Zo J2.out.bc 1).trans rfl;have t1:w6.cell? ⟨wr.heap.size,1,none⟩=some (.int .i64 tt):=(Zo KB2.out 1).trans rfl;clear hb)|(go_at_call 56;with_reducible refine(HC2.out w6 J2.out.st.hb).mono ?_;rintro e w7 ⟨rfl,hb⟩;have J3:=Za (J2.out.below hb);have HF3:=Za (Kd.R_below HF2.out hb);have KB3:=Za (Zw KB2.out hb);clear k0 k1 k2 m0 m1 t1;have k0:w7.cell? ⟨gs,0,none⟩=some (.slice A0_0 l0_0.length c0_0):=(Zo J3.out.bs 0).trans rfl;have k1:w7.cell? ⟨gs,1,none⟩=some (.slice (some ad) l0_1.length c0_1):=(Zo J3.out.bs 1).trans rfl;have k2:w7.cell? ⟨gs,2,none⟩=some (.int .i64 a0_2):=(Zo J3.out.bs 2).trans rfl;have m0:w7.cell? ⟨gc,0,none⟩=some (.slice (some adl) l1_0.length c1_0):=(Zo J3.out.bc 0).trans rfl;have m1:w7.cell? ⟨gc,1,none⟩=some (.slice A1_1 l1_1.length c1_1):=(Zo J3.out.bc 1).trans rfl;clear hb))
      have t0:w7.cell? ⟨wr.heap.size,0,none⟩=some (.int .i64 tf):=(Zo KB3.out 0).trans rfl
      have t1:w7.cell? ⟨wr.heap.size,1,none⟩=some (.int .i64 tt):=(Zo KB3.out 1).trans rfl
      have t2:w7.cell? ⟨wr.heap.size,2,none⟩=some (.int .i64 tl):=(Zo KB3.out 2).trans rfl
      have t3:w7.cell? ⟨wr.heap.size,3,none⟩=some (.int .i64 th):=(Zo KB3.out 3).trans rfl
      have t4:w7.cell? ⟨wr.heap.size,4,none⟩=some (.bool true):=(Zo KB3.out 4).trans rfl
      replace hy:=ZE J3.out.st.hb hy
      go_quiet (fail)
      revert nq
      intro nq1
      go_wp2_with fail
      go_quiet ((go_at_call 65;first|exact Zv.quiet0 (HIX.out _ (by repeat(first|exact HF3.out|apply Kd.R_drewN|apply Kd.R_drew)))|exact Zv.quietX (HIX.out _ (by repeat(first|exact HF3.out|apply Kd.R_drewN|apply Kd.R_drew)))))
      go_wp2_with fail
      have J4:=Za (J3.out.below (Zp (Zm (Zm (Below.refl _ _) nq1) nq)))
      have HF4:=Za (Kd.R_below HF3.out (Zp (Zm (Zm (Below.refl _ _) nq1) nq)))
      have KB4:=Za (Zw KB3.out (Zp (Zm (Zm (Below.refl _ _) nq1) nq)))
      clear k0 k1 k2 m0 m1 t0 t1 t2 t3 t4 J3 HF3 KB3
      refine Za9 (n:=11) (S:=fun w'=>w'.cell? ⟨wr.heap.size,0,none⟩=some (.int .i64 tf)∧w'.cell? ⟨wr.heap.size,1,none⟩=some (.int .i64 tt)∧w'.cell? ⟨gs,0,none⟩=some (.slice A0_0 l0_0.length c0_0)∧w'.cell? ⟨gs,1,none⟩=some (.slice (some ad) l0_1.length c0_1)∧w'.cell? ⟨gs,2,none⟩=some (.int .i64 a0_2)) (ds:=[10]) #[false,false,false,false,false,false,false,false,false,false,false] (by kernel_rfl) rfl rfl ⟨(Zo KB4.out 0).trans rfl,(Zo KB4.out 1).trans rfl,(Zo J4.out.bs 0).trans rfl,(Zo J4.out.bs 1).trans rfl,(Zo J4.out.bs 2).trans rfl⟩ (fun hHeld=>?_)
      refine pu (N:=some 86) 0 ?_
      refine pu (N:=some 87) 1 ?_
      refine pu (N:=some 89) 3 ?_
      refine pu (N:=some 91) 5 ?_
      refine pu (N:=some 92) 6 ?_
      refine pu (N:=some 94) 8 ?_
      refine tk (N:=some 88) 2 hHeld ?_
      refine tk (N:=some 90) 4 hHeld ?_
      refine tk (N:=some 93) 7 hHeld ?_
      refine onl (N:=some 95) 9 (fun K hK=>?_)
      refine Za5 Tryd.func80 (by kernel_rfl) rfl #[.agg #[.slice A0_0 l0_0.length c0_0,.slice (some ad) l0_1.length c0_1,.int .i64 a0_2],.int .i64 (i:Int)] (by rfl) rfl rfl (by(try simp only[List.map_toArray,List.map_cons,List.map_nil]);first|done|rfl) ?_
      refine(HC3.out _ J4.out.st.hb).mono ?_
      rintro e w9 ⟨rfl,hb⟩
      refine⟨_,rfl,?_⟩
      have J5:=Za (J4.out.below hb)
      have HF5:=Za (Kd.R_below HF4.out hb)
      have KB5:=Za (Zw KB4.out hb)
      clear hb
      refine hK.out _ _ ⟨(Zo KB5.out 0).trans rfl,(Zo KB5.out 1).trans rfl,(Zo J5.out.bs 0).trans rfl,(Zo J5.out.bs 1).trans rfl,(Zo J5.out.bs 2).trans rfl⟩ (fun hHeld=>?_)
      clear hK K
      refine nrm (some 95) ?_
      refine Zb3 (i:=10) (N:=some 96) #[true,true,true,true,true,true,true,true,true,true,true] rfl rfl (by kernel_rfl) (by decide) (fun K hK=>?_)
      refine Zv.goesC 86 #[.pointer (some ⟨g6,0,none⟩),.pointer (some ⟨g7,0,none⟩)] Tryd.func79 (by kernel_rfl) rfl #[.int .i64 tf,.int .i64 tt,.int .i64 (y),.int .i64 (y),.string s,.pointer (some ⟨g6,0,none⟩),.pointer (some ⟨g7,0,none⟩)] (by rfl) rfl rfl rfl (by(try simp only[List.map_toArray,List.map_cons,List.map_nil]);first|done|rfl) ?_
      refine(ZX.clo w w9 _ g6 g7 uL uR a.1 a.2 _ _ _ _ _ J5.out.st Q1.out Q2.out).mono ?_
      rintro e w10 ⟨rfl,uL2,uR2,hst,hfr⟩
      refine⟨_,rfl,?_⟩
      have J6:=Za (J5.out.clo hst hfr)
      have HF6:=Za (Zv.row J5.out.st hfr HF5.out)
      clear hst hfr
      refine hK.out _ _ ?_
      clear hK K
      refine nrm (some 96) ?_
      refine Zbu (by kernel_rfl) ?_
      go_wp2
      go_roundg (l0_1.length - (i+1))
      case measure=>have:=HG.out;omega
      case rel=>exact⟨i+1,_,uL2,uR2,by rw[Z9 hlt HN1.out],⟨by omega⟩,⟨by omega⟩,HE2,J6,HF6⟩
  ·obtain rfl:i=l0_1.length:=by have:=HK.out;omega
   have HQ:=Za (Zc5 HE.out)
   have hltz:¬(((l0_1.length:Nat):Int)<(l0_1.length:Int)):=by omega
   unfold Zv.f2 at HQ
   clear HE HF HK HG
   have k0:wr.cell? ⟨gs,0,none⟩=some (.slice A0_0 l0_0.length c0_0):=(Zo HI.out.bs 0).trans rfl
   go_wp2
   clear k0 hltz
   go_loopg [101] l0_0.length (fun gg s101 wr=>∃(i:Nat) (a:Zv.Acc) (uL uR:Value),s101=.int .i64 (i:Int)∧Aside0 (i≤l0_0.length)∧Aside0 (l0_0.length - i≤gg)∧Aside0 ((run (Zv.stC hp) (l0_0.length - i) i a).bind (Zv.f3 hp l0_0 l0_1 a0_2)=some (r1,r2,r3))∧Aside0 (Zv.Inv w wr (l0_0.length:Int) gs gc g4 g6 g7 #[.slice A0_0 l0_0.length c0_0,.slice A0_1 l0_1.length c0_1,.int .i64 a0_2] #[.slice A1_0 l1_0.length c1_0,.slice A1_1 l1_1.length c1_1] uL uR a))
   case atStart=>exact⟨0,a,uL,uR,rfl,⟨Nat.zero_le _⟩,⟨by omega⟩,HQ,HI⟩
   case round=>
   clear HQ HI
   obtain⟨i,a,uL,uR,rfl,HK,HG,HE,HI⟩:=hrel
   by_cases hlt:i<l0_0.length
   ·have hltz:(i:Int)<(l0_0.length:Int):=by omega
    obtain⟨a',hs,hrest⟩:=ZcP hlt HE.out
    have HE2:=Za hrest;clear hrest HE
    unfold Zv.stC at hs
    obtain⟨b,hb_,hs⟩:=Option.bind_eq_some_iff.1 hs
    have k0:wr.cell? ⟨gs,0,none⟩=some (.slice A0_0 l0_0.length c0_0):=(Zo HI.out.bs 0).trans rfl
    have k1:wr.cell? ⟨gs,1,none⟩=some (.slice A0_1 l0_1.length c0_1):=(Zo HI.out.bs 1).trans rfl
    have k2:wr.cell? ⟨gs,2,none⟩=some (.int .i64 a0_2):=(Zo HI.out.bs 2).trans rfl
    have m0:wr.cell? ⟨gc,0,none⟩=some (.slice A1_0 l1_0.length c1_0):=(Zo HI.out.bc 0).trans rfl
    have m1:wr.cell? ⟨gc,1,none⟩=some (.slice A1_1 l1_1.length c1_1):=(Zo HI.out.bc 1).trans rfl
    have HC:=Za (HH.out _ (i:Int) b HI.out.st.hb hb_)
    clear hb_
    cases b with
    | true=>
     rw[if_pos rfl] at hs
     obtain rfl:=Zg hs
     clear hs
     go_wp2_with (go_at_call 56;refine HC.out.mono ?_;rintro e w6 ⟨rfl,hb⟩;have J2:=Za (HI.out.below hb);clear hb)
     go_roundg (l0_0.length - (i+1))
     case measure=>have:=HG.out;omega
     case rel=>exact⟨i+1,a,uL,uR,by rw[Z9 hlt HN0.out],⟨by omega⟩,⟨by omega⟩,HE2,J2⟩
    | false=>
     rw[if_neg (by simp)] at hs
     obtain⟨q1,q2,q3,rfl⟩:=Zv.add_some hs
     have Q1:=Za q1;have Q2:=Za q2;clear hs q1 q2 q3
     go_wp2_with (first|(go_at_call 56;refine HC.out.mono ?_;rintro e w6 ⟨rfl,hb⟩;have J2:=Za (HI.out.below hb);clear hb)|(go_at_call 79;refine(ZX.clo w w6 _ g6 g7 uL uR a.1 a.2 _ _ _ _ _ J2.out.st Q1.out Q2.out).mono ?_;rintro e w7 ⟨rfl,uL',uR',hst,hfr⟩;have J3:=Za (J2.out.clo hst hfr);clear hst hfr))
     go_roundg (l0_0.length - (i+1))
     case measure=>have:=HG.out;omega
     case rel=>exact⟨i+1,_,uL',uR',by rw[Z9 hlt HN0.out],⟨by omega⟩,⟨by omega⟩,HE2,J3⟩
   ·obtain rfl:i=l0_0.length:=by have:=HK.out;omega
    have HQ:=Za (Zc5 HE.out)
    have hltz:¬(((l0_0.length:Nat):Int)<(l0_0.length:Int)):=by omega
    unfold Zv.f3 at HQ
    clear HE HK HG
    have k0:wr.cell? ⟨gs,0,none⟩=some (.slice A0_0 l0_0.length c0_0):=(Zo HI.out.bs 0).trans rfl
    go_wp2
    clear k0 hltz
    go_loopg [116] l0_0.length (fun gg s116 wr=>∃(i:Nat) (a:Zv.Acc) (uL uR:Value),s116=.int .i64 (i:Int)∧Aside0 (i≤l0_0.length)∧Aside0 (l0_0.length - i≤gg)∧Aside0 ((run (Zv.stD hp l0_0 l0_1 a0_2) (l0_0.length - i) i a).bind (Zv.f4 l0_0.length)=some (r1,r2,r3))∧Aside0 (Zv.Inv w wr (l0_0.length:Int) gs gc g4 g6 g7 #[.slice A0_0 l0_0.length c0_0,.slice A0_1 l0_1.length c0_1,.int .i64 a0_2] #[.slice A1_0 l1_0.length c1_0,.slice A1_1 l1_1.length c1_1] uL uR a))
    case atStart=>exact⟨0,a,uL,uR,rfl,⟨Nat.zero_le _⟩,⟨by omega⟩,HQ,HI⟩
    case round=>
    clear HQ HI
    obtain⟨i,a,uL,uR,rfl,HK,HG,HE,HI⟩:=hrel
    by_cases hlt:i<l0_0.length
    ·have hltz:(i:Int)<(l0_0.length:Int):=by omega
     obtain⟨a',hs,hrest⟩:=ZcP hlt HE.out
     have HE2:=Za hrest;clear hrest HE
     unfold Zv.stD at hs
     obtain⟨ad,A_,c_,e1,hx0,hx1,hx2,ln,gn⟩:=Zbw HR0.out (i:Int) (by omega) hltz
     cases e1
     rw[Int.toNat_natCast] at hx0 hx1 hx2
     replace hx0:=ZE HI.out.st.hb hx0
     replace hx1:=ZE HI.out.st.hb hx1
     replace hx2:=ZE HI.out.st.hb hx2
     obtain⟨nd,hnd⟩:∃nd,nd=Zy l0_0 (i:Int):=⟨_,rfl⟩
     rw[← hnd] at hx0 hx1 hx2 hs ln gn
     have HND:=Za hnd;clear hnd
     obtain⟨nm,lb,wt⟩:=nd
     dsimp only at hx0 hx1 hx2 hs ln gn
     have lta:=Zc wr _ hx0
     have k0:wr.cell? ⟨gs,0,none⟩=some (.slice (some ad) l0_0.length c0_0):=(Zo HI.out.bs 0).trans rfl
     have k1:wr.cell? ⟨gs,1,none⟩=some (.slice A0_1 l0_1.length c0_1):=(Zo HI.out.bs 1).trans rfl
     have k2:wr.cell? ⟨gs,2,none⟩=some (.int .i64 a0_2):=(Zo HI.out.bs 2).trans rfl
     have m0:wr.cell? ⟨gc,0,none⟩=some (.slice A1_0 l1_0.length c1_0):=(Zo HI.out.bc 0).trans rfl
     have m1:wr.cell? ⟨gc,1,none⟩=some (.slice A1_1 l1_1.length c1_1):=(Zo HI.out.bc 1).trans rfl
     have lgs:=ZR HI.out.bs
     have lgc:=ZR HI.out.bc
     have J:=Za (HI.out.below (Zn (Below.refl wr.heap.size wr) (.cells #[.string nm,.slice A_ lb.length c_,.int .i64 wt] 54)))
     have KN:=Za (Zcr wr (.cells #[.string nm,.slice A_ lb.length c_,.int .i64 wt] 54))
     obtain⟨gn0,hgn0⟩:∃g,g=wr.heap.size:=⟨_,rfl⟩
     have GN:=Za gn
     have LN:=Za gn.2.1
     have HS:=Za (show(run (Zv.stE hp l0_0 l0_1 a0_2 i lb) (lb.length - 0) 0 a).bind some=some a' from by rw[Nat.sub_zero];rw[hs];rfl)
     clear ln gn hs
     go_wp2
     clear k0 k1 k2 m0 m1 hx0 hx1 hx2 lta lgs lgc
     rw[← hgn0] at KN ⊢
     have NW:=Za hgn0;clear hgn0 HI NW
     go_loopg [124] lb.length (fun gg s124 wr=>∃(j:Nat) (a:Zv.Acc) (uL uR:Value),s124=.int .i64 (j:Int)∧Aside0 (j≤lb.length)∧Aside0 (lb.length - j≤gg)∧Aside0 ((run (Zv.stE hp l0_0 l0_1 a0_2 i lb) (lb.length - j) j a).bind some=some a')∧Aside0 (Zv.Inv w wr (l0_0.length:Int) gs gc g4 g6 g7 #[.slice (some ad) l0_0.length c0_0,.slice A0_1 l0_1.length c0_1,.int .i64 a0_2] #[.slice A1_0 l1_0.length c1_0,.slice A1_1 l1_1.length c1_1] uL uR a)∧Aside0 (wr.heap[gn0]? = some (Obj.cells #[.string nm,.slice A_ lb.length c_,.int .i64 wt] 54 (0,0))))
     case atStart=>exact⟨0,a,uL,uR,rfl,⟨Nat.zero_le _⟩,⟨by omega⟩,HS,J,KN⟩
     case round=>
     clear HS J KN
     rename_i wr2 _
     obtain⟨j,a2,uL2,uR2,rfl,HKj,HGj,HEj,HIj,KNj⟩:=hrel
     by_cases hlj:j<lb.length
     ·have hljz:(j:Int)<(lb.length:Int):=by omega
      obtain⟨a3,hs,hrest⟩:=ZcP hlj HEj.out
      have HEj2:=Za hrest;clear hrest HEj
      unfold Zv.stE at hs
      obtain⟨b,hb_,hs⟩:=Option.bind_eq_some_iff.1 hs
      rw[← HND.out] at hs
      dsimp only at hs
      obtain⟨adb,e2,hy⟩:=Kd.at_int GN.out (j:Int) (by omega) hljz
      cases e2
      rw[Int.toNat_natCast] at hy
      replace hy:=ZE HIj.out.st.hb hy
      generalize rd lb (j:Int)=x at hy hs
      have k0:wr.cell? ⟨gs,0,none⟩=some (.slice (some ad) l0_0.length c0_0):=(Zo HIj.out.bs 0).trans rfl
      have k1:wr.cell? ⟨gs,1,none⟩=some (.slice A0_1 l0_1.length c0_1):=(Zo HIj.out.bs 1).trans rfl
      have k2:wr.cell? ⟨gs,2,none⟩=some (.int .i64 a0_2):=(Zo HIj.out.bs 2).trans rfl
      have m0:wr.cell? ⟨gc,0,none⟩=some (.slice A1_0 l1_0.length c1_0):=(Zo HIj.out.bc 0).trans rfl
      have m1:wr.cell? ⟨gc,1,none⟩=some (.slice A1_1 l1_1.length c1_1):=(Zo HIj.out.bc 1).trans rfl
      have n1_:wr.cell? ⟨gn0,1,none⟩=some (.slice (some adb) lb.length c_):=(Zo KNj.out 1).trans rfl
      have HC:=Za (HH.out _ (i:Int) b HIj.out.st.hb hb_)
      clear hb_
      cases b with
      | false=>
       rw[if_neg (by simp)] at hs
       obtain rfl:=Zg hs
       clear hs
       go_wp2_with (go_at_call 56;refine HC.out.mono ?_;rintro e w6 ⟨rfl,hb⟩;have J2:=Za (HIj.out.below hb);have KN2:=Za (Zw KNj.out hb);clear hb)
       go_roundg (lb.length - (j+1))
       case measure=>have:=HGj.out;omega
       case rel=>exact⟨j+1,a2,uL2,uR2,by rw[Z9 hlj LN.out],⟨by omega⟩,⟨by omega⟩,HEj2,J2,KN2⟩
      | true=>
       rw[if_pos rfl] at hs
       obtain⟨p,hp_,hs⟩:=Option.bind_eq_some_iff.1 hs
       obtain⟨t,ht_,hs⟩:=Option.bind_eq_some_iff.1 hs
       by_cases htr:0≤t∧t<l0_0.length
       case neg=>rw[if_neg htr] at hs;exact absurd hs (by simp)
       rw[if_pos htr] at hs
       have HPO:=Za fun (W:World)=>Zag.calls x p W hp_
       have HWT:=Za fun (W:World) (hb:Below w.heap.size w W)=>HWA.out W p t hb ht_
       obtain⟨q1,q2,q3,rfl⟩:=Zv.add_some hs
       have Q1:=Za q1;have Q2:=Za q2
       obtain⟨ad9,A9,c9,e9,hz0,hz1,hz2,ln9,gn9⟩:=Zbw HR0.out t htr.1 htr.2
       cases e9
       generalize Zy l0_0 t=n9 at hz0 hz1 hz2 q3 HEj2 ln9 gn9
       obtain⟨nm9,lb9,wt9⟩:=n9
       dsimp only at hz0 q3 HEj2
       have q4:6+nm9.size+1+nm.size≤9223372036854775807:=by
        unfold Zv.after at q3
        simp only[ByteArray.size_append] at q3
        exact q3
       have z1:(9223372036854775807<6+nm9.size)=False:=eq_false (by omega)
       have z2:(9223372036854775807<6+nm9.size+1)=False:=eq_false (by omega)
       have z3:(9223372036854775807<6+nm9.size+1+nm.size)=False:=eq_false (by omega)
       have p1:=eq_true htr.1
       have p2:=eq_true htr.2
       have HZ:=Za hz0;clear hs q1 q2 q3 q4 hp_ ht_ htr hz0 hz1 hz2 ln9 gn9
       go_wp2_with (go_at_call 56;refine HC.out.mono ?_;rintro e w6 ⟨rfl,hb⟩;have J2:=Za (HIj.out.below hb);have KN2:=Za (Zw KNj.out hb);clear hb k0 k1 k2 m0 m1 n1_)
       have J3:=Za (J2.out.below (Zp (Below.refl _ _)))
       have KN3:=Za (Zt KN2.out)
       clear HIj KNj HC J2 KN2
       refine Za9 (n:=5) (S:=fun w'=>w'.cell? ⟨gs,0,none⟩=some (.slice (some ad) l0_0.length c0_0)∧w'.cell? ⟨gs,1,none⟩=some (.slice A0_1 l0_1.length c0_1)∧w'.cell? ⟨gs,2,none⟩=some (.int .i64 a0_2)) (ds:=[]) #[false,false,false,false,false] (by kernel_rfl) rfl rfl ⟨(Zo J3.out.bs 0).trans rfl,(Zo J3.out.bs 1).trans rfl,(Zo J3.out.bs 2).trans rfl⟩ (fun hHeld=>?_)
       refine pu (N:=some 133) 1 ?_
       refine tk (N:=some 132) 0 hHeld ?_
       refine onl (N:=some 134) 2 (fun K hK=>?_)
       refine Za5 Tryd.func30 (by kernel_rfl) rfl #[.int .i64 x] (by rfl) rfl rfl (by(try simp only[List.map_toArray,List.map_cons,List.map_nil]);first|done|rfl) ?_
       refine(HPO.out _).mono ?_
       rintro e w7 ⟨rfl,hb⟩
       refine⟨_,rfl,?_⟩
       have J4:=Za (J3.out.below hb)
       have KN4:=Za (Zw KN3.out hb)
       clear hb
       refine hK.out _ _ ⟨(Zo J4.out.bs 0).trans rfl,(Zo J4.out.bs 1).trans rfl,(Zo J4.out.bs 2).trans rfl⟩ (fun hHeld=>?_)
       clear hK K
       refine nrm (some 134) ?_
       refine onl (N:=some 135) 3 (fun K hK=>?_)
       refine Za5 Tryd.func49 (by kernel_rfl) rfl #[.agg #[.slice (some ad) l0_0.length c0_0,.slice A0_1 l0_1.length c0_1,.int .i64 a0_2],.int .i64 p] (by rfl) rfl rfl (by(try simp only[List.map_toArray,List.map_cons,List.map_nil]);first|done|rfl) ?_
       refine(HWT.out _ J4.out.st.hb).mono ?_
       rintro e w8 ⟨rfl,hb⟩
       refine⟨_,rfl,?_⟩
       have J5:=Za (J4.out.below hb)
       have KN5:=Za (Zw KN4.out hb)
       clear hb
       refine hK.out _ _ ⟨(Zo J5.out.bs 0).trans rfl,(Zo J5.out.bs 1).trans rfl,(Zo J5.out.bs 2).trans rfl⟩ (fun hHeld=>?_)
       clear hK K
       refine nrm (some 135) ?_
       refine pu (N:=some 21) 4 ?_
       refine Zbu (by kernel_rfl) ?_
       go_wp2_with fail
       have J6:=Za (J5.out.below (Zp (Below.refl _ _)))
       have KN6:=Za (Zt KN5.out)
       have hz6:=ZE J6.out.st.hb HZ.out
       clear J3 KN3 J4 KN4
       refine Za9 (n:=15) (S:=fun w'=>w'.cell? ⟨gs,0,none⟩=some (.slice (some ad) l0_0.length c0_0)∧w'.cell? (ad.add (t.toNat * 3))=some (.string nm9)∧w'.cell? ⟨gn0,0,none⟩=some (.string nm)) (ds:=[14]) #[false,false,false,false,false,false,false,false,false,false,false,false,false,false,false] (by kernel_rfl) rfl rfl ⟨(Zo J6.out.bs 0).trans rfl,hz6,(Zo KN6.out 0).trans rfl⟩ (fun hHeld=>?_)
       refine pu (N:=some 136) 0 ?_
       refine pu (N:=some 137) 1 ?_
       refine pu (N:=some 138) 2 ?_
       refine pu (N:=some 139) 3 ?_
       refine pu (N:=some 141) 5 ?_
       refine pu (N:=some 147) 11 ?_
       refine tk (N:=some 140) 4 hHeld ?_
       refine pu (N:=some 142) 6 ?_
       refine pu (N:=some 143) 7 ?_
       refine tk (N:=some 144) 8 hHeld ?_
       refine pu (N:=some 145) 9 ?_
       refine pu (N:=some 146) 10 ?_
       refine tk (N:=some 148) 12 hHeld ?_
       refine pu (N:=some 149) 13 ?_
       refine Zb3 (i:=14) (N:=some 150) #[true,true,true,true,true,true,true,true,true,true,true,true,true,true,true] rfl rfl (by kernel_rfl) (by decide) (fun K hK=>?_)
       refine Zv.goesC 136 #[.pointer (some ⟨g6,0,none⟩),.pointer (some ⟨g7,0,none⟩)] Tryd.func79 (by kernel_rfl) rfl #[.int .i64 t,.int .i64 (i:Int),.int .i64 1,.int .i64 1000000,.string (Zv.after nm9 nm),.pointer (some ⟨g6,0,none⟩),.pointer (some ⟨g7,0,none⟩)] (by rfl) rfl rfl rfl (by(try simp only[List.map_toArray,List.map_cons,List.map_nil]);first|done|rfl) ?_
       refine(ZX.clo w _ _ g6 g7 uL2 uR2 a2.1 a2.2 _ _ _ _ _ J6.out.st Q1.out Q2.out).mono ?_
       rintro e w10 ⟨rfl,uL3,uR3,hst,hfr⟩
       refine⟨_,rfl,?_⟩
       have J7:=Za (J6.out.clo hst hfr)
       have KN7:=Za ((hfr _ _ _ KN6.out (Zbv KN6.out J6.out.st.b6 (by decide)) (by decide) (by decide) (by decide)).trans KN6.out)
       clear hst hfr
       refine hK.out _ _ ?_
       clear hK K
       refine nrm (some 150) ?_
       refine Zbu (by kernel_rfl) ?_
       go_wp2
       go_roundg (lb.length - (j+1))
       case measure=>have:=HGj.out;omega
       case rel=>exact⟨j+1,_,uL3,uR3,by rw[Z9 hlj LN.out],⟨by omega⟩,⟨by omega⟩,HEj2,J7,KN7⟩
     ·obtain rfl:j=lb.length:=by have:=HKj.out;omega
      obtain rfl:a2=a':=Zg (Zc5 HEj.out)
      have hljz:¬(((lb.length:Nat):Int)<(lb.length:Int)):=by omega
      clear HEj HKj HGj
      go_wp2
      go_roundg (l0_0.length - (i+1))
      case measure=>have:=HG.out;omega
      case rel=>exact⟨i+1,a2,uL2,uR2,by rw[Z9 hlt HN0.out],⟨by omega⟩,⟨by omega⟩,HE2,HIj⟩
    ·obtain rfl:i=l0_0.length:=by have:=HK.out;omega
     have HQ:=Za (Zc5 HE.out)
     have hltz:¬(((l0_0.length:Nat):Int)<(l0_0.length:Int)):=by omega
     unfold Zv.f4 at HQ
     clear HE HK HG
     obtain⟨e1,e2,e3⟩:((l0_0.length:Nat):Int)=r1∧a.1=r2∧a.2=r3:=by
      have h_:=Zg HQ.out
      exact⟨congrArg Prod.fst h_,congrArg (fun z=>z.2.1) h_,congrArg (fun z=>z.2.2) h_⟩
     subst e1;subst e2;subst e3;clear HQ
     go_wp2_with fail
     have J:=Za (HI.out.below (Zp (Below.refl _ _)))
     obtain⟨AL,cL,eL⟩:=Kd.R_slice HI.out.st.rl
     subst eL
     obtain⟨AR,cR,eR⟩:=Kd.R_slice HI.out.st.rr
     subst eR
     have N64:=J.out.n4.symm
     have N74:=Zbv J.out.st.b7 J.out.b4 (by decide)
     refine Za9 (n:=4) (S:=fun w'=>w'.cell? ⟨g6,0,none⟩=some (.int .i64 ((l0_0.length:Nat):Int))∧w'.cell? ⟨g6,1,none⟩=some (.slice AL a.1.length cL)∧w'.cell? ⟨g7,0,none⟩=some (.slice AR a.2.length cR)) (ds:=[]) #[false,false,false,false] (by kernel_rfl) rfl rfl ⟨(Zo J.out.st.b6 0).trans rfl,(Zo J.out.st.b6 1).trans rfl,(Zo J.out.st.b7 0).trans rfl⟩ (fun hHeld=>?_)
     generalize wr.drew=w8 at J hHeld ⊢
     have kz0:w8.cell? ⟨g4,0,none⟩=some (.int .i64 0):=(Zo J.out.b4 0).trans rfl
     have kz1:w8.cell? ⟨g4,1,none⟩=some (.slice none 0 0):=(Zo J.out.b4 1).trans rfl
     have fz0:=Zu J.out.b4 0
     have fz1:=Zu J.out.b4 1
     refine tk (N:=some 153) 0 hHeld ?_
     refine tk (N:=some 154) 1 hHeld ?_
     refine onl (N:=none) 2 (fun K hK=>?_)
     refine Zcf (w1:=?_) (by rfl) rfl ?_ ?_
     rotate_left
     ·go_simp
      rfl
     refine hK.out _ _ ⟨(Zo (ZF (ZF J.out.st.b6 (p:=⟨g4,0,none⟩) N64 _) (p:=⟨g4,1,none⟩) N64 _) 0).trans rfl,(Zo (ZF (ZF J.out.st.b6 (p:=⟨g4,0,none⟩) N64 _) (p:=⟨g4,1,none⟩) N64 _) 1).trans rfl,(Zo (ZF (ZF J.out.st.b7 (p:=⟨g4,0,none⟩) N74 _) (p:=⟨g4,1,none⟩) N74 _) 0).trans rfl⟩ (fun hHeld=>?_)
     clear hK K
     refine pu (N:=some 5) 3 ?_
     refine Zbu (by kernel_rfl) ?_
     go_wp2
     refine bodyPost_ret (ZbB rfl _ _ g4 50 #[.int .i64 ((l0_0.length:Nat):Int),.slice AL a.1.length cL] (0,0) _ rfl (ZO (cs:=#[.int .i64 ((l0_0.length:Nat):Int),.slice none 0 0]) (ZO (cs:=#[.int .i64 0,.slice none 0 0]) J.out.b4 0 _ rfl) 1 _ rfl) Tryd.underlying50 rfl (by kernel_rfl)) rfl ?_
     exact⟨_,_,rfl,Kd.R_mono (Kd.R_far (p:=⟨g4,1,none⟩) (Kd.R_far (p:=⟨g4,0,none⟩) (Kd.R_types J.out.st.rl J.out.b4 (by decide)) (fun _ hk=>hk.2) _) (fun _ hk=>hk.2) _) (fun _ _=>trivial),Kd.R_mono (Kd.R_far (p:=⟨g4,1,none⟩) (Kd.R_far (p:=⟨g4,0,none⟩) (Kd.R_types J.out.st.rr J.out.b4 (by decide)) (fun _ hk=>hk.2) _) (fun _ hk=>hk.2) _) (fun _ _=>trivial),Zq (Zq J.out.st.hb J.out.g4b) J.out.g4b⟩
end Go.Proofs.YtoeimopgoaffcaaDoor.Pr
