/- By a program of this session. -/
import Derived.Test.YtoeimopgoaffcaaGreatDoorRows
import Derived.Test.YtoeimopgoaffcaaGreatDoorCards
import Derived.Test.YtoeimopgoaffcaaGreatDoorTie
import Derived.OpenShut
import Derived.ShutString
import Derived.ChangeOld
import Derived.SizedLaws
import Derived.SevenTiedAt
import Derived.LaidMore
import Derived.Stop.Joined
import Derived.Stop.LaidErr
import Derived.Lib.LaidTab
import Derived.Test.YtoeimopgoaffcaaGreatDoorMExplainChoice1
set_option maxHeartbeats 8000000
set_option maxRecDepth 100000
namespace Go.Proofs.YtoeimopgoaffcaaGreatDoor.fnExactExplainChoice
open Go.ChangeShapes Go.WideShapes Go.ChangeAt Go.RowKit Go.Proofs.YtoeimopgoaffcaaGreatDoor.Pr Go.Proofs.YtoeimopgoaffcaaGreatDoor.Op Go.Proofs.YtoeimopgoaffcaaGreatDoorW.PrintWords
open Go.ChangeMaps (open_string shut_string)
set_option linter.unusedVariables false
theorem own:ownKnob Tryz.prog.godebug=none:=by kernel_rfl
theorem laidOut:laidOutB Tryz.prog=true:=by kernel_rfl
theorem door_met (os:Os) (args:Array Value):laidMetH Tryz.prog Rows.fnExactExplainChoiceRow.laid ((World.doorLaid Tryz.prog 400 os).forCall (fun _ _=>0) ⟨#[],args,[]⟩).memory:=
 laidMetH_of_parts3 (fuel:=8) (laidMet_of_run' 8 (by kernel_rfl) (by kernel_rfl)) (by kernel_rfl) (by kernel_rfl)
theorem table {W:World} (h:laidMetH Tryz.prog Rows.fnExactExplainChoiceRow.laid W):TW W:=by
 rw[MakeChecks.laidMetH_plain _ _ _ (by kernel_rfl)] at h
 have h2:=laidMet.tail (laidMet.tail ((show laidMet Tryz.prog (_ :: _ :: _ :: _) W from h)))
 refine Lib.tabBelow_of_tabIs ?_
 exact Lib.tabIs_of_head (g:=5) (t:=231) (e:=205) (n:=20) (by kernel_rfl) (by kernel_rfl) (by kernel_rfl) (by kernel_rfl) (by kernel_rfl) (by kernel_rfl) (zs:=Lib.pow10Tab) h2
theorem lifted (os:Os) (started:os.Started) (H:Type) (enc:TypeId×Value→H) :
  ReturnsInHanded {} Tryz.checked os 9 .any (fun w args=>(Rows.fnExactExplainChoiceSpec.pre enc Tryz.prog Tryz.f9 [] false w args∧laidMetH Tryz.prog Rows.fnExactExplainChoiceRow.laid w)∧sizedMet enc Tryz.prog Tryz.f9 (OpenSpec.ofChange Rows.fnExactExplainChoiceSpec) false w args) (Rows.fnExactExplainChoiceSpec.post enc Tryz.prog Tryz.f9 false true false false):=by
 refine returnsInHanded_of_change_and (C:=Tryz.checked) (X:=fun w _=>laidMetH Tryz.prog Rows.fnExactExplainChoiceRow.laid w) (fun _ _ _ hh h=>h.of_heap hh) own started (by kernel_rfl) Tryz.func9
  (ChangeSpec.witness_shaped (enc:=enc) (C:=Tryz.checked) (os:=os) (X:=fun w _=>laidMetH Tryz.prog Rows.fnExactExplainChoiceRow.laid w) false (World.doorLaid Tryz.prog 400 os) #[.agg #[.slice none 0 0,.slice none 0 0,.int .i64 0],.agg #[.slice none 0 0,.slice none 0 0]] 8 rfl (World.shaped_of_RefB (by kernel_rfl) (by kernel_rfl)) (by kernel_rfl) (by kernel_rfl) (by kernel_rfl) (door_met os _)) ?_
 intro W base args ds gs before hval0 hW hcnd hsz0 hL _
 have hval:∀(j:Nat) t v,Tryz.f9.params[j]? = some t→args[j]? = some v→Value.okWide Tryz.prog W .any base t v:=hval0
 have hW':=hW
 obtain⟨p,q,hA0,hV,rfl,hfz,hnd⟩:=hW
 have hA:DataW.TrodAll enc Tryz.prog W 0 (fun _=>true) true Tryz.f9.params.toList args.toList ds p:=hA0
 rw[Tryz.params9] at hA hval
 obtain⟨v0,vs0,d0,ds0,p0,q0,hargs,rfl,rfl,h0,r0⟩:=trodAll_cons hA
 obtain⟨v1,vs1,d1,ds1,p1,q1,rfl,rfl,rfl,h1,r1⟩:=trodAll_cons r0
 obtain⟨rfl,rfl,rfl⟩:=trodAll_nil r1
 obtain rfl:args=#[v0,v1]:=by cases args;simp_all
 obtain⟨rfl,rfl⟩:=trodVars_none hV
 have k0:=h0
 have lt0:∀x∈p0,x.block<W.heap.size:=by obtain⟨m,hm⟩:=k0;exact DataW.trod_lt m _ _ _ hm
 obtain⟨fuel0,hf0⟩:=h0
 obtain⟨cs0,rfl,hsz0⟩:=okWide_struct Tryz.underlying47 (hval 0 47 v0 rfl rfl)
 obtain⟨y0,hk0,ok0⟩:=op_k47.op hf0
 obtain⟨A0_0,c0_0,A0_1,c0_1,hcs0,l0_0,g0_0,l0_1,g0_1⟩:=k47_open hk0
 obtain rfl:cs0=#[.slice A0_0 y0.f0.length c0_0,.slice A0_1 y0.f1.length c0_1,.int .i64 y0.f2]:=Array.toList_inj.1 hcs0
 have k1:=h1
 have lt1:∀x∈p1,x.block<W.heap.size:=by obtain⟨m,hm⟩:=k1;exact DataW.trod_lt m _ _ _ hm
 obtain⟨fuel1,hf1⟩:=h1
 obtain⟨cs1,rfl,hsz1⟩:=okWide_struct Tryz.underlying49 (hval 1 49 v1 rfl rfl)
 obtain⟨y1,hk1,ok1⟩:=op_k49.op hf1
 obtain⟨A1_0,c1_0,A1_1,c1_1,hcs1,l1_0,g1_0,l1_1,g1_1⟩:=k49_open hk1
 obtain rfl:cs1=#[.slice A1_0 y1.f0.length c1_0,.slice A1_1 y1.f1.length c1_1]:=Array.toList_inj.1 hcs1
 clear hA0 hval0 hsz0
 obtain⟨k,h⟩:=Pure.FnExactExplainChoice y0 y1 ok0 ok1
 refine(Pr.laws_FnExactExplainChoice.calls k _ _ y0.f0 _ _ y0.f1 y0.f2 _ _ y1.f0 _ _ y1.f1 W g0_0 l0_0 g0_1 l0_1 g1_0 l1_0 g1_1 l1_1 (table hL) h).mono fun e W' ⟨he,bel0⟩=>?_
 have bel:Below W.heap.size W W':=bel0
 subst he
 exact⟨_,rfl,_,_,_,[],_,[],hW',trodAll_mk1 (shut_bool Tryz.underlying4 _),(trodAll_cons_mk (Below.trod laidOut (by kernel_rfl) (Zd (by kernel_rfl)) k0 bel lt0) (trodAll_cons_mk (Below.trod laidOut (by kernel_rfl) (Zd (by kernel_rfl)) k1 bel lt1) trodAll_mk0)),rfl,bel.frame _,fun h=>by cases h⟩
theorem over:Rows.fnExactExplainChoiceRow.holds Tryz.pinned (OpenSpec.ofChange Rows.fnExactExplainChoiceSpec):=
 OpenClaim.holds_of_wide 9 Tryz.f9 rfl rfl rfl rfl rfl rfl rfl ⟨rfl,rfl,rfl,rfl,rfl⟩ rfl rfl rfl rfl rfl (by kernel_rfl) Tryz.func9 (by kernel_rfl)
  (Zd (by kernel_rfl)) (by unfold Func.isWrapper;first|(rw[if_pos (by decide +kernel)];kernel_rfl)|(rw[if_neg (by decide +kernel)];exact⟨rfl,rfl⟩))
  (fun os started H enc _=>lifted os started H enc)
theorem proved:Rows.FnExactExplainChoiceSaid:=over
#print axioms proved
end Go.Proofs.YtoeimopgoaffcaaGreatDoor.fnExactExplainChoice
namespace Go.Proofs.YtoeimopgoaffcaaGreatDoor
open Go
theorem fnExactExplainChoice_holds:Rows.FnExactExplainChoiceCardSaid:=
 Claim7.holds_tied_plain_at .later [] [.data, .data, .data] true (true, "be3da0e0a0d16a05f648db968d7e1c7d693f4651ba9dda35c14088b64a68fcb0") true
  fnExactExplainChoice.over (fun _ h=>by cases h) (by kernel_rfl) (fun _ h=>by cases h) fnExactExplainChoice_row_tie rfl ⟨rfl,rfl⟩ (by kernel_rfl) rfl
  (fun f fn hf hfn=>by
   obtain rfl : f = 9 := Zg ((show Tryz.prog.funcNamed "loop.example/g00827/laws.FnExactExplainChoice" = some 9 by kernel_rfl).symm.trans hf) |>.symm
   obtain rfl:fn=Tryz.f9:=(Zg (Tryz.func9.symm.trans hfn)).symm
   exact⟨by kernel_rfl,fun j t ht=>by
    rw[Tryz.params9] at ht
    have hm:t∈[47,49]:=by simpa using Array.mem_of_getElem? ht
    have hall:([47,49].all fun u=>!Tryz.prog.wantsStandIn u)=true:=by kernel_rfl
    exact(show Tryz.prog.wantsStandIn t=false by simpa using List.all_eq_true.1 hall t hm)⟩)
  (by kernel_rfl)
end Go.Proofs.YtoeimopgoaffcaaGreatDoor
