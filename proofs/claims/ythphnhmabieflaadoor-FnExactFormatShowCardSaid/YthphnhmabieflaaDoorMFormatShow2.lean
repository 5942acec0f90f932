/- The texts of one claim, put together by a program of this session. -/
import Derived.Test.YthphnhmabieflaaDoorRows
import Derived.Test.YthphnhmabieflaaDoorCards
import Derived.Test.YthphnhmabieflaaDoorTie
import Derived.WalkKit
import Derived.ProofKit
import Derived.OpenShut
import Derived.ShutString
import Derived.ChangeOld
import Derived.Below
import Derived.SizedLaws
import Derived.SevenTiedAt
import Derived.LaidMore
import Derived.Stop.Joined
import Derived.Stop.LaidErr
import Derived.Lib.LaidTab
import Derived.Lib.AppendIntMem
import Derived.Test.YthphnhmabieflaaDoorBFtc1x7
import Derived.Test.YthphnhmabieflaaDoorMFormatShow1
namespace Go.Proofs.YthphnhmabieflaaDoor.fnExactFormatShow
open Go.ChangeShapes Go.WideShapes Go.ChangeAt Go.RowKit Go.Proofs.YthphnhmabieflaaDoor.Pr Go.Proofs.YthphnhmabieflaaDoor.Op Go.Proofs.YthphnhmabieflaaDoorW.PrintWords
open Go.ChangeMaps (open_string shut_string)
set_option linter.unusedVariables false
theorem own:ownKnob Tryd.prog.godebug=none:=by kernel_rfl
theorem Zcz:laidOutB Tryd.prog=true:=by kernel_rfl
theorem ZcH (os:Os) (args:Array Value):laidMetH Tryd.prog Rows.fnExactFormatShowRow.laid ((World.doorLaid Tryd.prog 400 os).forCall (fun _ _=>0) ⟨#[],args,[]⟩).memory:=
 laidMetH_of_parts3 (fuel:=8) (laidMet_of_run' 8 (by kernel_rfl) (by kernel_rfl)) (by kernel_rfl) (by kernel_rfl)
theorem table {W:World} (h:laidMetH Tryd.prog Rows.fnExactFormatShowRow.laid W):TW W:=by
 rw[MakeChecks.laidMetH_plain _ _ _ (by kernel_rfl)] at h
 have h2:=laidMet.tail (laidMet.tail ((show laidMet Tryd.prog (_ :: _ :: _ :: _) W from h)))
 refine Lib.tabBelow_of_tabIs ?_
 exact Lib.tabIs_of_head (g:=3) (t:=166) (e:=132) (n:=20) (by kernel_rfl) (by kernel_rfl) (by kernel_rfl) (by kernel_rfl) (by kernel_rfl) (by kernel_rfl) (zs:=Lib.pow10Tab) h2
set_option maxRecDepth 100000 in
theorem lifted (os:Os) (started:os.Started) (H:Type) (enc:TypeId×Value→H) :
  ReturnsInHanded {} Tryd.checked os 6 .any (fun w args=>(Rows.fnExactFormatShowSpec.pre enc Tryd.prog Tryd.f6 [] false w args∧laidMetH Tryd.prog Rows.fnExactFormatShowRow.laid w)∧sizedMet enc Tryd.prog Tryd.f6 (OpenSpec.ofChange Rows.fnExactFormatShowSpec) false w args) (Rows.fnExactFormatShowSpec.post enc Tryd.prog Tryd.f6 false true false false):=by
 refine returnsInHanded_of_change_and (C:=Tryd.checked) (X:=fun w _=>laidMetH Tryd.prog Rows.fnExactFormatShowRow.laid w) (fun _ _ _ hh h=>h.of_heap hh) own started (by kernel_rfl) Tryd.func6
  (ChangeSpec.witness_shaped (enc:=enc) (C:=Tryd.checked) (os:=os) (X:=fun w _=>laidMetH Tryd.prog Rows.fnExactFormatShowRow.laid w) false (World.doorLaid Tryd.prog 400 os) #[.agg #[.slice none 0 0,.slice none 0 0,.int .i64 0]] 8 rfl (World.shaped_of_RefB (by kernel_rfl) (by kernel_rfl)) (by kernel_rfl) (by kernel_rfl) (by kernel_rfl) (ZcH os _)) ?_
 intro W base args ds gs before hval0 hW hcnd hsz0 hL _
 have hval:∀(j:Nat) t v,Tryd.f6.params[j]? = some t→args[j]? = some v→Value.okWide Tryd.prog W .any base t v:=hval0
 have hW':=hW
 obtain⟨p,q,hA0,hV,rfl,hfz,hnd⟩:=hW
 have hA:DataW.TrodAll enc Tryd.prog W 0 (fun _=>true) true Tryd.f6.params.toList args.toList ds p:=hA0
 rw[Tryd.params6] at hA hval
 obtain⟨v0,vs0,d0,ds0,p0,q0,hargs,rfl,rfl,h0,r0⟩:=trodAll_cons hA
 obtain⟨rfl,rfl,rfl⟩:=trodAll_nil r0
 obtain rfl:args=#[v0]:=by cases args;simp_all
 obtain⟨rfl,rfl⟩:=trodVars_none hV
 have k0:=h0
 have lt0:∀x∈p0,x.block<W.heap.size:=by obtain⟨m,hm⟩:=k0;exact DataW.trod_lt m _ _ _ hm
 obtain⟨fuel0,hf0⟩:=h0
 obtain⟨cs0,rfl,hsz0⟩:=okWide_struct Tryd.underlying30 (hval 0 30 v0 rfl rfl)
 obtain⟨y0,hk0,ok0⟩:=op_k30.op hf0
 obtain⟨A0_0,c0_0,A0_1,c0_1,hcs0,l0_0,g0_0,l0_1,g0_1⟩:=ZdY hk0
 obtain rfl:cs0=#[.slice A0_0 y0.f0.length c0_0,.slice A0_1 y0.f1.length c0_1,.int .i64 y0.f2]:=Array.toList_inj.1 hcs0
 clear hA0 hval0 hsz0
 obtain⟨k,h⟩:=Pure.FnExactFormatShow y0 ok0
 refine(Pr.laws_FnExactFormatShow.calls k _ _ y0.f0 _ _ y0.f1 y0.f2 W g0_0 l0_0 g0_1 l0_1 (table hL) h).mono fun e W' ⟨he,bel0⟩=>?_
 have bel:Below W.heap.size W W':=bel0
 subst he
 exact⟨_,rfl,_,_,_,[],_,[],hW',trodAll_mk1 (shut_bool Tryd.underlying4 _),(trodAll_cons_mk (Below.trod Zcz (by kernel_rfl) (Zd (by kernel_rfl)) k0 bel lt0) trodAll_mk0),rfl,bel.frame _,fun h=>by cases h⟩
theorem over:Rows.fnExactFormatShowRow.holds Tryd.pinned (OpenSpec.ofChange Rows.fnExactFormatShowSpec):=
 OpenClaim.holds_of_wide 6 Tryd.f6 rfl rfl rfl rfl rfl rfl rfl ⟨rfl,rfl,rfl,rfl,rfl⟩ rfl rfl rfl rfl rfl (by kernel_rfl) Tryd.func6 (by kernel_rfl)
  (Zd (by kernel_rfl)) (by unfold Func.isWrapper;first|(rw[if_pos (by decide +kernel)];kernel_rfl)|(rw[if_neg (by decide +kernel)];exact⟨rfl,rfl⟩))
  (fun os started H enc _=>lifted os started H enc)
theorem proved:Rows.FnExactFormatShowSaid:=over
#print axioms proved
end Go.Proofs.YthphnhmabieflaaDoor.fnExactFormatShow
namespace Go.Proofs.YthphnhmabieflaaDoor
open Go
theorem fnExactFormatShow_holds:Rows.FnExactFormatShowCardSaid:=
 Claim7.holds_tied_plain_at .later [] [.data, .data, .data] true (true, "34d2ac5ddefa6472849b680bebf7567fbcf67b6b77c33102f8af9c765b91ac33") true
  fnExactFormatShow.over (fun _ h=>by cases h) (by kernel_rfl) (fun _ h=>by cases h) fnExactFormatShow_row_tie rfl ⟨rfl,rfl⟩ (by kernel_rfl) rfl
  (fun f fn hf hfn=>by
   obtain rfl : f = 6 := Zg ((show Tryd.prog.funcNamed "loop.example/g00827/laws.FnExactFormatShow" = some 6 by kernel_rfl).symm.trans hf) |>.symm
   obtain rfl:fn=Tryd.f6:=(Zg (Tryd.func6.symm.trans hfn)).symm
   exact⟨by kernel_rfl,fun j t ht=>by
    rw[Tryd.params6] at ht
    have hm:t∈[30]:=by simpa using Array.mem_of_getElem? ht
    have hall:([30].all fun u=>!Tryd.prog.wantsStandIn u)=true:=by kernel_rfl
    exact(show Tryd.prog.wantsStandIn t=false by simpa using List.all_eq_true.1 hall t hm)⟩)
  (by kernel_rfl)
end Go.Proofs.YthphnhmabieflaaDoor
