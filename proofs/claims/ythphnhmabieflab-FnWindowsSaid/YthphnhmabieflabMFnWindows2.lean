/- The texts of one claim, put together by a program of this session. -/
import Derived.Test.YthphnhmabieflabRows
import Derived.WalkKit
import Derived.ProofKit
import Derived.OpenShut
import Derived.ShutString
import Derived.ChangeOld
import Derived.Below
import Derived.SizedLaws
import Derived.Test.YthphnhmabieflabMFnWindows1
namespace Go.Proofs.Ythphnhmabieflab.fnWindows
open Go.ChangeShapes Go.WideShapes Go.ChangeAt Go.RowKit Go.Proofs.Ythphnhmabieflab.Pr Go.Proofs.Ythphnhmabieflab.Op Go.Proofs.YthphnhmabieflabW.PrintWords
open Go.ChangeMaps (open_string shut_string)
set_option linter.unusedVariables false
theorem own:ownKnob Try.prog.godebug=none:=by kernel_rfl
theorem laidOut:laidOutB Try.prog=true:=by kernel_rfl
set_option maxRecDepth 100000 in
theorem lifted (os:Os) (started:os.Started) (H:Type) (enc:TypeId×Value→H) :
  ReturnsInHanded {} Try.checked os 4 .any (Rows.fnWindowsSpec.pre6 enc Try.prog Try.f4 Rows.fnWindowsRow.domain false) (Rows.fnWindowsSpec.post enc Try.prog Try.f4 false true false false):=by
 refine returnsInHanded_of_change_sized (C:=Try.checked) own started (by kernel_rfl) Try.func4
  (ChangeSpec.witness6 (enc:=enc) (C:=Try.checked) false ⟨#[],#[.slice none 0 0],[]⟩ 8 (by kernel_rfl) (by kernel_rfl) (by kernel_rfl) (by kernel_rfl)) ?_
 intro W base args ds gs before hval0 hW hcnd hsz0 _
 have hval:∀(j:Nat) t v,Try.f4.params[j]? = some t→args[j]? = some v→Value.okWide Try.prog W .any base t v:=hval0
 have hW':=hW
 obtain⟨p,q,hA0,hV,rfl,hfz,hnd⟩:=hW
 have hA:DataW.TrodAll enc Try.prog W 0 (fun _=>true) true Try.f4.params.toList args.toList ds p:=hA0
 rw[Try.params4] at hA hval
 obtain⟨v0,vs0,d0,ds0,p0,q0,hargs,rfl,rfl,h0,r0⟩:=trodAll_cons hA
 obtain⟨rfl,rfl,rfl⟩:=trodAll_nil r0
 obtain rfl:args=#[v0]:=by cases args;simp_all
 obtain⟨rfl,rfl⟩:=trodVars_none hV
 have k0:=h0
 have lt0:∀x∈p0,x.block<W.heap.size:=by obtain⟨m,hm⟩:=k0;exact DataW.trod_lt m _ _ _ hm
 obtain⟨fuel0,hf0⟩:=h0
 obtain⟨a0,len0,cap0,rfl⟩:=okWide_slice Try.underlying28 (hval 0 28 v0 rfl rfl)
 obtain⟨y0,hk0,ok0⟩:=(Zbt.slice (Zbt.int Try.underlying5 (by kernel_rfl)) Try.underlying28 (by kernel_rfl)).op hf0
 obtain⟨A0,c0,hcs0,l0,g0⟩:=hk0
 simp only[Value.cells,List.cons.injEq,Value.slice.injEq,and_true] at hcs0
 obtain⟨rfl,rfl,rfl⟩:=hcs0
 clear hA0 hval0 hsz0
 obtain⟨k,h⟩:=Pure.FnWindows y0 ok0
 refine(Pr.laws_FnWindows.calls k _ _ y0 W g0 l0 h).mono fun e W' ⟨he,bel0⟩=>?_
 have bel:Below W.heap.size W W':=bel0
 subst he
 exact⟨_,rfl,_,_,_,[],_,[],hW',trodAll_mk1 (shut_bool Try.underlying4 _),(trodAll_cons_mk (Below.trod laidOut (by kernel_rfl) (Zc (by kernel_rfl)) k0 bel lt0) trodAll_mk0),rfl,bel.frame _,fun h=>by cases h⟩
theorem over:Rows.fnWindowsRow.holds Try.pinned (OpenSpec.ofChange Rows.fnWindowsSpec):=
 OpenClaim.holds_of_wide 4 Try.f4 rfl rfl rfl rfl rfl rfl rfl ⟨rfl,rfl,rfl,rfl,rfl⟩ rfl rfl rfl rfl rfl (by kernel_rfl) Try.func4 (by kernel_rfl)
  (Zc (by kernel_rfl)) (by unfold Func.isWrapper;first|(rw[if_pos (by decide +kernel)];kernel_rfl)|(rw[if_neg (by decide +kernel)];exact⟨rfl,rfl⟩))
  (fun os started H enc _=>lifted os started H enc)
theorem proved:Rows.FnWindowsSaid:=over
#print axioms proved
end Go.Proofs.Ythphnhmabieflab.fnWindows
namespace Go.Proofs.Ythphnhmabieflab
theorem fnWindows_holds:Rows.FnWindowsSaid:=fnWindows.proved
end Go.Proofs.Ythphnhmabieflab
