/- The texts of one claim, put together by a program of this session. -/
import Derived.Test.YtodfnelilhjoeaaRows
import Derived.WalkKit
import Derived.ProofKit
import Derived.OpenShut
import Derived.ShutString
import Derived.ChangeOld
import Derived.Below
import Derived.SizedLaws
import Derived.Test.YtodfnelilhjoeaaMStrongNetwork1
namespace Go.Proofs.Ytodfnelilhjoeaa.fnExactStrongNetwork
open Go.ChangeShapes Go.WideShapes Go.ChangeAt Go.RowKit Go.Proofs.Ytodfnelilhjoeaa.Pr Go.Proofs.Ytodfnelilhjoeaa.Op Go.Proofs.YtodfnelilhjoeaaW.PrintWords
open Go.ChangeMaps (open_string shut_string)
set_option linter.unusedVariables false
theorem own:ownKnob Try.prog.godebug=none:=by kernel_rfl
theorem laidOut:laidOutB Try.prog=true:=by kernel_rfl
set_option maxRecDepth 100000 in
theorem lifted (os:Os) (started:os.Started) (H:Type) (enc:TypeId×Value→H) :
  ReturnsInHanded {} Try.checked os 14 .any (Rows.fnExactStrongNetworkSpec.pre6 enc Try.prog Try.f14 Rows.fnExactStrongNetworkRow.domain false) (Rows.fnExactStrongNetworkSpec.post enc Try.prog Try.f14 false true false false):=by
 refine returnsInHanded_of_change_sized (C:=Try.checked) own started (by kernel_rfl) Try.func14
  (ChangeSpec.witness6 (enc:=enc) (C:=Try.checked) false ⟨#[],#[.agg #[.slice none 0 0,.slice none 0 0,.int .i64 0]],[]⟩ 8 (by kernel_rfl) (by kernel_rfl) (by kernel_rfl) (by kernel_rfl)) ?_
 intro W base args ds gs before hval0 hW hcnd hsz0 _
 have hval:∀(j:Nat) t v,Try.f14.params[j]? = some t→args[j]? = some v→Value.okWide Try.prog W .any base t v:=hval0
 have hW':=hW
 obtain⟨p,q,hA0,hV,rfl,hfz,hnd⟩:=hW
 have hA:DataW.TrodAll enc Try.prog W 0 (fun _=>true) true Try.f14.params.toList args.toList ds p:=hA0
 rw[Try.params14] at hA hval
 obtain⟨v0,vs0,d0,ds0,p0,q0,hargs,rfl,rfl,h0,r0⟩:=trodAll_cons hA
 obtain⟨rfl,rfl,rfl⟩:=trodAll_nil r0
 obtain rfl:args=#[v0]:=by cases args;simp_all
 obtain⟨rfl,rfl⟩:=trodVars_none hV
 have k0:=h0
 have lt0:∀x∈p0,x.block<W.heap.size:=by obtain⟨m,hm⟩:=k0;exact DataW.trod_lt m _ _ _ hm
 obtain⟨fuel0,hf0⟩:=h0
 obtain⟨cs0,rfl,hsz0⟩:=okWide_struct Try.underlying25 (hval 0 25 v0 rfl rfl)
 obtain⟨y0,hk0,ok0⟩:=op_k25.op hf0
 obtain⟨A0_0,c0_0,A0_1,c0_1,hcs0,l0_0,g0_0,l0_1,g0_1⟩:=k25_open hk0
 obtain rfl:cs0=#[.slice A0_0 y0.f0.length c0_0,.slice A0_1 y0.f1.length c0_1,.int .i64 y0.f2]:=Array.toList_inj.1 hcs0
 clear hA0 hval0 hsz0
 obtain⟨k,h⟩:=Pure.FnExactStrongNetwork y0 ok0
 refine(Pr.laws_FnExactStrongNetwork.calls k _ _ y0.f0 _ _ y0.f1 y0.f2 W g0_0 l0_0 g0_1 l0_1 h).mono fun e W' ⟨he,bel0⟩=>?_
 have bel:Below W.heap.size W W':=bel0
 subst he
 exact⟨_,rfl,_,_,_,[],_,[],hW',trodAll_mk1 (shut_bool Try.underlying4 _),(trodAll_cons_mk (Below.trod laidOut (by kernel_rfl) (Zd (by kernel_rfl)) k0 bel lt0) trodAll_mk0),rfl,bel.frame _,fun h=>by cases h⟩
theorem over:Rows.fnExactStrongNetworkRow.holds Try.pinned (OpenSpec.ofChange Rows.fnExactStrongNetworkSpec):=
 OpenClaim.holds_of_wide 14 Try.f14 rfl rfl rfl rfl rfl rfl rfl ⟨rfl,rfl,rfl,rfl,rfl⟩ rfl rfl rfl rfl rfl (by kernel_rfl) Try.func14 (by kernel_rfl)
  (Zd (by kernel_rfl)) (by unfold Func.isWrapper;first|(rw[if_pos (by decide +kernel)];kernel_rfl)|(rw[if_neg (by decide +kernel)];exact⟨rfl,rfl⟩))
  (fun os started H enc _=>lifted os started H enc)
theorem proved:Rows.FnExactStrongNetworkSaid:=over
#print axioms proved
end Go.Proofs.Ytodfnelilhjoeaa.fnExactStrongNetwork
namespace Go.Proofs.Ytodfnelilhjoeaa
theorem fnExactStrongNetwork_holds:Rows.FnExactStrongNetworkSaid:=fnExactStrongNetwork.proved
end Go.Proofs.Ytodfnelilhjoeaa
