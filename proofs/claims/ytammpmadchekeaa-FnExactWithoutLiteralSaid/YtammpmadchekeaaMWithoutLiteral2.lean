/- The texts of one claim, put together by a program of this session. -/
import Derived.Test.YtammpmadchekeaaRows
import Derived.WalkKit
import Derived.ProofKit
import Derived.OpenShut
import Derived.ShutString
import Derived.ChangeOld
import Derived.Below
import Derived.SizedLaws
import Derived.Test.YtammpmadchekeaaMWithoutLiteral1
namespace Go.Proofs.Ytammpmadchekeaa.fnExactWithoutLiteral
open Go.ChangeShapes Go.WideShapes Go.ChangeAt Go.RowKit Go.Proofs.Ytammpmadchekeaa.Pr Go.Proofs.Ytammpmadchekeaa.Op Go.Proofs.YtammpmadchekeaaW.PrintWords
open Go.ChangeMaps (open_string shut_string)
set_option linter.unusedVariables false
theorem own:ownKnob Try.prog.godebug=none:=by kernel_rfl
theorem laidOut:laidOutB Try.prog=true:=by kernel_rfl
set_option maxRecDepth 100000 in
theorem lifted (os:Os) (started:os.Started) (H:Type) (enc:TypeId×Value→H) :
  ReturnsInHanded {} Try.checked os 6 .any (Rows.fnExactWithoutLiteralSpec.pre6 enc Try.prog Try.f6 Rows.fnExactWithoutLiteralRow.domain false) (Rows.fnExactWithoutLiteralSpec.post enc Try.prog Try.f6 false true false false):=by
 refine returnsInHanded_of_change_sized (C:=Try.checked) own started (by kernel_rfl) Try.func6
  (ChangeSpec.witness6 (enc:=enc) (C:=Try.checked) false ⟨#[],#[.slice none 0 0,.int .i64 0],[]⟩ 8 (by kernel_rfl) (by kernel_rfl) (by kernel_rfl) (by kernel_rfl)) ?_
 intro W base args ds gs before hval0 hW hcnd hsz0 _
 have hval:∀(j:Nat) t v,Try.f6.params[j]? = some t→args[j]? = some v→Value.okWide Try.prog W .any base t v:=hval0
 have hW':=hW
 obtain⟨p,q,hA0,hV,rfl,hfz,hnd⟩:=hW
 have hA:DataW.TrodAll enc Try.prog W 0 (fun _=>true) true Try.f6.params.toList args.toList ds p:=hA0
 rw[Try.params6] at hA hval
 obtain⟨v0,vs0,d0,ds0,p0,q0,hargs,rfl,rfl,h0,r0⟩:=trodAll_cons hA
 obtain⟨v1,vs1,d1,ds1,p1,q1,rfl,rfl,rfl,h1,r1⟩:=trodAll_cons r0
 obtain⟨rfl,rfl,rfl⟩:=trodAll_nil r1
 obtain rfl:args=#[v0,v1]:=by cases args;simp_all
 obtain⟨rfl,rfl⟩:=trodVars_none hV
 have k0:=h0
 have lt0:∀x∈p0,x.block<W.heap.size:=by obtain⟨m,hm⟩:=k0;exact DataW.trod_lt m _ _ _ hm
 obtain⟨fuel0,hf0⟩:=h0
 obtain⟨a0,len0,cap0,rfl⟩:=okWide_slice Try.underlying22 (hval 0 22 v0 rfl rfl)
 obtain⟨y0,hk0,ok0⟩:=(Zv.slice (Zv.int Try.underlying3 (by kernel_rfl)) Try.underlying22 (by kernel_rfl)).op hf0
 obtain⟨A0,c0,hcs0,l0,g0⟩:=hk0
 simp only[Value.cells,List.cons.injEq,Value.slice.injEq,and_true] at hcs0
 obtain⟨rfl,rfl,rfl⟩:=hcs0
 obtain⟨y1,rfl,rfl,rfl,ok1⟩:=open_int Try.underlying3 (hval 1 3 v1 rfl rfl) h1
 clear hA0 hval0 hsz0
 obtain⟨k,h⟩:=Pure.FnExactWithoutLiteral y0 y1 ok0 ok1
 refine(Pr.laws_FnExactWithoutLiteral.calls k _ _ y0 y1 W g0 l0 h).mono fun e W' ⟨he,bel0⟩=>?_
 have bel:Below W.heap.size W W':=bel0
 subst he
 exact⟨_,rfl,_,_,_,[],_,[],hW',trodAll_mk1 (shut_bool Try.underlying4 _),(trodAll_cons_mk (Below.trod laidOut (by kernel_rfl) (Zb (by kernel_rfl)) k0 bel lt0) (trodAll_cons_mk (shut_int Try.underlying3 ok1) trodAll_mk0)),rfl,bel.frame _,fun h=>by cases h⟩
theorem over:Rows.fnExactWithoutLiteralRow.holds Try.pinned (OpenSpec.ofChange Rows.fnExactWithoutLiteralSpec):=
 OpenClaim.holds_of_wide 6 Try.f6 rfl rfl rfl rfl rfl rfl rfl ⟨rfl,rfl,rfl,rfl,rfl⟩ rfl rfl rfl rfl rfl (by kernel_rfl) Try.func6 (by kernel_rfl)
  (Zb (by kernel_rfl)) (by unfold Func.isWrapper;first|(rw[if_pos (by decide +kernel)];kernel_rfl)|(rw[if_neg (by decide +kernel)];exact⟨rfl,rfl⟩))
  (fun os started H enc _=>lifted os started H enc)
theorem proved:Rows.FnExactWithoutLiteralSaid:=over
#print axioms proved
end Go.Proofs.Ytammpmadchekeaa.fnExactWithoutLiteral
namespace Go.Proofs.Ytammpmadchekeaa
theorem fnExactWithoutLiteral_holds:Rows.FnExactWithoutLiteralSaid:=fnExactWithoutLiteral.proved
end Go.Proofs.Ytammpmadchekeaa
