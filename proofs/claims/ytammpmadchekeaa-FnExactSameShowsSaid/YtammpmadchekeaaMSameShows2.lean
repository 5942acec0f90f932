/- The texts of one claim, put together by a program of this session. -/
import Derived.Test.YtammpmadchekeaaRows
import Derived.WalkKit
import Derived.ProofKit
import Derived.OpenShut
import Derived.ShutString
import Derived.ChangeOld
import Derived.Below
import Derived.SizedLaws
import Derived.Test.YtammpmadchekeaaMSameShows1
namespace Go.Proofs.Ytammpmadchekeaa.fnExactSameShows
open Go.ChangeShapes Go.WideShapes Go.ChangeAt Go.RowKit Go.Proofs.Ytammpmadchekeaa.Pr Go.Proofs.Ytammpmadchekeaa.Op Go.Proofs.YtammpmadchekeaaW.PrintWords
open Go.ChangeMaps (open_string shut_string)
set_option linter.unusedVariables false
theorem own:ownKnob Try.prog.godebug=none:=by kernel_rfl
theorem laidOut:laidOutB Try.prog=true:=by kernel_rfl
set_option maxRecDepth 100000 in
theorem lifted (os:Os) (started:os.Started) (H:Type) (enc:TypeId×Value→H) :
  ReturnsInHanded {} Try.checked os 12 .any (Rows.fnExactSameShowsSpec.pre6 enc Try.prog Try.f12 Rows.fnExactSameShowsRow.domain false) (Rows.fnExactSameShowsSpec.post enc Try.prog Try.f12 false true false false):=by
 refine returnsInHanded_of_change_sized (C:=Try.checked) own started (by kernel_rfl) Try.func12
  (ChangeSpec.witness6 (enc:=enc) (C:=Try.checked) false ⟨#[],#[.agg #[.slice none 0 0,.slice none 0 0,.int .i64 0],.agg #[.slice none 0 0,.slice none 0 0,.int .i64 0]],[]⟩ 8 (by kernel_rfl) (by kernel_rfl) (by kernel_rfl) (by kernel_rfl)) ?_
 intro W base args ds gs before hval0 hW hcnd hsz0 _
 have hval:∀(j:Nat) t v,Try.f12.params[j]? = some t→args[j]? = some v→Value.okWide Try.prog W .any base t v:=hval0
 have hW':=hW
 obtain⟨p,q,hA0,hV,rfl,hfz,hnd⟩:=hW
 have hA:DataW.TrodAll enc Try.prog W 0 (fun _=>true) true Try.f12.params.toList args.toList ds p:=hA0
 rw[Try.params12] at hA hval
 obtain⟨v0,vs0,d0,ds0,p0,q0,hargs,rfl,rfl,h0,r0⟩:=trodAll_cons hA
 obtain⟨v1,vs1,d1,ds1,p1,q1,rfl,rfl,rfl,h1,r1⟩:=trodAll_cons r0
 obtain⟨rfl,rfl,rfl⟩:=trodAll_nil r1
 obtain rfl:args=#[v0,v1]:=by cases args;simp_all
 obtain⟨rfl,rfl⟩:=trodVars_none hV
 have k0:=h0
 have lt0:∀x∈p0,x.block<W.heap.size:=by obtain⟨m,hm⟩:=k0;exact DataW.trod_lt m _ _ _ hm
 obtain⟨fuel0,hf0⟩:=h0
 obtain⟨cs0,rfl,hsz0⟩:=okWide_struct Try.underlying49 (hval 0 49 v0 rfl rfl)
 obtain⟨y0,hk0,ok0⟩:=op_k49.op hf0
 obtain⟨A0_0,c0_0,A0_1,c0_1,hcs0,l0_0,g0_0,l0_1,g0_1⟩:=k49_open hk0
 obtain rfl:cs0=#[.slice A0_0 y0.f0.length c0_0,.slice A0_1 y0.f1.length c0_1,.int .i64 y0.f2]:=Array.toList_inj.1 hcs0
 have k1:=h1
 have lt1:∀x∈p1,x.block<W.heap.size:=by obtain⟨m,hm⟩:=k1;exact DataW.trod_lt m _ _ _ hm
 obtain⟨fuel1,hf1⟩:=h1
 obtain⟨cs1,rfl,hsz1⟩:=okWide_struct Try.underlying49 (hval 1 49 v1 rfl rfl)
 obtain⟨y1,hk1,ok1⟩:=op_k49.op hf1
 obtain⟨A1_0,c1_0,A1_1,c1_1,hcs1,l1_0,g1_0,l1_1,g1_1⟩:=k49_open hk1
 obtain rfl:cs1=#[.slice A1_0 y1.f0.length c1_0,.slice A1_1 y1.f1.length c1_1,.int .i64 y1.f2]:=Array.toList_inj.1 hcs1
 clear hA0 hval0 hsz0
 obtain⟨k,h⟩:=Pure.FnExactSameShows y0 y1 ok0 ok1
 refine(Pr.laws_FnExactSameShows.calls k _ _ y0.f0 _ _ y0.f1 y0.f2 _ _ y1.f0 _ _ y1.f1 y1.f2 W g0_0 l0_0 g0_1 l0_1 g1_0 l1_0 g1_1 l1_1 h).mono fun e W' ⟨he,bel0⟩=>?_
 have bel:Below W.heap.size W W':=bel0
 subst he
 exact⟨_,rfl,_,_,_,[],_,[],hW',trodAll_mk1 (shut_bool Try.underlying4 _),(trodAll_cons_mk (Below.trod laidOut (by kernel_rfl) (Zd (by kernel_rfl)) k0 bel lt0) (trodAll_cons_mk (Below.trod laidOut (by kernel_rfl) (Zd (by kernel_rfl)) k1 bel lt1) trodAll_mk0)),rfl,bel.frame _,fun h=>by cases h⟩
theorem over:Rows.fnExactSameShowsRow.holds Try.pinned (OpenSpec.ofChange Rows.fnExactSameShowsSpec):=
 OpenClaim.holds_of_wide 12 Try.f12 rfl rfl rfl rfl rfl rfl rfl ⟨rfl,rfl,rfl,rfl,rfl⟩ rfl rfl rfl rfl rfl (by kernel_rfl) Try.func12 (by kernel_rfl)
  (Zd (by kernel_rfl)) (by unfold Func.isWrapper;first|(rw[if_pos (by decide +kernel)];kernel_rfl)|(rw[if_neg (by decide +kernel)];exact⟨rfl,rfl⟩))
  (fun os started H enc _=>lifted os started H enc)
theorem proved:Rows.FnExactSameShowsSaid:=over
#print axioms proved
end Go.Proofs.Ytammpmadchekeaa.fnExactSameShows
namespace Go.Proofs.Ytammpmadchekeaa
theorem fnExactSameShows_holds:Rows.FnExactSameShowsSaid:=fnExactSameShows.proved
end Go.Proofs.Ytammpmadchekeaa
