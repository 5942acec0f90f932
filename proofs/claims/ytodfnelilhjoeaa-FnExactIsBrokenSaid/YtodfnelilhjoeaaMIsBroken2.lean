/- The texts of one claim, put together by a program of this session. -/
import Derived.Test.YtodfnelilhjoeaaRows
import Derived.WalkKit
import Derived.ProofKit
import Derived.OpenShut
import Derived.ShutString
import Derived.ChangeOld
import Derived.Below
import Derived.SizedLaws
import Derived.Test.YtodfnelilhjoeaaMIsBroken1
namespace Go.Proofs.Ytodfnelilhjoeaa.fnExactIsBroken
open Go.ChangeShapes Go.WideShapes Go.ChangeAt Go.RowKit Go.Proofs.Ytodfnelilhjoeaa.Pr Go.Proofs.Ytodfnelilhjoeaa.Op Go.Proofs.YtodfnelilhjoeaaW.PrintWords
open Go.ChangeMaps (open_string shut_string)
set_option linter.unusedVariables false
theorem own:ownKnob Try.prog.godebug=none:=by kernel_rfl
theorem laidOut:laidOutB Try.prog=true:=by kernel_rfl
set_option maxRecDepth 100000 in
theorem lifted (os:Os) (started:os.Started) (H:Type) (enc:TypeId×Value→H) :
  ReturnsInHanded {} Try.checked os 10 .any (Rows.fnExactIsBrokenSpec.pre6 enc Try.prog Try.f10 Rows.fnExactIsBrokenRow.domain false) (Rows.fnExactIsBrokenSpec.post enc Try.prog Try.f10 false true false false):=by
 refine returnsInHanded_of_change_sized (C:=Try.checked) own started (by kernel_rfl) Try.func10
  (ChangeSpec.witness6 (enc:=enc) (C:=Try.checked) false ⟨#[],#[.agg #[.slice none 0 0,.slice none 0 0,.int .i64 0],.agg #[.int .i64 0,.slice none 0 0,.slice none 0 0]],[]⟩ 8 (by kernel_rfl) (by kernel_rfl) (by kernel_rfl) (by kernel_rfl)) ?_
 intro W base args ds gs before hval0 hW hcnd hsz0 _
 have hval:∀(j:Nat) t v,Try.f10.params[j]? = some t→args[j]? = some v→Value.okWide Try.prog W .any base t v:=hval0
 have hW':=hW
 obtain⟨p,q,hA0,hV,rfl,hfz,hnd⟩:=hW
 have hA:DataW.TrodAll enc Try.prog W 0 (fun _=>true) true Try.f10.params.toList args.toList ds p:=hA0
 rw[Try.params10] at hA hval
 obtain⟨v0,vs0,d0,ds0,p0,q0,hargs,rfl,rfl,h0,r0⟩:=trodAll_cons hA
 obtain⟨v1,vs1,d1,ds1,p1,q1,rfl,rfl,rfl,h1,r1⟩:=trodAll_cons r0
 obtain⟨rfl,rfl,rfl⟩:=trodAll_nil r1
 obtain rfl:args=#[v0,v1]:=by cases args;simp_all
 obtain⟨rfl,rfl⟩:=trodVars_none hV
 have k0:=h0
 have lt0:∀x∈p0,x.block<W.heap.size:=by obtain⟨m,hm⟩:=k0;exact DataW.trod_lt m _ _ _ hm
 obtain⟨fuel0,hf0⟩:=h0
 obtain⟨cs0,rfl,hsz0⟩:=okWide_struct Try.underlying25 (hval 0 25 v0 rfl rfl)
 obtain⟨y0,hk0,ok0⟩:=op_k25.op hf0
 obtain⟨A0_0,c0_0,A0_1,c0_1,hcs0,l0_0,g0_0,l0_1,g0_1⟩:=k25_open hk0
 obtain rfl:cs0=#[.slice A0_0 y0.f0.length c0_0,.slice A0_1 y0.f1.length c0_1,.int .i64 y0.f2]:=Array.toList_inj.1 hcs0
 have k1:=h1
 have lt1:∀x∈p1,x.block<W.heap.size:=by obtain⟨m,hm⟩:=k1;exact DataW.trod_lt m _ _ _ hm
 obtain⟨fuel1,hf1⟩:=h1
 obtain⟨cs1,rfl,hsz1⟩:=okWide_struct Try.underlying63 (hval 1 63 v1 rfl rfl)
 obtain⟨y1,hk1,ok1⟩:=op_k63.op hf1
 obtain⟨A1_1,c1_1,A1_2,c1_2,hcs1,l1_1,g1_1,l1_2,g1_2⟩:=k63_open hk1
 obtain rfl:cs1=#[.int .i64 y1.f0,.slice A1_1 y1.f1.length c1_1,.slice A1_2 y1.f2.length c1_2]:=Array.toList_inj.1 hcs1
 clear hA0 hval0 hsz0
 obtain⟨k,h⟩:=Pure.FnExactIsBroken y0 y1 ok0 ok1
 refine(Pr.laws_FnExactIsBroken.calls k _ _ y0.f0 _ _ y0.f1 y0.f2 y1.f0 _ _ y1.f1 _ _ y1.f2 W g0_0 l0_0 g0_1 l0_1 g1_1 l1_1 g1_2 l1_2 h).mono fun e W' ⟨he,bel0⟩=>?_
 have bel:Below W.heap.size W W':=bel0
 subst he
 exact⟨_,rfl,_,_,_,[],_,[],hW',trodAll_mk1 (shut_bool Try.underlying4 _),(trodAll_cons_mk (Below.trod laidOut (by kernel_rfl) (Zd (by kernel_rfl)) k0 bel lt0) (trodAll_cons_mk (Below.trod laidOut (by kernel_rfl) (Zd (by kernel_rfl)) k1 bel lt1) trodAll_mk0)),rfl,bel.frame _,fun h=>by cases h⟩
theorem over:Rows.fnExactIsBrokenRow.holds Try.pinned (OpenSpec.ofChange Rows.fnExactIsBrokenSpec):=
 OpenClaim.holds_of_wide 10 Try.f10 rfl rfl rfl rfl rfl rfl rfl ⟨rfl,rfl,rfl,rfl,rfl⟩ rfl rfl rfl rfl rfl (by kernel_rfl) Try.func10 (by kernel_rfl)
  (Zd (by kernel_rfl)) (by unfold Func.isWrapper;first|(rw[if_pos (by decide +kernel)];kernel_rfl)|(rw[if_neg (by decide +kernel)];exact⟨rfl,rfl⟩))
  (fun os started H enc _=>lifted os started H enc)
theorem proved:Rows.FnExactIsBrokenSaid:=over
#print axioms proved
end Go.Proofs.Ytodfnelilhjoeaa.fnExactIsBroken
namespace Go.Proofs.Ytodfnelilhjoeaa
theorem fnExactIsBroken_holds:Rows.FnExactIsBrokenSaid:=fnExactIsBroken.proved
end Go.Proofs.Ytodfnelilhjoeaa
