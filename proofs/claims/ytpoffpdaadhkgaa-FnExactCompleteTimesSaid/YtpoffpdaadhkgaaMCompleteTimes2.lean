/- The texts of one claim, put together by a program of this session. -/
import Derived.Test.YtpoffpdaadhkgaaRows
import Derived.WalkKit
import Derived.ProofKit
import Derived.OpenShut
import Derived.ShutString
import Derived.ChangeOld
import Derived.Below
import Derived.SizedLaws
import Derived.Test.YtpoffpdaadhkgaaMCompleteTimes1
namespace Go.Proofs.Ytpoffpdaadhkgaa.fnExactCompleteTimes
open Go.ChangeShapes Go.WideShapes Go.ChangeAt Go.RowKit Go.Proofs.Ytpoffpdaadhkgaa.Pr Go.Proofs.Ytpoffpdaadhkgaa.Op Go.Proofs.YtpoffpdaadhkgaaW.PrintWords
open Go.ChangeMaps (open_string shut_string)
set_option linter.unusedVariables false
theorem own:ownKnob Try.prog.godebug=none:=by kernel_rfl
theorem laidOut:laidOutB Try.prog=true:=by kernel_rfl
set_option maxRecDepth 100000 in
theorem lifted (os:Os) (started:os.Started) (H:Type) (enc:TypeId×Value→H) :
  ReturnsInHanded {} Try.checked os 7 .any (Rows.fnExactCompleteTimesSpec.pre6 enc Try.prog Try.f7 Rows.fnExactCompleteTimesRow.domain false) (Rows.fnExactCompleteTimesSpec.post enc Try.prog Try.f7 false true false false):=by
 refine returnsInHanded_of_change_sized (C:=Try.checked) own started (by kernel_rfl) Try.func7
  (ChangeSpec.witness6 (enc:=enc) (C:=Try.checked) false ⟨#[],#[.agg #[.int .i64 0,.slice none 0 0],.slice none 0 0],[]⟩ 8 (by kernel_rfl) (by kernel_rfl) (by kernel_rfl) (by kernel_rfl)) ?_
 intro W base args ds gs before hval0 hW hcnd hsz0 _
 have hval:∀(j:Nat) t v,Try.f7.params[j]? = some t→args[j]? = some v→Value.okWide Try.prog W .any base t v:=hval0
 have hW':=hW
 obtain⟨p,q,hA0,hV,rfl,hfz,hnd⟩:=hW
 have hA:DataW.TrodAll enc Try.prog W 0 (fun _=>true) true Try.f7.params.toList args.toList ds p:=hA0
 rw[Try.params7] at hA hval
 obtain⟨v0,vs0,d0,ds0,p0,q0,hargs,rfl,rfl,h0,r0⟩:=trodAll_cons hA
 obtain⟨v1,vs1,d1,ds1,p1,q1,rfl,rfl,rfl,h1,r1⟩:=trodAll_cons r0
 obtain⟨rfl,rfl,rfl⟩:=trodAll_nil r1
 obtain rfl:args=#[v0,v1]:=by cases args;simp_all
 obtain⟨rfl,rfl⟩:=trodVars_none hV
 have k0:=h0
 have lt0:∀x∈p0,x.block<W.heap.size:=by obtain⟨m,hm⟩:=k0;exact DataW.trod_lt m _ _ _ hm
 obtain⟨fuel0,hf0⟩:=h0
 obtain⟨cs0,rfl,hsz0⟩:=okWide_struct Try.underlying46 (hval 0 46 v0 rfl rfl)
 obtain⟨y0,hk0,ok0⟩:=op_k46.op hf0
 obtain⟨A0_1,c0_1,hcs0,l0_1,g0_1⟩:=k46_open hk0
 obtain rfl:cs0=#[.int .i64 y0.f0,.slice A0_1 y0.f1.length c0_1]:=Array.toList_inj.1 hcs0
 have k1:=h1
 have lt1:∀x∈p1,x.block<W.heap.size:=by obtain⟨m,hm⟩:=k1;exact DataW.trod_lt m _ _ _ hm
 obtain⟨fuel1,hf1⟩:=h1
 obtain⟨a1,len1,cap1,rfl⟩:=okWide_slice Try.underlying33 (hval 1 33 v1 rfl rfl)
 obtain⟨y1,hk1,ok1⟩:=(Zaw.slice (Zaw.int Try.underlying3 (by kernel_rfl)) Try.underlying33 (by kernel_rfl)).op hf1
 obtain⟨A1,c1,hcs1,l1,g1⟩:=hk1
 simp only[Value.cells,List.cons.injEq,Value.slice.injEq,and_true] at hcs1
 obtain⟨rfl,rfl,rfl⟩:=hcs1
 clear hA0 hval0 hsz0
 obtain⟨k,h⟩:=Pure.FnExactCompleteTimes y0 y1 ok0 ok1
 refine(Pr.laws_FnExactCompleteTimes.calls k y0.f0 _ _ y0.f1 _ _ y1 W g0_1 l0_1 g1 l1 h).mono fun e W' ⟨he,bel0⟩=>?_
 have bel:Below W.heap.size W W':=bel0
 subst he
 exact⟨_,rfl,_,_,_,[],_,[],hW',trodAll_mk1 (shut_bool Try.underlying4 _),(trodAll_cons_mk (Below.trod laidOut (by kernel_rfl) (Zd (by kernel_rfl)) k0 bel lt0) (trodAll_cons_mk (Below.trod laidOut (by kernel_rfl) (Zd (by kernel_rfl)) k1 bel lt1) trodAll_mk0)),rfl,bel.frame _,fun h=>by cases h⟩
theorem over:Rows.fnExactCompleteTimesRow.holds Try.pinned (OpenSpec.ofChange Rows.fnExactCompleteTimesSpec):=
 OpenClaim.holds_of_wide 7 Try.f7 rfl rfl rfl rfl rfl rfl rfl ⟨rfl,rfl,rfl,rfl,rfl⟩ rfl rfl rfl rfl rfl (by kernel_rfl) Try.func7 (by kernel_rfl)
  (Zd (by kernel_rfl)) (by unfold Func.isWrapper;first|(rw[if_pos (by decide +kernel)];kernel_rfl)|(rw[if_neg (by decide +kernel)];exact⟨rfl,rfl⟩))
  (fun os started H enc _=>lifted os started H enc)
theorem proved:Rows.FnExactCompleteTimesSaid:=over
#print axioms proved
end Go.Proofs.Ytpoffpdaadhkgaa.fnExactCompleteTimes
namespace Go.Proofs.Ytpoffpdaadhkgaa
theorem fnExactCompleteTimes_holds:Rows.FnExactCompleteTimesSaid:=fnExactCompleteTimes.proved
end Go.Proofs.Ytpoffpdaadhkgaa
