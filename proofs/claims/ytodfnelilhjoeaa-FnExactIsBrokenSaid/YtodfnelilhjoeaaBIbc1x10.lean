/- The texts of one claim, put together by a program of this session. -/
import Derived.Test.YtodfnelilhjoeaaBIbc1x1
namespace Go.Proofs.Ytodfnelilhjoeaa.Pr
open Go.RowKit Go.Proofs.YtodfnelilhjoeaaW.PrintWords Go.Proofs.YtodfnelilhjoeaaW.PrintLast Go.Proofs.YtodfnelilhjoeaaW.PrintMore
attribute [local go_sem] Zaj Zah Zat Zas Zaa Z9 Zai Zag
set_option linter.unusedVariables false
set_option linter.unusedSimpArgs false
def Zcs.f (a0:Int):Option (Bool):=if a0≥(-20) then(some (decide (a0≤20))) else(some false)
set_option maxHeartbeats 8000000 in
set_option maxRecDepth 100000 in
theorem Zcs.calls (a0:Int) (r:Bool) (w:World) (h:Zcs.f a0=some r) :
  Calls Try.prog 158 #[.int .i64 a0] w fun e w'=>e=.returned (.bool r)∧ZF w w':=by
 have H:(if a0≥(-20) then(some (decide (a0≤20))) else(some false))=some r:=h
 clear h
 by_cases c2:a0≥(-20)
 ·rw[if_pos c2] at H
  have c2b0:decide ((-20)≤a0)=true:=Ze c2
  clear c2
  obtain rfl:=Zg H
  go_enter Try.func158,Try.ntmps158
  go_wp2
  go_ret
  exact⟨by first|rfl|(simp;done)|(simp[*];done),by repeat(first|exact ZF.refl _|apply ZF.step)⟩
 ·rw[if_neg c2] at H
  have c2b0:decide ((-20)≤a0)=false:=Zf c2
  clear c2
  obtain rfl:=Zg H
  go_enter Try.func158,Try.ntmps158
  go_wp2
  go_ret
  exact⟨by first|rfl|(simp;done)|(simp[*];done),by repeat(first|exact ZF.refl _|apply ZF.step)⟩
def Za4.f (a0:Int) (a1:Int):Option (Bool):=if a1≥0 then(some (decide (a1<a0))) else(some false)
set_option maxHeartbeats 8000000 in
set_option maxRecDepth 100000 in
theorem Za4.calls (a0:Int) (a1:Int) (r:Bool) (w:World) (h:Za4.f a0 a1=some r) :
  Calls Try.prog 90 #[.int .i64 a0,.int .i64 a1] w fun e w'=>e=.returned (.bool r)∧ZF w w':=by
 have H:(if a1≥0 then(some (decide (a1<a0))) else(some false))=some r:=h
 clear h
 by_cases c3:a1≥0
 ·rw[if_pos c3] at H
  have c3b0:decide (0≤a1)=true:=Ze c3
  clear c3
  obtain rfl:=Zg H
  go_enter Try.func90,Try.ntmps90
  go_wp2
  go_ret
  exact⟨by first|rfl|(simp;done)|(simp[*];done),by repeat(first|exact ZF.refl _|apply ZF.step)⟩
 ·rw[if_neg c3] at H
  have c3b0:decide (0≤a1)=false:=Zf c3
  clear c3
  obtain rfl:=Zg H
  go_enter Try.func90,Try.ntmps90
  go_wp2
  go_ret
  exact⟨by first|rfl|(simp;done)|(simp[*];done),by repeat(first|exact ZF.refl _|apply ZF.step)⟩
end Go.Proofs.Ytodfnelilhjoeaa.Pr
