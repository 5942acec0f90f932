/- The texts of one claim, put together by a program of this session. -/
import Derived.Test.YtammpmadchekeaaBSsc1x1
namespace Go.Proofs.Ytammpmadchekeaa.Pr
open Go.RowKit Go.Proofs.YtammpmadchekeaaW.PrintWords Go.Proofs.Ytammpmadchekeaa.Ni
theorem l08Same_f (l m:List Int) (hl:l.length≤9223372036854775807) (k:Nat) (hk:2 ^ 64≤k):ZL.f k l m=some (decide (l=m)):=by
 unfold ZL.f
 by_cases e:l.length=m.length
 ·rw[if_pos (by omega)]
  have key:=Zat l.length (fun k i=>ZL.l0 k m l l.length (i:Int)=some (decide (l.drop i=m.drop i))) 0
   (fun k _=>by
    simp only[ZL.l0]
    rw[if_neg (by omega),List.drop_of_length_le (Nat.le_refl _),List.drop_of_length_le (by omega)]
    simp)
   (fun k i _ hi ih=>by
    simp only[ZL.l0]
    rw[if_pos (by omega),if_pos (by omega),if_pos (by omega),if_pos (by omega),ZaJ,ZaJ,Zar hi (by omega),ZX hi 0,ZX (show i<m.length by omega) 0]
    by_cases h:l.getD i 0=m.getD i 0
    ·rw[if_pos h,ih,h];simp
    ·rw[if_neg h]
     simp only[List.cons.injEq,h,false_and,decide_false]) 0 k (Nat.zero_le _) (by omega)
  simpa using key
 ·rw[if_neg (by omega)]
  have:l≠m:=fun h=>e (by rw[h])
  simp[this]
theorem sEqual_f (l m:List Int) (hl:l.length≤9223372036854775807) (k:Nat) (hk:2 ^ 64≤k):Zy.f k l m=some (decide (l=m)):=by
 unfold Zy.f
 by_cases e:l.length=m.length
 ·rw[if_pos (by omega)]
  have key:=Zat l.length (fun k i=>Zy.l0 k l m l.length (i:Int)=some (decide (l.drop i=m.drop i))) 0
   (fun k _=>by
    simp only[Zy.l0]
    rw[if_neg (by omega),List.drop_of_length_le (Nat.le_refl _),List.drop_of_length_le (by omega)]
    simp)
   (fun k i _ hi ih=>by
    simp only[Zy.l0]
    rw[if_pos (by omega),if_pos (by omega),if_pos (by omega),if_pos (by omega),ZaJ,ZaJ,Zar hi (by omega),ZX hi 0,ZX (show i<m.length by omega) 0]
    by_cases h:l.getD i 0=m.getD i 0
    ·rw[if_pos h,ih,h];simp
    ·rw[if_neg h]
     simp only[List.cons.injEq,h,false_and,decide_false]) 0 k (Nat.zero_le _) (by omega)
  simpa using key
 ·rw[if_neg (by omega)]
  have:l≠m:=fun h=>e (by rw[h])
  simp[this]
end Go.Proofs.Ytammpmadchekeaa.Pr
namespace Go.Proofs.Ytammpmadchekeaa.Pr
open Go.RowKit Go.Proofs.YtammpmadchekeaaW.PrintWords Go.Proofs.YtammpmadchekeaaW.PrintLast Go.Proofs.YtammpmadchekeaaW.PrintMore
attribute [local go_sem] Zac Zaa Zah Zag Z2 Z1 Zab Z9
set_option linter.unusedVariables false
set_option linter.unusedSimpArgs false
theorem eqA77 (d:Nat) (w:World) (x0 y0:Int) (x1 y1:Int) (x2 y2:Int) (x3 y3:Int) (x4 y4:Bool) :
  (Op.equalIn (d+2) 77 (.agg #[.int .i64 x0,.int .i64 x1,.int .i64 x2,.int .i64 x3,.bool x4]) (.agg #[.int .i64 y0,.int .i64 y1,.int .i64 y2,.int .i64 y3,.bool y4])).run Try.prog w=.ok (x0 == y0 && (x1 == y1 && (x2 == y2 && (x3 == y3 && (x4 == y4))))) w:=by
 refine eqA_of Try.underlying77 (by kernel_rfl) ?_
 refine ZaX (by rfl) (by go_simp;rfl) (by go_simp;rfl) (by go_simp) ?_
 refine ZaX (by rfl) (by go_simp;rfl) (by go_simp;rfl) (by go_simp) ?_
 refine ZaX (by rfl) (by go_simp;rfl) (by go_simp;rfl) (by go_simp) ?_
 refine ZaX (by rfl) (by go_simp;rfl) (by go_simp;rfl) (by go_simp) ?_
 exact eqf_last (by rfl) (by go_simp;rfl) (by go_simp;rfl) (by go_simp)
end Go.Proofs.Ytammpmadchekeaa.Pr
