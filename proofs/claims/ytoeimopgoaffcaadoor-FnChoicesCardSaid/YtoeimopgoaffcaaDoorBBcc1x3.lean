/- By a program of this session. -/
import Derived.Test.YtoeimopgoaffcaaDoorBBcc1x1
namespace Go.Proofs.YtoeimopgoaffcaaDoor.Pr
open RowKit YtoeimopgoaffcaaDoorW.PrintWords YtoeimopgoaffcaaDoorW.PrintLast YtoeimopgoaffcaaDoorW.PrintMore
attribute [local go_sem] Zat Zar ZaG ZaF Zal Zak Zas Zaq
set_option linter.unusedVariables false
set_option linter.unusedSimpArgs false
def Zbo.f (a0:Int):Option (ByteArray):=(some (([(⟨#[103,111]⟩:ByteArray),(⟨#[97]⟩:ByteArray),(⟨#[98]⟩:ByteArray),(⟨#[99]⟩:ByteArray),(⟨#[100]⟩:ByteArray),(⟨#[101]⟩:ByteArray),(⟨#[102]⟩:ByteArray),(⟨#[103]⟩:ByteArray)]:List ByteArray):List ByteArray)).bind fun y1=>(if 0≤a0 then(if a0<(y1.length:Int) then(some (rdOf ByteArray.empty y1 a0)) else(none)) else(none))
set_option maxHeartbeats 8000000 in
set_option maxRecDepth 100000 in
theorem Zbo.calls (a0:Int) (r:ByteArray) (w:World) (h:Zbo.f a0=some r) :
  Calls Tryd.prog 105 #[.int .i64 a0] w fun e w'=>e=.returned (.string r)∧Below w.heap.size w w':=by
 have HB:=Za (Below.refl w.heap.size w)
 have H:((some (([(⟨#[103,111]⟩:ByteArray),(⟨#[97]⟩:ByteArray),(⟨#[98]⟩:ByteArray),(⟨#[99]⟩:ByteArray),(⟨#[100]⟩:ByteArray),(⟨#[101]⟩:ByteArray),(⟨#[102]⟩:ByteArray),(⟨#[103]⟩:ByteArray)]:List ByteArray):List ByteArray)).bind fun y1=>(if 0≤a0 then(if a0<(y1.length:Int) then(some (rdOf ByteArray.empty y1 a0)) else(none)) else(none)))=some r:=h
 clear h
 obtain⟨y1,hy1⟩:∃y_:List ByteArray,y_=(([(⟨#[103,111]⟩:ByteArray),(⟨#[97]⟩:ByteArray),(⟨#[98]⟩:ByteArray),(⟨#[99]⟩:ByteArray),(⟨#[100]⟩:ByteArray),(⟨#[101]⟩:ByteArray),(⟨#[102]⟩:ByteArray),(⟨#[103]⟩:ByteArray)]:List ByteArray)):=⟨_,rfl⟩
 replace H:(if 0≤a0 then(if a0<(y1.length:Int) then(some (rdOf ByteArray.empty y1 a0)) else(none)) else(none))=some r:=by first|(rw[hy1];with_reducible exact H)|(have H2_:=(Zi _ _).symm.trans H;rw[hy1];with_reducible exact H2_)|(have H2_:=(Zi _ _).symm.trans H;with_reducible exact H2_)|with_reducible exact H|(rw[hy1];exact H)|exact H
 have Ny1:=Za hy1;clear hy1
 by_cases c2:0≤a0
 ·rw[if_pos c2] at H
  have c2b0:decide (0≤a0)=true:=Ze c2
  clear c2
  by_cases c3:a0<(y1.length:Int)
  ·rw[if_pos c3] at H
   have c3b0:decide (a0<(y1.length:Int))=true:=Ze c3
   clear c3
   obtain rfl:=Zg H
   go_enter Tryd.func105,Tryd.ntmps105
   go_wp2_with (first|((with_reducible refine ZK (N:=3) rfl ?_);refine Kd.R_lit Kd.string _ 9 ?hg (N:=3) ?hd (xs:=([(⟨#[103,111]⟩:ByteArray),(⟨#[97]⟩:ByteArray),(⟨#[98]⟩:ByteArray),(⟨#[99]⟩:ByteArray),(⟨#[100]⟩:ByteArray),(⟨#[101]⟩:ByteArray),(⟨#[102]⟩:ByteArray),(⟨#[103]⟩:ByteArray)]:List ByteArray)) (inner:=[.string (⟨#[103,111]⟩:ByteArray),.string (⟨#[97]⟩:ByteArray),.string (⟨#[98]⟩:ByteArray),.string (⟨#[99]⟩:ByteArray),.string (⟨#[100]⟩:ByteArray),.string (⟨#[101]⟩:ByteArray),.string (⟨#[102]⟩:ByteArray),.string (⟨#[103]⟩:ByteArray)]) (ok:=fun _=>True) (okp:=fun _=>True) ?hr ?hp (fun _ hk=>hk) trivial (Below.refl _ _) (Nat.le_refl _) (by simp) ?_;(case hd=>rfl);(case hg=>rfl);(case hr=>first|(go_simp;done)|(go_simp;rfl));(case hp=>exact(Reps.one (show Kd.M Kd.string _ _ _ (⟨#[103,111]⟩:ByteArray) [.string (⟨#[103,111]⟩:ByteArray)] from rfl) (Reps.one (show Kd.M Kd.string _ _ _ (⟨#[97]⟩:ByteArray) [.string (⟨#[97]⟩:ByteArray)] from rfl) (Reps.one (show Kd.M Kd.string _ _ _ (⟨#[98]⟩:ByteArray) [.string (⟨#[98]⟩:ByteArray)] from rfl) (Reps.one (show Kd.M Kd.string _ _ _ (⟨#[99]⟩:ByteArray) [.string (⟨#[99]⟩:ByteArray)] from rfl) (Reps.one (show Kd.M Kd.string _ _ _ (⟨#[100]⟩:ByteArray) [.string (⟨#[100]⟩:ByteArray)] from rfl) (Reps.one (show Kd.M Kd.string _ _ _ (⟨#[101]⟩:ByteArray) [.string (⟨#[101]⟩:ByteArray)] from rfl) (Reps.one (show Kd.M Kd.string _ _ _ (⟨#[102]⟩:ByteArray) [.string (⟨#[102]⟩:ByteArray)] from rfl) (Reps.one (show Kd.M Kd.string _ _ _ (⟨#[103]⟩:ByteArray) [.string (⟨#[103]⟩:ByteArray)] from rfl) (Reps.none _ _))))))))));intro v2 w4 ho5 hb hg_ hnew_;clear hg_ hnew_;(first|rw[← Ny1.out] at ho5|(simp only[Int.reduceToNat] at ho5;rw[← Ny1.out] at ho5));have HO3:=Za (Kd.R_lower ho5 (ZA (by repeat(first|(with_reducible first|exact HB.out|apply Zn|apply Zm|apply Zp)|exact HB.out))));replace HB:=Za (Zx (by repeat(first|(with_reducible first|exact HB.out|apply Zn|apply Zm|apply Zp)|exact HB.out)) hb);clear hb ho5;obtain⟨Ao6,co6,eo6⟩:=Kd.R_slice HO3.out;subst eo6;have p4:0≤(a0:Int):=Zd (by first|(with_reducible assumption)|assumption);have q4:a0<(y1.length:Int):=Zd (by first|(with_reducible assumption)|assumption);obtain⟨ad4,e4,hx4_0⟩:=Kd.at_string (Kd.R_reads' HO3.out).2.2 a0 p4 q4;cases e4;replace p4:=eq_true p4;replace q4:=eq_true q4))
   go_ret
   exact⟨by first|rfl|(simp[ZD,ZC] <;> rfl)|(simp[*,ZD,ZC] <;> rfl),by repeat(first|(with_reducible first|exact HB.out|apply Zn|apply Zm|apply Zp)|exact HB.out)⟩
  ·rw[if_neg c3] at H
   exact absurd H (by simp)
 ·rw[if_neg c2] at H
  exact absurd H (by simp)
end Go.Proofs.YtoeimopgoaffcaaDoor.Pr
