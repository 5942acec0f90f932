/- The texts of one claim, put together by a program of this session. -/
import Derived.Test.YthphnhmabieflabBWic1x1
import Derived.Test.YthphnhmabieflabBWic1x2
import Derived.Test.YthphnhmabieflabBWic1x4
namespace Go.Proofs.Ythphnhmabieflab.Pr
open Go.RowKit Go.Proofs.YthphnhmabieflabW.PrintWords Go.Proofs.YthphnhmabieflabW.PrintLast Go.Proofs.YthphnhmabieflabW.PrintMore
attribute [local go_sem] Zap Zan Zax Zaw Zai Zah Zao Zam
set_option linter.unusedVariables false
set_option linter.unusedSimpArgs false
mutual
def Z2.j0:Nat→Bool→Int→List Int→Option (Bool)
 | 0,_,_,_=>none
 | k+1,x23,x85002000,x85002001=>if x23=true then(some false) else(Z2.l0 k x85002001 (x85002001.length:Int) 0 x85002000 x85002001)
def Z2.l0:Nat→List Int→Int→Int→Int→List Int→Option (Bool)
 | 0,_,_,_,_,_=>none
 | k+1,x25,x26,x27,x85002000,x85002001=>if x27<x26 then(if 0≤x27 then(if x27<(x25.length:Int) then(if (rd x25 x27)<(-1000000) then(some false) else(if (rd x25 x27) > 1000000 then(some false) else(if x85002000=0 then(none) else(if (wrap64 (Int.tdiv x27 x85002000))=(Int.tmod x27 x85002000) then(if (rd x25 x27)=0 then(Z2.l0 k x25 x26 (wrap64 (x27+1)) x85002000 x85002001) else(some false)) else(Z2.l0 k x25 x26 (wrap64 (x27+1)) x85002000 x85002001))))) else(none)) else(none)) else(some true)
end
def Z2.f (k:Nat) (a0_0:Int) (l0_1:List Int):Option (Bool):=if a0_0<0 then(Z2.j0 k true a0_0 l0_1) else(if a0_0 > 8 then(Z2.j0 k true a0_0 l0_1) else(Z2.j0 k ((l0_1.length:Int) != (wrap64 (a0_0 * a0_0))) a0_0 l0_1))
set_option maxHeartbeats 8000000 in
set_option maxRecDepth 100000 in
theorem Z2.calls (k:Nat) (a0_0:Int) (A0_1:Option Addr) (c0_1:Nat) (l0_1:List Int) (r:Bool) (w:World) (hr0_1:Kd.C (Kd.int .i64) w A0_1 l0_1.length l0_1) (hc0_1:l0_1.length≤c0_1) (h:Z2.f k a0_0 l0_1=some r) :
  Calls Try.prog 85 #[.agg #[.int .i64 a0_0,.slice A0_1 l0_1.length c0_1]] w fun e w'=>e=.returned (.bool r)∧Below w.heap.size w w':=by
 have hu73:=Try.underlying73
 have HR0_1:=Za hr0_1;have HC0_1:=Za hc0_1;clear hr0_1 hc0_1
 have HB:=Za (Below.refl w.heap.size w)
 have H:(if a0_0<0 then(Z2.j0 k true a0_0 l0_1) else(if a0_0 > 8 then(Z2.j0 k true a0_0 l0_1) else(Z2.j0 k ((l0_1.length:Int) != (wrap64 (a0_0 * a0_0))) a0_0 l0_1)))=some r:=h
 clear h;have HC2:=Za H;clear H
 go_enter Try.func85,Try.ntmps85
 go_upto_region 1 with (first|((with_reducible refine ZP (N:=1) rfl ?_);(try(refine Zch (by rfl) ?_;dsimp only));refine ZM ?hg (N:=1) ?hd (cs:=#[.int .i64 a0_0,.slice A0_1 l0_1.length c0_1]) (t:=73) ?hr ?_;(case hd=>rfl);(case hg=>rfl);(case hr=>first|(go_simp;done)|(go_simp;rfl));intro gb85001 hg w3 hbox hb;have BK85001:=Za (hbox);have GW85001:=Za ((by rw[hg];exact(Zv (by repeat(first|(with_reducible first|exact HB.out|apply Zq|apply Zl|apply Zr)|exact HB.out))):w.heap.size≤gb85001));have GE85001:=Za ((by rw[hg];exact(Zv (by repeat(first|(with_reducible first|exact HB.out|apply Zq|apply Zl|apply Zr)|exact HB.out))):w.heap.size≤gb85001));replace HB:=Za (Zw (by repeat(first|(with_reducible first|exact HB.out|apply Zq|apply Zl|apply Zr)|exact HB.out)) hb);clear hb hbox hg))
 repeat(go_quiet (first|((with_reducible refine ZP (N:=1) rfl ?_);(try(refine Zch (by rfl) ?_;dsimp only));refine ZM ?hg (N:=1) ?hd (cs:=#[.int .i64 a0_0,.slice A0_1 l0_1.length c0_1]) (t:=73) ?hr ?_;(case hd=>rfl);(case hg=>rfl);(case hr=>first|(go_simp;done)|(go_simp;rfl));intro gb85001 hg w3 hbox hb;have BK85001:=Za (hbox);have GW85001:=Za ((by rw[hg];exact(Zv (by repeat(first|(with_reducible first|exact HB.out|apply Zq|apply Zl|apply Zr)|exact HB.out))):w.heap.size≤gb85001));have GE85001:=Za ((by rw[hg];exact(Zv (by repeat(first|(with_reducible first|exact HB.out|apply Zq|apply Zl|apply Zr)|exact HB.out))):w.heap.size≤gb85001));replace HB:=Za (Zw (by repeat(first|(with_reducible first|exact HB.out|apply Zq|apply Zl|apply Zr)|exact HB.out)) hb);clear hb hbox hg));go_upto_region 1 with (first|((with_reducible refine ZP (N:=1) rfl ?_);(try(refine Zch (by rfl) ?_;dsimp only));refine ZM ?hg (N:=1) ?hd (cs:=#[.int .i64 a0_0,.slice A0_1 l0_1.length c0_1]) (t:=73) ?hr ?_;(case hd=>rfl);(case hg=>rfl);(case hr=>first|(go_simp;done)|(go_simp;rfl));intro gb85001 hg w3 hbox hb;have BK85001:=Za (hbox);have GW85001:=Za ((by rw[hg];exact(Zv (by repeat(first|(with_reducible first|exact HB.out|apply Zq|apply Zl|apply Zr)|exact HB.out))):w.heap.size≤gb85001));have GE85001:=Za ((by rw[hg];exact(Zv (by repeat(first|(with_reducible first|exact HB.out|apply Zq|apply Zl|apply Zr)|exact HB.out))):w.heap.size≤gb85001));replace HB:=Za (Zw (by repeat(first|(with_reducible first|exact HB.out|apply Zq|apply Zl|apply Zr)|exact HB.out)) hb);clear hb hbox hg)))
 (try simp only[Act.put,List.setIfInBounds_toArray,List.set_cons_zero,List.set_cons_succ])
 go_cut [23] (fun v23 wc=>∃(kq:Nat) (x23_1:Bool),v23=.bool x23_1∧Aside0 (Z2.j0 kq x23_1 a0_0 l0_1=some r)∧Aside0 (kq≤k)∧Aside0 (wc.heap[gb85001]? = some (.cells #[.int .i64 a0_0,(.slice A0_1 l0_1.length c0_1)] 73 (0,0)))∧Aside0 (Below w.heap.size w wc))
 case first=>
  have H:=HC2.out
  clear HC2
  by_cases c4:a0_0<0
  ·rw[if_pos c4] at H
   have c4b0:decide (a0_0<0)=true:=Zd c4
   clear c4
   (first|rw[c4b0]|(simp only[ZH,ZI];rw[c4b0])|skip)
   have H':=Za H
   clear H
   have hcz5_0:w3.cell? ⟨gb85001,0,none⟩=some (.int .i64 a0_0):=(Zt BK85001.out 0).trans rfl
   have hcz5_1:w3.cell? ⟨gb85001,1,none⟩=some (.slice A0_1 l0_1.length c0_1):=(Zt BK85001.out 1).trans rfl
   have hfz5_0:=Zu BK85001.out 0
   have hfz5_1:=Zu BK85001.out 1
   go_wp2
   repeat(go_quiet (fail);try go_wp2)
   go_meet
   case rel=>exact⟨_,(true),(by first|rfl|(simp;done)|(simp[*];done)),H',⟨by first|omega|exact Nat.le_refl _⟩,⟨by(with_reducible repeat(first|refine Zn ?_ _|refine Zp ?_|refine Zm ?_ _));exact BK85001.out⟩,⟨by repeat(first|(with_reducible first|exact HB.out|apply Zq|apply Zl|apply Zr|refine Zo ?_ GE85001.out)|exact HB.out)⟩⟩
  ·rw[if_neg c4] at H
   have c4b0:decide (a0_0<0)=false:=Ze c4
   clear c4
   (first|rw[c4b0]|(simp only[ZH,ZI];rw[c4b0])|skip)
   by_cases c6:a0_0 > 8
   ·rw[if_pos c6] at H
    have c6b0:decide (8<a0_0)=true:=Zd c6
    clear c6
    have H':=Za H
    clear H
    have hcz7_0:w3.cell? ⟨gb85001,0,none⟩=some (.int .i64 a0_0):=(Zt BK85001.out 0).trans rfl
    have hcz7_1:w3.cell? ⟨gb85001,1,none⟩=some (.slice A0_1 l0_1.length c0_1):=(Zt BK85001.out 1).trans rfl
    have hfz7_0:=Zu BK85001.out 0
    have hfz7_1:=Zu BK85001.out 1
    go_wp2
    repeat(go_quiet (fail);try go_wp2)
    go_meet
    case rel=>exact⟨_,(true),(by first|rfl|(simp;done)|(simp[*];done)),H',⟨by first|omega|exact Nat.le_refl _⟩,⟨by(with_reducible repeat(first|refine Zn ?_ _|refine Zp ?_|refine Zm ?_ _));exact BK85001.out⟩,⟨by repeat(first|(with_reducible first|exact HB.out|apply Zq|apply Zl|apply Zr|refine Zo ?_ GE85001.out)|exact HB.out)⟩⟩
   ·rw[if_neg c6] at H
    have c6b0:decide (8<a0_0)=false:=Ze c6
    clear c6
    have H':=Za H
    clear H
    have hcz8_0:w3.cell? ⟨gb85001,0,none⟩=some (.int .i64 a0_0):=(Zt BK85001.out 0).trans rfl
    have hcz8_1:w3.cell? ⟨gb85001,1,none⟩=some (.slice A0_1 l0_1.length c0_1):=(Zt BK85001.out 1).trans rfl
    have hfz8_0:=Zu BK85001.out 0
    have hfz8_1:=Zu BK85001.out 1
    go_wp2
    repeat(go_quiet (fail);try go_wp2)
    go_meet
    case rel=>exact⟨_,(((l0_1.length:Int) != (wrap64 (a0_0 * a0_0)))),(by first|rfl|(simp;done)|(simp[*];done)),H',⟨by first|omega|exact Nat.le_refl _⟩,⟨by(with_reducible repeat(first|refine Zn ?_ _|refine Zp ?_|refine Zm ?_ _));exact BK85001.out⟩,⟨by repeat(first|(with_reducible first|exact HB.out|apply Zq|apply Zl|apply Zr|refine Zo ?_ GE85001.out)|exact HB.out)⟩⟩
 case rest=>
  clear HC2
  try clear p2
  try clear c4
  try clear c4b0
  try clear c6
  try clear c6b0
  try clear p6
  try clear c8
  try clear hcz5_0
  try clear hcz5_1
  try clear hcz7_0
  try clear hcz7_1
  try clear hcz8_0
  try clear hcz8_1
  try clear hfz5_0
  try clear hfz5_1
  try clear hfz7_0
  try clear hfz7_1
  try clear hfz8_0
  try clear hfz8_1
  obtain⟨kq,x23_1,rfl,HA,HJ1,BK85001,HB⟩:=hcut
  cases kq with
  | zero=>exact absurd HA.out (by simp[Z2.j0])
  | succ kj1=>
   have H:=HA.out
   clear HA
   simp only[Z2.j0] at H
   by_cases c9:x23_1=true
   ·subst c9
    have H1:(some false)=some r:=by rw[if_pos rfl] at H;exact H
    clear H
    have H:=H1
    clear H1
    obtain rfl:=Zf H
    go_wp2
    repeat(go_quiet (fail);try go_wp2)
    go_ret
    exact⟨by first|rfl|(simp[ZB,ZA] <;> rfl)|(simp[*,ZB,ZA] <;> rfl),by repeat(first|(with_reducible first|exact HB.out|apply Zq|apply Zl|apply Zr|refine Zo ?_ GE85001.out)|exact HB.out)⟩
   ·replace c9:=Bool.eq_false_iff.mpr c9
    subst c9
    have H1:(Z2.l0 kj1 l0_1 (l0_1.length:Int) 0 a0_0 l0_1)=some r:=by rw[if_neg (show ¬(false=true) by decide)] at H;exact H
    clear H
    have H:=H1
    clear H1
    have H':=Za H
    clear H
    have hcz10_0:wc.cell? ⟨gb85001,0,none⟩=some (.int .i64 a0_0):=(Zt BK85001.out 0).trans rfl
    have hcz10_1:wc.cell? ⟨gb85001,1,none⟩=some (.slice A0_1 l0_1.length c0_1):=(Zt BK85001.out 1).trans rfl
    have hfz10_0:=Zu BK85001.out 0
    have hfz10_1:=Zu BK85001.out 1
    go_wp2
    repeat(go_quiet (fail);try go_wp2)
    go_loopg [27] kj1 (fun kq v27 w'=>∃(x27_2:Int),v27=.int .i64 x27_2∧Aside0 (Z2.l0 kq l0_1 (l0_1.length:Int) x27_2 a0_0 l0_1=some r)∧Aside0 (kq≤kj1)∧Aside0 (w'.heap[gb85001]? = some (.cells #[.int .i64 a0_0,(.slice A0_1 l0_1.length c0_1)] 73 (0,0)))∧Aside0 (Below w.heap.size w w'))
    case atStart=>exact⟨(0),(by first|rfl|(simp;done)|(simp[*];done)),H',⟨Nat.le_refl _⟩,⟨by(with_reducible repeat(first|refine Zn ?_ _|refine Zp ?_|refine Zm ?_ _));exact BK85001.out⟩,⟨by repeat(first|(with_reducible first|exact HB.out|apply Zq|apply Zl|apply Zr|refine Zo ?_ GE85001.out)|exact HB.out)⟩⟩
    case round=>
     clear H'
     try clear p2
     try clear c4
     try clear c4b0
     try clear c6
     try clear c6b0
     try clear p6
     try clear c8
     try clear c9
     try clear hcz10_0
     try clear hcz10_1
     try clear hcz5_0
     try clear hcz5_1
     try clear hcz7_0
     try clear hcz7_1
     try clear hcz8_0
     try clear hcz8_1
     try clear hfz10_0
     try clear hfz10_1
     try clear hfz5_0
     try clear hfz5_1
     try clear hfz7_0
     try clear hfz7_1
     try clear hfz8_0
     try clear hfz8_1
     try clear p2
     try clear p6
     obtain⟨x27_2,rfl,HA,HK2,BK85001,HB⟩:=hrel
     cases gk with
     | zero=>exact absurd HA.out (by simp[Z2.l0])
     | succ k2=>
      have H:=HA.out
      clear HA
      simp only[Z2.l0] at H
      by_cases c11:x27_2<(l0_1.length:Int)
      ·rw[if_pos c11] at H
       have c11b0:decide (x27_2<(l0_1.length:Int))=true:=Zd c11
       clear c11
       by_cases c12:0≤x27_2
       ·rw[if_pos c12] at H
        have c12b0:decide (0≤x27_2)=true:=Zd c12
        clear c12
        by_cases c13:x27_2<(l0_1.length:Int)
        ·rw[if_pos c13] at H
         have c13b0:decide (x27_2<(l0_1.length:Int))=true:=Zd c13
         clear c13
         by_cases c14:(rd l0_1 x27_2)<(-1000000)
         ·rw[if_pos c14] at H
          have c14b0:decide ((rd l0_1 x27_2)<(-1000000))=true:=Zd c14
          clear c14
          obtain rfl:=Zf H
          have p85002:0≤(x27_2:Int):=Zc (by first|(with_reducible assumption)|assumption)
          have q85002:x27_2<(l0_1.length:Int):=Zc (by first|(with_reducible assumption)|assumption)
          obtain⟨ad85002,e85002,hx85002_0⟩:=Kd.at_int HR0_1.out x27_2 p85002 q85002
          cases e85002
          replace hx85002_0:=(HB.out.cell (Zb w _ hx85002_0)).trans hx85002_0
          replace p85002:=eq_true p85002
          replace q85002:=eq_true q85002
          go_wp2
          repeat(go_quiet (fail);try go_wp2)
          go_ret
          exact⟨by first|rfl|(simp[ZB,ZA] <;> rfl)|(simp[*,ZB,ZA] <;> rfl),by repeat(first|(with_reducible first|exact HB.out|apply Zq|apply Zl|apply Zr|refine Zo ?_ GE85001.out)|exact HB.out)⟩
         ·rw[if_neg c14] at H
          have c14b0:decide ((rd l0_1 x27_2)<(-1000000))=false:=Ze c14
          clear c14
          by_cases c15:(rd l0_1 x27_2) > 1000000
          ·rw[if_pos c15] at H
           have c15b0:decide (1000000<(rd l0_1 x27_2))=true:=Zd c15
           clear c15
           obtain rfl:=Zf H
           have p85002:0≤(x27_2:Int):=Zc (by first|(with_reducible assumption)|assumption)
           have q85002:x27_2<(l0_1.length:Int):=Zc (by first|(with_reducible assumption)|assumption)
           obtain⟨ad85002,e85002,hx85002_0⟩:=Kd.at_int HR0_1.out x27_2 p85002 q85002
           cases e85002
           replace hx85002_0:=(HB.out.cell (Zb w _ hx85002_0)).trans hx85002_0
           replace p85002:=eq_true p85002
           replace q85002:=eq_true q85002
           go_wp2
           repeat(go_quiet (fail);try go_wp2)
           go_ret
           exact⟨by first|rfl|(simp[ZB,ZA] <;> rfl)|(simp[*,ZB,ZA] <;> rfl),by repeat(first|(with_reducible first|exact HB.out|apply Zq|apply Zl|apply Zr|refine Zo ?_ GE85001.out)|exact HB.out)⟩
          ·rw[if_neg c15] at H
           have c15b0:decide (1000000<(rd l0_1 x27_2))=false:=Ze c15
           clear c15
           by_cases c16:a0_0=0
           ·rw[if_pos c16] at H
            exact absurd H (by simp)
           ·rw[if_neg c16] at H
            have c16b0:(a0_0 == 0)=false:=beq_eq_false_iff_ne.mpr c16
            have c16b1:(a0_0 != 0)=true:=bne_iff_ne.mpr c16
            by_cases c17:(wrap64 (Int.tdiv x27_2 a0_0))=(Int.tmod x27_2 a0_0)
            ·rw[if_pos c17] at H
             have c17b0:((wrap64 (Int.tdiv x27_2 a0_0)) == (Int.tmod x27_2 a0_0))=true:=beq_iff_eq.mpr c17
             have c17b1:((wrap64 (Int.tdiv x27_2 a0_0)) != (Int.tmod x27_2 a0_0))=false:=bne_eq_false_iff_eq.mpr c17
             clear c17
             by_cases c18:(rd l0_1 x27_2)=0
             ·rw[if_pos c18] at H
              have c18b0:((rd l0_1 x27_2) == 0)=true:=beq_iff_eq.mpr c18
              have c18b1:((rd l0_1 x27_2) != 0)=false:=bne_eq_false_iff_eq.mpr c18
              clear c18
              have H':=Za H
              clear H
              have p85002:0≤(x27_2:Int):=Zc (by first|(with_reducible assumption)|assumption)
              have q85002:x27_2<(l0_1.length:Int):=Zc (by first|(with_reducible assumption)|assumption)
              obtain⟨ad85002,e85002,hx85002_0⟩:=Kd.at_int HR0_1.out x27_2 p85002 q85002
              cases e85002
              replace hx85002_0:=(HB.out.cell (Zb w _ hx85002_0)).trans hx85002_0
              replace p85002:=eq_true p85002
              replace q85002:=eq_true q85002
              have hcz19_0:wr.cell? ⟨gb85001,0,none⟩=some (.int .i64 a0_0):=(Zt BK85001.out 0).trans rfl
              have hcz19_1:wr.cell? ⟨gb85001,1,none⟩=some (.slice (some ad85002) l0_1.length c0_1):=(Zt BK85001.out 1).trans rfl
              have hfz19_0:=Zu BK85001.out 0
              have hfz19_1:=Zu BK85001.out 1
              go_wp2
              repeat(go_quiet (fail);try go_wp2)
              go_roundg k2
              case measure=>have:=HJ1.out;have:=HK2.out;omega
              case rel=>exact⟨(wrap64 (x27_2+1)),(by first|rfl|(simp;done)|(simp[*];done)),H',⟨by have:=HJ1.out;have:=HK2.out;omega⟩,⟨by(with_reducible repeat(first|refine Zn ?_ _|refine Zp ?_|refine Zm ?_ _));exact BK85001.out⟩,⟨by repeat(first|(with_reducible first|exact HB.out|apply Zq|apply Zl|apply Zr|refine Zo ?_ GE85001.out)|exact HB.out)⟩⟩
             ·rw[if_neg c18] at H
              have c18b0:((rd l0_1 x27_2) == 0)=false:=beq_eq_false_iff_ne.mpr c18
              have c18b1:((rd l0_1 x27_2) != 0)=true:=bne_iff_ne.mpr c18
              obtain rfl:=Zf H
              have p85002:0≤(x27_2:Int):=Zc (by first|(with_reducible assumption)|assumption)
              have q85002:x27_2<(l0_1.length:Int):=Zc (by first|(with_reducible assumption)|assumption)
              obtain⟨ad85002,e85002,hx85002_0⟩:=Kd.at_int HR0_1.out x27_2 p85002 q85002
              cases e85002
              replace hx85002_0:=(HB.out.cell (Zb w _ hx85002_0)).trans hx85002_0
              replace p85002:=eq_true p85002
              replace q85002:=eq_true q85002
              have hcz20_0:wr.cell? ⟨gb85001,0,none⟩=some (.int .i64 a0_0):=(Zt BK85001.out 0).trans rfl
              have hcz20_1:wr.cell? ⟨gb85001,1,none⟩=some (.slice (some ad85002) l0_1.length c0_1):=(Zt BK85001.out 1).trans rfl
              have hfz20_0:=Zu BK85001.out 0
              have hfz20_1:=Zu BK85001.out 1
              go_wp2
              repeat(go_quiet (fail);try go_wp2)
              go_ret
              exact⟨by first|rfl|(simp[ZB,ZA] <;> rfl)|(simp[*,ZB,ZA] <;> rfl),by repeat(first|(with_reducible first|exact HB.out|apply Zq|apply Zl|apply Zr|refine Zo ?_ GE85001.out)|exact HB.out)⟩
            ·rw[if_neg c17] at H
             have c17b0:((wrap64 (Int.tdiv x27_2 a0_0)) == (Int.tmod x27_2 a0_0))=false:=beq_eq_false_iff_ne.mpr c17
             have c17b1:((wrap64 (Int.tdiv x27_2 a0_0)) != (Int.tmod x27_2 a0_0))=true:=bne_iff_ne.mpr c17
             have H':=Za H
             clear H
             have p85002:0≤(x27_2:Int):=Zc (by first|(with_reducible assumption)|assumption)
             have q85002:x27_2<(l0_1.length:Int):=Zc (by first|(with_reducible assumption)|assumption)
             obtain⟨ad85002,e85002,hx85002_0⟩:=Kd.at_int HR0_1.out x27_2 p85002 q85002
             cases e85002
             replace hx85002_0:=(HB.out.cell (Zb w _ hx85002_0)).trans hx85002_0
             replace p85002:=eq_true p85002
             replace q85002:=eq_true q85002
             have hcz21_0:wr.cell? ⟨gb85001,0,none⟩=some (.int .i64 a0_0):=(Zt BK85001.out 0).trans rfl
             have hcz21_1:wr.cell? ⟨gb85001,1,none⟩=some (.slice (some ad85002) l0_1.length c0_1):=(Zt BK85001.out 1).trans rfl
             have hfz21_0:=Zu BK85001.out 0
             have hfz21_1:=Zu BK85001.out 1
             go_wp2
             repeat(go_quiet (fail);try go_wp2)
             go_roundg k2
             case measure=>have:=HJ1.out;have:=HK2.out;omega
             case rel=>exact⟨(wrap64 (x27_2+1)),(by first|rfl|(simp;done)|(simp[*];done)),H',⟨by have:=HJ1.out;have:=HK2.out;omega⟩,⟨by(with_reducible repeat(first|refine Zn ?_ _|refine Zp ?_|refine Zm ?_ _));exact BK85001.out⟩,⟨by repeat(first|(with_reducible first|exact HB.out|apply Zq|apply Zl|apply Zr|refine Zo ?_ GE85001.out)|exact HB.out)⟩⟩
        ·rw[if_neg c13] at H
         exact absurd H (by simp)
       ·rw[if_neg c12] at H
        exact absurd H (by simp)
      ·rw[if_neg c11] at H
       have c11b0:decide (x27_2<(l0_1.length:Int))=false:=Ze c11
       clear c11
       obtain rfl:=Zf H
       go_wp2
       repeat(go_quiet (fail);try go_wp2)
       go_ret
       exact⟨by first|rfl|(simp[ZB,ZA] <;> rfl)|(simp[*,ZB,ZA] <;> rfl),by repeat(first|(with_reducible first|exact HB.out|apply Zq|apply Zl|apply Zr|refine Zo ?_ GE85001.out)|exact HB.out)⟩
def ZaX.f (a0_0:Int) (a0_1:Int) (a1:Bool):Option (Int×Int×Bool):=if a1=true then((Z9.f a0_0 a0_1).bind fun t86003=>(if t86003=true then(some (a0_0,a0_1,true)) else(some (0,0,false)))) else(some (0,0,false))
set_option maxHeartbeats 8000000 in
set_option maxRecDepth 100000 in
theorem ZaX.calls (a0_0:Int) (a0_1:Int) (a1:Bool) (r1:Int) (r2:Int) (r3:Bool) (w:World) (h:ZaX.f a0_0 a0_1 a1=some (r1,r2,r3)) :
  Calls Try.prog 86 #[.agg #[.int .i64 a0_0,.int .i64 a0_1],.bool a1] w fun e w'=>e=.returned (.tuple #[.agg #[.int .i64 r1,.int .i64 r2],.bool r3])∧Below w.heap.size w w':=by
 have hu35:=Try.underlying35
 have HB:=Za (Below.refl w.heap.size w)
 have H:(if a1=true then((Z9.f a0_0 a0_1).bind fun t86003=>(if t86003=true then(some (a0_0,a0_1,true)) else(some (0,0,false)))) else(some (0,0,false)))=some (r1,r2,r3):=h
 clear h
 by_cases c3:a1=true
 ·subst c3
  have H1:((Z9.f a0_0 a0_1).bind fun t86003=>(if t86003=true then(some (a0_0,a0_1,true)) else(some (0,0,false))))=some (r1,r2,r3):=by rw[if_pos rfl] at H;exact H
  clear H
  have H:=H1
  clear H1
  replace H:=Zg H
  obtain⟨t86003,A40,H⟩:=H
  replace H:(if t86003=true then(some (a0_0,a0_1,true)) else(some (0,0,false)))=some (r1,r2,r3):=H
  have A4:=Za A40;clear A40
  by_cases c5:t86003=true
  ·subst c5
   have H1:(some (a0_0,a0_1,true))=some (r1,r2,r3):=by rw[if_pos rfl] at H;exact H
   clear H
   have H:=H1
   clear H1
   simp only[Option.some.injEq,Prod.mk.injEq] at H
   obtain⟨rfl,rfl,rfl⟩:=H
   go_enter Try.func86,Try.ntmps86
   go_wp2_with (first|((with_reducible refine ZP (N:=2) rfl ?_);refine ZM ?hg (N:=2) ?hd (cs:=#[.int .i64 a0_0,.int .i64 a0_1]) (t:=35) ?hr ?_;(case hd=>rfl);(case hg=>rfl);(case hr=>first|(go_simp;done)|(go_simp;rfl));intro gb86001 hg w6 hbox hb;have BK86001:=Za (hbox);have GW86001:=Za ((by rw[hg];exact(Zv (by repeat(first|(with_reducible first|exact HB.out|apply Zq|apply Zl|apply Zr)|exact HB.out))):w.heap.size≤gb86001));have GE86001:=Za ((by rw[hg];exact(Zv (by repeat(first|(with_reducible first|exact HB.out|apply Zq|apply Zl|apply Zr)|exact HB.out))):w.heap.size≤gb86001));replace HB:=Za (Zw (by repeat(first|(with_reducible first|exact HB.out|apply Zq|apply Zl|apply Zr)|exact HB.out)) hb);clear hb hbox hg)|((with_reducible refine ZP (N:=4) rfl ?_);refine ZM ?hg (N:=4) ?hd (cs:=#[.int .i64 0,.int .i64 0]) (t:=35) ?hr ?_;(case hd=>rfl);(case hg=>rfl);(case hr=>first|(go_simp;done)|(go_simp;rfl));intro gb86002 hg w7 hbox hb;have BK86002:=Za (hbox);have GW86002:=Za ((by rw[hg];exact(Zv (by repeat(first|(with_reducible first|exact HB.out|apply Zq|apply Zl|apply Zr|refine Zo ?_ GE86001.out)|exact HB.out))):w.heap.size≤gb86002));have GE86002:=Za ((by rw[hg];exact(Zv (by repeat(first|(with_reducible first|exact HB.out|apply Zq|apply Zl|apply Zr|refine Zo ?_ GE86001.out)|exact HB.out))):w.heap.size≤gb86002));have NB86001_86002:=Za ((by rw[hg];exact Nat.ne_of_lt (ZL (g:=gb86001) (o:=.cells #[.int .i64 a0_0,.int .i64 a0_1] 35 (0,0)) (by(with_reducible repeat(first|refine Zn ?_ _|refine Zp ?_|refine Zm ?_ _));exact BK86001.out)):gb86001≠gb86002));have NB86002_86001:=Za ((by rw[hg];exact Nat.ne_of_gt (ZL (g:=gb86001) (o:=.cells #[.int .i64 a0_0,.int .i64 a0_1] 35 (0,0)) (by(with_reducible repeat(first|refine Zn ?_ _|refine Zp ?_|refine Zm ?_ _));exact BK86001.out)):gb86002≠gb86001));replace BK86001:=Za (Zx (g:=gb86001) (o:=.cells #[.int .i64 a0_0,.int .i64 a0_1] 35 (0,0)) (by(with_reducible repeat(first|refine Zn ?_ _|refine Zp ?_|refine Zm ?_ _));exact BK86001.out) hb);replace HB:=Za (Zw (by repeat(first|(with_reducible first|exact HB.out|apply Zq|apply Zl|apply Zr|refine Zo ?_ GE86001.out)|exact HB.out)) hb);clear hb hbox hg;have hnb8:=NB86001_86002.out;have hnc8:=NB86002_86001.out;have hcz9_0:w7.cell? ⟨gb86001,0,none⟩=some (.int .i64 a0_0):=(Zt BK86001.out 0).trans rfl;have hcz9_1:w7.cell? ⟨gb86001,1,none⟩=some (.int .i64 a0_1):=(Zt BK86001.out 1).trans rfl;have hfz9_0:=Zu BK86001.out 0;have hfz9_1:=Zu BK86001.out 1)|(go_at_call 53;(with_reducible refine(Z9.calls a0_0 a0_1 true _ A4.out).mono ?_);rintro e w10 ⟨rfl,hb⟩;replace BK86001:=Za (Zx (g:=gb86001) (o:=.cells #[.int .i64 a0_0,.int .i64 a0_1] 35 (0,0)) (by(with_reducible repeat(first|refine Zn ?_ _|refine Zp ?_|refine Zm ?_ _));exact BK86001.out) hb);replace BK86002:=Za (Zx (g:=gb86002) (o:=.cells #[.int .i64 0,.int .i64 0] 35 (0,0)) (by(with_reducible repeat(first|refine Zn ?_ _|refine Zp ?_|refine Zm ?_ _));exact BK86002.out) hb);replace HB:=Za (Zw (by repeat(first|(with_reducible first|exact HB.out|apply Zq|apply Zl|apply Zr|refine Zo ?_ GE86001.out|refine Zo ?_ GE86002.out)|exact HB.out)) hb);(try clear hb);(try clear hb2);(try clear hk);(try clear hi);have hcz11_0:w10.cell? ⟨gb86001,0,none⟩=some (.int .i64 a0_0):=(Zt BK86001.out 0).trans rfl;have hcz11_1:w10.cell? ⟨gb86001,1,none⟩=some (.int .i64 a0_1):=(Zt BK86001.out 1).trans rfl;have hfz11_0:=Zu BK86001.out 0;have hfz11_1:=Zu BK86001.out 1;have hcz12_0:w10.cell? ⟨gb86002,0,none⟩=some (.int .i64 0):=(Zt BK86002.out 0).trans rfl;have hcz12_1:w10.cell? ⟨gb86002,1,none⟩=some (.int .i64 0):=(Zt BK86002.out 1).trans rfl;have hfz12_0:=Zu BK86002.out 0;have hfz12_1:=Zu BK86002.out 1))
   refine bodyPost_ret (ZaB rfl _ _ gb86002 35 #[.int .i64 a0_0,.int .i64 a0_1] (0,0) _ rfl (by(with_reducible repeat(first|refine Zn ?_ _|refine Zp ?_|refine Zm ?_ _));refine ZJ (cs:=#[.int .i64 a0_0,.int .i64 0]) ?_ 1 _ rfl;(with_reducible repeat(first|refine Zn ?_ _|refine Zp ?_|refine Zm ?_ _));refine ZJ (cs:=#[.int .i64 0,.int .i64 0]) ?_ 0 _ rfl;(with_reducible repeat(first|refine Zn ?_ _|refine Zp ?_|refine Zm ?_ _));exact BK86002.out) Try.underlying35 rfl (by kernel_rfl)) rfl ?_
   exact⟨by first|rfl|(simp[ZB,ZA] <;> rfl)|(simp[*,ZB,ZA] <;> rfl),by repeat(first|(with_reducible first|exact HB.out|apply Zq|apply Zl|apply Zr|refine Zo ?_ GE86001.out|refine Zo ?_ GE86002.out)|exact HB.out)⟩
  ·replace c5:=Bool.eq_false_iff.mpr c5
   subst c5
   have H1:(some (0,0,false))=some (r1,r2,r3):=by rw[if_neg (show ¬(false=true) by decide)] at H;exact H
   clear H
   have H:=H1
   clear H1
   simp only[Option.some.injEq,Prod.mk.injEq] at H
   obtain⟨rfl,rfl,rfl⟩:=H
   go_enter Try.func86,Try.ntmps86
   go_wp2_with (first|((with_reducible refine ZP (N:=2) rfl ?_);refine ZM ?hg (N:=2) ?hd (cs:=#[.int .i64 a0_0,.int .i64 a0_1]) (t:=35) ?hr ?_;(case hd=>rfl);(case hg=>rfl);(case hr=>first|(go_simp;done)|(go_simp;rfl));intro gb86001 hg w13 hbox hb;have BK86001:=Za (hbox);have GW86001:=Za ((by rw[hg];exact(Zv (by repeat(first|(with_reducible first|exact HB.out|apply Zq|apply Zl|apply Zr)|exact HB.out))):w.heap.size≤gb86001));have GE86001:=Za ((by rw[hg];exact(Zv (by repeat(first|(with_reducible first|exact HB.out|apply Zq|apply Zl|apply Zr)|exact HB.out))):w.heap.size≤gb86001));replace HB:=Za (Zw (by repeat(first|(with_reducible first|exact HB.out|apply Zq|apply Zl|apply Zr)|exact HB.out)) hb);clear hb hbox hg)|((with_reducible refine ZP (N:=4) rfl ?_);refine ZM ?hg (N:=4) ?hd (cs:=#[.int .i64 0,.int .i64 0]) (t:=35) ?hr ?_;(case hd=>rfl);(case hg=>rfl);(case hr=>first|(go_simp;done)|(go_simp;rfl));intro gb86002 hg w14 hbox hb;have BK86002:=Za (hbox);have GW86002:=Za ((by rw[hg];exact(Zv (by repeat(first|(with_reducible first|exact HB.out|apply Zq|apply Zl|apply Zr|refine Zo ?_ GE86001.out)|exact HB.out))):w.heap.size≤gb86002));have GE86002:=Za ((by rw[hg];exact(Zv (by repeat(first|(with_reducible first|exact HB.out|apply Zq|apply Zl|apply Zr|refine Zo ?_ GE86001.out)|exact HB.out))):w.heap.size≤gb86002));have NB86001_86002:=Za ((by rw[hg];exact Nat.ne_of_lt (ZL (g:=gb86001) (o:=.cells #[.int .i64 a0_0,.int .i64 a0_1] 35 (0,0)) (by(with_reducible repeat(first|refine Zn ?_ _|refine Zp ?_|refine Zm ?_ _));exact BK86001.out)):gb86001≠gb86002));have NB86002_86001:=Za ((by rw[hg];exact Nat.ne_of_gt (ZL (g:=gb86001) (o:=.cells #[.int .i64 a0_0,.int .i64 a0_1] 35 (0,0)) (by(with_reducible repeat(first|refine Zn ?_ _|refine Zp ?_|refine Zm ?_ _));exact BK86001.out)):gb86002≠gb86001));replace BK86001:=Za (Zx (g:=gb86001) (o:=.cells #[.int .i64 a0_0,.int .i64 a0_1] 35 (0,0)) (by(with_reducible repeat(first|refine Zn ?_ _|refine Zp ?_|refine Zm ?_ _));exact BK86001.out) hb);replace HB:=Za (Zw (by repeat(first|(with_reducible first|exact HB.out|apply Zq|apply Zl|apply Zr|refine Zo ?_ GE86001.out)|exact HB.out)) hb);clear hb hbox hg;have hnb15:=NB86001_86002.out;have hnc15:=NB86002_86001.out;have hcz16_0:w14.cell? ⟨gb86001,0,none⟩=some (.int .i64 a0_0):=(Zt BK86001.out 0).trans rfl;have hcz16_1:w14.cell? ⟨gb86001,1,none⟩=some (.int .i64 a0_1):=(Zt BK86001.out 1).trans rfl;have hfz16_0:=Zu BK86001.out 0;have hfz16_1:=Zu BK86001.out 1)|(go_at_call 53;(with_reducible refine(Z9.calls a0_0 a0_1 false _ A4.out).mono ?_);rintro e w17 ⟨rfl,hb⟩;replace BK86001:=Za (Zx (g:=gb86001) (o:=.cells #[.int .i64 a0_0,.int .i64 a0_1] 35 (0,0)) (by(with_reducible repeat(first|refine Zn ?_ _|refine Zp ?_|refine Zm ?_ _));exact BK86001.out) hb);replace BK86002:=Za (Zx (g:=gb86002) (o:=.cells #[.int .i64 0,.int .i64 0] 35 (0,0)) (by(with_reducible repeat(first|refine Zn ?_ _|refine Zp ?_|refine Zm ?_ _));exact BK86002.out) hb);replace HB:=Za (Zw (by repeat(first|(with_reducible first|exact HB.out|apply Zq|apply Zl|apply Zr|refine Zo ?_ GE86001.out|refine Zo ?_ GE86002.out)|exact HB.out)) hb);(try clear hb);(try clear hb2);(try clear hk);(try clear hi);have hcz18_0:w17.cell? ⟨gb86002,0,none⟩=some (.int .i64 0):=(Zt BK86002.out 0).trans rfl;have hcz18_1:w17.cell? ⟨gb86002,1,none⟩=some (.int .i64 0):=(Zt BK86002.out 1).trans rfl;have hfz18_0:=Zu BK86002.out 0;have hfz18_1:=Zu BK86002.out 1))
   refine bodyPost_ret (ZaB rfl _ _ gb86002 35 #[.int .i64 0,.int .i64 0] (0,0) _ rfl (by(with_reducible repeat(first|refine Zn ?_ _|refine Zp ?_|refine Zm ?_ _));refine ZJ (cs:=#[.int .i64 0,.int .i64 0]) ?_ 1 _ rfl;(with_reducible repeat(first|refine Zn ?_ _|refine Zp ?_|refine Zm ?_ _));refine ZJ (cs:=#[.int .i64 0,.int .i64 0]) ?_ 0 _ rfl;(with_reducible repeat(first|refine Zn ?_ _|refine Zp ?_|refine Zm ?_ _));exact BK86002.out) Try.underlying35 rfl (by kernel_rfl)) rfl ?_
   exact⟨by first|rfl|(simp[ZB,ZA] <;> rfl)|(simp[*,ZB,ZA] <;> rfl),by repeat(first|(with_reducible first|exact HB.out|apply Zq|apply Zl|apply Zr|refine Zo ?_ GE86001.out|refine Zo ?_ GE86002.out)|exact HB.out)⟩
 ·replace c3:=Bool.eq_false_iff.mpr c3
  subst c3
  have H1:(some (0,0,false))=some (r1,r2,r3):=by rw[if_neg (show ¬(false=true) by decide)] at H;exact H
  clear H
  have H:=H1
  clear H1
  simp only[Option.some.injEq,Prod.mk.injEq] at H
  obtain⟨rfl,rfl,rfl⟩:=H
  go_enter Try.func86,Try.ntmps86
  go_wp2_with (first|((with_reducible refine ZP (N:=2) rfl ?_);refine ZM ?hg (N:=2) ?hd (cs:=#[.int .i64 a0_0,.int .i64 a0_1]) (t:=35) ?hr ?_;(case hd=>rfl);(case hg=>rfl);(case hr=>first|(go_simp;done)|(go_simp;rfl));intro gb86001 hg w19 hbox hb;have BK86001:=Za (hbox);have GW86001:=Za ((by rw[hg];exact(Zv (by repeat(first|(with_reducible first|exact HB.out|apply Zq|apply Zl|apply Zr)|exact HB.out))):w.heap.size≤gb86001));have GE86001:=Za ((by rw[hg];exact(Zv (by repeat(first|(with_reducible first|exact HB.out|apply Zq|apply Zl|apply Zr)|exact HB.out))):w.heap.size≤gb86001));replace HB:=Za (Zw (by repeat(first|(with_reducible first|exact HB.out|apply Zq|apply Zl|apply Zr)|exact HB.out)) hb);clear hb hbox hg)|((with_reducible refine ZP (N:=4) rfl ?_);refine ZM ?hg (N:=4) ?hd (cs:=#[.int .i64 0,.int .i64 0]) (t:=35) ?hr ?_;(case hd=>rfl);(case hg=>rfl);(case hr=>first|(go_simp;done)|(go_simp;rfl));intro gb86002 hg w20 hbox hb;have BK86002:=Za (hbox);have GW86002:=Za ((by rw[hg];exact(Zv (by repeat(first|(with_reducible first|exact HB.out|apply Zq|apply Zl|apply Zr|refine Zo ?_ GE86001.out)|exact HB.out))):w.heap.size≤gb86002));have GE86002:=Za ((by rw[hg];exact(Zv (by repeat(first|(with_reducible first|exact HB.out|apply Zq|apply Zl|apply Zr|refine Zo ?_ GE86001.out)|exact HB.out))):w.heap.size≤gb86002));have NB86001_86002:=Za ((by rw[hg];exact Nat.ne_of_lt (ZL (g:=gb86001) (o:=.cells #[.int .i64 a0_0,.int .i64 a0_1] 35 (0,0)) (by(with_reducible repeat(first|refine Zn ?_ _|refine Zp ?_|refine Zm ?_ _));exact BK86001.out)):gb86001≠gb86002));have NB86002_86001:=Za ((by rw[hg];exact Nat.ne_of_gt (ZL (g:=gb86001) (o:=.cells #[.int .i64 a0_0,.int .i64 a0_1] 35 (0,0)) (by(with_reducible repeat(first|refine Zn ?_ _|refine Zp ?_|refine Zm ?_ _));exact BK86001.out)):gb86002≠gb86001));replace BK86001:=Za (Zx (g:=gb86001) (o:=.cells #[.int .i64 a0_0,.int .i64 a0_1] 35 (0,0)) (by(with_reducible repeat(first|refine Zn ?_ _|refine Zp ?_|refine Zm ?_ _));exact BK86001.out) hb);replace HB:=Za (Zw (by repeat(first|(with_reducible first|exact HB.out|apply Zq|apply Zl|apply Zr|refine Zo ?_ GE86001.out)|exact HB.out)) hb);clear hb hbox hg;have hnb21:=NB86002_86001.out;have hnc21:=NB86001_86002.out;have hcz22_0:w20.cell? ⟨gb86002,0,none⟩=some (.int .i64 0):=(Zt BK86002.out 0).trans rfl;have hcz22_1:w20.cell? ⟨gb86002,1,none⟩=some (.int .i64 0):=(Zt BK86002.out 1).trans rfl;have hfz22_0:=Zu BK86002.out 0;have hfz22_1:=Zu BK86002.out 1))
  refine bodyPost_ret (ZaB rfl _ _ gb86002 35 #[.int .i64 0,.int .i64 0] (0,0) _ rfl (by(with_reducible repeat(first|refine Zn ?_ _|refine Zp ?_|refine Zm ?_ _));refine ZJ (cs:=#[.int .i64 0,.int .i64 0]) ?_ 1 _ rfl;(with_reducible repeat(first|refine Zn ?_ _|refine Zp ?_|refine Zm ?_ _));refine ZJ (cs:=#[.int .i64 0,.int .i64 0]) ?_ 0 _ rfl;(with_reducible repeat(first|refine Zn ?_ _|refine Zp ?_|refine Zm ?_ _));exact BK86002.out) Try.underlying35 rfl (by kernel_rfl)) rfl ?_
  exact⟨by first|rfl|(simp[ZB,ZA] <;> rfl)|(simp[*,ZB,ZA] <;> rfl),by repeat(first|(with_reducible first|exact HB.out|apply Zq|apply Zl|apply Zr|refine Zo ?_ GE86001.out|refine Zo ?_ GE86002.out)|exact HB.out)⟩
def ZaA.f (a0_0:Int) (l0_1:List Int) (a1:Int) (a2:Int):Option (Int):=if 0≤(wrap64 ((wrap64 (a1 * a0_0))+a2)) then(if (wrap64 ((wrap64 (a1 * a0_0))+a2))<(l0_1.length:Int) then(some (rd l0_1 (wrap64 ((wrap64 (a1 * a0_0))+a2)))) else(none)) else(none)
set_option maxHeartbeats 8000000 in
set_option maxRecDepth 100000 in
theorem ZaA.calls (a0_0:Int) (A0_1:Option Addr) (c0_1:Nat) (l0_1:List Int) (a1:Int) (a2:Int) (r:Int) (w:World) (hr0_1:Kd.C (Kd.int .i64) w A0_1 l0_1.length l0_1) (hc0_1:l0_1.length≤c0_1) (h:ZaA.f a0_0 l0_1 a1 a2=some r) :
  Calls Try.prog 87 #[.agg #[.int .i64 a0_0,.slice A0_1 l0_1.length c0_1],.int .i64 a1,.int .i64 a2] w fun e w'=>e=.returned (.int .i64 r)∧Below w.heap.size w w':=by
 have hu73:=Try.underlying73
 have HR0_1:=Za hr0_1;have HC0_1:=Za hc0_1;clear hr0_1 hc0_1
 have HB:=Za (Below.refl w.heap.size w)
 have H:(if 0≤(wrap64 ((wrap64 (a1 * a0_0))+a2)) then(if (wrap64 ((wrap64 (a1 * a0_0))+a2))<(l0_1.length:Int) then(some (rd l0_1 (wrap64 ((wrap64 (a1 * a0_0))+a2)))) else(none)) else(none))=some r:=h
 clear h
 obtain⟨ji4,hji4⟩:∃j_:Int,(wrap64 ((wrap64 (a1 * a0_0))+a2))=j_:=⟨_,rfl⟩
 replace H:(if 0≤(ji4) then(if (ji4)<(l0_1.length:Int) then(some (rd l0_1 (ji4))) else(none)) else(none))=some r:=by first|(rw[hji4] at H;exact H)|(simp only[hji4] at H ⊢;exact H)
 have hji4w:(IntKind.i64.wrap ((wrap64 (a1 * a0_0))+a2))=ji4:=(ZH _).trans hji4
 by_cases c5:0≤(ji4)
 ·rw[if_pos c5] at H
  have c5b0:decide (0≤(ji4))=true:=Zd c5
  clear c5
  by_cases c6:(ji4)<(l0_1.length:Int)
  ·rw[if_pos c6] at H
   have c6b0:decide ((ji4)<(l0_1.length:Int))=true:=Zd c6
   clear c6
   obtain rfl:=Zf H
   go_enter Try.func87,Try.ntmps87
   go_wp2_with (first|((with_reducible refine ZP (N:=3) rfl ?_);refine ZM ?hg (N:=3) ?hd (cs:=#[.int .i64 a0_0,.slice A0_1 l0_1.length c0_1]) (t:=73) ?hr ?_;(case hd=>rfl);(case hg=>rfl);(case hr=>first|(go_simp;done)|(go_simp;rfl));intro gb87001 hg w7 hbox hb;have BK87001:=Za (hbox);have GW87001:=Za ((by rw[hg];exact(Zv (by repeat(first|(with_reducible first|exact HB.out|apply Zq|apply Zl|apply Zr)|exact HB.out))):w.heap.size≤gb87001));have GE87001:=Za ((by rw[hg];exact(Zv (by repeat(first|(with_reducible first|exact HB.out|apply Zq|apply Zl|apply Zr)|exact HB.out))):w.heap.size≤gb87001));replace HB:=Za (Zw (by repeat(first|(with_reducible first|exact HB.out|apply Zq|apply Zl|apply Zr)|exact HB.out)) hb);clear hb hbox hg;have hcz8_0:w7.cell? ⟨gb87001,0,none⟩=some (.int .i64 a0_0):=(Zt BK87001.out 0).trans rfl;have hcz8_1:w7.cell? ⟨gb87001,1,none⟩=some (.slice A0_1 l0_1.length c0_1):=(Zt BK87001.out 1).trans rfl;have hfz8_0:=Zu BK87001.out 0;have hfz8_1:=Zu BK87001.out 1;have p87002:0≤((ji4):Int):=Zc (by first|(with_reducible assumption)|assumption);have q87002:(ji4)<(l0_1.length:Int):=Zc (by first|(with_reducible assumption)|assumption);obtain⟨ad87002,e87002,hx87002_0⟩:=Kd.at_int HR0_1.out (ji4) p87002 q87002;cases e87002;replace hx87002_0:=(HB.out.cell (Zb w _ hx87002_0)).trans hx87002_0;replace p87002:=eq_true p87002;replace q87002:=eq_true q87002))
   go_ret
   exact⟨by first|rfl|(simp[ZB,ZA] <;> rfl)|(simp only[← hji4];first|rfl|(simp[ZB,ZA] <;> rfl))|(simp[*,ZB,ZA] <;> rfl),by repeat(first|(with_reducible first|exact HB.out|apply Zq|apply Zl|apply Zr|refine Zo ?_ GE87001.out)|exact HB.out)⟩
  ·rw[if_neg c6] at H
   exact absurd H (by simp)
 ·rw[if_neg c5] at H
  exact absurd H (by simp)
def ZC.j0:Nat→Int→Int→Bool→Int→List Int→Option (Int×Int×Bool)
 | 0,_,_,_,_,_=>none
 | k+1,x1,x2,x24,x48002000,x48002001=>if x24=true then(some (0,0,false)) else((ZaA.f x48002000 x48002001 x2 x1).bind fun t48006=>((ZaA.f x48002000 x48002001 x1 x2).bind fun t48007=>((ZaX.f (wrap64 (-t48006)) t48007 true).bind fun bt48008=>(some (bt48008.1,bt48008.2.1,bt48008.2.2)))))
def ZC.f (k:Nat) (a0_0:Int) (l0_1:List Int) (a1:Int) (a2:Int):Option (Int×Int×Bool):=(Z2.f k a0_0 l0_1).bind fun t48003=>(if t48003=true then((Zal.f a0_0 a1).bind fun t48004=>(if t48004=true then((Zal.f a0_0 a2).bind fun t48005=>(ZC.j0 k a1 a2 (!t48005) a0_0 l0_1)) else(ZC.j0 k a1 a2 true a0_0 l0_1))) else(ZC.j0 k a1 a2 true a0_0 l0_1))
def ZC.T3:Bool×List (List Nat×List Nat):=(true,[([],[]),([],[]),([],[]),([0,1,2],[0,1,2]),([3],[3]),([],[]),([],[]),([],[]),([5,6,7,3],[5,6,7]),([4,8],[4,8]),([9,8],[9]),([10],[10]),([10],[10]),([11,10,0,1,2,3,4,5,6,7,8,9,10,11,12],[11]),([12,13,0,1,2,3,4,5,6,7,8,9,10,11,12,13],[12])])
def ZC.B3:List Nat:=[0,0,0,7,15,0,0,0,239,511,1023,2047,2047,8191,16383]
theorem ZC.tab3:rtab .any (opsOf Try.f48 3)=ZC.T3:=by kernel_rfl
theorem ZC.bits3:Za5 ZC.T3.2 ZC.B3=true:=by kernel_rfl
set_option maxHeartbeats 8000000 in
set_option maxRecDepth 100000 in
theorem ZC.calls (k:Nat) (a0_0:Int) (A0_1:Option Addr) (c0_1:Nat) (l0_1:List Int) (a1:Int) (a2:Int) (r1:Int) (r2:Int) (r3:Bool) (w:World) (hr0_1:Kd.C (Kd.int .i64) w A0_1 l0_1.length l0_1) (hc0_1:l0_1.length≤c0_1) (h:ZC.f k a0_0 l0_1 a1 a2=some (r1,r2,r3)) :
  Calls Try.prog 48 #[.agg #[.int .i64 a0_0,.slice A0_1 l0_1.length c0_1],.int .i64 a1,.int .i64 a2] w fun e w'=>e=.returned (.tuple #[.agg #[.int .i64 r1,.int .i64 r2],.bool r3])∧Below w.heap.size w w':=by
 have hu73:=Try.underlying73
 have hu35:=Try.underlying35
 have HR0_1:=Za hr0_1;have HC0_1:=Za hc0_1;clear hr0_1 hc0_1
 have HB:=Za (Below.refl w.heap.size w)
 have H:((Z2.f k a0_0 l0_1).bind fun t48003=>(if t48003=true then((Zal.f a0_0 a1).bind fun t48004=>(if t48004=true then((Zal.f a0_0 a2).bind fun t48005=>(ZC.j0 k a1 a2 (!t48005) a0_0 l0_1)) else(ZC.j0 k a1 a2 true a0_0 l0_1))) else(ZC.j0 k a1 a2 true a0_0 l0_1)))=some (r1,r2,r3):=h
 clear h;have HC4:=Za H;clear H
 go_enter Try.func48,Try.ntmps48
 go_upto_region 1 with (first|((with_reducible refine ZP (N:=3) rfl ?_);refine ZM ?hg (N:=3) ?hd (cs:=#[.int .i64 a0_0,.slice A0_1 l0_1.length c0_1]) (t:=73) ?hr ?_;(case hd=>rfl);(case hg=>rfl);(case hr=>first|(go_simp;done)|(go_simp;rfl));intro gb48001 hg w5 hbox hb;have BK48001:=Za (hbox);have GW48001:=Za ((by rw[hg];exact(Zv (by repeat(first|(with_reducible first|exact HB.out|apply Zq|apply Zl|apply Zr)|exact HB.out))):w.heap.size≤gb48001));have GE48001:=Za ((by rw[hg];exact(Zv (by repeat(first|(with_reducible first|exact HB.out|apply Zq|apply Zl|apply Zr)|exact HB.out))):w.heap.size≤gb48001));replace HB:=Za (Zw (by repeat(first|(with_reducible first|exact HB.out|apply Zq|apply Zl|apply Zr)|exact HB.out)) hb);clear hb hbox hg)|((with_reducible refine ZP (N:=6) rfl ?_);refine ZM ?hg (N:=6) ?hd (cs:=#[.int .i64 0,.int .i64 0]) (t:=35) ?hr ?_;(case hd=>rfl);(case hg=>rfl);(case hr=>first|(go_simp;done)|(go_simp;rfl));intro gb48002 hg w6 hbox hb;have BK48002:=Za (hbox);have GW48002:=Za ((by rw[hg];exact(Zv (by repeat(first|(with_reducible first|exact HB.out|apply Zq|apply Zl|apply Zr|refine Zo ?_ GE48001.out)|exact HB.out))):w.heap.size≤gb48002));have GE48002:=Za ((by rw[hg];exact(Zv (by repeat(first|(with_reducible first|exact HB.out|apply Zq|apply Zl|apply Zr|refine Zo ?_ GE48001.out)|exact HB.out))):w.heap.size≤gb48002));have NB48001_48002:=Za ((by rw[hg];exact Nat.ne_of_lt (ZL (g:=gb48001) (o:=.cells #[.int .i64 a0_0,.slice A0_1 l0_1.length c0_1] 73 (0,0)) (by(with_reducible repeat(first|refine Zn ?_ _|refine Zp ?_|refine Zm ?_ _));exact BK48001.out)):gb48001≠gb48002));have NB48002_48001:=Za ((by rw[hg];exact Nat.ne_of_gt (ZL (g:=gb48001) (o:=.cells #[.int .i64 a0_0,.slice A0_1 l0_1.length c0_1] 73 (0,0)) (by(with_reducible repeat(first|refine Zn ?_ _|refine Zp ?_|refine Zm ?_ _));exact BK48001.out)):gb48002≠gb48001));replace BK48001:=Za (Zx (g:=gb48001) (o:=.cells #[.int .i64 a0_0,.slice A0_1 l0_1.length c0_1] 73 (0,0)) (by(with_reducible repeat(first|refine Zn ?_ _|refine Zp ?_|refine Zm ?_ _));exact BK48001.out) hb);replace HB:=Za (Zw (by repeat(first|(with_reducible first|exact HB.out|apply Zq|apply Zl|apply Zr|refine Zo ?_ GE48001.out)|exact HB.out)) hb);clear hb hbox hg))
 (try simp only[Act.put,List.setIfInBounds_toArray,List.set_cons_zero,List.set_cons_succ])
 go_cut [24] (fun v24 wc=>∃(kq:Nat) (x24_3:Bool),v24=.bool x24_3∧Aside0 (ZC.j0 kq a1 a2 x24_3 a0_0 l0_1=some (r1,r2,r3))∧Aside0 (kq≤k)∧Aside0 (wc.heap[gb48001]? = some (.cells #[.int .i64 a0_0,(.slice A0_1 l0_1.length c0_1)] 73 (0,0)))∧Aside0 (wc.heap[gb48002]? = some (.cells #[.int .i64 0,.int .i64 0] 35 (0,0)))∧Aside0 (Below w.heap.size w wc))
 case first=>
  have H:=HC4.out
  clear HC4
  replace H:=Zg H
  obtain⟨t48003,A70,H⟩:=H
  replace H:(if t48003=true then((Zal.f a0_0 a1).bind fun t48004=>(if t48004=true then((Zal.f a0_0 a2).bind fun t48005=>(ZC.j0 k a1 a2 (!t48005) a0_0 l0_1)) else(ZC.j0 k a1 a2 true a0_0 l0_1))) else(ZC.j0 k a1 a2 true a0_0 l0_1))=some (r1,r2,r3):=H
  have A7:=Za A70;clear A70
  by_cases c8:t48003=true
  ·subst c8
   have H1:((Zal.f a0_0 a1).bind fun t48004=>(if t48004=true then((Zal.f a0_0 a2).bind fun t48005=>(ZC.j0 k a1 a2 (!t48005) a0_0 l0_1)) else(ZC.j0 k a1 a2 true a0_0 l0_1)))=some (r1,r2,r3):=by rw[if_pos rfl] at H;exact H
   clear H
   have H:=H1
   clear H1
   replace H:=Zg H
   obtain⟨t48004,A90,H⟩:=H
   replace H:(if t48004=true then((Zal.f a0_0 a2).bind fun t48005=>(ZC.j0 k a1 a2 (!t48005) a0_0 l0_1)) else(ZC.j0 k a1 a2 true a0_0 l0_1))=some (r1,r2,r3):=H
   have A9:=Za A90;clear A90
   by_cases c10:t48004=true
   ·subst c10
    have H1:((Zal.f a0_0 a2).bind fun t48005=>(ZC.j0 k a1 a2 (!t48005) a0_0 l0_1))=some (r1,r2,r3):=by rw[if_pos rfl] at H;exact H
    clear H
    have H:=H1
    clear H1
    replace H:=Zg H
    obtain⟨t48005,A110,H⟩:=H
    replace H:(ZC.j0 k a1 a2 (!t48005) a0_0 l0_1)=some (r1,r2,r3):=H
    have A11:=Za A110;clear A110
    have H':=Za H
    clear H
    have hnb12:=NB48001_48002.out
    have hnc12:=NB48002_48001.out
    have hcz13_0:w6.cell? ⟨gb48001,0,none⟩=some (.int .i64 a0_0):=(Zt BK48001.out 0).trans rfl
    have hcz13_1:w6.cell? ⟨gb48001,1,none⟩=some (.slice A0_1 l0_1.length c0_1):=(Zt BK48001.out 1).trans rfl
    have hfz13_0:=Zu BK48001.out 0
    have hfz13_1:=Zu BK48001.out 1
    go_wp2_with (first|((with_reducible refine ZO (f:=85) rfl ?_);refine Z6 (some 9) rfl rfl Try.func85 (by kernel_rfl) rfl #[.agg #[.int .i64 a0_0,.slice A0_1 l0_1.length c0_1]] rfl (by(try simp only[List.map_toArray,List.map_cons,List.map_nil]);first|done|rfl|(simp only[Zj,Zi];rfl)) ?_;(with_reducible refine(Z2.calls k a0_0 _ _ l0_1 true _ ?side1 ?side2 A7.out).mono ?_);(case side1=>repeat(first|exact(Kd.C_below HR0_1.out HB.out)|(with_reducible refine Kd.C_alloc ?_ _)|(with_reducible refine Kd.C_drewN ?_ _)|(with_reducible refine Kd.C_drew ?_)));(case side2=>exact HC0_1.out);rintro e w14 ⟨rfl,hb⟩;refine⟨_,rfl,?_⟩;replace BK48001:=Za (Zx (g:=gb48001) (o:=.cells #[.int .i64 a0_0,.slice A0_1 l0_1.length c0_1] 73 (0,0)) (by(with_reducible repeat(first|refine Zn ?_ _|refine Zp ?_|refine Zm ?_ _));exact BK48001.out) hb);replace BK48002:=Za (Zx (g:=gb48002) (o:=.cells #[.int .i64 0,.int .i64 0] 35 (0,0)) (by(with_reducible repeat(first|refine Zn ?_ _|refine Zp ?_|refine Zm ?_ _));exact BK48002.out) hb);replace HB:=Za (Zw (by repeat(first|(with_reducible first|exact HB.out|apply Zq|apply Zl|apply Zr|refine Zo ?_ GE48001.out|refine Zo ?_ GE48002.out)|exact HB.out)) hb);(try clear hb);(try clear hb2);(try clear hk);(try clear hi);have hcz15_0:w14.cell? ⟨gb48001,0,none⟩=some (.int .i64 a0_0):=(Zt BK48001.out 0).trans rfl;have hcz15_1:w14.cell? ⟨gb48001,1,none⟩=some (.slice A0_1 l0_1.length c0_1):=(Zt BK48001.out 1).trans rfl;have hfz15_0:=Zu BK48001.out 0;have hfz15_1:=Zu BK48001.out 1)|(go_at_call 52;(with_reducible refine(Zal.calls a0_0 a1 true _ A9.out).mono ?_);rintro e w' ⟨rfl,⟨nd,rfl⟩⟩)|(go_at_call 52;(with_reducible refine(Zal.calls a0_0 a2 t48005 _ A11.out).mono ?_);rintro e w' ⟨rfl,⟨nd,rfl⟩⟩))
    go_meet
    case rel=>exact⟨_,(!t48005),(by first|rfl|(simp;done)|(simp[*];done)),H',⟨by first|omega|exact Nat.le_refl _⟩,⟨by(with_reducible repeat(first|refine Zn ?_ _|refine Zp ?_|refine Zm ?_ _));exact BK48001.out⟩,⟨by(with_reducible repeat(first|refine Zn ?_ _|refine Zp ?_|refine Zm ?_ _));exact BK48002.out⟩,⟨by repeat(first|(with_reducible first|exact HB.out|apply Zq|apply Zl|apply Zr|refine Zo ?_ GE48001.out|refine Zo ?_ GE48002.out)|exact HB.out)⟩⟩
   ·replace c10:=Bool.eq_false_iff.mpr c10
    subst c10
    have H1:(ZC.j0 k a1 a2 true a0_0 l0_1)=some (r1,r2,r3):=by rw[if_neg (show ¬(false=true) by decide)] at H;exact H
    clear H
    have H:=H1
    clear H1
    have H':=Za H
    clear H
    have hnb16:=NB48001_48002.out
    have hnc16:=NB48002_48001.out
    have hcz17_0:w6.cell? ⟨gb48001,0,none⟩=some (.int .i64 a0_0):=(Zt BK48001.out 0).trans rfl
    have hcz17_1:w6.cell? ⟨gb48001,1,none⟩=some (.slice A0_1 l0_1.length c0_1):=(Zt BK48001.out 1).trans rfl
    have hfz17_0:=Zu BK48001.out 0
    have hfz17_1:=Zu BK48001.out 1
    go_wp2_with (first|((with_reducible refine ZO (f:=85) rfl ?_);refine Z6 (some 9) rfl rfl Try.func85 (by kernel_rfl) rfl #[.agg #[.int .i64 a0_0,.slice A0_1 l0_1.length c0_1]] rfl (by(try simp only[List.map_toArray,List.map_cons,List.map_nil]);first|done|rfl|(simp only[Zj,Zi];rfl)) ?_;(with_reducible refine(Z2.calls k a0_0 _ _ l0_1 true _ ?side1 ?side2 A7.out).mono ?_);(case side1=>repeat(first|exact(Kd.C_below HR0_1.out HB.out)|(with_reducible refine Kd.C_alloc ?_ _)|(with_reducible refine Kd.C_drewN ?_ _)|(with_reducible refine Kd.C_drew ?_)));(case side2=>exact HC0_1.out);rintro e w18 ⟨rfl,hb⟩;refine⟨_,rfl,?_⟩;replace BK48001:=Za (Zx (g:=gb48001) (o:=.cells #[.int .i64 a0_0,.slice A0_1 l0_1.length c0_1] 73 (0,0)) (by(with_reducible repeat(first|refine Zn ?_ _|refine Zp ?_|refine Zm ?_ _));exact BK48001.out) hb);replace BK48002:=Za (Zx (g:=gb48002) (o:=.cells #[.int .i64 0,.int .i64 0] 35 (0,0)) (by(with_reducible repeat(first|refine Zn ?_ _|refine Zp ?_|refine Zm ?_ _));exact BK48002.out) hb);replace HB:=Za (Zw (by repeat(first|(with_reducible first|exact HB.out|apply Zq|apply Zl|apply Zr|refine Zo ?_ GE48001.out|refine Zo ?_ GE48002.out)|exact HB.out)) hb);(try clear hb);(try clear hb2);(try clear hk);(try clear hi);have hcz19_0:w18.cell? ⟨gb48001,0,none⟩=some (.int .i64 a0_0):=(Zt BK48001.out 0).trans rfl;have hcz19_1:w18.cell? ⟨gb48001,1,none⟩=some (.slice A0_1 l0_1.length c0_1):=(Zt BK48001.out 1).trans rfl;have hfz19_0:=Zu BK48001.out 0;have hfz19_1:=Zu BK48001.out 1)|(go_at_call 52;(with_reducible refine(Zal.calls a0_0 a1 false _ A9.out).mono ?_);rintro e w' ⟨rfl,⟨nd,rfl⟩⟩))
    go_meet
    case rel=>exact⟨_,(true),(by first|rfl|(simp;done)|(simp[*];done)),H',⟨by first|omega|exact Nat.le_refl _⟩,⟨by(with_reducible repeat(first|refine Zn ?_ _|refine Zp ?_|refine Zm ?_ _));exact BK48001.out⟩,⟨by(with_reducible repeat(first|refine Zn ?_ _|refine Zp ?_|refine Zm ?_ _));exact BK48002.out⟩,⟨by repeat(first|(with_reducible first|exact HB.out|apply Zq|apply Zl|apply Zr|refine Zo ?_ GE48001.out|refine Zo ?_ GE48002.out)|exact HB.out)⟩⟩
  ·replace c8:=Bool.eq_false_iff.mpr c8
   subst c8
   have H1:(ZC.j0 k a1 a2 true a0_0 l0_1)=some (r1,r2,r3):=by rw[if_neg (show ¬(false=true) by decide)] at H;exact H
   clear H
   have H:=H1
   clear H1
   have H':=Za H
   clear H
   have hnb20:=NB48001_48002.out
   have hnc20:=NB48002_48001.out
   have hcz21_0:w6.cell? ⟨gb48001,0,none⟩=some (.int .i64 a0_0):=(Zt BK48001.out 0).trans rfl
   have hcz21_1:w6.cell? ⟨gb48001,1,none⟩=some (.slice A0_1 l0_1.length c0_1):=(Zt BK48001.out 1).trans rfl
   have hfz21_0:=Zu BK48001.out 0
   have hfz21_1:=Zu BK48001.out 1
   go_wp2_with (first|((with_reducible refine ZO (f:=85) rfl ?_);refine Z6 (some 9) rfl rfl Try.func85 (by kernel_rfl) rfl #[.agg #[.int .i64 a0_0,.slice A0_1 l0_1.length c0_1]] rfl (by(try simp only[List.map_toArray,List.map_cons,List.map_nil]);first|done|rfl|(simp only[Zj,Zi];rfl)) ?_;(with_reducible refine(Z2.calls k a0_0 _ _ l0_1 false _ ?side1 ?side2 A7.out).mono ?_);(case side1=>repeat(first|exact(Kd.C_below HR0_1.out HB.out)|(with_reducible refine Kd.C_alloc ?_ _)|(with_reducible refine Kd.C_drewN ?_ _)|(with_reducible refine Kd.C_drew ?_)));(case side2=>exact HC0_1.out);rintro e w22 ⟨rfl,hb⟩;refine⟨_,rfl,?_⟩;replace BK48001:=Za (Zx (g:=gb48001) (o:=.cells #[.int .i64 a0_0,.slice A0_1 l0_1.length c0_1] 73 (0,0)) (by(with_reducible repeat(first|refine Zn ?_ _|refine Zp ?_|refine Zm ?_ _));exact BK48001.out) hb);replace BK48002:=Za (Zx (g:=gb48002) (o:=.cells #[.int .i64 0,.int .i64 0] 35 (0,0)) (by(with_reducible repeat(first|refine Zn ?_ _|refine Zp ?_|refine Zm ?_ _));exact BK48002.out) hb);replace HB:=Za (Zw (by repeat(first|(with_reducible first|exact HB.out|apply Zq|apply Zl|apply Zr|refine Zo ?_ GE48001.out|refine Zo ?_ GE48002.out)|exact HB.out)) hb);(try clear hb);(try clear hb2);(try clear hk);(try clear hi)))
   go_meet
   case rel=>exact⟨_,(true),(by first|rfl|(simp;done)|(simp[*];done)),H',⟨by first|omega|exact Nat.le_refl _⟩,⟨by(with_reducible repeat(first|refine Zn ?_ _|refine Zp ?_|refine Zm ?_ _));exact BK48001.out⟩,⟨by(with_reducible repeat(first|refine Zn ?_ _|refine Zp ?_|refine Zm ?_ _));exact BK48002.out⟩,⟨by repeat(first|(with_reducible first|exact HB.out|apply Zq|apply Zl|apply Zr|refine Zo ?_ GE48001.out|refine Zo ?_ GE48002.out)|exact HB.out)⟩⟩
 case rest=>
  clear HC4
  try clear c1
  try clear c2
  try clear p2
  try clear c4
  try clear c8
  try clear c10
  try clear c12
  try clear c16
  try clear c20
  try clear hcz13_0
  try clear hcz13_1
  try clear hcz15_0
  try clear hcz15_1
  try clear hcz17_0
  try clear hcz17_1
  try clear hcz19_0
  try clear hcz19_1
  try clear hcz21_0
  try clear hcz21_1
  try clear hfz13_0
  try clear hfz13_1
  try clear hfz15_0
  try clear hfz15_1
  try clear hfz17_0
  try clear hfz17_1
  try clear hfz19_0
  try clear hfz19_1
  try clear hfz21_0
  try clear hfz21_1
  obtain⟨kq,x24_3,rfl,HA,HJ3,BK48001,BK48002,HB⟩:=hcut
  cases kq with
  | zero=>exact absurd HA.out (by simp[ZC.j0])
  | succ kj3=>
   have H:=HA.out
   clear HA
   simp only[ZC.j0] at H
   by_cases c23:x24_3=true
   ·subst c23
    have H1:(some (0,0,false))=some (r1,r2,r3):=by rw[if_pos rfl] at H;exact H
    clear H
    have H:=H1
    clear H1
    simp only[Option.some.injEq,Prod.mk.injEq] at H
    obtain⟨rfl,rfl,rfl⟩:=H
    have hnb24:=NB48002_48001.out
    have hnc24:=NB48001_48002.out
    have hcz25_0:wc.cell? ⟨gb48002,0,none⟩=some (.int .i64 0):=(Zt BK48002.out 0).trans rfl
    have hcz25_1:wc.cell? ⟨gb48002,1,none⟩=some (.int .i64 0):=(Zt BK48002.out 1).trans rfl
    have hfz25_0:=Zu BK48002.out 0
    have hfz25_1:=Zu BK48002.out 1
    go_wp2
    refine bodyPost_ret (ZaB rfl _ _ gb48002 35 #[.int .i64 0,.int .i64 0] (0,0) _ rfl (by(with_reducible repeat(first|refine Zn ?_ _|refine Zp ?_|refine Zm ?_ _));refine ZJ (cs:=#[.int .i64 0,.int .i64 0]) ?_ 1 _ rfl;(with_reducible repeat(first|refine Zn ?_ _|refine Zp ?_|refine Zm ?_ _));refine ZJ (cs:=#[.int .i64 0,.int .i64 0]) ?_ 0 _ rfl;(with_reducible repeat(first|refine Zn ?_ _|refine Zp ?_|refine Zm ?_ _));exact BK48002.out) Try.underlying35 rfl (by kernel_rfl)) rfl ?_
    exact⟨by first|rfl|(simp[ZB,ZA] <;> rfl)|(simp[*,ZB,ZA] <;> rfl),by repeat(first|(with_reducible first|exact HB.out|apply Zq|apply Zl|apply Zr|refine Zo ?_ GE48001.out|refine Zo ?_ GE48002.out)|exact HB.out)⟩
   ·replace c23:=Bool.eq_false_iff.mpr c23
    subst c23
    have H1:((ZaA.f a0_0 l0_1 a2 a1).bind fun t48006=>((ZaA.f a0_0 l0_1 a1 a2).bind fun t48007=>((ZaX.f (wrap64 (-t48006)) t48007 true).bind fun bt48008=>(some (bt48008.1,bt48008.2.1,bt48008.2.2)))))=some (r1,r2,r3):=by rw[if_neg (show ¬(false=true) by decide)] at H;exact H
    clear H
    have H:=H1
    clear H1
    replace H:=Zg H
    obtain⟨t48006,A260,H⟩:=H
    replace H:((ZaA.f a0_0 l0_1 a1 a2).bind fun t48007=>((ZaX.f (wrap64 (-t48006)) t48007 true).bind fun bt48008=>(some (bt48008.1,bt48008.2.1,bt48008.2.2))))=some (r1,r2,r3):=H
    have A26:=Za A260;clear A260
    replace H:=Zg H
    obtain⟨t48007,A270,H⟩:=H
    replace H:((ZaX.f (wrap64 (-t48006)) t48007 true).bind fun bt48008=>(some (bt48008.1,bt48008.2.1,bt48008.2.2)))=some (r1,r2,r3):=H
    have A27:=Za A270;clear A270
    replace H:=Zg H
    obtain⟨⟨t48008,t48009,t48010⟩,A280,H⟩:=H
    replace H:(some (t48008,t48009,t48010))=some (r1,r2,r3):=H
    have A28:=Za A280;clear A280
    simp only[Option.some.injEq,Prod.mk.injEq] at H
    obtain⟨rfl,rfl,rfl⟩:=H
    try go_wp2
    replace BK48001:=Za (Zp BK48001.out);replace BK48002:=Za (Zp BK48002.out);replace HB:=Za (Zr HB.out)
    refine Zbl (n:=15) (S:=fun w'=>w'.cell? ⟨gb48001,0,none⟩=some (.int .i64 a0_0)∧w'.cell? ⟨gb48001,1,none⟩=some (.slice A0_1 l0_1.length c0_1)) (ds:=[]) #[false,false,false,false,false,false,false,false,false,false,false,false,false,false,false] (by kernel_rfl) rfl rfl ⟨(Zt BK48001.out 0).trans rfl,(Zt BK48001.out 1).trans rfl⟩ (fun hHeld=>?_);refine Za7 ZC.tab3 ZC.bits3 (fun HT_ HW_=>?_)
    generalize wc.drew=w29 at BK48001 BK48002 HB hHeld ⊢
    refine Z1 (i:=1) (N:=some 27) (v:=?_) (a':=?_) #[false,true,false,false,false,false,false,false,false,false,false,false,false,false,false] rfl rfl (ZW HT_.out (by kernel_rfl)) (fun _ _ _ h=>h) (Or.inl ⟨by rfl,?_⟩) ?_ ?_
    rotate_left
    ·intro w'
     go_simp
     with_reducible rfl
    rotate_left
    ·simp only[Act.put,List.setIfInBounds_toArray,List.set_cons_zero,List.set_cons_succ,ZH,ZI]
     rfl
    refine Z1 (i:=2) (N:=some 28) (v:=?_) (a':=?_) #[false,true,true,false,false,false,false,false,false,false,false,false,false,false,false] rfl rfl (ZW HT_.out (by kernel_rfl)) (fun _ _ _ h=>h) (Or.inl ⟨by rfl,?_⟩) ?_ ?_
    rotate_left
    ·intro w'
     go_simp
     with_reducible rfl
    rotate_left
    ·simp only[Act.put,List.setIfInBounds_toArray,List.set_cons_zero,List.set_cons_succ,ZH,ZI]
     rfl
    refine Z1 (i:=6) (N:=some 32) (v:=?_) (a':=?_) #[false,true,true,false,false,false,true,false,false,false,false,false,false,false,false] rfl rfl (ZW HT_.out (by kernel_rfl)) (fun _ _ _ h=>h) (Or.inl ⟨by rfl,?_⟩) ?_ ?_
    rotate_left
    ·intro w'
     go_simp
     with_reducible rfl
    rotate_left
    ·simp only[Act.put,List.setIfInBounds_toArray,List.set_cons_zero,List.set_cons_succ,ZH,ZI]
     rfl
    refine Z1 (i:=7) (N:=some 33) (v:=?_) (a':=?_) #[false,true,true,false,false,false,true,true,false,false,false,false,false,false,false] rfl rfl (ZW HT_.out (by kernel_rfl)) (fun _ _ _ h=>h) (Or.inl ⟨by rfl,?_⟩) ?_ ?_
    rotate_left
    ·intro w'
     go_simp
     with_reducible rfl
    rotate_left
    ·simp only[Act.put,List.setIfInBounds_toArray,List.set_cons_zero,List.set_cons_succ,ZH,ZI]
     rfl
    refine take_ (i:=0) (N:=some 26) (v:=?_) (a':=?_) #[true,true,true,false,false,false,true,true,false,false,false,false,false,false,false] rfl rfl (ZaG HT_.out HW_.out (by kernel_rfl)) (fun _ _ _ h=>h) (Or.inl ⟨by rfl,?_⟩) hHeld ?_ ?_
    rotate_left
    ·rintro w' ⟨s0,s1⟩
     go_simp
     with_reducible rfl
    rotate_left
    ·simp only[Act.put,List.setIfInBounds_toArray,List.set_cons_zero,List.set_cons_succ,ZH,ZI]
     rfl
    refine take_ (i:=5) (N:=some 31) (v:=?_) (a':=?_) #[true,true,true,false,false,true,true,true,false,false,false,false,false,false,false] rfl rfl (ZaG HT_.out HW_.out (by kernel_rfl)) (fun _ _ _ h=>h) (Or.inl ⟨by rfl,?_⟩) hHeld ?_ ?_
    rotate_left
    ·rintro w' ⟨s0,s1⟩
     go_simp
     with_reducible rfl
    rotate_left
    ·simp only[Act.put,List.setIfInBounds_toArray,List.set_cons_zero,List.set_cons_succ,ZH,ZI]
     rfl
    refine one_ (i:=3) (N:=some 29) #[true,true,true,true,false,true,true,true,false,false,false,false,false,false,false] rfl rfl (Zas HT_.out (by kernel_rfl)) (by decide) (fun K hK=>?_)
    refine ZaT Try.func87 (by kernel_rfl) rfl #[.agg #[.int .i64 a0_0,.slice A0_1 l0_1.length c0_1],.int .i64 a2,.int .i64 a1] (by rfl) rfl rfl (by(try simp only[List.map_toArray,List.map_cons,List.map_nil]);first|done|rfl|(simp only[Zj,Zi];rfl)) ?_
    with_reducible refine(ZaA.calls a0_0 _ _ l0_1 a2 a1 t48006 _ ?side1 ?side2 A26.out).mono ?_
    (case side1=>repeat(first|exact(Kd.C_below HR0_1.out HB.out)|(with_reducible refine Kd.C_alloc ?_ _)|(with_reducible refine Kd.C_drewN ?_ _)|(with_reducible refine Kd.C_drew ?_)))
    (case side2=>exact HC0_1.out)
    rintro e w30 ⟨rfl,hb⟩
    refine⟨_,rfl,?_⟩
    replace BK48001:=Za (Zx (g:=gb48001) (o:=.cells #[.int .i64 a0_0,.slice A0_1 l0_1.length c0_1] 73 (0,0)) (by(with_reducible repeat(first|refine Zn ?_ _|refine Zp ?_|refine Zm ?_ _));exact BK48001.out) hb);replace BK48002:=Za (Zx (g:=gb48002) (o:=.cells #[.int .i64 0,.int .i64 0] 35 (0,0)) (by(with_reducible repeat(first|refine Zn ?_ _|refine Zp ?_|refine Zm ?_ _));exact BK48002.out) hb);replace HB:=Za (Zw (by repeat(first|(with_reducible first|exact HB.out|apply Zq|apply Zl|apply Zr|refine Zo ?_ GE48001.out|refine Zo ?_ GE48002.out)|exact HB.out)) hb)
    (try clear hb)
    (try clear hb2)
    (try clear hk)
    (try clear hi)
    refine hK.out _ _ ⟨(Zt BK48001.out 0).trans rfl,(Zt BK48001.out 1).trans rfl⟩ (fun hHeld=>?_)
    clear hK K
    refine Zae (a':=?_) ?_ ?_
    rotate_left
    ·show Act.put _ (some 29) _=_
     simp only[Act.put,List.setIfInBounds_toArray,List.set_cons_zero,List.set_cons_succ,ZH,ZI]
     rfl
    refine Z1 (i:=4) (N:=some 30) (v:=?_) (a':=?_) #[true,true,true,true,true,true,true,true,false,false,false,false,false,false,false] rfl rfl (ZW HT_.out (by kernel_rfl)) (fun _ _ _ h=>h) (Or.inl ⟨by rfl,?_⟩) ?_ ?_
    rotate_left
    ·intro w'
     go_simp
     with_reducible rfl
    rotate_left
    ·simp only[Act.put,List.setIfInBounds_toArray,List.set_cons_zero,List.set_cons_succ,ZH,ZI]
     rfl
    refine one_ (i:=8) (N:=some 34) #[true,true,true,true,true,true,true,true,true,false,false,false,false,false,false] rfl rfl (Zas HT_.out (by kernel_rfl)) (by decide) (fun K hK=>?_)
    refine ZaT Try.func87 (by kernel_rfl) rfl #[.agg #[.int .i64 a0_0,.slice A0_1 l0_1.length c0_1],.int .i64 a1,.int .i64 a2] (by rfl) rfl rfl (by(try simp only[List.map_toArray,List.map_cons,List.map_nil]);first|done|rfl|(simp only[Zj,Zi];rfl)) ?_
    with_reducible refine(ZaA.calls a0_0 _ _ l0_1 a1 a2 t48007 _ ?side1 ?side2 A27.out).mono ?_
    (case side1=>repeat(first|exact(Kd.C_below HR0_1.out HB.out)|(with_reducible refine Kd.C_alloc ?_ _)|(with_reducible refine Kd.C_drewN ?_ _)|(with_reducible refine Kd.C_drew ?_)))
    (case side2=>exact HC0_1.out)
    rintro e w31 ⟨rfl,hb⟩
    refine⟨_,rfl,?_⟩
    replace BK48001:=Za (Zx (g:=gb48001) (o:=.cells #[.int .i64 a0_0,.slice A0_1 l0_1.length c0_1] 73 (0,0)) (by(with_reducible repeat(first|refine Zn ?_ _|refine Zp ?_|refine Zm ?_ _));exact BK48001.out) hb);replace BK48002:=Za (Zx (g:=gb48002) (o:=.cells #[.int .i64 0,.int .i64 0] 35 (0,0)) (by(with_reducible repeat(first|refine Zn ?_ _|refine Zp ?_|refine Zm ?_ _));exact BK48002.out) hb);replace HB:=Za (Zw (by repeat(first|(with_reducible first|exact HB.out|apply Zq|apply Zl|apply Zr|refine Zo ?_ GE48001.out|refine Zo ?_ GE48002.out)|exact HB.out)) hb)
    (try clear hb)
    (try clear hb2)
    (try clear hk)
    (try clear hi)
    refine hK.out _ _ ⟨(Zt BK48001.out 0).trans rfl,(Zt BK48001.out 1).trans rfl⟩ (fun hHeld=>?_)
    clear hK K
    refine Zae (a':=?_) ?_ ?_
    rotate_left
    ·show Act.put _ (some 34) _=_
     simp only[Act.put,List.setIfInBounds_toArray,List.set_cons_zero,List.set_cons_succ,ZH,ZI]
     rfl
    refine Z1 (i:=9) (N:=some 35) (v:=?_) (a':=?_) #[true,true,true,true,true,true,true,true,true,true,false,false,false,false,false] rfl rfl (ZW HT_.out (by kernel_rfl)) (fun _ _ _ h=>h) (Or.inl ⟨by rfl,?_⟩) ?_ ?_
    rotate_left
    ·intro w'
     go_simp
     with_reducible rfl
    rotate_left
    ·simp only[Act.put,List.setIfInBounds_toArray,List.set_cons_zero,List.set_cons_succ,ZH,ZI]
     rfl
    refine one_ (i:=10) (N:=some 36) #[true,true,true,true,true,true,true,true,true,true,true,false,false,false,false] rfl rfl (Zas HT_.out (by kernel_rfl)) (by decide) (fun K hK=>?_)
    refine ZaT Try.func86 (by kernel_rfl) rfl #[.agg #[.int .i64 (wrap64 (-t48006)),.int .i64 t48007],.bool true] (by rfl) rfl rfl (by(try simp only[List.map_toArray,List.map_cons,List.map_nil]);first|done|rfl|(simp only[Zj,Zi];rfl)) ?_
    with_reducible refine(ZaX.calls (wrap64 (-t48006)) t48007 true t48008 t48009 t48010 _ A28.out).mono ?_
    rintro e w32 ⟨rfl,hb⟩
    refine⟨_,rfl,?_⟩
    replace BK48001:=Za (Zx (g:=gb48001) (o:=.cells #[.int .i64 a0_0,.slice A0_1 l0_1.length c0_1] 73 (0,0)) (by(with_reducible repeat(first|refine Zn ?_ _|refine Zp ?_|refine Zm ?_ _));exact BK48001.out) hb);replace BK48002:=Za (Zx (g:=gb48002) (o:=.cells #[.int .i64 0,.int .i64 0] 35 (0,0)) (by(with_reducible repeat(first|refine Zn ?_ _|refine Zp ?_|refine Zm ?_ _));exact BK48002.out) hb);replace HB:=Za (Zw (by repeat(first|(with_reducible first|exact HB.out|apply Zq|apply Zl|apply Zr|refine Zo ?_ GE48001.out|refine Zo ?_ GE48002.out)|exact HB.out)) hb)
    (try clear hb)
    (try clear hb2)
    (try clear hk)
    (try clear hi)
    refine hK.out _ _ ⟨(Zt BK48001.out 0).trans rfl,(Zt BK48001.out 1).trans rfl⟩ (fun hHeld=>?_)
    clear hK K
    refine Zae (a':=?_) ?_ ?_
    rotate_left
    ·show Act.put _ (some 36) _=_
     simp only[Act.put,List.setIfInBounds_toArray,List.set_cons_zero,List.set_cons_succ,ZH,ZI]
     rfl
    refine Z1 (i:=11) (N:=some 37) (v:=?_) (a':=?_) #[true,true,true,true,true,true,true,true,true,true,true,true,false,false,false] rfl rfl (ZW HT_.out (by kernel_rfl)) (fun _ _ _ h=>h) (Or.inl ⟨by rfl,?_⟩) ?_ ?_
    rotate_left
    ·intro w'
     go_simp
     with_reducible rfl
    rotate_left
    ·simp only[Act.put,List.setIfInBounds_toArray,List.set_cons_zero,List.set_cons_succ,ZH,ZI]
     rfl
    refine Z1 (i:=12) (N:=some 38) (v:=?_) (a':=?_) #[true,true,true,true,true,true,true,true,true,true,true,true,true,false,false] rfl rfl (ZW HT_.out (by kernel_rfl)) (fun _ _ _ h=>h) (Or.inl ⟨by rfl,?_⟩) ?_ ?_
    rotate_left
    ·intro w'
     go_simp
     with_reducible rfl
    rotate_left
    ·simp only[Act.put,List.setIfInBounds_toArray,List.set_cons_zero,List.set_cons_succ,ZH,ZI]
     rfl
    refine one_ (i:=13) (N:=none) #[true,true,true,true,true,true,true,true,true,true,true,true,true,true,false] rfl rfl (Zas HT_.out (by kernel_rfl)) (by decide) (fun K hK=>?_)
    have hs33:w32.cell? ⟨gb48002,0,none⟩=some (.int .i64 0):=(Zt BK48002.out 0).trans rfl
    have hfs33:=Zu BK48002.out 0
    have hns33_0:=NB48001_48002.out
    have hms33_0:=NB48002_48001.out
    have hs34:w32.cell? ⟨gb48002,1,none⟩=some (.int .i64 0):=(Zt BK48002.out 1).trans rfl
    have hfs34:=Zu BK48002.out 1
    have hns34_0:=NB48001_48002.out
    have hms34_0:=NB48002_48001.out
    refine skip_ (w1:=?_) (by rfl) rfl ?_ ?_
    rotate_left
    ·go_simp
     rfl
    refine hK.out _ _ ⟨((ZaC (p:=⟨gb48002,_,none⟩) NB48001_48002.out _).trans (((ZaC (p:=⟨gb48002,_,none⟩) NB48001_48002.out _).trans (hHeld.1)))),((ZaC (p:=⟨gb48002,_,none⟩) NB48001_48002.out _).trans (((ZaC (p:=⟨gb48002,_,none⟩) NB48001_48002.out _).trans (hHeld.2))))⟩ (fun hHeld=>?_)
    clear hK K
    refine Z1 (i:=14) (N:=some 7) (v:=?_) (a':=?_) #[true,true,true,true,true,true,true,true,true,true,true,true,true,true,true] rfl rfl (ZW HT_.out (by kernel_rfl)) (fun _ _ _ h=>h) (Or.inl ⟨by rfl,?_⟩) ?_ ?_
    rotate_left
    ·intro w'
     go_simp
     with_reducible rfl
    rotate_left
    ·simp only[Act.put,List.setIfInBounds_toArray,List.set_cons_zero,List.set_cons_succ,ZH,ZI]
     rfl
    refine ZbC (Zbr HT_.out (by kernel_rfl)) ?_
    try go_wp2
    refine bodyPost_ret (ZaB rfl _ _ gb48002 35 #[.int .i64 t48008,.int .i64 t48009] (0,0) _ rfl (by(with_reducible repeat(first|refine Zn ?_ _|refine Zp ?_|refine Zm ?_ _));refine ZJ (cs:=#[.int .i64 t48008,.int .i64 0]) ?_ 1 _ rfl;(with_reducible repeat(first|refine Zn ?_ _|refine Zp ?_|refine Zm ?_ _));refine ZJ (cs:=#[.int .i64 0,.int .i64 0]) ?_ 0 _ rfl;(with_reducible repeat(first|refine Zn ?_ _|refine Zp ?_|refine Zm ?_ _));exact BK48002.out) Try.underlying35 rfl (by kernel_rfl)) rfl ?_
    exact⟨by first|rfl|(simp[ZB,ZA] <;> rfl)|(simp[*,ZB,ZA] <;> rfl),by repeat(first|(with_reducible first|exact HB.out|apply Zq|apply Zl|apply Zr|refine Zo ?_ GE48001.out|refine Zo ?_ GE48002.out)|exact HB.out)⟩
def Zaz.f (k:Nat) (a0_0:Int) (l0_1:List (S84)) (a1:Int):Option (Int×Int×Bool):=(ZaK.f k a0_0 l0_1).bind fun bt15003=>((ZD.f k bt15003.1 bt15003.2).bind fun bt15007=>(if bt15007.2.2=true then((Z0.f a0_0 l0_1).bind fun t15013=>(if t15013=true then((ZC.f k bt15007.1 bt15007.2.1 0 a1).bind fun bt15014=>(some (bt15014.1,bt15014.2.1,bt15014.2.2))) else(some (0,0,false)))) else(some (0,0,false))))
set_option maxHeartbeats 8000000 in
set_option maxRecDepth 100000 in
theorem Zaz.calls (k:Nat) (a0_0:Int) (A0_1:Option Addr) (c0_1:Nat) (l0_1:List (S84)) (a1:Int) (r1:Int) (r2:Int) (r3:Bool) (w:World) (hr0_1:Kd.C k84 w A0_1 l0_1.length l0_1) (hc0_1:l0_1.length≤c0_1) (h:Zaz.f k a0_0 l0_1 a1=some (r1,r2,r3)) :
  Calls Try.prog 15 #[.agg #[.int .i64 a0_0,.slice A0_1 l0_1.length c0_1],.int .i64 a1] w fun e w'=>e=.returned (.tuple #[.agg #[.int .i64 r1,.int .i64 r2],.bool r3])∧Below w.heap.size w w':=by
 have hu31:=Try.underlying31
 have hu35:=Try.underlying35
 have hu73:=Try.underlying73
 have HR0_1:=Za hr0_1;have HC0_1:=Za hc0_1;clear hr0_1 hc0_1
 have HB:=Za (Below.refl w.heap.size w)
 have H:((ZaK.f k a0_0 l0_1).bind fun bt15003=>((ZD.f k bt15003.1 bt15003.2).bind fun bt15007=>(if bt15007.2.2=true then((Z0.f a0_0 l0_1).bind fun t15013=>(if t15013=true then((ZC.f k bt15007.1 bt15007.2.1 0 a1).bind fun bt15014=>(some (bt15014.1,bt15014.2.1,bt15014.2.2))) else(some (0,0,false)))) else(some (0,0,false)))))=some (r1,r2,r3):=h
 clear h
 replace H:=Zg H
 obtain⟨⟨t15003,t15004⟩,A30,H⟩:=H
 replace H:((ZD.f k t15003 t15004).bind fun bt15007=>(if bt15007.2.2=true then((Z0.f a0_0 l0_1).bind fun t15013=>(if t15013=true then((ZC.f k bt15007.1 bt15007.2.1 0 a1).bind fun bt15014=>(some (bt15014.1,bt15014.2.1,bt15014.2.2))) else(some (0,0,false)))) else(some (0,0,false))))=some (r1,r2,r3):=H
 have A3:=Za A30;clear A30
 replace H:=Zg H
 obtain⟨⟨t15007,t15008,t15011⟩,A40,H⟩:=H
 replace H:(if t15011=true then((Z0.f a0_0 l0_1).bind fun t15013=>(if t15013=true then((ZC.f k t15007 t15008 0 a1).bind fun bt15014=>(some (bt15014.1,bt15014.2.1,bt15014.2.2))) else(some (0,0,false)))) else(some (0,0,false)))=some (r1,r2,r3):=H
 have A4:=Za A40;clear A40
 by_cases c5:t15011=true
 ·subst c5
  have H1:((Z0.f a0_0 l0_1).bind fun t15013=>(if t15013=true then((ZC.f k t15007 t15008 0 a1).bind fun bt15014=>(some (bt15014.1,bt15014.2.1,bt15014.2.2))) else(some (0,0,false))))=some (r1,r2,r3):=by rw[if_pos rfl] at H;exact H
  clear H
  have H:=H1
  clear H1
  replace H:=Zg H
  obtain⟨t15013,A60,H⟩:=H
  replace H:(if t15013=true then((ZC.f k t15007 t15008 0 a1).bind fun bt15014=>(some (bt15014.1,bt15014.2.1,bt15014.2.2))) else(some (0,0,false)))=some (r1,r2,r3):=H
  have A6:=Za A60;clear A60
  by_cases c7:t15013=true
  ·subst c7
   have H1:((ZC.f k t15007 t15008 0 a1).bind fun bt15014=>(some (bt15014.1,bt15014.2.1,bt15014.2.2)))=some (r1,r2,r3):=by rw[if_pos rfl] at H;exact H
   clear H
   have H:=H1
   clear H1
   replace H:=Zg H
   obtain⟨⟨t15014,t15015,t15016⟩,A80,H⟩:=H
   replace H:(some (t15014,t15015,t15016))=some (r1,r2,r3):=H
   have A8:=Za A80;clear A80
   simp only[Option.some.injEq,Prod.mk.injEq] at H
   obtain⟨rfl,rfl,rfl⟩:=H
   go_enter Try.func15,Try.ntmps15
   go_wp2_with (first|((with_reducible refine ZP (N:=2) rfl ?_);refine ZM ?hg (N:=2) ?hd (cs:=#[.int .i64 a0_0,.slice A0_1 l0_1.length c0_1]) (t:=31) ?hr ?_;(case hd=>rfl);(case hg=>rfl);(case hr=>first|(go_simp;done)|(go_simp;rfl));intro gb15001 hg w9 hbox hb;have BK15001:=Za (hbox);have GW15001:=Za ((by rw[hg];exact(Zv (by repeat(first|(with_reducible first|exact HB.out|apply Zq|apply Zl|apply Zr)|exact HB.out))):w.heap.size≤gb15001));have GE15001:=Za ((by rw[hg];exact(Zv (by repeat(first|(with_reducible first|exact HB.out|apply Zq|apply Zl|apply Zr)|exact HB.out))):w.heap.size≤gb15001));replace HB:=Za (Zw (by repeat(first|(with_reducible first|exact HB.out|apply Zq|apply Zl|apply Zr)|exact HB.out)) hb);clear hb hbox hg)|((with_reducible refine ZP (N:=4) rfl ?_);refine ZM ?hg (N:=4) ?hd (cs:=#[.int .i64 0,.int .i64 0]) (t:=35) ?hr ?_;(case hd=>rfl);(case hg=>rfl);(case hr=>first|(go_simp;done)|(go_simp;rfl));intro gb15002 hg w10 hbox hb;have BK15002:=Za (hbox);have GW15002:=Za ((by rw[hg];exact(Zv (by repeat(first|(with_reducible first|exact HB.out|apply Zq|apply Zl|apply Zr|refine Zo ?_ GE15001.out)|exact HB.out))):w.heap.size≤gb15002));have GE15002:=Za ((by rw[hg];exact(Zv (by repeat(first|(with_reducible first|exact HB.out|apply Zq|apply Zl|apply Zr|refine Zo ?_ GE15001.out)|exact HB.out))):w.heap.size≤gb15002));have NB15001_15002:=Za ((by rw[hg];exact Nat.ne_of_lt (ZL (g:=gb15001) (o:=.cells #[.int .i64 a0_0,.slice A0_1 l0_1.length c0_1] 31 (0,0)) (by(with_reducible repeat(first|refine Zn ?_ _|refine Zp ?_|refine Zm ?_ _));exact BK15001.out)):gb15001≠gb15002));have NB15002_15001:=Za ((by rw[hg];exact Nat.ne_of_gt (ZL (g:=gb15001) (o:=.cells #[.int .i64 a0_0,.slice A0_1 l0_1.length c0_1] 31 (0,0)) (by(with_reducible repeat(first|refine Zn ?_ _|refine Zp ?_|refine Zm ?_ _));exact BK15001.out)):gb15002≠gb15001));replace BK15001:=Za (Zx (g:=gb15001) (o:=.cells #[.int .i64 a0_0,.slice A0_1 l0_1.length c0_1] 31 (0,0)) (by(with_reducible repeat(first|refine Zn ?_ _|refine Zp ?_|refine Zm ?_ _));exact BK15001.out) hb);replace HB:=Za (Zw (by repeat(first|(with_reducible first|exact HB.out|apply Zq|apply Zl|apply Zr|refine Zo ?_ GE15001.out)|exact HB.out)) hb);clear hb hbox hg;have hnb11:=NB15001_15002.out;have hnc11:=NB15002_15001.out;have hcz12_0:w10.cell? ⟨gb15001,0,none⟩=some (.int .i64 a0_0):=(Zt BK15001.out 0).trans rfl;have hcz12_1:w10.cell? ⟨gb15001,1,none⟩=some (.slice A0_1 l0_1.length c0_1):=(Zt BK15001.out 1).trans rfl;have hfz12_0:=Zu BK15001.out 0;have hfz12_1:=Zu BK15001.out 1)|((with_reducible refine ZO (f:=47) rfl ?_);refine Z6 (some 10) rfl rfl Try.func47 (by kernel_rfl) rfl #[.agg #[.int .i64 a0_0,.slice A0_1 l0_1.length c0_1]] rfl (by(try simp only[List.map_toArray,List.map_cons,List.map_nil]);first|done|rfl|(simp only[Zj,Zi];rfl)) ?_;(with_reducible refine(ZaK.calls k a0_0 _ _ l0_1 t15003 t15004 _ ?side1 ?side2 A3.out).mono ?_);(case side1=>repeat(first|exact(Kd.C_below HR0_1.out HB.out)|(with_reducible refine Kd.C_alloc ?_ _)|(with_reducible refine Kd.C_drewN ?_ _)|(with_reducible refine Kd.C_drew ?_)));(case side2=>exact HC0_1.out);rintro e w13 ⟨v15005,rfl,ho0,hb⟩;refine⟨_,rfl,?_⟩;have HO15006:=Za (Kd.R_lower ho0 (Zv (by repeat(first|(with_reducible first|exact HB.out|apply Zq|apply Zl|apply Zr|refine Zo ?_ GE15001.out|refine Zo ?_ GE15002.out)|exact HB.out))));replace BK15001:=Za (Zx (g:=gb15001) (o:=.cells #[.int .i64 a0_0,.slice A0_1 l0_1.length c0_1] 31 (0,0)) (by(with_reducible repeat(first|refine Zn ?_ _|refine Zp ?_|refine Zm ?_ _));exact BK15001.out) hb);replace BK15002:=Za (Zx (g:=gb15002) (o:=.cells #[.int .i64 0,.int .i64 0] 35 (0,0)) (by(with_reducible repeat(first|refine Zn ?_ _|refine Zp ?_|refine Zm ?_ _));exact BK15002.out) hb);replace HB:=Za (Zw (by repeat(first|(with_reducible first|exact HB.out|apply Zq|apply Zl|apply Zr|refine Zo ?_ GE15001.out|refine Zo ?_ GE15002.out)|exact HB.out)) hb);(try clear hb);(try clear hb2);(try clear hk);(try clear hi);(try clear ho0);obtain⟨Ao14,co14,eo14⟩:=Kd.R_slice HO15006.out;subst eo14)|((with_reducible refine ZO (f:=46) rfl ?_);refine Z6 (some 11) rfl rfl Try.func46 (by kernel_rfl) rfl #[.agg #[.int .i64 t15003,.slice Ao14 t15004.length co14]] rfl (by(try simp only[List.map_toArray,List.map_cons,List.map_nil]);first|done|rfl|(simp only[Zj,Zi];rfl)) ?_;(with_reducible refine(ZD.calls k t15003 _ _ t15004 t15007 t15008 true _ ?side1 ?side2 A4.out).mono ?_);(case side1=>repeat(first|exact(Kd.R_reads' HO15006.out).2.2|(with_reducible refine Kd.C_alloc ?_ _)|(with_reducible refine Kd.C_drewN ?_ _)|(with_reducible refine Kd.C_drew ?_)));(case side2=>exact(Kd.R_reads' HO15006.out).2.1);rintro e w15 ⟨v15009,rfl,ho0,hb⟩;refine⟨_,rfl,?_⟩;have HO15010:=Za (Kd.R_lower ho0 (Zv (by repeat(first|(with_reducible first|exact HB.out|apply Zq|apply Zl|apply Zr|refine Zo ?_ GE15001.out|refine Zo ?_ GE15002.out)|exact HB.out))));replace HO15006:=Za (Kd.R_below (by(with_reducible repeat(first|apply Kd.R_alloc|apply Kd.R_drewN|apply Kd.R_drew));exact HO15006.out) hb);replace BK15001:=Za (Zx (g:=gb15001) (o:=.cells #[.int .i64 a0_0,.slice A0_1 l0_1.length c0_1] 31 (0,0)) (by(with_reducible repeat(first|refine Zn ?_ _|refine Zp ?_|refine Zm ?_ _));exact BK15001.out) hb);replace BK15002:=Za (Zx (g:=gb15002) (o:=.cells #[.int .i64 0,.int .i64 0] 35 (0,0)) (by(with_reducible repeat(first|refine Zn ?_ _|refine Zp ?_|refine Zm ?_ _));exact BK15002.out) hb);replace HB:=Za (Zw (by repeat(first|(with_reducible first|exact HB.out|apply Zq|apply Zl|apply Zr|refine Zo ?_ GE15001.out|refine Zo ?_ GE15002.out)|exact HB.out)) hb);(try clear hb);(try clear hb2);(try clear hk);(try clear hi);(try clear ho0))|((with_reducible refine ZP (N:=6) rfl ?_);refine ZM ?hg (N:=6) ?hd (cs:=#[.int .i64 0,.slice none 0 0]) (t:=73) ?hr ?_;(case hd=>rfl);(case hg=>rfl);(case hr=>first|(go_simp;done)|(go_simp;rfl));intro gb15012 hg w16 hbox hb;have BK15012:=Za (hbox);have GW15012:=Za ((by rw[hg];exact(Zv (by repeat(first|(with_reducible first|exact HB.out|apply Zq|apply Zl|apply Zr|refine Zo ?_ GE15001.out|refine Zo ?_ GE15002.out)|exact HB.out))):w.heap.size≤gb15012));have GE15012:=Za ((by rw[hg];exact(Zv (by repeat(first|(with_reducible first|exact HB.out|apply Zq|apply Zl|apply Zr|refine Zo ?_ GE15001.out|refine Zo ?_ GE15002.out)|exact HB.out))):w.heap.size≤gb15012));have NB15001_15012:=Za ((by rw[hg];exact Nat.ne_of_lt (ZL (g:=gb15001) (o:=.cells #[.int .i64 a0_0,.slice A0_1 l0_1.length c0_1] 31 (0,0)) (by(with_reducible repeat(first|refine Zn ?_ _|refine Zp ?_|refine Zm ?_ _));exact BK15001.out)):gb15001≠gb15012));have NB15012_15001:=Za ((by rw[hg];exact Nat.ne_of_gt (ZL (g:=gb15001) (o:=.cells #[.int .i64 a0_0,.slice A0_1 l0_1.length c0_1] 31 (0,0)) (by(with_reducible repeat(first|refine Zn ?_ _|refine Zp ?_|refine Zm ?_ _));exact BK15001.out)):gb15012≠gb15001));have NB15002_15012:=Za ((by rw[hg];exact Nat.ne_of_lt (ZL (g:=gb15002) (o:=.cells #[.int .i64 0,.int .i64 0] 35 (0,0)) (by(with_reducible repeat(first|refine Zn ?_ _|refine Zp ?_|refine Zm ?_ _));exact BK15002.out)):gb15002≠gb15012));have NB15012_15002:=Za ((by rw[hg];exact Nat.ne_of_gt (ZL (g:=gb15002) (o:=.cells #[.int .i64 0,.int .i64 0] 35 (0,0)) (by(with_reducible repeat(first|refine Zn ?_ _|refine Zp ?_|refine Zm ?_ _));exact BK15002.out)):gb15012≠gb15002));replace HO15006:=Za (Kd.R_below (by(with_reducible repeat(first|apply Kd.R_alloc|apply Kd.R_drewN|apply Kd.R_drew));exact HO15006.out) hb);replace HO15010:=Za (Kd.R_below (by(with_reducible repeat(first|apply Kd.R_alloc|apply Kd.R_drewN|apply Kd.R_drew));exact HO15010.out) hb);replace BK15001:=Za (Zx (g:=gb15001) (o:=.cells #[.int .i64 a0_0,.slice A0_1 l0_1.length c0_1] 31 (0,0)) (by(with_reducible repeat(first|refine Zn ?_ _|refine Zp ?_|refine Zm ?_ _));exact BK15001.out) hb);replace BK15002:=Za (Zx (g:=gb15002) (o:=.cells #[.int .i64 0,.int .i64 0] 35 (0,0)) (by(with_reducible repeat(first|refine Zn ?_ _|refine Zp ?_|refine Zm ?_ _));exact BK15002.out) hb);replace HB:=Za (Zw (by repeat(first|(with_reducible first|exact HB.out|apply Zq|apply Zl|apply Zr|refine Zo ?_ GE15001.out|refine Zo ?_ GE15002.out)|exact HB.out)) hb);clear hb hbox hg;have hnb17:=NB15012_15001.out;have hnc17:=NB15001_15012.out;have hnb18:=NB15012_15002.out;have hnc18:=NB15002_15012.out;have hcz19_0:w16.cell? ⟨gb15012,0,none⟩=some (.int .i64 0):=(Zt BK15012.out 0).trans rfl;have hcz19_1:w16.cell? ⟨gb15012,1,none⟩=some (.slice none 0 0):=(Zt BK15012.out 1).trans rfl;have hfz19_0:=Zu BK15012.out 0;have hfz19_1:=Zu BK15012.out 1;obtain⟨Ao20,co20,eo20⟩:=Kd.R_slice HO15010.out;subst eo20;have hcz21_0:w16.cell? ⟨gb15001,0,none⟩=some (.int .i64 a0_0):=(Zt BK15001.out 0).trans rfl;have hcz21_1:w16.cell? ⟨gb15001,1,none⟩=some (.slice A0_1 l0_1.length c0_1):=(Zt BK15001.out 1).trans rfl;have hfz21_0:=Zu BK15001.out 0;have hfz21_1:=Zu BK15001.out 1)|(go_at_call 17;(with_reducible refine(Z0.calls a0_0 _ _ l0_1 true _ ?side1 ?side2 A6.out).mono ?_);(case side1=>exact Kd.C_below HR0_1.out (by repeat(first|(with_reducible first|exact HB.out|apply Zq|apply Zl|apply Zr|refine Zo ?_ GE15001.out|refine Zo ?_ GE15002.out|refine Zo ?_ GE15012.out)|exact HB.out)));(case side2=>exact HC0_1.out);rintro e w22 ⟨rfl,hb⟩;replace HO15006:=Za (Kd.R_below (by(with_reducible repeat(first|apply Kd.R_alloc|apply Kd.R_drewN|apply Kd.R_drew));exact(Kd.R_mono (Kd.R_far (p:=⟨gb15012,1,none⟩) (Kd.R_far (p:=⟨gb15012,0,none⟩) (Kd.R_types HO15006.out BK15012.out (by decide)) (fun _ hk=>hk.2) (.int .i64 t15007)) (fun _ hk=>hk.2) (.slice Ao20 t15008.length co20)) (fun _ h_=>h_.1))) hb);replace HO15010:=Za (Kd.R_below (by(with_reducible repeat(first|apply Kd.R_alloc|apply Kd.R_drewN|apply Kd.R_drew));exact(Kd.R_mono (Kd.R_far (p:=⟨gb15012,1,none⟩) (Kd.R_far (p:=⟨gb15012,0,none⟩) (Kd.R_types HO15010.out BK15012.out (by decide)) (fun _ hk=>hk.2) (.int .i64 t15007)) (fun _ hk=>hk.2) (.slice Ao20 t15008.length co20)) (fun _ h_=>h_.1))) hb);replace BK15001:=Za (Zx (g:=gb15001) (o:=.cells #[.int .i64 a0_0,.slice A0_1 l0_1.length c0_1] 31 (0,0)) (by(with_reducible repeat(first|refine Zn ?_ _|refine Zp ?_|refine Zm ?_ _));refine ZE ?_ NB15001_15012.out _;(with_reducible repeat(first|refine Zn ?_ _|refine Zp ?_|refine Zm ?_ _));refine ZE ?_ NB15001_15012.out _;(with_reducible repeat(first|refine Zn ?_ _|refine Zp ?_|refine Zm ?_ _));exact BK15001.out) hb);replace BK15002:=Za (Zx (g:=gb15002) (o:=.cells #[.int .i64 0,.int .i64 0] 35 (0,0)) (by(with_reducible repeat(first|refine Zn ?_ _|refine Zp ?_|refine Zm ?_ _));refine ZE ?_ NB15002_15012.out _;(with_reducible repeat(first|refine Zn ?_ _|refine Zp ?_|refine Zm ?_ _));refine ZE ?_ NB15002_15012.out _;(with_reducible repeat(first|refine Zn ?_ _|refine Zp ?_|refine Zm ?_ _));exact BK15002.out) hb);replace BK15012:=Za (Zx (g:=gb15012) (o:=.cells #[.int .i64 t15007,.slice Ao20 t15008.length co20] 73 (0,0)) (by(with_reducible repeat(first|refine Zn ?_ _|refine Zp ?_|refine Zm ?_ _));refine ZJ (cs:=#[.int .i64 t15007,.slice none 0 0]) ?_ 1 _ rfl;(with_reducible repeat(first|refine Zn ?_ _|refine Zp ?_|refine Zm ?_ _));refine ZJ (cs:=#[.int .i64 0,.slice none 0 0]) ?_ 0 _ rfl;(with_reducible repeat(first|refine Zn ?_ _|refine Zp ?_|refine Zm ?_ _));exact BK15012.out) hb);replace HB:=Za (Zw (by repeat(first|(with_reducible first|exact HB.out|apply Zq|apply Zl|apply Zr|refine Zo ?_ GE15001.out|refine Zo ?_ GE15002.out|refine Zo ?_ GE15012.out)|exact HB.out)) hb);(try clear hb);(try clear hb2);(try clear hk);(try clear hi);have hcz23_0:w22.cell? ⟨gb15012,0,none⟩=some (.int .i64 t15007):=(Zt BK15012.out 0).trans rfl;have hcz23_1:w22.cell? ⟨gb15012,1,none⟩=some (.slice Ao20 t15008.length co20):=(Zt BK15012.out 1).trans rfl;have hfz23_0:=Zu BK15012.out 0;have hfz23_1:=Zu BK15012.out 1)|((with_reducible refine ZO (f:=48) rfl ?_);refine Z6 (some 24) rfl rfl Try.func48 (by kernel_rfl) rfl #[.agg #[.int .i64 t15007,.slice Ao20 t15008.length co20],.int .i64 0,.int .i64 a1] rfl (by(try simp only[List.map_toArray,List.map_cons,List.map_nil]);first|done|rfl|(simp only[Zj,Zi];rfl)) ?_;(with_reducible refine(ZC.calls k t15007 _ _ t15008 0 a1 t15014 t15015 t15016 _ ?side1 ?side2 A8.out).mono ?_);(case side1=>repeat(first|exact(Kd.R_reads' HO15010.out).2.2|(with_reducible refine Kd.C_alloc ?_ _)|(with_reducible refine Kd.C_drewN ?_ _)|(with_reducible refine Kd.C_drew ?_)));(case side2=>exact(Kd.R_reads' HO15010.out).2.1);rintro e w24 ⟨rfl,hb⟩;refine⟨_,rfl,?_⟩;replace HO15006:=Za (Kd.R_below (by(with_reducible repeat(first|apply Kd.R_alloc|apply Kd.R_drewN|apply Kd.R_drew));exact HO15006.out) hb);replace HO15010:=Za (Kd.R_below (by(with_reducible repeat(first|apply Kd.R_alloc|apply Kd.R_drewN|apply Kd.R_drew));exact HO15010.out) hb);replace BK15001:=Za (Zx (g:=gb15001) (o:=.cells #[.int .i64 a0_0,.slice A0_1 l0_1.length c0_1] 31 (0,0)) (by(with_reducible repeat(first|refine Zn ?_ _|refine Zp ?_|refine Zm ?_ _));exact BK15001.out) hb);replace BK15002:=Za (Zx (g:=gb15002) (o:=.cells #[.int .i64 0,.int .i64 0] 35 (0,0)) (by(with_reducible repeat(first|refine Zn ?_ _|refine Zp ?_|refine Zm ?_ _));exact BK15002.out) hb);replace BK15012:=Za (Zx (g:=gb15012) (o:=.cells #[.int .i64 t15007,.slice Ao20 t15008.length co20] 73 (0,0)) (by(with_reducible repeat(first|refine Zn ?_ _|refine Zp ?_|refine Zm ?_ _));exact BK15012.out) hb);replace HB:=Za (Zw (by repeat(first|(with_reducible first|exact HB.out|apply Zq|apply Zl|apply Zr|refine Zo ?_ GE15001.out|refine Zo ?_ GE15002.out|refine Zo ?_ GE15012.out)|exact HB.out)) hb);(try clear hb);(try clear hb2);(try clear hk);(try clear hi);have hcz25_0:w24.cell? ⟨gb15002,0,none⟩=some (.int .i64 0):=(Zt BK15002.out 0).trans rfl;have hcz25_1:w24.cell? ⟨gb15002,1,none⟩=some (.int .i64 0):=(Zt BK15002.out 1).trans rfl;have hfz25_0:=Zu BK15002.out 0;have hfz25_1:=Zu BK15002.out 1))
   refine bodyPost_ret (ZaB rfl _ _ gb15002 35 #[.int .i64 t15014,.int .i64 t15015] (0,0) _ rfl (by(with_reducible repeat(first|refine Zn ?_ _|refine Zp ?_|refine Zm ?_ _));refine ZJ (cs:=#[.int .i64 t15014,.int .i64 0]) ?_ 1 _ rfl;(with_reducible repeat(first|refine Zn ?_ _|refine Zp ?_|refine Zm ?_ _));refine ZJ (cs:=#[.int .i64 0,.int .i64 0]) ?_ 0 _ rfl;(with_reducible repeat(first|refine Zn ?_ _|refine Zp ?_|refine Zm ?_ _));exact BK15002.out) Try.underlying35 rfl (by kernel_rfl)) rfl ?_
   exact⟨by first|rfl|(simp[ZB,ZA] <;> rfl)|(simp[*,ZB,ZA] <;> rfl),by repeat(first|(with_reducible first|exact HB.out|apply Zq|apply Zl|apply Zr|refine Zo ?_ GE15001.out|refine Zo ?_ GE15002.out|refine Zo ?_ GE15012.out)|exact HB.out)⟩
  ·replace c7:=Bool.eq_false_iff.mpr c7
   subst c7
   have H1:(some (0,0,false))=some (r1,r2,r3):=by rw[if_neg (show ¬(false=true) by decide)] at H;exact H
   clear H
   have H:=H1
   clear H1
   simp only[Option.some.injEq,Prod.mk.injEq] at H
   obtain⟨rfl,rfl,rfl⟩:=H
   go_enter Try.func15,Try.ntmps15
   go_wp2_with (first|((with_reducible refine ZP (N:=2) rfl ?_);refine ZM ?hg (N:=2) ?hd (cs:=#[.int .i64 a0_0,.slice A0_1 l0_1.length c0_1]) (t:=31) ?hr ?_;(case hd=>rfl);(case hg=>rfl);(case hr=>first|(go_simp;done)|(go_simp;rfl));intro gb15001 hg w26 hbox hb;have BK15001:=Za (hbox);have GW15001:=Za ((by rw[hg];exact(Zv (by repeat(first|(with_reducible first|exact HB.out|apply Zq|apply Zl|apply Zr)|exact HB.out))):w.heap.size≤gb15001));have GE15001:=Za ((by rw[hg];exact(Zv (by repeat(first|(with_reducible first|exact HB.out|apply Zq|apply Zl|apply Zr)|exact HB.out))):w.heap.size≤gb15001));replace HB:=Za (Zw (by repeat(first|(with_reducible first|exact HB.out|apply Zq|apply Zl|apply Zr)|exact HB.out)) hb);clear hb hbox hg)|((with_reducible refine ZP (N:=4) rfl ?_);refine ZM ?hg (N:=4) ?hd (cs:=#[.int .i64 0,.int .i64 0]) (t:=35) ?hr ?_;(case hd=>rfl);(case hg=>rfl);(case hr=>first|(go_simp;done)|(go_simp;rfl));intro gb15002 hg w27 hbox hb;have BK15002:=Za (hbox);have GW15002:=Za ((by rw[hg];exact(Zv (by repeat(first|(with_reducible first|exact HB.out|apply Zq|apply Zl|apply Zr|refine Zo ?_ GE15001.out)|exact HB.out))):w.heap.size≤gb15002));have GE15002:=Za ((by rw[hg];exact(Zv (by repeat(first|(with_reducible first|exact HB.out|apply Zq|apply Zl|apply Zr|refine Zo ?_ GE15001.out)|exact HB.out))):w.heap.size≤gb15002));have NB15001_15002:=Za ((by rw[hg];exact Nat.ne_of_lt (ZL (g:=gb15001) (o:=.cells #[.int .i64 a0_0,.slice A0_1 l0_1.length c0_1] 31 (0,0)) (by(with_reducible repeat(first|refine Zn ?_ _|refine Zp ?_|refine Zm ?_ _));exact BK15001.out)):gb15001≠gb15002));have NB15002_15001:=Za ((by rw[hg];exact Nat.ne_of_gt (ZL (g:=gb15001) (o:=.cells #[.int .i64 a0_0,.slice A0_1 l0_1.length c0_1] 31 (0,0)) (by(with_reducible repeat(first|refine Zn ?_ _|refine Zp ?_|refine Zm ?_ _));exact BK15001.out)):gb15002≠gb15001));replace BK15001:=Za (Zx (g:=gb15001) (o:=.cells #[.int .i64 a0_0,.slice A0_1 l0_1.length c0_1] 31 (0,0)) (by(with_reducible repeat(first|refine Zn ?_ _|refine Zp ?_|refine Zm ?_ _));exact BK15001.out) hb);replace HB:=Za (Zw (by repeat(first|(with_reducible first|exact HB.out|apply Zq|apply Zl|apply Zr|refine Zo ?_ GE15001.out)|exact HB.out)) hb);clear hb hbox hg;have hnb28:=NB15001_15002.out;have hnc28:=NB15002_15001.out;have hcz29_0:w27.cell? ⟨gb15001,0,none⟩=some (.int .i64 a0_0):=(Zt BK15001.out 0).trans rfl;have hcz29_1:w27.cell? ⟨gb15001,1,none⟩=some (.slice A0_1 l0_1.length c0_1):=(Zt BK15001.out 1).trans rfl;have hfz29_0:=Zu BK15001.out 0;have hfz29_1:=Zu BK15001.out 1)|((with_reducible refine ZO (f:=47) rfl ?_);refine Z6 (some 10) rfl rfl Try.func47 (by kernel_rfl) rfl #[.agg #[.int .i64 a0_0,.slice A0_1 l0_1.length c0_1]] rfl (by(try simp only[List.map_toArray,List.map_cons,List.map_nil]);first|done|rfl|(simp only[Zj,Zi];rfl)) ?_;(with_reducible refine(ZaK.calls k a0_0 _ _ l0_1 t15003 t15004 _ ?side1 ?side2 A3.out).mono ?_);(case side1=>repeat(first|exact(Kd.C_below HR0_1.out HB.out)|(with_reducible refine Kd.C_alloc ?_ _)|(with_reducible refine Kd.C_drewN ?_ _)|(with_reducible refine Kd.C_drew ?_)));(case side2=>exact HC0_1.out);rintro e w30 ⟨v15005,rfl,ho0,hb⟩;refine⟨_,rfl,?_⟩;have HO15006:=Za (Kd.R_lower ho0 (Zv (by repeat(first|(with_reducible first|exact HB.out|apply Zq|apply Zl|apply Zr|refine Zo ?_ GE15001.out|refine Zo ?_ GE15002.out)|exact HB.out))));replace BK15001:=Za (Zx (g:=gb15001) (o:=.cells #[.int .i64 a0_0,.slice A0_1 l0_1.length c0_1] 31 (0,0)) (by(with_reducible repeat(first|refine Zn ?_ _|refine Zp ?_|refine Zm ?_ _));exact BK15001.out) hb);replace BK15002:=Za (Zx (g:=gb15002) (o:=.cells #[.int .i64 0,.int .i64 0] 35 (0,0)) (by(with_reducible repeat(first|refine Zn ?_ _|refine Zp ?_|refine Zm ?_ _));exact BK15002.out) hb);replace HB:=Za (Zw (by repeat(first|(with_reducible first|exact HB.out|apply Zq|apply Zl|apply Zr|refine Zo ?_ GE15001.out|refine Zo ?_ GE15002.out)|exact HB.out)) hb);(try clear hb);(try clear hb2);(try clear hk);(try clear hi);(try clear ho0);obtain⟨Ao31,co31,eo31⟩:=Kd.R_slice HO15006.out;subst eo31)|((with_reducible refine ZO (f:=46) rfl ?_);refine Z6 (some 11) rfl rfl Try.func46 (by kernel_rfl) rfl #[.agg #[.int .i64 t15003,.slice Ao31 t15004.length co31]] rfl (by(try simp only[List.map_toArray,List.map_cons,List.map_nil]);first|done|rfl|(simp only[Zj,Zi];rfl)) ?_;(with_reducible refine(ZD.calls k t15003 _ _ t15004 t15007 t15008 true _ ?side1 ?side2 A4.out).mono ?_);(case side1=>repeat(first|exact(Kd.R_reads' HO15006.out).2.2|(with_reducible refine Kd.C_alloc ?_ _)|(with_reducible refine Kd.C_drewN ?_ _)|(with_reducible refine Kd.C_drew ?_)));(case side2=>exact(Kd.R_reads' HO15006.out).2.1);rintro e w32 ⟨v15009,rfl,ho0,hb⟩;refine⟨_,rfl,?_⟩;have HO15010:=Za (Kd.R_lower ho0 (Zv (by repeat(first|(with_reducible first|exact HB.out|apply Zq|apply Zl|apply Zr|refine Zo ?_ GE15001.out|refine Zo ?_ GE15002.out)|exact HB.out))));replace HO15006:=Za (Kd.R_below (by(with_reducible repeat(first|apply Kd.R_alloc|apply Kd.R_drewN|apply Kd.R_drew));exact HO15006.out) hb);replace BK15001:=Za (Zx (g:=gb15001) (o:=.cells #[.int .i64 a0_0,.slice A0_1 l0_1.length c0_1] 31 (0,0)) (by(with_reducible repeat(first|refine Zn ?_ _|refine Zp ?_|refine Zm ?_ _));exact BK15001.out) hb);replace BK15002:=Za (Zx (g:=gb15002) (o:=.cells #[.int .i64 0,.int .i64 0] 35 (0,0)) (by(with_reducible repeat(first|refine Zn ?_ _|refine Zp ?_|refine Zm ?_ _));exact BK15002.out) hb);replace HB:=Za (Zw (by repeat(first|(with_reducible first|exact HB.out|apply Zq|apply Zl|apply Zr|refine Zo ?_ GE15001.out|refine Zo ?_ GE15002.out)|exact HB.out)) hb);(try clear hb);(try clear hb2);(try clear hk);(try clear hi);(try clear ho0))|((with_reducible refine ZP (N:=6) rfl ?_);refine ZM ?hg (N:=6) ?hd (cs:=#[.int .i64 0,.slice none 0 0]) (t:=73) ?hr ?_;(case hd=>rfl);(case hg=>rfl);(case hr=>first|(go_simp;done)|(go_simp;rfl));intro gb15012 hg w33 hbox hb;have BK15012:=Za (hbox);have GW15012:=Za ((by rw[hg];exact(Zv (by repeat(first|(with_reducible first|exact HB.out|apply Zq|apply Zl|apply Zr|refine Zo ?_ GE15001.out|refine Zo ?_ GE15002.out)|exact HB.out))):w.heap.size≤gb15012));have GE15012:=Za ((by rw[hg];exact(Zv (by repeat(first|(with_reducible first|exact HB.out|apply Zq|apply Zl|apply Zr|refine Zo ?_ GE15001.out|refine Zo ?_ GE15002.out)|exact HB.out))):w.heap.size≤gb15012));have NB15001_15012:=Za ((by rw[hg];exact Nat.ne_of_lt (ZL (g:=gb15001) (o:=.cells #[.int .i64 a0_0,.slice A0_1 l0_1.length c0_1] 31 (0,0)) (by(with_reducible repeat(first|refine Zn ?_ _|refine Zp ?_|refine Zm ?_ _));exact BK15001.out)):gb15001≠gb15012));have NB15012_15001:=Za ((by rw[hg];exact Nat.ne_of_gt (ZL (g:=gb15001) (o:=.cells #[.int .i64 a0_0,.slice A0_1 l0_1.length c0_1] 31 (0,0)) (by(with_reducible repeat(first|refine Zn ?_ _|refine Zp ?_|refine Zm ?_ _));exact BK15001.out)):gb15012≠gb15001));have NB15002_15012:=Za ((by rw[hg];exact Nat.ne_of_lt (ZL (g:=gb15002) (o:=.cells #[.int .i64 0,.int .i64 0] 35 (0,0)) (by(with_reducible repeat(first|refine Zn ?_ _|refine Zp ?_|refine Zm ?_ _));exact BK15002.out)):gb15002≠gb15012));have NB15012_15002:=Za ((by rw[hg];exact Nat.ne_of_gt (ZL (g:=gb15002) (o:=.cells #[.int .i64 0,.int .i64 0] 35 (0,0)) (by(with_reducible repeat(first|refine Zn ?_ _|refine Zp ?_|refine Zm ?_ _));exact BK15002.out)):gb15012≠gb15002));replace HO15006:=Za (Kd.R_below (by(with_reducible repeat(first|apply Kd.R_alloc|apply Kd.R_drewN|apply Kd.R_drew));exact HO15006.out) hb);replace HO15010:=Za (Kd.R_below (by(with_reducible repeat(first|apply Kd.R_alloc|apply Kd.R_drewN|apply Kd.R_drew));exact HO15010.out) hb);replace BK15001:=Za (Zx (g:=gb15001) (o:=.cells #[.int .i64 a0_0,.slice A0_1 l0_1.length c0_1] 31 (0,0)) (by(with_reducible repeat(first|refine Zn ?_ _|refine Zp ?_|refine Zm ?_ _));exact BK15001.out) hb);replace BK15002:=Za (Zx (g:=gb15002) (o:=.cells #[.int .i64 0,.int .i64 0] 35 (0,0)) (by(with_reducible repeat(first|refine Zn ?_ _|refine Zp ?_|refine Zm ?_ _));exact BK15002.out) hb);replace HB:=Za (Zw (by repeat(first|(with_reducible first|exact HB.out|apply Zq|apply Zl|apply Zr|refine Zo ?_ GE15001.out|refine Zo ?_ GE15002.out)|exact HB.out)) hb);clear hb hbox hg;have hnb34:=NB15012_15001.out;have hnc34:=NB15001_15012.out;have hnb35:=NB15012_15002.out;have hnc35:=NB15002_15012.out;have hcz36_0:w33.cell? ⟨gb15012,0,none⟩=some (.int .i64 0):=(Zt BK15012.out 0).trans rfl;have hcz36_1:w33.cell? ⟨gb15012,1,none⟩=some (.slice none 0 0):=(Zt BK15012.out 1).trans rfl;have hfz36_0:=Zu BK15012.out 0;have hfz36_1:=Zu BK15012.out 1;obtain⟨Ao37,co37,eo37⟩:=Kd.R_slice HO15010.out;subst eo37;have hcz38_0:w33.cell? ⟨gb15001,0,none⟩=some (.int .i64 a0_0):=(Zt BK15001.out 0).trans rfl;have hcz38_1:w33.cell? ⟨gb15001,1,none⟩=some (.slice A0_1 l0_1.length c0_1):=(Zt BK15001.out 1).trans rfl;have hfz38_0:=Zu BK15001.out 0;have hfz38_1:=Zu BK15001.out 1)|(go_at_call 17;(with_reducible refine(Z0.calls a0_0 _ _ l0_1 false _ ?side1 ?side2 A6.out).mono ?_);(case side1=>exact Kd.C_below HR0_1.out (by repeat(first|(with_reducible first|exact HB.out|apply Zq|apply Zl|apply Zr|refine Zo ?_ GE15001.out|refine Zo ?_ GE15002.out|refine Zo ?_ GE15012.out)|exact HB.out)));(case side2=>exact HC0_1.out);rintro e w39 ⟨rfl,hb⟩;replace HO15006:=Za (Kd.R_below (by(with_reducible repeat(first|apply Kd.R_alloc|apply Kd.R_drewN|apply Kd.R_drew));exact(Kd.R_mono (Kd.R_far (p:=⟨gb15012,1,none⟩) (Kd.R_far (p:=⟨gb15012,0,none⟩) (Kd.R_types HO15006.out BK15012.out (by decide)) (fun _ hk=>hk.2) (.int .i64 t15007)) (fun _ hk=>hk.2) (.slice Ao37 t15008.length co37)) (fun _ h_=>h_.1))) hb);replace HO15010:=Za (Kd.R_below (by(with_reducible repeat(first|apply Kd.R_alloc|apply Kd.R_drewN|apply Kd.R_drew));exact(Kd.R_mono (Kd.R_far (p:=⟨gb15012,1,none⟩) (Kd.R_far (p:=⟨gb15012,0,none⟩) (Kd.R_types HO15010.out BK15012.out (by decide)) (fun _ hk=>hk.2) (.int .i64 t15007)) (fun _ hk=>hk.2) (.slice Ao37 t15008.length co37)) (fun _ h_=>h_.1))) hb);replace BK15001:=Za (Zx (g:=gb15001) (o:=.cells #[.int .i64 a0_0,.slice A0_1 l0_1.length c0_1] 31 (0,0)) (by(with_reducible repeat(first|refine Zn ?_ _|refine Zp ?_|refine Zm ?_ _));refine ZE ?_ NB15001_15012.out _;(with_reducible repeat(first|refine Zn ?_ _|refine Zp ?_|refine Zm ?_ _));refine ZE ?_ NB15001_15012.out _;(with_reducible repeat(first|refine Zn ?_ _|refine Zp ?_|refine Zm ?_ _));exact BK15001.out) hb);replace BK15002:=Za (Zx (g:=gb15002) (o:=.cells #[.int .i64 0,.int .i64 0] 35 (0,0)) (by(with_reducible repeat(first|refine Zn ?_ _|refine Zp ?_|refine Zm ?_ _));refine ZE ?_ NB15002_15012.out _;(with_reducible repeat(first|refine Zn ?_ _|refine Zp ?_|refine Zm ?_ _));refine ZE ?_ NB15002_15012.out _;(with_reducible repeat(first|refine Zn ?_ _|refine Zp ?_|refine Zm ?_ _));exact BK15002.out) hb);replace BK15012:=Za (Zx (g:=gb15012) (o:=.cells #[.int .i64 t15007,.slice Ao37 t15008.length co37] 73 (0,0)) (by(with_reducible repeat(first|refine Zn ?_ _|refine Zp ?_|refine Zm ?_ _));refine ZJ (cs:=#[.int .i64 t15007,.slice none 0 0]) ?_ 1 _ rfl;(with_reducible repeat(first|refine Zn ?_ _|refine Zp ?_|refine Zm ?_ _));refine ZJ (cs:=#[.int .i64 0,.slice none 0 0]) ?_ 0 _ rfl;(with_reducible repeat(first|refine Zn ?_ _|refine Zp ?_|refine Zm ?_ _));exact BK15012.out) hb);replace HB:=Za (Zw (by repeat(first|(with_reducible first|exact HB.out|apply Zq|apply Zl|apply Zr|refine Zo ?_ GE15001.out|refine Zo ?_ GE15002.out|refine Zo ?_ GE15012.out)|exact HB.out)) hb);(try clear hb);(try clear hb2);(try clear hk);(try clear hi);have hcz40_0:w39.cell? ⟨gb15002,0,none⟩=some (.int .i64 0):=(Zt BK15002.out 0).trans rfl;have hcz40_1:w39.cell? ⟨gb15002,1,none⟩=some (.int .i64 0):=(Zt BK15002.out 1).trans rfl;have hfz40_0:=Zu BK15002.out 0;have hfz40_1:=Zu BK15002.out 1))
   refine bodyPost_ret (ZaB rfl _ _ gb15002 35 #[.int .i64 0,.int .i64 0] (0,0) _ rfl (by(with_reducible repeat(first|refine Zn ?_ _|refine Zp ?_|refine Zm ?_ _));refine ZJ (cs:=#[.int .i64 0,.int .i64 0]) ?_ 1 _ rfl;(with_reducible repeat(first|refine Zn ?_ _|refine Zp ?_|refine Zm ?_ _));refine ZJ (cs:=#[.int .i64 0,.int .i64 0]) ?_ 0 _ rfl;(with_reducible repeat(first|refine Zn ?_ _|refine Zp ?_|refine Zm ?_ _));exact BK15002.out) Try.underlying35 rfl (by kernel_rfl)) rfl ?_
   exact⟨by first|rfl|(simp[ZB,ZA] <;> rfl)|(simp[*,ZB,ZA] <;> rfl),by repeat(first|(with_reducible first|exact HB.out|apply Zq|apply Zl|apply Zr|refine Zo ?_ GE15001.out|refine Zo ?_ GE15002.out|refine Zo ?_ GE15012.out)|exact HB.out)⟩
 ·replace c5:=Bool.eq_false_iff.mpr c5
  subst c5
  have H1:(some (0,0,false))=some (r1,r2,r3):=by rw[if_neg (show ¬(false=true) by decide)] at H;exact H
  clear H
  have H:=H1
  clear H1
  simp only[Option.some.injEq,Prod.mk.injEq] at H
  obtain⟨rfl,rfl,rfl⟩:=H
  go_enter Try.func15,Try.ntmps15
  go_wp2_with (first|((with_reducible refine ZP (N:=2) rfl ?_);refine ZM ?hg (N:=2) ?hd (cs:=#[.int .i64 a0_0,.slice A0_1 l0_1.length c0_1]) (t:=31) ?hr ?_;(case hd=>rfl);(case hg=>rfl);(case hr=>first|(go_simp;done)|(go_simp;rfl));intro gb15001 hg w41 hbox hb;have BK15001:=Za (hbox);have GW15001:=Za ((by rw[hg];exact(Zv (by repeat(first|(with_reducible first|exact HB.out|apply Zq|apply Zl|apply Zr)|exact HB.out))):w.heap.size≤gb15001));have GE15001:=Za ((by rw[hg];exact(Zv (by repeat(first|(with_reducible first|exact HB.out|apply Zq|apply Zl|apply Zr)|exact HB.out))):w.heap.size≤gb15001));replace HB:=Za (Zw (by repeat(first|(with_reducible first|exact HB.out|apply Zq|apply Zl|apply Zr)|exact HB.out)) hb);clear hb hbox hg)|((with_reducible refine ZP (N:=4) rfl ?_);refine ZM ?hg (N:=4) ?hd (cs:=#[.int .i64 0,.int .i64 0]) (t:=35) ?hr ?_;(case hd=>rfl);(case hg=>rfl);(case hr=>first|(go_simp;done)|(go_simp;rfl));intro gb15002 hg w42 hbox hb;have BK15002:=Za (hbox);have GW15002:=Za ((by rw[hg];exact(Zv (by repeat(first|(with_reducible first|exact HB.out|apply Zq|apply Zl|apply Zr|refine Zo ?_ GE15001.out)|exact HB.out))):w.heap.size≤gb15002));have GE15002:=Za ((by rw[hg];exact(Zv (by repeat(first|(with_reducible first|exact HB.out|apply Zq|apply Zl|apply Zr|refine Zo ?_ GE15001.out)|exact HB.out))):w.heap.size≤gb15002));have NB15001_15002:=Za ((by rw[hg];exact Nat.ne_of_lt (ZL (g:=gb15001) (o:=.cells #[.int .i64 a0_0,.slice A0_1 l0_1.length c0_1] 31 (0,0)) (by(with_reducible repeat(first|refine Zn ?_ _|refine Zp ?_|refine Zm ?_ _));exact BK15001.out)):gb15001≠gb15002));have NB15002_15001:=Za ((by rw[hg];exact Nat.ne_of_gt (ZL (g:=gb15001) (o:=.cells #[.int .i64 a0_0,.slice A0_1 l0_1.length c0_1] 31 (0,0)) (by(with_reducible repeat(first|refine Zn ?_ _|refine Zp ?_|refine Zm ?_ _));exact BK15001.out)):gb15002≠gb15001));replace BK15001:=Za (Zx (g:=gb15001) (o:=.cells #[.int .i64 a0_0,.slice A0_1 l0_1.length c0_1] 31 (0,0)) (by(with_reducible repeat(first|refine Zn ?_ _|refine Zp ?_|refine Zm ?_ _));exact BK15001.out) hb);replace HB:=Za (Zw (by repeat(first|(with_reducible first|exact HB.out|apply Zq|apply Zl|apply Zr|refine Zo ?_ GE15001.out)|exact HB.out)) hb);clear hb hbox hg;have hnb43:=NB15001_15002.out;have hnc43:=NB15002_15001.out;have hcz44_0:w42.cell? ⟨gb15001,0,none⟩=some (.int .i64 a0_0):=(Zt BK15001.out 0).trans rfl;have hcz44_1:w42.cell? ⟨gb15001,1,none⟩=some (.slice A0_1 l0_1.length c0_1):=(Zt BK15001.out 1).trans rfl;have hfz44_0:=Zu BK15001.out 0;have hfz44_1:=Zu BK15001.out 1)|((with_reducible refine ZO (f:=47) rfl ?_);refine Z6 (some 10) rfl rfl Try.func47 (by kernel_rfl) rfl #[.agg #[.int .i64 a0_0,.slice A0_1 l0_1.length c0_1]] rfl (by(try simp only[List.map_toArray,List.map_cons,List.map_nil]);first|done|rfl|(simp only[Zj,Zi];rfl)) ?_;(with_reducible refine(ZaK.calls k a0_0 _ _ l0_1 t15003 t15004 _ ?side1 ?side2 A3.out).mono ?_);(case side1=>repeat(first|exact(Kd.C_below HR0_1.out HB.out)|(with_reducible refine Kd.C_alloc ?_ _)|(with_reducible refine Kd.C_drewN ?_ _)|(with_reducible refine Kd.C_drew ?_)));(case side2=>exact HC0_1.out);rintro e w45 ⟨v15005,rfl,ho0,hb⟩;refine⟨_,rfl,?_⟩;have HO15006:=Za (Kd.R_lower ho0 (Zv (by repeat(first|(with_reducible first|exact HB.out|apply Zq|apply Zl|apply Zr|refine Zo ?_ GE15001.out|refine Zo ?_ GE15002.out)|exact HB.out))));replace BK15001:=Za (Zx (g:=gb15001) (o:=.cells #[.int .i64 a0_0,.slice A0_1 l0_1.length c0_1] 31 (0,0)) (by(with_reducible repeat(first|refine Zn ?_ _|refine Zp ?_|refine Zm ?_ _));exact BK15001.out) hb);replace BK15002:=Za (Zx (g:=gb15002) (o:=.cells #[.int .i64 0,.int .i64 0] 35 (0,0)) (by(with_reducible repeat(first|refine Zn ?_ _|refine Zp ?_|refine Zm ?_ _));exact BK15002.out) hb);replace HB:=Za (Zw (by repeat(first|(with_reducible first|exact HB.out|apply Zq|apply Zl|apply Zr|refine Zo ?_ GE15001.out|refine Zo ?_ GE15002.out)|exact HB.out)) hb);(try clear hb);(try clear hb2);(try clear hk);(try clear hi);(try clear ho0);obtain⟨Ao46,co46,eo46⟩:=Kd.R_slice HO15006.out;subst eo46)|((with_reducible refine ZO (f:=46) rfl ?_);refine Z6 (some 11) rfl rfl Try.func46 (by kernel_rfl) rfl #[.agg #[.int .i64 t15003,.slice Ao46 t15004.length co46]] rfl (by(try simp only[List.map_toArray,List.map_cons,List.map_nil]);first|done|rfl|(simp only[Zj,Zi];rfl)) ?_;(with_reducible refine(ZD.calls k t15003 _ _ t15004 t15007 t15008 false _ ?side1 ?side2 A4.out).mono ?_);(case side1=>repeat(first|exact(Kd.R_reads' HO15006.out).2.2|(with_reducible refine Kd.C_alloc ?_ _)|(with_reducible refine Kd.C_drewN ?_ _)|(with_reducible refine Kd.C_drew ?_)));(case side2=>exact(Kd.R_reads' HO15006.out).2.1);rintro e w47 ⟨v15009,rfl,ho0,hb⟩;refine⟨_,rfl,?_⟩;have HO15010:=Za (Kd.R_lower ho0 (Zv (by repeat(first|(with_reducible first|exact HB.out|apply Zq|apply Zl|apply Zr|refine Zo ?_ GE15001.out|refine Zo ?_ GE15002.out)|exact HB.out))));replace HO15006:=Za (Kd.R_below (by(with_reducible repeat(first|apply Kd.R_alloc|apply Kd.R_drewN|apply Kd.R_drew));exact HO15006.out) hb);replace BK15001:=Za (Zx (g:=gb15001) (o:=.cells #[.int .i64 a0_0,.slice A0_1 l0_1.length c0_1] 31 (0,0)) (by(with_reducible repeat(first|refine Zn ?_ _|refine Zp ?_|refine Zm ?_ _));exact BK15001.out) hb);replace BK15002:=Za (Zx (g:=gb15002) (o:=.cells #[.int .i64 0,.int .i64 0] 35 (0,0)) (by(with_reducible repeat(first|refine Zn ?_ _|refine Zp ?_|refine Zm ?_ _));exact BK15002.out) hb);replace HB:=Za (Zw (by repeat(first|(with_reducible first|exact HB.out|apply Zq|apply Zl|apply Zr|refine Zo ?_ GE15001.out|refine Zo ?_ GE15002.out)|exact HB.out)) hb);(try clear hb);(try clear hb2);(try clear hk);(try clear hi);(try clear ho0))|((with_reducible refine ZP (N:=6) rfl ?_);refine ZM ?hg (N:=6) ?hd (cs:=#[.int .i64 0,.slice none 0 0]) (t:=73) ?hr ?_;(case hd=>rfl);(case hg=>rfl);(case hr=>first|(go_simp;done)|(go_simp;rfl));intro gb15012 hg w48 hbox hb;have BK15012:=Za (hbox);have GW15012:=Za ((by rw[hg];exact(Zv (by repeat(first|(with_reducible first|exact HB.out|apply Zq|apply Zl|apply Zr|refine Zo ?_ GE15001.out|refine Zo ?_ GE15002.out)|exact HB.out))):w.heap.size≤gb15012));have GE15012:=Za ((by rw[hg];exact(Zv (by repeat(first|(with_reducible first|exact HB.out|apply Zq|apply Zl|apply Zr|refine Zo ?_ GE15001.out|refine Zo ?_ GE15002.out)|exact HB.out))):w.heap.size≤gb15012));have NB15001_15012:=Za ((by rw[hg];exact Nat.ne_of_lt (ZL (g:=gb15001) (o:=.cells #[.int .i64 a0_0,.slice A0_1 l0_1.length c0_1] 31 (0,0)) (by(with_reducible repeat(first|refine Zn ?_ _|refine Zp ?_|refine Zm ?_ _));exact BK15001.out)):gb15001≠gb15012));have NB15012_15001:=Za ((by rw[hg];exact Nat.ne_of_gt (ZL (g:=gb15001) (o:=.cells #[.int .i64 a0_0,.slice A0_1 l0_1.length c0_1] 31 (0,0)) (by(with_reducible repeat(first|refine Zn ?_ _|refine Zp ?_|refine Zm ?_ _));exact BK15001.out)):gb15012≠gb15001));have NB15002_15012:=Za ((by rw[hg];exact Nat.ne_of_lt (ZL (g:=gb15002) (o:=.cells #[.int .i64 0,.int .i64 0] 35 (0,0)) (by(with_reducible repeat(first|refine Zn ?_ _|refine Zp ?_|refine Zm ?_ _));exact BK15002.out)):gb15002≠gb15012));have NB15012_15002:=Za ((by rw[hg];exact Nat.ne_of_gt (ZL (g:=gb15002) (o:=.cells #[.int .i64 0,.int .i64 0] 35 (0,0)) (by(with_reducible repeat(first|refine Zn ?_ _|refine Zp ?_|refine Zm ?_ _));exact BK15002.out)):gb15012≠gb15002));replace HO15006:=Za (Kd.R_below (by(with_reducible repeat(first|apply Kd.R_alloc|apply Kd.R_drewN|apply Kd.R_drew));exact HO15006.out) hb);replace HO15010:=Za (Kd.R_below (by(with_reducible repeat(first|apply Kd.R_alloc|apply Kd.R_drewN|apply Kd.R_drew));exact HO15010.out) hb);replace BK15001:=Za (Zx (g:=gb15001) (o:=.cells #[.int .i64 a0_0,.slice A0_1 l0_1.length c0_1] 31 (0,0)) (by(with_reducible repeat(first|refine Zn ?_ _|refine Zp ?_|refine Zm ?_ _));exact BK15001.out) hb);replace BK15002:=Za (Zx (g:=gb15002) (o:=.cells #[.int .i64 0,.int .i64 0] 35 (0,0)) (by(with_reducible repeat(first|refine Zn ?_ _|refine Zp ?_|refine Zm ?_ _));exact BK15002.out) hb);replace HB:=Za (Zw (by repeat(first|(with_reducible first|exact HB.out|apply Zq|apply Zl|apply Zr|refine Zo ?_ GE15001.out|refine Zo ?_ GE15002.out)|exact HB.out)) hb);clear hb hbox hg;have hnb49:=NB15012_15001.out;have hnc49:=NB15001_15012.out;have hnb50:=NB15012_15002.out;have hnc50:=NB15002_15012.out;have hcz51_0:w48.cell? ⟨gb15012,0,none⟩=some (.int .i64 0):=(Zt BK15012.out 0).trans rfl;have hcz51_1:w48.cell? ⟨gb15012,1,none⟩=some (.slice none 0 0):=(Zt BK15012.out 1).trans rfl;have hfz51_0:=Zu BK15012.out 0;have hfz51_1:=Zu BK15012.out 1;obtain⟨Ao52,co52,eo52⟩:=Kd.R_slice HO15010.out;subst eo52;have hcz53_0:w48.cell? ⟨gb15002,0,none⟩=some (.int .i64 0):=(Zt BK15002.out 0).trans rfl;have hcz53_1:w48.cell? ⟨gb15002,1,none⟩=some (.int .i64 0):=(Zt BK15002.out 1).trans rfl;have hfz53_0:=Zu BK15002.out 0;have hfz53_1:=Zu BK15002.out 1))
  refine bodyPost_ret (ZaB rfl _ _ gb15002 35 #[.int .i64 0,.int .i64 0] (0,0) _ rfl (by(with_reducible repeat(first|refine Zn ?_ _|refine Zp ?_|refine Zm ?_ _));refine ZJ (cs:=#[.int .i64 0,.int .i64 0]) ?_ 1 _ rfl;(with_reducible repeat(first|refine Zn ?_ _|refine Zp ?_|refine Zm ?_ _));refine ZJ (cs:=#[.int .i64 0,.int .i64 0]) ?_ 0 _ rfl;(with_reducible repeat(first|refine Zn ?_ _|refine Zp ?_|refine Zm ?_ _));refine ZE ?_ NB15002_15012.out _;(with_reducible repeat(first|refine Zn ?_ _|refine Zp ?_|refine Zm ?_ _));refine ZE ?_ NB15002_15012.out _;(with_reducible repeat(first|refine Zn ?_ _|refine Zp ?_|refine Zm ?_ _));exact BK15002.out) Try.underlying35 rfl (by kernel_rfl)) rfl ?_
  exact⟨by first|rfl|(simp[ZB,ZA] <;> rfl)|(simp[*,ZB,ZA] <;> rfl),by repeat(first|(with_reducible first|exact HB.out|apply Zq|apply Zl|apply Zr|refine Zo ?_ GE15001.out|refine Zo ?_ GE15002.out|refine Zo ?_ GE15012.out)|exact HB.out)⟩
def ZS.l0:Nat→List Int→Int→Int→Option (List Int)
 | 0,_,_,_=>none
 | k+1,x0,x2,x3=>if x2<x3 then(if 0≤x3 then(if x3<(x0.length:Int) then(if 0≤x2 then(if x2<(x0.length:Int) then(ZS.l0 k ((x0.set (x2:Int).toNat (rd x0 x3)).set (x3:Int).toNat (rd x0 x2)) (wrap64 (x2+1)) (wrap64 (x3 - 1))) else(none)) else(none)) else(none)) else(none)) else(some x0)
def ZS.f (k:Nat) (l0:List Int):Option (List Int):=ZS.l0 k l0 0 (wrap64 ((l0.length:Int) - 1))
def ZS.T3:Bool×List (List Nat×List Nat):=(true,[([],[]),([],[]),([],[]),([],[]),([],[]),([],[]),([4,5],[4,5]),([6],[6]),([],[]),([],[]),([8,9],[8,9]),([10],[10]),([0,1,0,1,4,5,6,7,11],[0,1]),([12,7,0,1,4,5,6,7,11],[7,12]),([2,3,0,1,2,3,4,5,6,7,8,9,10,11,12,13],[2,3]),([14,11,13,0,1,2,3,4,5,6,7,8,9,10,11,12,13],[11,14])])
def ZS.B3:List Nat:=[0,0,0,0,0,0,48,112,0,0,768,1792,4083,8179,16383,32767]
theorem ZS.tab3:rtab .any (opsOf Try.f89 3)=ZS.T3:=by kernel_rfl
theorem ZS.bits3:Za5 ZS.T3.2 ZS.B3=true:=by kernel_rfl
set_option maxHeartbeats 8000000 in
set_option maxRecDepth 100000 in
theorem ZS.calls (k:Nat) (P0_:Nat→Prop) (u9000_:Value) (l0:List Int) (r:List Int) (w0 w:World) (hB:Below w0.heap.size w0 w) (ho0:Kd.R (Kd.int .i64) 3 w w0.heap.size P0_ u9000_ l0) (h:ZS.f k l0=some r) :
  Calls Try.prog 89 #[u9000_] w fun e w'=>e=.returned (.tuple #[])∧Kd.R (Kd.int .i64) 3 w' w0.heap.size (fun k_=>(P0_ k_∨w.heap.size≤k_)) u9000_ r∧Below w0.heap.size w0 w'∧Kept w w' (fun k_=>P0_ k_):=by
 have HO0:=Za (show Kd.R (Kd.int .i64) 3 w w0.heap.size (fun k_=>(P0_ k_∨w.heap.size≤k_)) u9000_ l0 from Kd.R_mono ho0 (fun k_ hk=>(.inl hk)))
 have HK:=Za (Kept.refl w (fun k_=>P0_ k_))
 have HW0:=Za hB.size
 have HB:=Za hB;clear hB
 have H:(ZS.l0 k l0 0 (wrap64 ((l0.length:Int) - 1)))=some r:=h
 clear h
 have H':=Za H
 clear H
 obtain⟨Ao2,co2,eo2⟩:=Kd.R_slice HO0.out
 subst eo2
 go_enter Try.func89,Try.ntmps89
 go_wp2
 go_loopg [2,3] k (fun kq v2 v3 w'=>∃(x0_1:List Int) (x2_1:Int) (x3_1:Int),v2=.int .i64 x2_1∧v3=.int .i64 x3_1∧Aside0 (ZS.l0 kq x0_1 x2_1 x3_1=some r)∧Aside0 (kq≤k)∧Aside0 (Kd.R (Kd.int .i64) 3 w' w0.heap.size (fun k_=>(P0_ k_∨w.heap.size≤k_)) (.slice Ao2 l0.length co2) x0_1)∧Aside0 (Kept w w' (fun k_=>P0_ k_))∧Aside0 (Below w0.heap.size w0 w'))
 case atStart=>exact⟨(l0),(0),(wrap64 ((l0.length:Int) - 1)),(by first|rfl|(simp;done)|(simp[*];done)),(by first|rfl|(simp;done)|(simp[*];done)),H',⟨Nat.le_refl _⟩,⟨by(with_reducible repeat(first|apply Kd.R_alloc|apply Kd.R_drewN|apply Kd.R_drew));exact HO0.out⟩,⟨by repeat(first|(with_reducible first|exact HK.out|apply Kept.alloc|apply Kept.drewN|apply Kept.drew)|exact HK.out)⟩,⟨by repeat(first|(with_reducible first|exact HB.out|apply Zq|apply Zl|apply Zr)|exact HB.out)⟩⟩
 case round=>
  clear H'
  try clear p2
  obtain⟨x0_1,x2_1,x3_1,rfl,rfl,HA,HK1,HO_0,HK,HB⟩:=hrel
  have hl0_1:=(Kd.R_reads' HO_0.out).1
  rw[hl0_1] at HO_0
  (try simp only[hl0_1])
  cases gk with
  | zero=>exact absurd HA.out (by simp[ZS.l0])
  | succ k1=>
   have H:=HA.out
   clear HA
   simp only[ZS.l0] at H
   by_cases c3:x2_1<x3_1
   ·rw[if_pos c3] at H
    have c3b0:decide (x2_1<x3_1)=true:=Zd c3
    clear c3
    by_cases c4:0≤x3_1
    ·rw[if_pos c4] at H
     have c4b0:decide (0≤x3_1)=true:=Zd c4
     clear c4
     by_cases c5:x3_1<(x0_1.length:Int)
     ·rw[if_pos c5] at H
      have c5b0:decide (x3_1<(x0_1.length:Int))=true:=Zd c5
      clear c5
      by_cases c6:0≤x2_1
      ·rw[if_pos c6] at H
       have c6b0:decide (0≤x2_1)=true:=Zd c6
       clear c6
       by_cases c7:x2_1<(x0_1.length:Int)
       ·rw[if_pos c7] at H
        have c7b0:decide (x2_1<(x0_1.length:Int))=true:=Zd c7
        clear c7
        obtain⟨y89003,hy89003⟩:∃y_:List Int,y_=(x0_1.set (x2_1:Int).toNat (rd x0_1 x3_1)):=⟨_,rfl⟩
        replace H:(ZS.l0 k1 (y89003.set (x3_1:Int).toNat (rd x0_1 x2_1)) (wrap64 (x2_1+1)) (wrap64 (x3_1 - 1)))=some r:=by first|(rw[hy89003];with_reducible exact H)|(have H2_:=(Zh _ _).symm.trans H;rw[hy89003];with_reducible exact H2_)|(have H2_:=(Zh _ _).symm.trans H;with_reducible exact H2_)|with_reducible exact H|(rw[hy89003];exact H)|exact H
        have Ny89003:=Za hy89003;clear hy89003
        obtain⟨y89004,hy89004⟩:∃y_:List Int,y_=(y89003.set (x3_1:Int).toNat (rd x0_1 x2_1)):=⟨_,rfl⟩
        replace H:(ZS.l0 k1 y89004 (wrap64 (x2_1+1)) (wrap64 (x3_1 - 1)))=some r:=by first|(rw[hy89004];with_reducible exact H)|(have H2_:=(Zh _ _).symm.trans H;rw[hy89004];with_reducible exact H2_)|(have H2_:=(Zh _ _).symm.trans H;with_reducible exact H2_)|with_reducible exact H|(rw[hy89004];exact H)|exact H
        have Ny89004:=Za hy89004;clear hy89004
        have H':=Za H
        clear H
        try go_wp2
        replace HO_0:=Za (Kd.R_drew HO_0.out);replace HK:=Za (Kept.drew HK.out);replace HB:=Za (Zr HB.out)
        have p89001:0≤(x3_1:Int):=Zc (by first|(with_reducible assumption)|assumption)
        have q89001:x3_1<(x0_1.length:Int):=Zc (by first|(with_reducible assumption)|assumption)
        obtain⟨ad89001,e89001,hx89001_0⟩:=Kd.at_int (Kd.R_reads' HO_0.out).2.2 x3_1 p89001 q89001
        cases e89001
        replace p89001:=eq_true p89001
        replace q89001:=eq_true q89001
        have p89002:0≤(x2_1:Int):=Zc (by first|(with_reducible assumption)|assumption)
        have q89002:x2_1<(x0_1.length:Int):=Zc (by first|(with_reducible assumption)|assumption)
        obtain⟨ad89002,e89002,hx89002_0⟩:=Kd.at_int (Kd.R_reads' HO_0.out).2.2 x2_1 p89002 q89002
        obtain rfl:ad89001=ad89002:=(by injection e89002)
        replace p89002:=eq_true p89002
        replace q89002:=eq_true q89002
        have p8:0≤(x2_1:Int):=Zc (by first|(with_reducible assumption)|assumption)
        have q8:(x2_1:Int)<((x0_1.length:Int):Int):=Zc (by first|(with_reducible assumption)|assumption)
        obtain⟨go8,co8,eo8,gb8,gl8,cl8,HG8⟩:=Kd.R_form HO_0.out (by omega)
        (first|cases eo8|(injection eo8 with ea_ en_ ec_;(first|subst ea_|(injection ea_ with ea_;subst ea_));subst ec_;clear en_))
        have GB8:=Za gb8;have GG8:=Za HG8;clear gb8 gl8 HG8
        have HMgo8:=Za (show(P0_ go8∨w.heap.size≤go8) from(HO_0.out.1 _ rfl))
        (first|simp only[Zcz] at hx89001_0|skip)
        (first|simp only[Zcz] at hx89002_0|skip)
        obtain⟨hx8_0,hf8_0⟩:=Kd.R_celln 0 HO_0.out (x2_1:Int) p8 q8
        replace p8:=eq_true p8
        replace q8:=eq_true q8
        have HP11:=Kd.R_putn HO_0.out (x2_1:Int) (rd x0_1 x3_1)
        rw[← Ny89003.out] at HP11
        have HQ11:=Za HP11;clear HP11
        have p9:0≤(x3_1:Int):=Zc (by first|(with_reducible assumption)|assumption)
        have q9:(x3_1:Int)<((x0_1.length:Int):Int):=Zc (by first|(with_reducible assumption)|assumption)
        obtain⟨hx9_0,hf9_0⟩:=Kd.R_celln 0 HQ11.out (x3_1:Int) p9 q9
        replace p9:=eq_true p9
        replace q9:=eq_true q9
        have HP12:=Kd.R_putn HQ11.out (x3_1:Int) (rd x0_1 x2_1)
        rw[← Ny89004.out] at HP12
        have HQ12:=Za HP12;clear HP12
        refine Zbl (n:=16) (S:=fun w'=>w'.cell? ⟨go8,(x3_1).toNat,none⟩=some (.int .i64 (rd x0_1 x3_1))∧w'.cell? ⟨go8,(x2_1).toNat,none⟩=some (.int .i64 (rd x0_1 x2_1))) (ds:=[13,15]) #[false,false,false,false,false,false,false,false,false,false,false,false,false,false,false,false] (by kernel_rfl) rfl rfl ⟨hx89001_0,hx89002_0⟩ (fun hHeld=>?_);refine Za7 ZS.tab3 ZS.bits3 (fun HT_ HW_=>?_)
        generalize wr.drew=w10 at HO_0 HK HB GG8 HQ11 HQ12 hf8_0 hf9_0 hx89001_0 hx89002_0 hx8_0 hx9_0 hHeld ⊢
        refine Z1 (i:=0) (N:=some 14) (v:=?_) (a':=?_) #[true,false,false,false,false,false,false,false,false,false,false,false,false,false,false,false] rfl rfl (ZW HT_.out (by kernel_rfl)) (fun _ _ _ h=>h) (Or.inl ⟨by rfl,?_⟩) ?_ ?_
        rotate_left
        ·intro w'
         go_simp
         with_reducible rfl
        rotate_left
        ·simp only[Act.put,List.setIfInBounds_toArray,List.set_cons_zero,List.set_cons_succ,ZH,ZI]
         rfl
        refine Z1 (i:=1) (N:=some 15) (v:=?_) (a':=?_) #[true,true,false,false,false,false,false,false,false,false,false,false,false,false,false,false] rfl rfl (ZW HT_.out (by kernel_rfl)) (fun _ _ _ h=>h) (Or.inl ⟨by rfl,?_⟩) ?_ ?_
        rotate_left
        ·intro w'
         go_simp
         with_reducible rfl
        rotate_left
        ·simp only[Act.put,List.setIfInBounds_toArray,List.set_cons_zero,List.set_cons_succ,ZH,ZI]
         rfl
        refine Z1 (i:=2) (N:=some 16) (v:=?_) (a':=?_) #[true,true,true,false,false,false,false,false,false,false,false,false,false,false,false,false] rfl rfl (ZW HT_.out (by kernel_rfl)) (fun _ _ _ h=>h) (Or.inl ⟨by rfl,?_⟩) ?_ ?_
        rotate_left
        ·intro w'
         go_simp
         with_reducible rfl
        rotate_left
        ·simp only[Act.put,List.setIfInBounds_toArray,List.set_cons_zero,List.set_cons_succ,ZH,ZI]
         rfl
        refine Z1 (i:=3) (N:=some 17) (v:=?_) (a':=?_) #[true,true,true,true,false,false,false,false,false,false,false,false,false,false,false,false] rfl rfl (ZW HT_.out (by kernel_rfl)) (fun _ _ _ h=>h) (Or.inl ⟨by rfl,?_⟩) ?_ ?_
        rotate_left
        ·intro w'
         go_simp
         with_reducible rfl
        rotate_left
        ·simp only[Act.put,List.setIfInBounds_toArray,List.set_cons_zero,List.set_cons_succ,ZH,ZI]
         rfl
        refine Z1 (i:=4) (N:=some 18) (v:=?_) (a':=?_) #[true,true,true,true,true,false,false,false,false,false,false,false,false,false,false,false] rfl rfl (ZW HT_.out (by kernel_rfl)) (fun _ _ _ h=>h) (Or.inl ⟨by rfl,?_⟩) ?_ ?_
        rotate_left
        ·intro w'
         go_simp
         with_reducible rfl
        rotate_left
        ·simp only[Act.put,List.setIfInBounds_toArray,List.set_cons_zero,List.set_cons_succ,ZH,ZI]
         rfl
        refine Z1 (i:=5) (N:=some 19) (v:=?_) (a':=?_) #[true,true,true,true,true,true,false,false,false,false,false,false,false,false,false,false] rfl rfl (ZW HT_.out (by kernel_rfl)) (fun _ _ _ h=>h) (Or.inl ⟨by rfl,?_⟩) ?_ ?_
        rotate_left
        ·intro w'
         go_simp
         with_reducible rfl
        rotate_left
        ·simp only[Act.put,List.setIfInBounds_toArray,List.set_cons_zero,List.set_cons_succ,ZH,ZI]
         rfl
        refine Z1 (i:=6) (N:=some 20) (v:=?_) (a':=?_) #[true,true,true,true,true,true,true,false,false,false,false,false,false,false,false,false] rfl rfl (ZW HT_.out (by kernel_rfl)) (fun _ _ _ h=>h) (Or.inl ⟨by rfl,?_⟩) ?_ ?_
        rotate_left
        ·intro w'
         go_simp
         with_reducible rfl
        rotate_left
        ·simp only[Act.put,List.setIfInBounds_toArray,List.set_cons_zero,List.set_cons_succ,ZH,ZI]
         rfl
        refine Z1 (i:=8) (N:=some 22) (v:=?_) (a':=?_) #[true,true,true,true,true,true,true,false,true,false,false,false,false,false,false,false] rfl rfl (ZW HT_.out (by kernel_rfl)) (fun _ _ _ h=>h) (Or.inl ⟨by rfl,?_⟩) ?_ ?_
        rotate_left
        ·intro w'
         go_simp
         with_reducible rfl
        rotate_left
        ·simp only[Act.put,List.setIfInBounds_toArray,List.set_cons_zero,List.set_cons_succ,ZH,ZI]
         rfl
        refine Z1 (i:=9) (N:=some 23) (v:=?_) (a':=?_) #[true,true,true,true,true,true,true,false,true,true,false,false,false,false,false,false] rfl rfl (ZW HT_.out (by kernel_rfl)) (fun _ _ _ h=>h) (Or.inl ⟨by rfl,?_⟩) ?_ ?_
        rotate_left
        ·intro w'
         go_simp
         with_reducible rfl
        rotate_left
        ·simp only[Act.put,List.setIfInBounds_toArray,List.set_cons_zero,List.set_cons_succ,ZH,ZI]
         rfl
        refine Z1 (i:=10) (N:=some 24) (v:=?_) (a':=?_) #[true,true,true,true,true,true,true,false,true,true,true,false,false,false,false,false] rfl rfl (ZW HT_.out (by kernel_rfl)) (fun _ _ _ h=>h) (Or.inl ⟨by rfl,?_⟩) ?_ ?_
        rotate_left
        ·intro w'
         go_simp
         with_reducible rfl
        rotate_left
        ·simp only[Act.put,List.setIfInBounds_toArray,List.set_cons_zero,List.set_cons_succ,ZH,ZI]
         rfl
        refine take_ (i:=7) (N:=some 21) (v:=?_) (a':=?_) #[true,true,true,true,true,true,true,true,true,true,true,false,false,false,false,false] rfl rfl (ZaG HT_.out HW_.out (by kernel_rfl)) (fun _ _ _ h=>h) (Or.inl ⟨by rfl,?_⟩) hHeld ?_ ?_
        rotate_left
        ·rintro w' ⟨s0,s1⟩
         go_simp
         with_reducible rfl
        rotate_left
        ·simp only[Act.put,List.setIfInBounds_toArray,List.set_cons_zero,List.set_cons_succ,ZH,ZI]
         rfl
        refine take_ (i:=11) (N:=some 25) (v:=?_) (a':=?_) #[true,true,true,true,true,true,true,true,true,true,true,true,false,false,false,false] rfl rfl (ZaG HT_.out HW_.out (by kernel_rfl)) (fun _ _ _ h=>h) (Or.inl ⟨by rfl,?_⟩) hHeld ?_ ?_
        rotate_left
        ·rintro w' ⟨s0,s1⟩
         go_simp
         with_reducible rfl
        rotate_left
        ·simp only[Act.put,List.setIfInBounds_toArray,List.set_cons_zero,List.set_cons_succ,ZH,ZI]
         rfl
        refine Z1 (i:=12) (N:=some 26) (v:=?_) (a':=?_) #[true,true,true,true,true,true,true,true,true,true,true,true,true,false,false,false] rfl rfl (ZW HT_.out (by kernel_rfl)) (fun _ _ _ h=>h) (Or.inl ⟨by rfl,?_⟩) ?_ ?_
        rotate_left
        ·intro w'
         go_simp
         with_reducible rfl
        rotate_left
        ·simp only[Act.put,List.setIfInBounds_toArray,List.set_cons_zero,List.set_cons_succ,ZH,ZI]
         rfl
        refine last_ (i:=13) (N:=none) #[true,true,true,true,true,true,true,true,true,true,true,true,true,true,false,false] rfl rfl (Zas HT_.out (by kernel_rfl)) (by decide) (fun K hK=>?_)
        refine skip_ (w1:=?_) (by rfl) rfl ?_ ?_
        rotate_left
        ·go_simp
         rfl
        refine hK.out _ _ ?_
        clear hK K
        refine Z1 (i:=14) (N:=some 27) (v:=?_) (a':=?_) #[true,true,true,true,true,true,true,true,true,true,true,true,true,true,true,false] rfl rfl (ZW HT_.out (by kernel_rfl)) (fun _ _ _ h=>h) (Or.inl ⟨by rfl,?_⟩) ?_ ?_
        rotate_left
        ·intro w'
         go_simp
         with_reducible rfl
        rotate_left
        ·simp only[Act.put,List.setIfInBounds_toArray,List.set_cons_zero,List.set_cons_succ,ZH,ZI]
         rfl
        refine last_ (i:=15) (N:=none) #[true,true,true,true,true,true,true,true,true,true,true,true,true,true,true,true] rfl rfl (Zas HT_.out (by kernel_rfl)) (by decide) (fun K hK=>?_)
        refine skip_ (w1:=?_) (by rfl) rfl ?_ ?_
        rotate_left
        ·go_simp
         rfl
        refine hK.out _ _ ?_
        clear hK K
        refine ZbC (Zbr HT_.out (by kernel_rfl)) ?_
        try go_wp2
        (try simp only[← hl0_1])
        go_roundg k1
        case measure=>have:=HK1.out;omega
        case rel=>exact⟨(y89004),(wrap64 (x2_1+1)),(wrap64 (x3_1 - 1)),(by first|rfl|(simp;done)|(simp[*];done)),(by first|rfl|(simp;done)|(simp[*];done)),H',⟨by have:=HK1.out;omega⟩,⟨by(try simp only[hl0_1]);(with_reducible repeat(first|apply Kd.R_alloc|apply Kd.R_drewN|apply Kd.R_drew));exact HQ12.out⟩,⟨by repeat(first|(with_reducible first|exact HK.out|apply Kept.alloc|apply Kept.drewN|apply Kept.drew|refine Kept.setCell ?_ HMgo8.out _|refine Kept.setCell ?_ HMgo8.out _)|exact HK.out)⟩,⟨by repeat(first|(with_reducible first|exact HB.out|apply Zq|apply Zl|apply Zr|refine Zo ?_ GB8.out|refine Zo ?_ GB8.out)|exact HB.out)⟩⟩
       ·rw[if_neg c7] at H
        exact absurd H (by simp)
      ·rw[if_neg c6] at H
       exact absurd H (by simp)
     ·rw[if_neg c5] at H
      exact absurd H (by simp)
    ·rw[if_neg c4] at H
     exact absurd H (by simp)
   ·rw[if_neg c3] at H
    have c3b0:decide (x2_1<x3_1)=false:=Ze c3
    clear c3
    obtain rfl:=Zf H
    go_wp2
    first|go_end0|((try simp only[Exit.inBlock,Exit.then]);refine bodyPost_ret (results_none rfl _ _ _) rfl ?_)
    exact⟨by first|rfl|(simp[ZB,ZA] <;> rfl)|(simp[*,ZB,ZA] <;> rfl),(by first|exact(by(with_reducible repeat(first|apply Kd.R_alloc|apply Kd.R_drewN|apply Kd.R_drew));exact HO_0.out)|(simp only[hl0_1];exact(by(with_reducible repeat(first|apply Kd.R_alloc|apply Kd.R_drewN|apply Kd.R_drew));exact HO_0.out))),by repeat(first|(with_reducible first|exact HB.out|apply Zq|apply Zl|apply Zr)|exact HB.out),by repeat(first|(with_reducible first|exact HK.out|apply Kept.alloc|apply Kept.drewN|apply Kept.drew)|exact HK.out)⟩
end Go.Proofs.Ythphnhmabieflab.Pr
namespace Go.Proofs.Ythphnhmabieflab.Pr
open Go.RowKit Go.Proofs.YthphnhmabieflabW.PrintWords Go.Proofs.Ythphnhmabieflab.Ni
theorem rd_mid (pre:List Int) (x:Int) (post:List Int):rd (pre ++ x :: post) (pre.length:Int)=x:=by
 rw[Zbe,List.getD_eq_getElem?_getD,List.getElem?_append_right (Nat.le_refl _),Nat.sub_self];rfl
theorem rev_l:∀(n:Nat) (M pre post:List Int) (k:Nat),M.length=n→n<k→(pre ++ M ++ post).length≤4611686018427387904 →
  ZS.l0 k (pre ++ M ++ post) (pre.length:Int) ((pre.length:Int)+(M.length:Int) - 1)=some (pre ++ M.reverse ++ post):=by
 intro n
 induction n using Nat.strongRecOn with
 | ind n ih=>
  intro M pre post k hM hk hl
  obtain⟨k,rfl⟩:∃m,k=m+1:=⟨k - 1,by omega⟩
  simp only[ZS.l0]
  cases M with
  | nil=>rw[if_neg (by simp only[List.length_nil];omega)];rfl
  | cons a t=>
   rcases List.eq_nil_or_concat t with rfl|⟨u,b,rfl⟩
   ·rw[if_neg (by simp only[List.length_cons,List.length_nil];omega)];rfl
   ·rw[List.concat_eq_append] at *
    have e0:pre ++ a :: (u ++ [b]) ++ post=pre ++ a :: (u ++ b :: post):=by simp
    have e1:pre ++ a :: (u ++ b :: post)=(pre ++ a :: u) ++ b :: post:=by simp
    have x3:(pre.length:Int)+((a :: (u ++ [b])).length:Int) - 1=((pre ++ a :: u).length:Int):=by simp;omega
    have x4:(pre ++ a :: u).length=pre.length+u.length+1:=by simp;omega
    have x5:(pre ++ a :: (u ++ b :: post)).length=pre.length+u.length+2+post.length:=by simp;omega
    rw[e0] at hl ⊢
    rw[x5] at hl
    rw[x3,rd_mid,if_pos (by omega),if_pos (by omega),if_pos (by omega),if_pos (by omega),if_pos (by omega)]
    rw[show rd (pre ++ a :: (u ++ b :: post)) ((pre ++ a :: u).length:Int)=b by rw[e1,rd_mid]]
    rw[Int.toNat_natCast,Int.toNat_natCast,set_mid]
    rw[show pre ++ b :: (u ++ b :: post)=(pre ++ b :: u) ++ b :: post by simp,show(pre ++ a :: u).length=(pre ++ b :: u).length by simp,set_mid]
    have x6:(pre ++ b :: u).length=pre.length+u.length+1:=by simp;omega
    rw[show wrap64 ((pre.length:Int)+1)=((pre ++ [b]).length:Int) by rw[Za2 (n:=pre.length+u.length+2+post.length) (by omega) (by omega)];simp]
    rw[show wrap64 (((pre ++ b :: u).length:Int) - 1)=((pre ++ [b]).length:Int)+(u.length:Int) - 1 by rw[x6,Zaf (by omega) (by omega)];simp;omega]
    rw[show(pre ++ b :: u) ++ a :: post=(pre ++ [b]) ++ u ++ (a :: post) by simp]
    simp only[List.length_cons,List.length_append,List.length_nil] at hM
    rw[ih u.length (by omega) u (pre ++ [b]) (a :: post) k rfl (by omega) (by simp;omega)]
    simp
theorem rev_f (l:List Int) (k:Nat) (hl:l.length≤4611686018427387904) (hk:2 ^ 64≤k):ZS.f k l=some l.reverse:=by
 unfold ZS.f
 have:=rev_l l.length l [] [] k rfl (by omega) (by simpa using hl)
 rw[Zaf (by omega) (by omega)]
 simpa using this
end Go.Proofs.Ythphnhmabieflab.Pr
namespace Go.Proofs.Ythphnhmabieflab.Pr
open Go.RowKit Go.Proofs.YthphnhmabieflabW.PrintWords Go.Proofs.YthphnhmabieflabW.PrintLast Go.Proofs.YthphnhmabieflabW.PrintMore
attribute [local go_sem] Zap Zan Zax Zaw Zai Zah Zao Zam
set_option linter.unusedVariables false
set_option linter.unusedSimpArgs false
def ZbD.f (a0:Int) (a1:Int):Option (Int×Int):=some (IntKind.u64.wrap ((IntKind.u64.wrap ((IntKind.u64.wrap ((a0 / 4294967296) * (a1 / 4294967296)))+((IntKind.u64.wrap ((IntKind.u64.wrap ((a0 / 4294967296) * (Go.bits .and .u64 a1 4294967295)))+((IntKind.u64.wrap ((Go.bits .and .u64 a0 4294967295) * (Go.bits .and .u64 a1 4294967295))) / 4294967296))) / 4294967296)))+((IntKind.u64.wrap ((Go.bits .and .u64 (IntKind.u64.wrap ((IntKind.u64.wrap ((a0 / 4294967296) * (Go.bits .and .u64 a1 4294967295)))+((IntKind.u64.wrap ((Go.bits .and .u64 a0 4294967295) * (Go.bits .and .u64 a1 4294967295))) / 4294967296))) 4294967295)+(IntKind.u64.wrap ((Go.bits .and .u64 a0 4294967295) * (a1 / 4294967296))))) / 4294967296)),IntKind.u64.wrap (a0 * a1))
set_option maxHeartbeats 8000000 in
set_option maxRecDepth 100000 in
theorem ZbD.calls (a0:Int) (a1:Int) (r1:Int) (r2:Int) (w:World) (h:ZbD.f a0 a1=some (r1,r2)) :
  Calls Try.prog 139 #[.int .u64 a0,.int .u64 a1] w fun e w'=>e=.returned (.tuple #[.int .u64 r1,.int .u64 r2])∧Zab w w':=by
 have H:(some (IntKind.u64.wrap ((IntKind.u64.wrap ((IntKind.u64.wrap ((a0 / 4294967296) * (a1 / 4294967296)))+((IntKind.u64.wrap ((IntKind.u64.wrap ((a0 / 4294967296) * (Go.bits .and .u64 a1 4294967295)))+((IntKind.u64.wrap ((Go.bits .and .u64 a0 4294967295) * (Go.bits .and .u64 a1 4294967295))) / 4294967296))) / 4294967296)))+((IntKind.u64.wrap ((Go.bits .and .u64 (IntKind.u64.wrap ((IntKind.u64.wrap ((a0 / 4294967296) * (Go.bits .and .u64 a1 4294967295)))+((IntKind.u64.wrap ((Go.bits .and .u64 a0 4294967295) * (Go.bits .and .u64 a1 4294967295))) / 4294967296))) 4294967295)+(IntKind.u64.wrap ((Go.bits .and .u64 a0 4294967295) * (a1 / 4294967296))))) / 4294967296)),IntKind.u64.wrap (a0 * a1)))=some (r1,r2):=h
 clear h
 simp only[Option.some.injEq,Prod.mk.injEq] at H
 obtain⟨rfl,rfl⟩:=H
 go_enter Try.func139,Try.ntmps139
 go_wp2
 go_ret2
 exact⟨by first|rfl|(simp;done)|(simp[*];done),by repeat(first|exact Zab.refl _|apply Zab.step)⟩
def ZcS.f (a0:Int) (a1:Int):Option (Int×Int):=(ZbD.f a0 a1).bind fun bt122001=>(some (bt122001.1,bt122001.2))
set_option maxHeartbeats 8000000 in
set_option maxRecDepth 100000 in
theorem ZcS.calls (a0:Int) (a1:Int) (r1:Int) (r2:Int) (w:World) (h:ZcS.f a0 a1=some (r1,r2)) :
  Calls Try.prog 122 #[.int .u64 a0,.int .u64 a1] w fun e w'=>e=.returned (.tuple #[.int .u64 r1,.int .u64 r2])∧Zab w w':=by
 have H:((ZbD.f a0 a1).bind fun bt122001=>(some (bt122001.1,bt122001.2)))=some (r1,r2):=h
 clear h
 replace H:=Zg H
 obtain⟨⟨t122001,t122002⟩,A30,H⟩:=H
 replace H:(some (t122001,t122002))=some (r1,r2):=H
 have A3:=Za A30;clear A30
 simp only[Option.some.injEq,Prod.mk.injEq] at H
 obtain⟨rfl,rfl⟩:=H
 go_enter Try.func122,Try.ntmps122
 go_wp2_with (first|((with_reducible refine ZO (f:=139) rfl ?_);refine Z6 (some 25) rfl rfl Try.func139 (by kernel_rfl) rfl #[.int .u64 a0,.int .u64 a1] rfl (by(try simp only[List.map_toArray,List.map_cons,List.map_nil]);first|done|rfl|(simp only[Zj,Zi];rfl)) ?_;(with_reducible refine(ZbD.calls a0 a1 t122001 t122002 _ A3.out).mono ?_);rintro e w' ⟨rfl,⟨nd,rfl⟩⟩;refine⟨_,rfl,?_⟩))
 go_ret2
 exact⟨by first|rfl|(simp;done)|(simp[*];done),by repeat(first|exact Zab.refl _|apply Zab.step)⟩
end Go.Proofs.Ythphnhmabieflab.Pr
