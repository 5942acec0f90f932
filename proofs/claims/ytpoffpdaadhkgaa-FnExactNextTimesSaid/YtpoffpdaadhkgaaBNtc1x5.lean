/- The texts of one claim, put together by a program of this session. -/
import Derived.Test.YtpoffpdaadhkgaaBNtc1x1
import Derived.Test.YtpoffpdaadhkgaaBNtc1x4
namespace Go.Proofs.Ytpoffpdaadhkgaa.Pr
open Go.RowKit Go.Proofs.YtpoffpdaadhkgaaW.PrintWords Go.Proofs.YtpoffpdaadhkgaaW.PrintLast Go.Proofs.YtpoffpdaadhkgaaW.PrintMore
attribute [local go_sem] Zaj Zah Zaq Zap Zac Zab Zai Zag
set_option linter.unusedVariables false
set_option linter.unusedSimpArgs false
mutual
def Z0.j0:Nat→Bool→Int→List Int→Option (Bool)
 | 0,_,_,_=>none
 | k+1,x23,x118002000,x118002001=>if x23=true then(some false) else(Z0.l0 k x118002001 (x118002001.length:Int) 0 x118002000 x118002001)
def Z0.l0:Nat→List Int→Int→Int→Int→List Int→Option (Bool)
 | 0,_,_,_,_,_=>none
 | k+1,x25,x26,x27,x118002000,x118002001=>if x27<x26 then(if 0≤x27 then(if x27<(x25.length:Int) then(if (rd x25 x27)<(-1000000) then(some false) else(if (rd x25 x27) > 1000000 then(some false) else(if x118002000=0 then(none) else(if (wrap64 (Int.tdiv x27 x118002000))=(Int.tmod x27 x118002000) then(if (rd x25 x27)=0 then(Z0.l0 k x25 x26 (wrap64 (x27+1)) x118002000 x118002001) else(some false)) else(Z0.l0 k x25 x26 (wrap64 (x27+1)) x118002000 x118002001))))) else(none)) else(none)) else(some true)
end
def Z0.f (k:Nat) (a0_0:Int) (l0_1:List Int):Option (Bool):=if a0_0<0 then(Z0.j0 k true a0_0 l0_1) else(if a0_0 > 8 then(Z0.j0 k true a0_0 l0_1) else(Z0.j0 k ((l0_1.length:Int) != (wrap64 (a0_0 * a0_0))) a0_0 l0_1))
set_option maxHeartbeats 8000000 in
set_option maxRecDepth 100000 in
theorem Z0.calls (k:Nat) (a0_0:Int) (A0_1:Option Addr) (c0_1:Nat) (l0_1:List Int) (r:Bool) (w:World) (hr0_1:Kd.C (Kd.int .i64) w A0_1 l0_1.length l0_1) (hc0_1:l0_1.length≤c0_1) (h:Z0.f k a0_0 l0_1=some r) :
  Calls Try.prog 118 #[.agg #[.int .i64 a0_0,.slice A0_1 l0_1.length c0_1]] w fun e w'=>e=.returned (.bool r)∧Below w.heap.size w w':=by
 have hu90:=Try.underlying90
 have HR0_1:=Za hr0_1;have HC0_1:=Za hc0_1;clear hr0_1 hc0_1
 have HB:=Za (Below.refl w.heap.size w)
 have H:(if a0_0<0 then(Z0.j0 k true a0_0 l0_1) else(if a0_0 > 8 then(Z0.j0 k true a0_0 l0_1) else(Z0.j0 k ((l0_1.length:Int) != (wrap64 (a0_0 * a0_0))) a0_0 l0_1)))=some r:=h
 clear h;have HC2:=Za H;clear H
 go_enter Try.func118,Try.ntmps118
 go_upto_region 1 with (first|((with_reducible refine ZD (N:=1) rfl ?_);(try(refine ZaG (by rfl) ?_;dsimp only));refine ZE ?hg (N:=1) ?hd (cs:=#[.int .i64 a0_0,.slice A0_1 l0_1.length c0_1]) (t:=90) ?hr ?_;(case hd=>rfl);(case hg=>rfl);(case hr=>first|(go_simp;done)|(go_simp;rfl));intro gb118001 hg w3 hbox hb;have n0_:=Za (Zy (by repeat(first|(with_reducible first|exact HB.out|apply Zr|apply Zm|apply Zs)|exact HB.out)) hb);have n1_:=Za (hbox);have n2_:=Za ((by rw[hg];exact(Zv (by repeat(first|(with_reducible first|exact HB.out|apply Zr|apply Zm|apply Zs)|exact HB.out))):w.heap.size≤gb118001));have n3_:=Za ((by rw[hg];exact(Zv (by repeat(first|(with_reducible first|exact HB.out|apply Zr|apply Zm|apply Zs)|exact HB.out))):w.heap.size≤gb118001));clear HB;have HB:=n0_;have BK118001:=n1_;have GW118001:=n2_;have GE118001:=n3_;clear n0_ n1_ n2_ n3_;clear hb hbox hg))
 repeat(go_quiet (first|((with_reducible refine ZD (N:=1) rfl ?_);(try(refine ZaG (by rfl) ?_;dsimp only));refine ZE ?hg (N:=1) ?hd (cs:=#[.int .i64 a0_0,.slice A0_1 l0_1.length c0_1]) (t:=90) ?hr ?_;(case hd=>rfl);(case hg=>rfl);(case hr=>first|(go_simp;done)|(go_simp;rfl));intro gb118001 hg w3 hbox hb;have n0_:=Za (Zy (by repeat(first|(with_reducible first|exact HB.out|apply Zr|apply Zm|apply Zs)|exact HB.out)) hb);have n1_:=Za (hbox);have n2_:=Za ((by rw[hg];exact(Zv (by repeat(first|(with_reducible first|exact HB.out|apply Zr|apply Zm|apply Zs)|exact HB.out))):w.heap.size≤gb118001));have n3_:=Za ((by rw[hg];exact(Zv (by repeat(first|(with_reducible first|exact HB.out|apply Zr|apply Zm|apply Zs)|exact HB.out))):w.heap.size≤gb118001));clear HB;have HB:=n0_;have BK118001:=n1_;have GW118001:=n2_;have GE118001:=n3_;clear n0_ n1_ n2_ n3_;clear hb hbox hg));go_upto_region 1 with (first|((with_reducible refine ZD (N:=1) rfl ?_);(try(refine ZaG (by rfl) ?_;dsimp only));refine ZE ?hg (N:=1) ?hd (cs:=#[.int .i64 a0_0,.slice A0_1 l0_1.length c0_1]) (t:=90) ?hr ?_;(case hd=>rfl);(case hg=>rfl);(case hr=>first|(go_simp;done)|(go_simp;rfl));intro gb118001 hg w3 hbox hb;have n0_:=Za (Zy (by repeat(first|(with_reducible first|exact HB.out|apply Zr|apply Zm|apply Zs)|exact HB.out)) hb);have n1_:=Za (hbox);have n2_:=Za ((by rw[hg];exact(Zv (by repeat(first|(with_reducible first|exact HB.out|apply Zr|apply Zm|apply Zs)|exact HB.out))):w.heap.size≤gb118001));have n3_:=Za ((by rw[hg];exact(Zv (by repeat(first|(with_reducible first|exact HB.out|apply Zr|apply Zm|apply Zs)|exact HB.out))):w.heap.size≤gb118001));clear HB;have HB:=n0_;have BK118001:=n1_;have GW118001:=n2_;have GE118001:=n3_;clear n0_ n1_ n2_ n3_;clear hb hbox hg)))
 (try simp only[Act.put,List.setIfInBounds_toArray,List.set_cons_zero,List.set_cons_succ])
 go_cut [23] (fun v23 wc=>∃(kq:Nat) (x23_1:Bool),v23=.bool x23_1∧Aside0 (Z0.j0 kq x23_1 a0_0 l0_1=some r)∧Aside0 (kq≤k)∧Aside0 (wc.heap[gb118001]? = some (.cells #[.int .i64 a0_0,(.slice A0_1 l0_1.length c0_1)] 90 (0,0)))∧Aside0 (Below w.heap.size w wc))
 case first=>
  have H:=HC2.out
  clear HC2
  by_cases c4:a0_0<0
  ·rw[if_pos c4] at H
   have c4b0:decide (a0_0<0)=true:=Ze c4
   clear c4
   (first|rw[c4b0]|(simp only[ZN,ZP];rw[c4b0])|skip)
   have H':=Za H
   clear H
   have hcz5_0:w3.cell? ⟨gb118001,0,none⟩=some (.int .i64 a0_0):=(Zu BK118001.out 0).trans rfl
   have hcz5_1:w3.cell? ⟨gb118001,1,none⟩=some (.slice A0_1 l0_1.length c0_1):=(Zu BK118001.out 1).trans rfl
   have hfz5_0:=Zt BK118001.out 0
   have hfz5_1:=Zt BK118001.out 1
   go_wp2
   repeat(go_quiet (fail);try go_wp2)
   go_meet
   case rel=>exact⟨_,(true),(by first|rfl|(simp;done)|(simp[*];done)),H',⟨by first|omega|exact Nat.le_refl _⟩,⟨by(with_reducible repeat(first|refine Zo ?_ _|refine Zq ?_|refine Zn ?_ _));exact BK118001.out⟩,⟨by repeat(first|(with_reducible first|exact HB.out|apply Zr|apply Zm|apply Zs|refine Zp ?_ GE118001.out)|exact HB.out)⟩⟩
  ·rw[if_neg c4] at H
   have c4b0:decide (a0_0<0)=false:=Zf c4
   clear c4
   (first|rw[c4b0]|(simp only[ZN,ZP];rw[c4b0])|skip)
   by_cases c6:a0_0 > 8
   ·rw[if_pos c6] at H
    have c6b0:decide (8<a0_0)=true:=Ze c6
    clear c6
    have H':=Za H
    clear H
    have hcz7_0:w3.cell? ⟨gb118001,0,none⟩=some (.int .i64 a0_0):=(Zu BK118001.out 0).trans rfl
    have hcz7_1:w3.cell? ⟨gb118001,1,none⟩=some (.slice A0_1 l0_1.length c0_1):=(Zu BK118001.out 1).trans rfl
    have hfz7_0:=Zt BK118001.out 0
    have hfz7_1:=Zt BK118001.out 1
    go_wp2
    repeat(go_quiet (fail);try go_wp2)
    go_meet
    case rel=>exact⟨_,(true),(by first|rfl|(simp;done)|(simp[*];done)),H',⟨by first|omega|exact Nat.le_refl _⟩,⟨by(with_reducible repeat(first|refine Zo ?_ _|refine Zq ?_|refine Zn ?_ _));exact BK118001.out⟩,⟨by repeat(first|(with_reducible first|exact HB.out|apply Zr|apply Zm|apply Zs|refine Zp ?_ GE118001.out)|exact HB.out)⟩⟩
   ·rw[if_neg c6] at H
    have c6b0:decide (8<a0_0)=false:=Zf c6
    clear c6
    have H':=Za H
    clear H
    have hcz8_0:w3.cell? ⟨gb118001,0,none⟩=some (.int .i64 a0_0):=(Zu BK118001.out 0).trans rfl
    have hcz8_1:w3.cell? ⟨gb118001,1,none⟩=some (.slice A0_1 l0_1.length c0_1):=(Zu BK118001.out 1).trans rfl
    have hfz8_0:=Zt BK118001.out 0
    have hfz8_1:=Zt BK118001.out 1
    go_wp2
    repeat(go_quiet (fail);try go_wp2)
    go_meet
    case rel=>exact⟨_,(((l0_1.length:Int) != (wrap64 (a0_0 * a0_0)))),(by first|rfl|(simp;done)|(simp[*];done)),H',⟨by first|omega|exact Nat.le_refl _⟩,⟨by(with_reducible repeat(first|refine Zo ?_ _|refine Zq ?_|refine Zn ?_ _));exact BK118001.out⟩,⟨by repeat(first|(with_reducible first|exact HB.out|apply Zr|apply Zm|apply Zs|refine Zp ?_ GE118001.out)|exact HB.out)⟩⟩
 case rest=>
  clear HC2
  try clear c1
  try clear p2
  try clear c4
  try clear c4b0
  try clear c6
  try clear c6b0
  try clear p6
  try clear hcz5_0
  try clear hcz5_1
  try clear hcz7_0
  try clear hcz7_1
  try clear hcz8_0
  try clear hcz8_1
  try clear hfz5_0
  try clear hfz5_1
  try clear hfz7_0
  try clear hfz7_1
  try clear hfz8_0
  try clear hfz8_1
  obtain⟨kq,x23_1,rfl,HA,HJ1,BK118001,HB⟩:=hcut
  cases kq with
  | zero=>exact absurd HA.out (by simp[Z0.j0])
  | succ kj1=>
   have H:=HA.out
   clear HA
   simp only[Z0.j0] at H
   by_cases c9:x23_1=true
   ·subst c9
    have H1:(some false)=some r:=by rw[if_pos rfl] at H;exact H
    clear H
    have H:=H1
    clear H1
    obtain rfl:=Zg H
    go_wp2
    repeat(go_quiet (fail);try go_wp2)
    go_ret
    exact⟨by first|rfl|(simp[ZA,Zz] <;> rfl)|(simp[*,ZA,Zz] <;> rfl),by repeat(first|(with_reducible first|exact HB.out|apply Zr|apply Zm|apply Zs|refine Zp ?_ GE118001.out)|exact HB.out)⟩
   ·replace c9:=Bool.eq_false_iff.mpr c9
    subst c9
    have H1:(Z0.l0 kj1 l0_1 (l0_1.length:Int) 0 a0_0 l0_1)=some r:=by rw[if_neg (show ¬(false=true) by decide)] at H;exact H
    clear H
    have H:=H1
    clear H1
    have H':=Za H
    clear H
    have hcz10_0:wc.cell? ⟨gb118001,0,none⟩=some (.int .i64 a0_0):=(Zu BK118001.out 0).trans rfl
    have hcz10_1:wc.cell? ⟨gb118001,1,none⟩=some (.slice A0_1 l0_1.length c0_1):=(Zu BK118001.out 1).trans rfl
    have hfz10_0:=Zt BK118001.out 0
    have hfz10_1:=Zt BK118001.out 1
    go_wp2
    repeat(go_quiet (fail);try go_wp2)
    go_loopg [27] kj1 (fun kq v27 w'=>∃(x27_2:Int),v27=.int .i64 x27_2∧Aside0 (Z0.l0 kq l0_1 (l0_1.length:Int) x27_2 a0_0 l0_1=some r)∧Aside0 (kq≤kj1)∧Aside0 (w'.heap[gb118001]? = some (.cells #[.int .i64 a0_0,(.slice A0_1 l0_1.length c0_1)] 90 (0,0)))∧Aside0 (Below w.heap.size w w'))
    case atStart=>exact⟨(0),(by first|rfl|(simp;done)|(simp[*];done)),H',⟨Nat.le_refl _⟩,⟨by(with_reducible repeat(first|refine Zo ?_ _|refine Zq ?_|refine Zn ?_ _));exact BK118001.out⟩,⟨by repeat(first|(with_reducible first|exact HB.out|apply Zr|apply Zm|apply Zs|refine Zp ?_ GE118001.out)|exact HB.out)⟩⟩
    case round=>
     clear H'
     try clear c1
     try clear p2
     try clear c4
     try clear c4b0
     try clear c6
     try clear c6b0
     try clear p6
     try clear c9
     try clear hcz10_0
     try clear hcz10_1
     try clear hcz5_0
     try clear hcz5_1
     try clear hcz7_0
     try clear hcz7_1
     try clear hcz8_0
     try clear hcz8_1
     try clear hfz10_0
     try clear hfz10_1
     try clear hfz5_0
     try clear hfz5_1
     try clear hfz7_0
     try clear hfz7_1
     try clear hfz8_0
     try clear hfz8_1
     try clear p2
     try clear p6
     obtain⟨x27_2,rfl,HA,HK2,BK118001,HB⟩:=hrel
     cases gk with
     | zero=>exact absurd HA.out (by simp[Z0.l0])
     | succ k2=>
      have H:=HA.out
      clear HA
      simp only[Z0.l0] at H
      by_cases c11:x27_2<(l0_1.length:Int)
      ·rw[if_pos c11] at H
       have c11b0:decide (x27_2<(l0_1.length:Int))=true:=Ze c11
       clear c11
       by_cases c12:0≤x27_2
       ·rw[if_pos c12] at H
        have c12b0:decide (0≤x27_2)=true:=Ze c12
        clear c12
        by_cases c13:x27_2<(l0_1.length:Int)
        ·rw[if_pos c13] at H
         have c13b0:decide (x27_2<(l0_1.length:Int))=true:=Ze c13
         clear c13
         by_cases c14:(rd l0_1 x27_2)<(-1000000)
         ·rw[if_pos c14] at H
          have c14b0:decide ((rd l0_1 x27_2)<(-1000000))=true:=Ze c14
          clear c14
          obtain rfl:=Zg H
          have p118002:0≤(x27_2:Int):=Zd (by first|(with_reducible assumption)|assumption)
          have q118002:x27_2<(l0_1.length:Int):=Zd (by first|(with_reducible assumption)|assumption)
          obtain⟨ad118002,e118002,hx118002_0⟩:=Kd.at_int HR0_1.out x27_2 p118002 q118002
          cases e118002
          replace hx118002_0:=(HB.out.cell (Zc w _ hx118002_0)).trans hx118002_0
          replace p118002:=eq_true p118002
          replace q118002:=eq_true q118002
          go_wp2
          repeat(go_quiet (fail);try go_wp2)
          go_ret
          exact⟨by first|rfl|(simp[ZA,Zz] <;> rfl)|(simp[*,ZA,Zz] <;> rfl),by repeat(first|(with_reducible first|exact HB.out|apply Zr|apply Zm|apply Zs|refine Zp ?_ GE118001.out)|exact HB.out)⟩
         ·rw[if_neg c14] at H
          have c14b0:decide ((rd l0_1 x27_2)<(-1000000))=false:=Zf c14
          clear c14
          by_cases c15:(rd l0_1 x27_2) > 1000000
          ·rw[if_pos c15] at H
           have c15b0:decide (1000000<(rd l0_1 x27_2))=true:=Ze c15
           clear c15
           obtain rfl:=Zg H
           have p118002:0≤(x27_2:Int):=Zd (by first|(with_reducible assumption)|assumption)
           have q118002:x27_2<(l0_1.length:Int):=Zd (by first|(with_reducible assumption)|assumption)
           obtain⟨ad118002,e118002,hx118002_0⟩:=Kd.at_int HR0_1.out x27_2 p118002 q118002
           cases e118002
           replace hx118002_0:=(HB.out.cell (Zc w _ hx118002_0)).trans hx118002_0
           replace p118002:=eq_true p118002
           replace q118002:=eq_true q118002
           go_wp2
           repeat(go_quiet (fail);try go_wp2)
           go_ret
           exact⟨by first|rfl|(simp[ZA,Zz] <;> rfl)|(simp[*,ZA,Zz] <;> rfl),by repeat(first|(with_reducible first|exact HB.out|apply Zr|apply Zm|apply Zs|refine Zp ?_ GE118001.out)|exact HB.out)⟩
          ·rw[if_neg c15] at H
           have c15b0:decide (1000000<(rd l0_1 x27_2))=false:=Zf c15
           clear c15
           by_cases c16:a0_0=0
           ·rw[if_pos c16] at H
            exact absurd H (by simp)
           ·rw[if_neg c16] at H
            have c16b0:(a0_0 == 0)=false:=beq_eq_false_iff_ne.mpr c16
            have c16b1:(a0_0 != 0)=true:=bne_iff_ne.mpr c16
            by_cases c17:(wrap64 (Int.tdiv x27_2 a0_0))=(Int.tmod x27_2 a0_0)
            ·rw[if_pos c17] at H
             have c17b0:((wrap64 (Int.tdiv x27_2 a0_0)) == (Int.tmod x27_2 a0_0))=true:=beq_iff_eq.mpr c17
             have c17b1:((wrap64 (Int.tdiv x27_2 a0_0)) != (Int.tmod x27_2 a0_0))=false:=bne_eq_false_iff_eq.mpr c17
             clear c17
             by_cases c18:(rd l0_1 x27_2)=0
             ·rw[if_pos c18] at H
              have c18b0:((rd l0_1 x27_2) == 0)=true:=beq_iff_eq.mpr c18
              have c18b1:((rd l0_1 x27_2) != 0)=false:=bne_eq_false_iff_eq.mpr c18
              clear c18
              have H':=Za H
              clear H
              have p118002:0≤(x27_2:Int):=Zd (by first|(with_reducible assumption)|assumption)
              have q118002:x27_2<(l0_1.length:Int):=Zd (by first|(with_reducible assumption)|assumption)
              obtain⟨ad118002,e118002,hx118002_0⟩:=Kd.at_int HR0_1.out x27_2 p118002 q118002
              cases e118002
              replace hx118002_0:=(HB.out.cell (Zc w _ hx118002_0)).trans hx118002_0
              replace p118002:=eq_true p118002
              replace q118002:=eq_true q118002
              have hcz19_0:wr.cell? ⟨gb118001,0,none⟩=some (.int .i64 a0_0):=(Zu BK118001.out 0).trans rfl
              have hcz19_1:wr.cell? ⟨gb118001,1,none⟩=some (.slice (some ad118002) l0_1.length c0_1):=(Zu BK118001.out 1).trans rfl
              have hfz19_0:=Zt BK118001.out 0
              have hfz19_1:=Zt BK118001.out 1
              go_wp2
              repeat(go_quiet (fail);try go_wp2)
              go_roundg k2
              case measure=>have:=HJ1.out;have:=HK2.out;omega
              case rel=>exact⟨(wrap64 (x27_2+1)),(by first|rfl|(simp;done)|(simp[*];done)),H',⟨by have:=HJ1.out;have:=HK2.out;omega⟩,⟨by(with_reducible repeat(first|refine Zo ?_ _|refine Zq ?_|refine Zn ?_ _));exact BK118001.out⟩,⟨by repeat(first|(with_reducible first|exact HB.out|apply Zr|apply Zm|apply Zs|refine Zp ?_ GE118001.out)|exact HB.out)⟩⟩
             ·rw[if_neg c18] at H
              have c18b0:((rd l0_1 x27_2) == 0)=false:=beq_eq_false_iff_ne.mpr c18
              have c18b1:((rd l0_1 x27_2) != 0)=true:=bne_iff_ne.mpr c18
              obtain rfl:=Zg H
              have p118002:0≤(x27_2:Int):=Zd (by first|(with_reducible assumption)|assumption)
              have q118002:x27_2<(l0_1.length:Int):=Zd (by first|(with_reducible assumption)|assumption)
              obtain⟨ad118002,e118002,hx118002_0⟩:=Kd.at_int HR0_1.out x27_2 p118002 q118002
              cases e118002
              replace hx118002_0:=(HB.out.cell (Zc w _ hx118002_0)).trans hx118002_0
              replace p118002:=eq_true p118002
              replace q118002:=eq_true q118002
              have hcz20_0:wr.cell? ⟨gb118001,0,none⟩=some (.int .i64 a0_0):=(Zu BK118001.out 0).trans rfl
              have hcz20_1:wr.cell? ⟨gb118001,1,none⟩=some (.slice (some ad118002) l0_1.length c0_1):=(Zu BK118001.out 1).trans rfl
              have hfz20_0:=Zt BK118001.out 0
              have hfz20_1:=Zt BK118001.out 1
              go_wp2
              repeat(go_quiet (fail);try go_wp2)
              go_ret
              exact⟨by first|rfl|(simp[ZA,Zz] <;> rfl)|(simp[*,ZA,Zz] <;> rfl),by repeat(first|(with_reducible first|exact HB.out|apply Zr|apply Zm|apply Zs|refine Zp ?_ GE118001.out)|exact HB.out)⟩
            ·rw[if_neg c17] at H
             have c17b0:((wrap64 (Int.tdiv x27_2 a0_0)) == (Int.tmod x27_2 a0_0))=false:=beq_eq_false_iff_ne.mpr c17
             have c17b1:((wrap64 (Int.tdiv x27_2 a0_0)) != (Int.tmod x27_2 a0_0))=true:=bne_iff_ne.mpr c17
             have H':=Za H
             clear H
             have p118002:0≤(x27_2:Int):=Zd (by first|(with_reducible assumption)|assumption)
             have q118002:x27_2<(l0_1.length:Int):=Zd (by first|(with_reducible assumption)|assumption)
             obtain⟨ad118002,e118002,hx118002_0⟩:=Kd.at_int HR0_1.out x27_2 p118002 q118002
             cases e118002
             replace hx118002_0:=(HB.out.cell (Zc w _ hx118002_0)).trans hx118002_0
             replace p118002:=eq_true p118002
             replace q118002:=eq_true q118002
             have hcz21_0:wr.cell? ⟨gb118001,0,none⟩=some (.int .i64 a0_0):=(Zu BK118001.out 0).trans rfl
             have hcz21_1:wr.cell? ⟨gb118001,1,none⟩=some (.slice (some ad118002) l0_1.length c0_1):=(Zu BK118001.out 1).trans rfl
             have hfz21_0:=Zt BK118001.out 0
             have hfz21_1:=Zt BK118001.out 1
             go_wp2
             repeat(go_quiet (fail);try go_wp2)
             go_roundg k2
             case measure=>have:=HJ1.out;have:=HK2.out;omega
             case rel=>exact⟨(wrap64 (x27_2+1)),(by first|rfl|(simp;done)|(simp[*];done)),H',⟨by have:=HJ1.out;have:=HK2.out;omega⟩,⟨by(with_reducible repeat(first|refine Zo ?_ _|refine Zq ?_|refine Zn ?_ _));exact BK118001.out⟩,⟨by repeat(first|(with_reducible first|exact HB.out|apply Zr|apply Zm|apply Zs|refine Zp ?_ GE118001.out)|exact HB.out)⟩⟩
        ·rw[if_neg c13] at H
         exact absurd H (by simp)
       ·rw[if_neg c12] at H
        exact absurd H (by simp)
      ·rw[if_neg c11] at H
       have c11b0:decide (x27_2<(l0_1.length:Int))=false:=Zf c11
       clear c11
       obtain rfl:=Zg H
       go_wp2
       repeat(go_quiet (fail);try go_wp2)
       go_ret
       exact⟨by first|rfl|(simp[ZA,Zz] <;> rfl)|(simp[*,ZA,Zz] <;> rfl),by repeat(first|(with_reducible first|exact HB.out|apply Zr|apply Zm|apply Zs|refine Zp ?_ GE118001.out)|exact HB.out)⟩
def Zba.f (a0_0:Int) (a0_1:Int) (a1:Bool):Option (Int×Int×Bool):=if a1=true then((ZaJ.f a0_0 a0_1).bind fun t119003=>(if t119003=true then(some (a0_0,a0_1,true)) else(some (0,0,false)))) else(some (0,0,false))
set_option maxHeartbeats 8000000 in
set_option maxRecDepth 100000 in
theorem Zba.calls (a0_0:Int) (a0_1:Int) (a1:Bool) (r1:Int) (r2:Int) (r3:Bool) (w:World) (h:Zba.f a0_0 a0_1 a1=some (r1,r2,r3)) :
  Calls Try.prog 119 #[.agg #[.int .i64 a0_0,.int .i64 a0_1],.bool a1] w fun e w'=>e=.returned (.tuple #[.agg #[.int .i64 r1,.int .i64 r2],.bool r3])∧Below w.heap.size w w':=by
 have hu29:=Try.underlying29
 have HB:=Za (Below.refl w.heap.size w)
 have H:(if a1=true then((ZaJ.f a0_0 a0_1).bind fun t119003=>(if t119003=true then(some (a0_0,a0_1,true)) else(some (0,0,false)))) else(some (0,0,false)))=some (r1,r2,r3):=h
 clear h
 by_cases c3:a1=true
 ·subst c3
  have H1:((ZaJ.f a0_0 a0_1).bind fun t119003=>(if t119003=true then(some (a0_0,a0_1,true)) else(some (0,0,false))))=some (r1,r2,r3):=by rw[if_pos rfl] at H;exact H
  clear H
  have H:=H1
  clear H1
  replace H:=Zh H
  obtain⟨t119003,A40,H⟩:=H
  replace H:(if t119003=true then(some (a0_0,a0_1,true)) else(some (0,0,false)))=some (r1,r2,r3):=H
  have A4:=Za A40;clear A40
  by_cases c5:t119003=true
  ·subst c5
   have H1:(some (a0_0,a0_1,true))=some (r1,r2,r3):=by rw[if_pos rfl] at H;exact H
   clear H
   have H:=H1
   clear H1
   simp only[Option.some.injEq,Prod.mk.injEq] at H
   obtain⟨rfl,rfl,rfl⟩:=H
   go_enter Try.func119,Try.ntmps119
   go_wp2_with (first|((with_reducible refine ZD (N:=2) rfl ?_);refine ZE ?hg (N:=2) ?hd (cs:=#[.int .i64 a0_0,.int .i64 a0_1]) (t:=29) ?hr ?_;(case hd=>rfl);(case hg=>rfl);(case hr=>first|(go_simp;done)|(go_simp;rfl));intro gb119001 hg w6 hbox hb;have n0_:=Za (Zy (by repeat(first|(with_reducible first|exact HB.out|apply Zr|apply Zm|apply Zs)|exact HB.out)) hb);have n1_:=Za (hbox);have n2_:=Za ((by rw[hg];exact(Zv (by repeat(first|(with_reducible first|exact HB.out|apply Zr|apply Zm|apply Zs)|exact HB.out))):w.heap.size≤gb119001));have n3_:=Za ((by rw[hg];exact(Zv (by repeat(first|(with_reducible first|exact HB.out|apply Zr|apply Zm|apply Zs)|exact HB.out))):w.heap.size≤gb119001));clear HB;have HB:=n0_;have BK119001:=n1_;have GW119001:=n2_;have GE119001:=n3_;clear n0_ n1_ n2_ n3_;clear hb hbox hg)|((with_reducible refine ZD (N:=4) rfl ?_);refine ZE ?hg (N:=4) ?hd (cs:=#[.int .i64 0,.int .i64 0]) (t:=29) ?hr ?_;(case hd=>rfl);(case hg=>rfl);(case hr=>first|(go_simp;done)|(go_simp;rfl));intro gb119002 hg w7 hbox hb;have n0_:=Za (Zx (g:=gb119001) (o:=.cells #[.int .i64 a0_0,.int .i64 a0_1] 29 (0,0)) (by(with_reducible repeat(first|refine Zo ?_ _|refine Zq ?_|refine Zn ?_ _));exact BK119001.out) hb);have n1_:=Za (Zy (by repeat(first|(with_reducible first|exact HB.out|apply Zr|apply Zm|apply Zs|refine Zp ?_ GE119001.out)|exact HB.out)) hb);have n2_:=Za (hbox);have n3_:=Za ((by rw[hg];exact(Zv (by repeat(first|(with_reducible first|exact HB.out|apply Zr|apply Zm|apply Zs|refine Zp ?_ GE119001.out)|exact HB.out))):w.heap.size≤gb119002));have n4_:=Za ((by rw[hg];exact(Zv (by repeat(first|(with_reducible first|exact HB.out|apply Zr|apply Zm|apply Zs|refine Zp ?_ GE119001.out)|exact HB.out))):w.heap.size≤gb119002));have n5_:=Za ((by rw[hg];exact Nat.ne_of_lt (ZB (g:=gb119001) (o:=.cells #[.int .i64 a0_0,.int .i64 a0_1] 29 (0,0)) (by(with_reducible repeat(first|refine Zo ?_ _|refine Zq ?_|refine Zn ?_ _));exact BK119001.out)):gb119001≠gb119002));have n6_:=Za ((by rw[hg];exact Nat.ne_of_gt (ZB (g:=gb119001) (o:=.cells #[.int .i64 a0_0,.int .i64 a0_1] 29 (0,0)) (by(with_reducible repeat(first|refine Zo ?_ _|refine Zq ?_|refine Zn ?_ _));exact BK119001.out)):gb119002≠gb119001));clear BK119001;clear HB;have BK119001:=n0_;have HB:=n1_;have BK119002:=n2_;have GW119002:=n3_;have GE119002:=n4_;have NB119001_119002:=n5_;have NB119002_119001:=n6_;clear n0_ n1_ n2_ n3_ n4_ n5_ n6_;clear hb hbox hg;have hnb8:=NB119001_119002.out;have hnc8:=NB119002_119001.out;have hcz9_0:w7.cell? ⟨gb119001,0,none⟩=some (.int .i64 a0_0):=(Zu BK119001.out 0).trans rfl;have hcz9_1:w7.cell? ⟨gb119001,1,none⟩=some (.int .i64 a0_1):=(Zu BK119001.out 1).trans rfl;have hfz9_0:=Zt BK119001.out 0;have hfz9_1:=Zt BK119001.out 1)|(go_at_call 72;(with_reducible refine(ZaJ.calls a0_0 a0_1 true _ A4.out).mono ?_);rintro e w10 ⟨rfl,hb⟩;have n0_:=Za (Zx (g:=gb119001) (o:=.cells #[.int .i64 a0_0,.int .i64 a0_1] 29 (0,0)) (by(with_reducible repeat(first|refine Zo ?_ _|refine Zq ?_|refine Zn ?_ _));exact BK119001.out) hb);have n1_:=Za (Zx (g:=gb119002) (o:=.cells #[.int .i64 0,.int .i64 0] 29 (0,0)) (by(with_reducible repeat(first|refine Zo ?_ _|refine Zq ?_|refine Zn ?_ _));exact BK119002.out) hb);have n2_:=Za (Zy (by repeat(first|(with_reducible first|exact HB.out|apply Zr|apply Zm|apply Zs|refine Zp ?_ GE119001.out|refine Zp ?_ GE119002.out)|exact HB.out)) hb);clear BK119001;clear BK119002;clear HB;have BK119001:=n0_;have BK119002:=n1_;have HB:=n2_;clear n0_ n1_ n2_;(try clear hb);(try clear hb2);(try clear hk);(try clear hi);have hcz11_0:w10.cell? ⟨gb119001,0,none⟩=some (.int .i64 a0_0):=(Zu BK119001.out 0).trans rfl;have hcz11_1:w10.cell? ⟨gb119001,1,none⟩=some (.int .i64 a0_1):=(Zu BK119001.out 1).trans rfl;have hfz11_0:=Zt BK119001.out 0;have hfz11_1:=Zt BK119001.out 1;have hcz12_0:w10.cell? ⟨gb119002,0,none⟩=some (.int .i64 0):=(Zu BK119002.out 0).trans rfl;have hcz12_1:w10.cell? ⟨gb119002,1,none⟩=some (.int .i64 0):=(Zu BK119002.out 1).trans rfl;have hfz12_0:=Zt BK119002.out 0;have hfz12_1:=Zt BK119002.out 1))
   refine bodyPost_ret (Z5 rfl _ _ gb119002 29 #[.int .i64 a0_0,.int .i64 a0_1] (0,0) _ rfl (by(with_reducible repeat(first|refine Zo ?_ _|refine Zq ?_|refine Zn ?_ _));refine ZF (cs:=#[.int .i64 a0_0,.int .i64 0]) ?_ 1 _ rfl;(with_reducible repeat(first|refine Zo ?_ _|refine Zq ?_|refine Zn ?_ _));refine ZF (cs:=#[.int .i64 0,.int .i64 0]) ?_ 0 _ rfl;(with_reducible repeat(first|refine Zo ?_ _|refine Zq ?_|refine Zn ?_ _));exact BK119002.out) Try.underlying29 rfl (by kernel_rfl)) rfl ?_
   exact⟨by first|rfl|(simp[ZA,Zz] <;> rfl)|(simp[*,ZA,Zz] <;> rfl),by repeat(first|(with_reducible first|exact HB.out|apply Zr|apply Zm|apply Zs|refine Zp ?_ GE119001.out|refine Zp ?_ GE119002.out)|exact HB.out)⟩
  ·replace c5:=Bool.eq_false_iff.mpr c5
   subst c5
   have H1:(some (0,0,false))=some (r1,r2,r3):=by rw[if_neg (show ¬(false=true) by decide)] at H;exact H
   clear H
   have H:=H1
   clear H1
   simp only[Option.some.injEq,Prod.mk.injEq] at H
   obtain⟨rfl,rfl,rfl⟩:=H
   go_enter Try.func119,Try.ntmps119
   go_wp2_with (first|((with_reducible refine ZD (N:=2) rfl ?_);refine ZE ?hg (N:=2) ?hd (cs:=#[.int .i64 a0_0,.int .i64 a0_1]) (t:=29) ?hr ?_;(case hd=>rfl);(case hg=>rfl);(case hr=>first|(go_simp;done)|(go_simp;rfl));intro gb119001 hg w13 hbox hb;have n0_:=Za (Zy (by repeat(first|(with_reducible first|exact HB.out|apply Zr|apply Zm|apply Zs)|exact HB.out)) hb);have n1_:=Za (hbox);have n2_:=Za ((by rw[hg];exact(Zv (by repeat(first|(with_reducible first|exact HB.out|apply Zr|apply Zm|apply Zs)|exact HB.out))):w.heap.size≤gb119001));have n3_:=Za ((by rw[hg];exact(Zv (by repeat(first|(with_reducible first|exact HB.out|apply Zr|apply Zm|apply Zs)|exact HB.out))):w.heap.size≤gb119001));clear HB;have HB:=n0_;have BK119001:=n1_;have GW119001:=n2_;have GE119001:=n3_;clear n0_ n1_ n2_ n3_;clear hb hbox hg)|((with_reducible refine ZD (N:=4) rfl ?_);refine ZE ?hg (N:=4) ?hd (cs:=#[.int .i64 0,.int .i64 0]) (t:=29) ?hr ?_;(case hd=>rfl);(case hg=>rfl);(case hr=>first|(go_simp;done)|(go_simp;rfl));intro gb119002 hg w14 hbox hb;have n0_:=Za (Zx (g:=gb119001) (o:=.cells #[.int .i64 a0_0,.int .i64 a0_1] 29 (0,0)) (by(with_reducible repeat(first|refine Zo ?_ _|refine Zq ?_|refine Zn ?_ _));exact BK119001.out) hb);have n1_:=Za (Zy (by repeat(first|(with_reducible first|exact HB.out|apply Zr|apply Zm|apply Zs|refine Zp ?_ GE119001.out)|exact HB.out)) hb);have n2_:=Za (hbox);have n3_:=Za ((by rw[hg];exact(Zv (by repeat(first|(with_reducible first|exact HB.out|apply Zr|apply Zm|apply Zs|refine Zp ?_ GE119001.out)|exact HB.out))):w.heap.size≤gb119002));have n4_:=Za ((by rw[hg];exact(Zv (by repeat(first|(with_reducible first|exact HB.out|apply Zr|apply Zm|apply Zs|refine Zp ?_ GE119001.out)|exact HB.out))):w.heap.size≤gb119002));have n5_:=Za ((by rw[hg];exact Nat.ne_of_lt (ZB (g:=gb119001) (o:=.cells #[.int .i64 a0_0,.int .i64 a0_1] 29 (0,0)) (by(with_reducible repeat(first|refine Zo ?_ _|refine Zq ?_|refine Zn ?_ _));exact BK119001.out)):gb119001≠gb119002));have n6_:=Za ((by rw[hg];exact Nat.ne_of_gt (ZB (g:=gb119001) (o:=.cells #[.int .i64 a0_0,.int .i64 a0_1] 29 (0,0)) (by(with_reducible repeat(first|refine Zo ?_ _|refine Zq ?_|refine Zn ?_ _));exact BK119001.out)):gb119002≠gb119001));clear BK119001;clear HB;have BK119001:=n0_;have HB:=n1_;have BK119002:=n2_;have GW119002:=n3_;have GE119002:=n4_;have NB119001_119002:=n5_;have NB119002_119001:=n6_;clear n0_ n1_ n2_ n3_ n4_ n5_ n6_;clear hb hbox hg;have hnb15:=NB119001_119002.out;have hnc15:=NB119002_119001.out;have hcz16_0:w14.cell? ⟨gb119001,0,none⟩=some (.int .i64 a0_0):=(Zu BK119001.out 0).trans rfl;have hcz16_1:w14.cell? ⟨gb119001,1,none⟩=some (.int .i64 a0_1):=(Zu BK119001.out 1).trans rfl;have hfz16_0:=Zt BK119001.out 0;have hfz16_1:=Zt BK119001.out 1)|(go_at_call 72;(with_reducible refine(ZaJ.calls a0_0 a0_1 false _ A4.out).mono ?_);rintro e w17 ⟨rfl,hb⟩;have n0_:=Za (Zx (g:=gb119001) (o:=.cells #[.int .i64 a0_0,.int .i64 a0_1] 29 (0,0)) (by(with_reducible repeat(first|refine Zo ?_ _|refine Zq ?_|refine Zn ?_ _));exact BK119001.out) hb);have n1_:=Za (Zx (g:=gb119002) (o:=.cells #[.int .i64 0,.int .i64 0] 29 (0,0)) (by(with_reducible repeat(first|refine Zo ?_ _|refine Zq ?_|refine Zn ?_ _));exact BK119002.out) hb);have n2_:=Za (Zy (by repeat(first|(with_reducible first|exact HB.out|apply Zr|apply Zm|apply Zs|refine Zp ?_ GE119001.out|refine Zp ?_ GE119002.out)|exact HB.out)) hb);clear BK119001;clear BK119002;clear HB;have BK119001:=n0_;have BK119002:=n1_;have HB:=n2_;clear n0_ n1_ n2_;(try clear hb);(try clear hb2);(try clear hk);(try clear hi);have hcz18_0:w17.cell? ⟨gb119002,0,none⟩=some (.int .i64 0):=(Zu BK119002.out 0).trans rfl;have hcz18_1:w17.cell? ⟨gb119002,1,none⟩=some (.int .i64 0):=(Zu BK119002.out 1).trans rfl;have hfz18_0:=Zt BK119002.out 0;have hfz18_1:=Zt BK119002.out 1))
   refine bodyPost_ret (Z5 rfl _ _ gb119002 29 #[.int .i64 0,.int .i64 0] (0,0) _ rfl (by(with_reducible repeat(first|refine Zo ?_ _|refine Zq ?_|refine Zn ?_ _));refine ZF (cs:=#[.int .i64 0,.int .i64 0]) ?_ 1 _ rfl;(with_reducible repeat(first|refine Zo ?_ _|refine Zq ?_|refine Zn ?_ _));refine ZF (cs:=#[.int .i64 0,.int .i64 0]) ?_ 0 _ rfl;(with_reducible repeat(first|refine Zo ?_ _|refine Zq ?_|refine Zn ?_ _));exact BK119002.out) Try.underlying29 rfl (by kernel_rfl)) rfl ?_
   exact⟨by first|rfl|(simp[ZA,Zz] <;> rfl)|(simp[*,ZA,Zz] <;> rfl),by repeat(first|(with_reducible first|exact HB.out|apply Zr|apply Zm|apply Zs|refine Zp ?_ GE119001.out|refine Zp ?_ GE119002.out)|exact HB.out)⟩
 ·replace c3:=Bool.eq_false_iff.mpr c3
  subst c3
  have H1:(some (0,0,false))=some (r1,r2,r3):=by rw[if_neg (show ¬(false=true) by decide)] at H;exact H
  clear H
  have H:=H1
  clear H1
  simp only[Option.some.injEq,Prod.mk.injEq] at H
  obtain⟨rfl,rfl,rfl⟩:=H
  go_enter Try.func119,Try.ntmps119
  go_wp2_with (first|((with_reducible refine ZD (N:=2) rfl ?_);refine ZE ?hg (N:=2) ?hd (cs:=#[.int .i64 a0_0,.int .i64 a0_1]) (t:=29) ?hr ?_;(case hd=>rfl);(case hg=>rfl);(case hr=>first|(go_simp;done)|(go_simp;rfl));intro gb119001 hg w19 hbox hb;have n0_:=Za (Zy (by repeat(first|(with_reducible first|exact HB.out|apply Zr|apply Zm|apply Zs)|exact HB.out)) hb);have n1_:=Za (hbox);have n2_:=Za ((by rw[hg];exact(Zv (by repeat(first|(with_reducible first|exact HB.out|apply Zr|apply Zm|apply Zs)|exact HB.out))):w.heap.size≤gb119001));have n3_:=Za ((by rw[hg];exact(Zv (by repeat(first|(with_reducible first|exact HB.out|apply Zr|apply Zm|apply Zs)|exact HB.out))):w.heap.size≤gb119001));clear HB;have HB:=n0_;have BK119001:=n1_;have GW119001:=n2_;have GE119001:=n3_;clear n0_ n1_ n2_ n3_;clear hb hbox hg)|((with_reducible refine ZD (N:=4) rfl ?_);refine ZE ?hg (N:=4) ?hd (cs:=#[.int .i64 0,.int .i64 0]) (t:=29) ?hr ?_;(case hd=>rfl);(case hg=>rfl);(case hr=>first|(go_simp;done)|(go_simp;rfl));intro gb119002 hg w20 hbox hb;have n0_:=Za (Zx (g:=gb119001) (o:=.cells #[.int .i64 a0_0,.int .i64 a0_1] 29 (0,0)) (by(with_reducible repeat(first|refine Zo ?_ _|refine Zq ?_|refine Zn ?_ _));exact BK119001.out) hb);have n1_:=Za (Zy (by repeat(first|(with_reducible first|exact HB.out|apply Zr|apply Zm|apply Zs|refine Zp ?_ GE119001.out)|exact HB.out)) hb);have n2_:=Za (hbox);have n3_:=Za ((by rw[hg];exact(Zv (by repeat(first|(with_reducible first|exact HB.out|apply Zr|apply Zm|apply Zs|refine Zp ?_ GE119001.out)|exact HB.out))):w.heap.size≤gb119002));have n4_:=Za ((by rw[hg];exact(Zv (by repeat(first|(with_reducible first|exact HB.out|apply Zr|apply Zm|apply Zs|refine Zp ?_ GE119001.out)|exact HB.out))):w.heap.size≤gb119002));have n5_:=Za ((by rw[hg];exact Nat.ne_of_lt (ZB (g:=gb119001) (o:=.cells #[.int .i64 a0_0,.int .i64 a0_1] 29 (0,0)) (by(with_reducible repeat(first|refine Zo ?_ _|refine Zq ?_|refine Zn ?_ _));exact BK119001.out)):gb119001≠gb119002));have n6_:=Za ((by rw[hg];exact Nat.ne_of_gt (ZB (g:=gb119001) (o:=.cells #[.int .i64 a0_0,.int .i64 a0_1] 29 (0,0)) (by(with_reducible repeat(first|refine Zo ?_ _|refine Zq ?_|refine Zn ?_ _));exact BK119001.out)):gb119002≠gb119001));clear BK119001;clear HB;have BK119001:=n0_;have HB:=n1_;have BK119002:=n2_;have GW119002:=n3_;have GE119002:=n4_;have NB119001_119002:=n5_;have NB119002_119001:=n6_;clear n0_ n1_ n2_ n3_ n4_ n5_ n6_;clear hb hbox hg;have hnb21:=NB119002_119001.out;have hnc21:=NB119001_119002.out;have hcz22_0:w20.cell? ⟨gb119002,0,none⟩=some (.int .i64 0):=(Zu BK119002.out 0).trans rfl;have hcz22_1:w20.cell? ⟨gb119002,1,none⟩=some (.int .i64 0):=(Zu BK119002.out 1).trans rfl;have hfz22_0:=Zt BK119002.out 0;have hfz22_1:=Zt BK119002.out 1))
  refine bodyPost_ret (Z5 rfl _ _ gb119002 29 #[.int .i64 0,.int .i64 0] (0,0) _ rfl (by(with_reducible repeat(first|refine Zo ?_ _|refine Zq ?_|refine Zn ?_ _));refine ZF (cs:=#[.int .i64 0,.int .i64 0]) ?_ 1 _ rfl;(with_reducible repeat(first|refine Zo ?_ _|refine Zq ?_|refine Zn ?_ _));refine ZF (cs:=#[.int .i64 0,.int .i64 0]) ?_ 0 _ rfl;(with_reducible repeat(first|refine Zo ?_ _|refine Zq ?_|refine Zn ?_ _));exact BK119002.out) Try.underlying29 rfl (by kernel_rfl)) rfl ?_
  exact⟨by first|rfl|(simp[ZA,Zz] <;> rfl)|(simp[*,ZA,Zz] <;> rfl),by repeat(first|(with_reducible first|exact HB.out|apply Zr|apply Zm|apply Zs|refine Zp ?_ GE119001.out|refine Zp ?_ GE119002.out)|exact HB.out)⟩
def ZaI.f (a0_0:Int) (l0_1:List Int) (a1:Int) (a2:Int):Option (Int):=if 0≤(wrap64 ((wrap64 (a1 * a0_0))+a2)) then(if (wrap64 ((wrap64 (a1 * a0_0))+a2))<(l0_1.length:Int) then(some (rd l0_1 (wrap64 ((wrap64 (a1 * a0_0))+a2)))) else(none)) else(none)
set_option maxHeartbeats 8000000 in
set_option maxRecDepth 100000 in
theorem ZaI.calls (a0_0:Int) (A0_1:Option Addr) (c0_1:Nat) (l0_1:List Int) (a1:Int) (a2:Int) (r:Int) (w:World) (hr0_1:Kd.C (Kd.int .i64) w A0_1 l0_1.length l0_1) (hc0_1:l0_1.length≤c0_1) (h:ZaI.f a0_0 l0_1 a1 a2=some r) :
  Calls Try.prog 120 #[.agg #[.int .i64 a0_0,.slice A0_1 l0_1.length c0_1],.int .i64 a1,.int .i64 a2] w fun e w'=>e=.returned (.int .i64 r)∧Below w.heap.size w w':=by
 have hu90:=Try.underlying90
 have HR0_1:=Za hr0_1;have HC0_1:=Za hc0_1;clear hr0_1 hc0_1
 have HB:=Za (Below.refl w.heap.size w)
 have H:(if 0≤(wrap64 ((wrap64 (a1 * a0_0))+a2)) then(if (wrap64 ((wrap64 (a1 * a0_0))+a2))<(l0_1.length:Int) then(some (rd l0_1 (wrap64 ((wrap64 (a1 * a0_0))+a2)))) else(none)) else(none))=some r:=h
 clear h
 obtain⟨ji4,hji4⟩:∃j_:Int,(wrap64 ((wrap64 (a1 * a0_0))+a2))=j_:=⟨_,rfl⟩
 replace H:(if 0≤(ji4) then(if (ji4)<(l0_1.length:Int) then(some (rd l0_1 (ji4))) else(none)) else(none))=some r:=by first|(rw[hji4] at H;exact H)|(simp only[hji4] at H ⊢;exact H)
 have hji4w:(IntKind.i64.wrap ((wrap64 (a1 * a0_0))+a2))=ji4:=(ZN _).trans hji4
 by_cases c5:0≤(ji4)
 ·rw[if_pos c5] at H
  have c5b0:decide (0≤(ji4))=true:=Ze c5
  clear c5
  by_cases c6:(ji4)<(l0_1.length:Int)
  ·rw[if_pos c6] at H
   have c6b0:decide ((ji4)<(l0_1.length:Int))=true:=Ze c6
   clear c6
   obtain rfl:=Zg H
   go_enter Try.func120,Try.ntmps120
   go_wp2_with (first|((with_reducible refine ZD (N:=3) rfl ?_);refine ZE ?hg (N:=3) ?hd (cs:=#[.int .i64 a0_0,.slice A0_1 l0_1.length c0_1]) (t:=90) ?hr ?_;(case hd=>rfl);(case hg=>rfl);(case hr=>first|(go_simp;done)|(go_simp;rfl));intro gb120001 hg w7 hbox hb;have n0_:=Za (Zy (by repeat(first|(with_reducible first|exact HB.out|apply Zr|apply Zm|apply Zs)|exact HB.out)) hb);have n1_:=Za (hbox);have n2_:=Za ((by rw[hg];exact(Zv (by repeat(first|(with_reducible first|exact HB.out|apply Zr|apply Zm|apply Zs)|exact HB.out))):w.heap.size≤gb120001));have n3_:=Za ((by rw[hg];exact(Zv (by repeat(first|(with_reducible first|exact HB.out|apply Zr|apply Zm|apply Zs)|exact HB.out))):w.heap.size≤gb120001));clear HB;have HB:=n0_;have BK120001:=n1_;have GW120001:=n2_;have GE120001:=n3_;clear n0_ n1_ n2_ n3_;clear hb hbox hg;have hcz8_0:w7.cell? ⟨gb120001,0,none⟩=some (.int .i64 a0_0):=(Zu BK120001.out 0).trans rfl;have hcz8_1:w7.cell? ⟨gb120001,1,none⟩=some (.slice A0_1 l0_1.length c0_1):=(Zu BK120001.out 1).trans rfl;have hfz8_0:=Zt BK120001.out 0;have hfz8_1:=Zt BK120001.out 1;have p120002:0≤((ji4):Int):=Zd (by first|(with_reducible assumption)|assumption);have q120002:(ji4)<(l0_1.length:Int):=Zd (by first|(with_reducible assumption)|assumption);obtain⟨ad120002,e120002,hx120002_0⟩:=Kd.at_int HR0_1.out (ji4) p120002 q120002;cases e120002;replace hx120002_0:=(HB.out.cell (Zc w _ hx120002_0)).trans hx120002_0;replace p120002:=eq_true p120002;replace q120002:=eq_true q120002))
   go_ret
   exact⟨by first|rfl|(simp[ZA,Zz] <;> rfl)|(simp only[← hji4];first|rfl|(simp[ZA,Zz] <;> rfl))|(simp[*,ZA,Zz] <;> rfl),by repeat(first|(with_reducible first|exact HB.out|apply Zr|apply Zm|apply Zs|refine Zp ?_ GE120001.out)|exact HB.out)⟩
  ·rw[if_neg c6] at H
   exact absurd H (by simp)
 ·rw[if_neg c5] at H
  exact absurd H (by simp)
def ZI.j0:Nat→Int→Int→Bool→Int→List Int→Option (Int×Int×Bool)
 | 0,_,_,_,_,_=>none
 | k+1,x1,x2,x24,x67002000,x67002001=>if x24=true then(some (0,0,false)) else((ZaI.f x67002000 x67002001 x2 x1).bind fun t67006=>((ZaI.f x67002000 x67002001 x1 x2).bind fun t67007=>((Zba.f (wrap64 (-t67006)) t67007 true).bind fun bt67008=>(some (bt67008.1,bt67008.2.1,bt67008.2.2)))))
def ZI.f (k:Nat) (a0_0:Int) (l0_1:List Int) (a1:Int) (a2:Int):Option (Int×Int×Bool):=(Z0.f k a0_0 l0_1).bind fun t67003=>(if t67003=true then((Zat.f a0_0 a1).bind fun t67004=>(if t67004=true then((Zat.f a0_0 a2).bind fun t67005=>(ZI.j0 k a1 a2 (!t67005) a0_0 l0_1)) else(ZI.j0 k a1 a2 true a0_0 l0_1))) else(ZI.j0 k a1 a2 true a0_0 l0_1))
def ZI.T3:Bool×List (List Nat×List Nat):=(true,[([],[]),([],[]),([],[]),([0,1,2],[0,1,2]),([3],[3]),([],[]),([],[]),([],[]),([5,6,7,3],[5,6,7]),([4,8],[4,8]),([9,8],[9]),([10],[10]),([10],[10]),([11,10,0,1,2,3,4,5,6,7,8,9,10,11,12],[11]),([12,13,0,1,2,3,4,5,6,7,8,9,10,11,12,13],[12])])
def ZI.B3:List Nat:=[0,0,0,7,15,0,0,0,239,511,1023,2047,2047,8191,16383]
theorem ZI.tab3:rtab .any (opsOf Try.f67 3)=ZI.T3:=by kernel_rfl
theorem ZI.bits3:Zbr ZI.T3.2 ZI.B3=true:=by kernel_rfl
set_option maxHeartbeats 8000000 in
set_option maxRecDepth 100000 in
theorem ZI.calls (k:Nat) (a0_0:Int) (A0_1:Option Addr) (c0_1:Nat) (l0_1:List Int) (a1:Int) (a2:Int) (r1:Int) (r2:Int) (r3:Bool) (w:World) (hr0_1:Kd.C (Kd.int .i64) w A0_1 l0_1.length l0_1) (hc0_1:l0_1.length≤c0_1) (h:ZI.f k a0_0 l0_1 a1 a2=some (r1,r2,r3)) :
  Calls Try.prog 67 #[.agg #[.int .i64 a0_0,.slice A0_1 l0_1.length c0_1],.int .i64 a1,.int .i64 a2] w fun e w'=>e=.returned (.tuple #[.agg #[.int .i64 r1,.int .i64 r2],.bool r3])∧Below w.heap.size w w':=by
 have hu90:=Try.underlying90
 have hu29:=Try.underlying29
 have HR0_1:=Za hr0_1;have HC0_1:=Za hc0_1;clear hr0_1 hc0_1
 have HB:=Za (Below.refl w.heap.size w)
 have H:((Z0.f k a0_0 l0_1).bind fun t67003=>(if t67003=true then((Zat.f a0_0 a1).bind fun t67004=>(if t67004=true then((Zat.f a0_0 a2).bind fun t67005=>(ZI.j0 k a1 a2 (!t67005) a0_0 l0_1)) else(ZI.j0 k a1 a2 true a0_0 l0_1))) else(ZI.j0 k a1 a2 true a0_0 l0_1)))=some (r1,r2,r3):=h
 clear h;have HC4:=Za H;clear H
 go_enter Try.func67,Try.ntmps67
 go_upto_region 1 with (first|((with_reducible refine ZD (N:=3) rfl ?_);refine ZE ?hg (N:=3) ?hd (cs:=#[.int .i64 a0_0,.slice A0_1 l0_1.length c0_1]) (t:=90) ?hr ?_;(case hd=>rfl);(case hg=>rfl);(case hr=>first|(go_simp;done)|(go_simp;rfl));intro gb67001 hg w5 hbox hb;have n0_:=Za (Zy (by repeat(first|(with_reducible first|exact HB.out|apply Zr|apply Zm|apply Zs)|exact HB.out)) hb);have n1_:=Za (hbox);have n2_:=Za ((by rw[hg];exact(Zv (by repeat(first|(with_reducible first|exact HB.out|apply Zr|apply Zm|apply Zs)|exact HB.out))):w.heap.size≤gb67001));have n3_:=Za ((by rw[hg];exact(Zv (by repeat(first|(with_reducible first|exact HB.out|apply Zr|apply Zm|apply Zs)|exact HB.out))):w.heap.size≤gb67001));clear HB;have HB:=n0_;have BK67001:=n1_;have GW67001:=n2_;have GE67001:=n3_;clear n0_ n1_ n2_ n3_;clear hb hbox hg)|((with_reducible refine ZD (N:=6) rfl ?_);refine ZE ?hg (N:=6) ?hd (cs:=#[.int .i64 0,.int .i64 0]) (t:=29) ?hr ?_;(case hd=>rfl);(case hg=>rfl);(case hr=>first|(go_simp;done)|(go_simp;rfl));intro gb67002 hg w6 hbox hb;have n0_:=Za (Zx (g:=gb67001) (o:=.cells #[.int .i64 a0_0,.slice A0_1 l0_1.length c0_1] 90 (0,0)) (by(with_reducible repeat(first|refine Zo ?_ _|refine Zq ?_|refine Zn ?_ _));exact BK67001.out) hb);have n1_:=Za (Zy (by repeat(first|(with_reducible first|exact HB.out|apply Zr|apply Zm|apply Zs|refine Zp ?_ GE67001.out)|exact HB.out)) hb);have n2_:=Za (hbox);have n3_:=Za ((by rw[hg];exact(Zv (by repeat(first|(with_reducible first|exact HB.out|apply Zr|apply Zm|apply Zs|refine Zp ?_ GE67001.out)|exact HB.out))):w.heap.size≤gb67002));have n4_:=Za ((by rw[hg];exact(Zv (by repeat(first|(with_reducible first|exact HB.out|apply Zr|apply Zm|apply Zs|refine Zp ?_ GE67001.out)|exact HB.out))):w.heap.size≤gb67002));have n5_:=Za ((by rw[hg];exact Nat.ne_of_lt (ZB (g:=gb67001) (o:=.cells #[.int .i64 a0_0,.slice A0_1 l0_1.length c0_1] 90 (0,0)) (by(with_reducible repeat(first|refine Zo ?_ _|refine Zq ?_|refine Zn ?_ _));exact BK67001.out)):gb67001≠gb67002));have n6_:=Za ((by rw[hg];exact Nat.ne_of_gt (ZB (g:=gb67001) (o:=.cells #[.int .i64 a0_0,.slice A0_1 l0_1.length c0_1] 90 (0,0)) (by(with_reducible repeat(first|refine Zo ?_ _|refine Zq ?_|refine Zn ?_ _));exact BK67001.out)):gb67002≠gb67001));clear BK67001;clear HB;have BK67001:=n0_;have HB:=n1_;have BK67002:=n2_;have GW67002:=n3_;have GE67002:=n4_;have NB67001_67002:=n5_;have NB67002_67001:=n6_;clear n0_ n1_ n2_ n3_ n4_ n5_ n6_;clear hb hbox hg))
 (try simp only[Act.put,List.setIfInBounds_toArray,List.set_cons_zero,List.set_cons_succ])
 go_cut [24] (fun v24 wc=>∃(kq:Nat) (x24_3:Bool),v24=.bool x24_3∧Aside0 (ZI.j0 kq a1 a2 x24_3 a0_0 l0_1=some (r1,r2,r3))∧Aside0 (kq≤k)∧Aside0 (wc.heap[gb67001]? = some (.cells #[.int .i64 a0_0,(.slice A0_1 l0_1.length c0_1)] 90 (0,0)))∧Aside0 (wc.heap[gb67002]? = some (.cells #[.int .i64 0,.int .i64 0] 29 (0,0)))∧Aside0 (Below w.heap.size w wc))
 case first=>
  have H:=HC4.out
  clear HC4
  replace H:=Zh H
  obtain⟨t67003,A70,H⟩:=H
  replace H:(if t67003=true then((Zat.f a0_0 a1).bind fun t67004=>(if t67004=true then((Zat.f a0_0 a2).bind fun t67005=>(ZI.j0 k a1 a2 (!t67005) a0_0 l0_1)) else(ZI.j0 k a1 a2 true a0_0 l0_1))) else(ZI.j0 k a1 a2 true a0_0 l0_1))=some (r1,r2,r3):=H
  have A7:=Za A70;clear A70
  by_cases c8:t67003=true
  ·subst c8
   have H1:((Zat.f a0_0 a1).bind fun t67004=>(if t67004=true then((Zat.f a0_0 a2).bind fun t67005=>(ZI.j0 k a1 a2 (!t67005) a0_0 l0_1)) else(ZI.j0 k a1 a2 true a0_0 l0_1)))=some (r1,r2,r3):=by rw[if_pos rfl] at H;exact H
   clear H
   have H:=H1
   clear H1
   replace H:=Zh H
   obtain⟨t67004,A90,H⟩:=H
   replace H:(if t67004=true then((Zat.f a0_0 a2).bind fun t67005=>(ZI.j0 k a1 a2 (!t67005) a0_0 l0_1)) else(ZI.j0 k a1 a2 true a0_0 l0_1))=some (r1,r2,r3):=H
   have A9:=Za A90;clear A90
   by_cases c10:t67004=true
   ·subst c10
    have H1:((Zat.f a0_0 a2).bind fun t67005=>(ZI.j0 k a1 a2 (!t67005) a0_0 l0_1))=some (r1,r2,r3):=by rw[if_pos rfl] at H;exact H
    clear H
    have H:=H1
    clear H1
    replace H:=Zh H
    obtain⟨t67005,A110,H⟩:=H
    replace H:(ZI.j0 k a1 a2 (!t67005) a0_0 l0_1)=some (r1,r2,r3):=H
    have A11:=Za A110;clear A110
    have H':=Za H
    clear H
    have hnb12:=NB67001_67002.out
    have hnc12:=NB67002_67001.out
    have hcz13_0:w6.cell? ⟨gb67001,0,none⟩=some (.int .i64 a0_0):=(Zu BK67001.out 0).trans rfl
    have hcz13_1:w6.cell? ⟨gb67001,1,none⟩=some (.slice A0_1 l0_1.length c0_1):=(Zu BK67001.out 1).trans rfl
    have hfz13_0:=Zt BK67001.out 0
    have hfz13_1:=Zt BK67001.out 1
    go_wp2_with (first|((with_reducible refine ZG (f:=118) rfl ?_);refine ZV (some 9) rfl rfl Try.func118 (by kernel_rfl) rfl #[.agg #[.int .i64 a0_0,.slice A0_1 l0_1.length c0_1]] rfl (by(try simp only[List.map_toArray,List.map_cons,List.map_nil]);first|done|rfl|(simp only[Zk,Zj];rfl)) ?_;(with_reducible refine(Z0.calls k a0_0 _ _ l0_1 true _ ?side1 ?side2 A7.out).mono ?_);(case side1=>repeat(first|exact(Zb HR0_1.out HB.out)|(with_reducible refine Kd.C_alloc ?_ _)|(with_reducible refine Kd.C_drewN ?_ _)|(with_reducible refine Kd.C_drew ?_)));(case side2=>exact HC0_1.out);rintro e w14 ⟨rfl,hb⟩;refine⟨_,rfl,?_⟩;have n0_:=Za (Zx (g:=gb67001) (o:=.cells #[.int .i64 a0_0,.slice A0_1 l0_1.length c0_1] 90 (0,0)) (by(with_reducible repeat(first|refine Zo ?_ _|refine Zq ?_|refine Zn ?_ _));exact BK67001.out) hb);have n1_:=Za (Zx (g:=gb67002) (o:=.cells #[.int .i64 0,.int .i64 0] 29 (0,0)) (by(with_reducible repeat(first|refine Zo ?_ _|refine Zq ?_|refine Zn ?_ _));exact BK67002.out) hb);have n2_:=Za (Zy (by repeat(first|(with_reducible first|exact HB.out|apply Zr|apply Zm|apply Zs|refine Zp ?_ GE67001.out|refine Zp ?_ GE67002.out)|exact HB.out)) hb);clear BK67001;clear BK67002;clear HB;have BK67001:=n0_;have BK67002:=n1_;have HB:=n2_;clear n0_ n1_ n2_;(try clear hb);(try clear hb2);(try clear hk);(try clear hi);have hcz15_0:w14.cell? ⟨gb67001,0,none⟩=some (.int .i64 a0_0):=(Zu BK67001.out 0).trans rfl;have hcz15_1:w14.cell? ⟨gb67001,1,none⟩=some (.slice A0_1 l0_1.length c0_1):=(Zu BK67001.out 1).trans rfl;have hfz15_0:=Zt BK67001.out 0;have hfz15_1:=Zt BK67001.out 1)|(go_at_call 71;(with_reducible refine(Zat.calls a0_0 a1 true _ A9.out).mono ?_);rintro e w' ⟨rfl,⟨nd,rfl⟩⟩)|(go_at_call 71;(with_reducible refine(Zat.calls a0_0 a2 t67005 _ A11.out).mono ?_);rintro e w' ⟨rfl,⟨nd,rfl⟩⟩))
    go_meet
    case rel=>exact⟨_,(!t67005),(by first|rfl|(simp;done)|(simp[*];done)),H',⟨by first|omega|exact Nat.le_refl _⟩,⟨by(with_reducible repeat(first|refine Zo ?_ _|refine Zq ?_|refine Zn ?_ _));exact BK67001.out⟩,⟨by(with_reducible repeat(first|refine Zo ?_ _|refine Zq ?_|refine Zn ?_ _));exact BK67002.out⟩,⟨by repeat(first|(with_reducible first|exact HB.out|apply Zr|apply Zm|apply Zs|refine Zp ?_ GE67001.out|refine Zp ?_ GE67002.out)|exact HB.out)⟩⟩
   ·replace c10:=Bool.eq_false_iff.mpr c10
    subst c10
    have H1:(ZI.j0 k a1 a2 true a0_0 l0_1)=some (r1,r2,r3):=by rw[if_neg (show ¬(false=true) by decide)] at H;exact H
    clear H
    have H:=H1
    clear H1
    have H':=Za H
    clear H
    have hnb16:=NB67001_67002.out
    have hnc16:=NB67002_67001.out
    have hcz17_0:w6.cell? ⟨gb67001,0,none⟩=some (.int .i64 a0_0):=(Zu BK67001.out 0).trans rfl
    have hcz17_1:w6.cell? ⟨gb67001,1,none⟩=some (.slice A0_1 l0_1.length c0_1):=(Zu BK67001.out 1).trans rfl
    have hfz17_0:=Zt BK67001.out 0
    have hfz17_1:=Zt BK67001.out 1
    go_wp2_with (first|((with_reducible refine ZG (f:=118) rfl ?_);refine ZV (some 9) rfl rfl Try.func118 (by kernel_rfl) rfl #[.agg #[.int .i64 a0_0,.slice A0_1 l0_1.length c0_1]] rfl (by(try simp only[List.map_toArray,List.map_cons,List.map_nil]);first|done|rfl|(simp only[Zk,Zj];rfl)) ?_;(with_reducible refine(Z0.calls k a0_0 _ _ l0_1 true _ ?side1 ?side2 A7.out).mono ?_);(case side1=>repeat(first|exact(Zb HR0_1.out HB.out)|(with_reducible refine Kd.C_alloc ?_ _)|(with_reducible refine Kd.C_drewN ?_ _)|(with_reducible refine Kd.C_drew ?_)));(case side2=>exact HC0_1.out);rintro e w18 ⟨rfl,hb⟩;refine⟨_,rfl,?_⟩;have n0_:=Za (Zx (g:=gb67001) (o:=.cells #[.int .i64 a0_0,.slice A0_1 l0_1.length c0_1] 90 (0,0)) (by(with_reducible repeat(first|refine Zo ?_ _|refine Zq ?_|refine Zn ?_ _));exact BK67001.out) hb);have n1_:=Za (Zx (g:=gb67002) (o:=.cells #[.int .i64 0,.int .i64 0] 29 (0,0)) (by(with_reducible repeat(first|refine Zo ?_ _|refine Zq ?_|refine Zn ?_ _));exact BK67002.out) hb);have n2_:=Za (Zy (by repeat(first|(with_reducible first|exact HB.out|apply Zr|apply Zm|apply Zs|refine Zp ?_ GE67001.out|refine Zp ?_ GE67002.out)|exact HB.out)) hb);clear BK67001;clear BK67002;clear HB;have BK67001:=n0_;have BK67002:=n1_;have HB:=n2_;clear n0_ n1_ n2_;(try clear hb);(try clear hb2);(try clear hk);(try clear hi);have hcz19_0:w18.cell? ⟨gb67001,0,none⟩=some (.int .i64 a0_0):=(Zu BK67001.out 0).trans rfl;have hcz19_1:w18.cell? ⟨gb67001,1,none⟩=some (.slice A0_1 l0_1.length c0_1):=(Zu BK67001.out 1).trans rfl;have hfz19_0:=Zt BK67001.out 0;have hfz19_1:=Zt BK67001.out 1)|(go_at_call 71;(with_reducible refine(Zat.calls a0_0 a1 false _ A9.out).mono ?_);rintro e w' ⟨rfl,⟨nd,rfl⟩⟩))
    go_meet
    case rel=>exact⟨_,(true),(by first|rfl|(simp;done)|(simp[*];done)),H',⟨by first|omega|exact Nat.le_refl _⟩,⟨by(with_reducible repeat(first|refine Zo ?_ _|refine Zq ?_|refine Zn ?_ _));exact BK67001.out⟩,⟨by(with_reducible repeat(first|refine Zo ?_ _|refine Zq ?_|refine Zn ?_ _));exact BK67002.out⟩,⟨by repeat(first|(with_reducible first|exact HB.out|apply Zr|apply Zm|apply Zs|refine Zp ?_ GE67001.out|refine Zp ?_ GE67002.out)|exact HB.out)⟩⟩
  ·replace c8:=Bool.eq_false_iff.mpr c8
   subst c8
   have H1:(ZI.j0 k a1 a2 true a0_0 l0_1)=some (r1,r2,r3):=by rw[if_neg (show ¬(false=true) by decide)] at H;exact H
   clear H
   have H:=H1
   clear H1
   have H':=Za H
   clear H
   have hnb20:=NB67001_67002.out
   have hnc20:=NB67002_67001.out
   have hcz21_0:w6.cell? ⟨gb67001,0,none⟩=some (.int .i64 a0_0):=(Zu BK67001.out 0).trans rfl
   have hcz21_1:w6.cell? ⟨gb67001,1,none⟩=some (.slice A0_1 l0_1.length c0_1):=(Zu BK67001.out 1).trans rfl
   have hfz21_0:=Zt BK67001.out 0
   have hfz21_1:=Zt BK67001.out 1
   go_wp2_with (first|((with_reducible refine ZG (f:=118) rfl ?_);refine ZV (some 9) rfl rfl Try.func118 (by kernel_rfl) rfl #[.agg #[.int .i64 a0_0,.slice A0_1 l0_1.length c0_1]] rfl (by(try simp only[List.map_toArray,List.map_cons,List.map_nil]);first|done|rfl|(simp only[Zk,Zj];rfl)) ?_;(with_reducible refine(Z0.calls k a0_0 _ _ l0_1 false _ ?side1 ?side2 A7.out).mono ?_);(case side1=>repeat(first|exact(Zb HR0_1.out HB.out)|(with_reducible refine Kd.C_alloc ?_ _)|(with_reducible refine Kd.C_drewN ?_ _)|(with_reducible refine Kd.C_drew ?_)));(case side2=>exact HC0_1.out);rintro e w22 ⟨rfl,hb⟩;refine⟨_,rfl,?_⟩;have n0_:=Za (Zx (g:=gb67001) (o:=.cells #[.int .i64 a0_0,.slice A0_1 l0_1.length c0_1] 90 (0,0)) (by(with_reducible repeat(first|refine Zo ?_ _|refine Zq ?_|refine Zn ?_ _));exact BK67001.out) hb);have n1_:=Za (Zx (g:=gb67002) (o:=.cells #[.int .i64 0,.int .i64 0] 29 (0,0)) (by(with_reducible repeat(first|refine Zo ?_ _|refine Zq ?_|refine Zn ?_ _));exact BK67002.out) hb);have n2_:=Za (Zy (by repeat(first|(with_reducible first|exact HB.out|apply Zr|apply Zm|apply Zs|refine Zp ?_ GE67001.out|refine Zp ?_ GE67002.out)|exact HB.out)) hb);clear BK67001;clear BK67002;clear HB;have BK67001:=n0_;have BK67002:=n1_;have HB:=n2_;clear n0_ n1_ n2_;(try clear hb);(try clear hb2);(try clear hk);(try clear hi)))
   go_meet
   case rel=>exact⟨_,(true),(by first|rfl|(simp;done)|(simp[*];done)),H',⟨by first|omega|exact Nat.le_refl _⟩,⟨by(with_reducible repeat(first|refine Zo ?_ _|refine Zq ?_|refine Zn ?_ _));exact BK67001.out⟩,⟨by(with_reducible repeat(first|refine Zo ?_ _|refine Zq ?_|refine Zn ?_ _));exact BK67002.out⟩,⟨by repeat(first|(with_reducible first|exact HB.out|apply Zr|apply Zm|apply Zs|refine Zp ?_ GE67001.out|refine Zp ?_ GE67002.out)|exact HB.out)⟩⟩
 case rest=>
  clear HC4
  try clear c1
  try clear c2
  try clear p2
  try clear c6
  try clear c8
  try clear c10
  try clear c11
  try clear c12
  try clear c16
  try clear c20
  try clear hcz13_0
  try clear hcz13_1
  try clear hcz15_0
  try clear hcz15_1
  try clear hcz17_0
  try clear hcz17_1
  try clear hcz19_0
  try clear hcz19_1
  try clear hcz21_0
  try clear hcz21_1
  try clear hfz13_0
  try clear hfz13_1
  try clear hfz15_0
  try clear hfz15_1
  try clear hfz17_0
  try clear hfz17_1
  try clear hfz19_0
  try clear hfz19_1
  try clear hfz21_0
  try clear hfz21_1
  obtain⟨kq,x24_3,rfl,HA,HJ3,BK67001,BK67002,HB⟩:=hcut
  cases kq with
  | zero=>exact absurd HA.out (by simp[ZI.j0])
  | succ kj3=>
   have H:=HA.out
   clear HA
   simp only[ZI.j0] at H
   by_cases c23:x24_3=true
   ·subst c23
    have H1:(some (0,0,false))=some (r1,r2,r3):=by rw[if_pos rfl] at H;exact H
    clear H
    have H:=H1
    clear H1
    simp only[Option.some.injEq,Prod.mk.injEq] at H
    obtain⟨rfl,rfl,rfl⟩:=H
    have hnb24:=NB67002_67001.out
    have hnc24:=NB67001_67002.out
    have hcz25_0:wc.cell? ⟨gb67002,0,none⟩=some (.int .i64 0):=(Zu BK67002.out 0).trans rfl
    have hcz25_1:wc.cell? ⟨gb67002,1,none⟩=some (.int .i64 0):=(Zu BK67002.out 1).trans rfl
    have hfz25_0:=Zt BK67002.out 0
    have hfz25_1:=Zt BK67002.out 1
    go_wp2
    refine bodyPost_ret (Z5 rfl _ _ gb67002 29 #[.int .i64 0,.int .i64 0] (0,0) _ rfl (by(with_reducible repeat(first|refine Zo ?_ _|refine Zq ?_|refine Zn ?_ _));refine ZF (cs:=#[.int .i64 0,.int .i64 0]) ?_ 1 _ rfl;(with_reducible repeat(first|refine Zo ?_ _|refine Zq ?_|refine Zn ?_ _));refine ZF (cs:=#[.int .i64 0,.int .i64 0]) ?_ 0 _ rfl;(with_reducible repeat(first|refine Zo ?_ _|refine Zq ?_|refine Zn ?_ _));exact BK67002.out) Try.underlying29 rfl (by kernel_rfl)) rfl ?_
    exact⟨by first|rfl|(simp[ZA,Zz] <;> rfl)|(simp[*,ZA,Zz] <;> rfl),by repeat(first|(with_reducible first|exact HB.out|apply Zr|apply Zm|apply Zs|refine Zp ?_ GE67001.out|refine Zp ?_ GE67002.out)|exact HB.out)⟩
   ·replace c23:=Bool.eq_false_iff.mpr c23
    subst c23
    have H1:((ZaI.f a0_0 l0_1 a2 a1).bind fun t67006=>((ZaI.f a0_0 l0_1 a1 a2).bind fun t67007=>((Zba.f (wrap64 (-t67006)) t67007 true).bind fun bt67008=>(some (bt67008.1,bt67008.2.1,bt67008.2.2)))))=some (r1,r2,r3):=by rw[if_neg (show ¬(false=true) by decide)] at H;exact H
    clear H
    have H:=H1
    clear H1
    replace H:=Zh H
    obtain⟨t67006,A260,H⟩:=H
    replace H:((ZaI.f a0_0 l0_1 a1 a2).bind fun t67007=>((Zba.f (wrap64 (-t67006)) t67007 true).bind fun bt67008=>(some (bt67008.1,bt67008.2.1,bt67008.2.2))))=some (r1,r2,r3):=H
    have A26:=Za A260;clear A260
    replace H:=Zh H
    obtain⟨t67007,A270,H⟩:=H
    replace H:((Zba.f (wrap64 (-t67006)) t67007 true).bind fun bt67008=>(some (bt67008.1,bt67008.2.1,bt67008.2.2)))=some (r1,r2,r3):=H
    have A27:=Za A270;clear A270
    replace H:=Zh H
    obtain⟨⟨t67008,t67009,t67010⟩,A280,H⟩:=H
    replace H:(some (t67008,t67009,t67010))=some (r1,r2,r3):=H
    have A28:=Za A280;clear A280
    simp only[Option.some.injEq,Prod.mk.injEq] at H
    obtain⟨rfl,rfl,rfl⟩:=H
    try go_wp2
    have n0_:=Za (Zq BK67001.out)
    have n1_:=Za (Zq BK67002.out)
    have n2_:=Za (Zs HB.out)
    clear BK67001 BK67002 HB;have BK67001:=n0_;have BK67002:=n1_;have HB:=n2_;clear n0_ n1_ n2_
    refine ZbI (n:=15) (S:=fun w'=>w'.cell? ⟨gb67001,0,none⟩=some (.int .i64 a0_0)∧w'.cell? ⟨gb67001,1,none⟩=some (.slice A0_1 l0_1.length c0_1)) (ds:=[]) #[false,false,false,false,false,false,false,false,false,false,false,false,false,false,false] (by kernel_rfl) rfl rfl ⟨(Zu BK67001.out 0).trans rfl,(Zu BK67001.out 1).trans rfl⟩ (fun hHeld=>?_);refine Zbt ZI.tab3 ZI.bits3 (fun HT_ HW_=>?_)
    generalize wc.drew=w29 at BK67001 BK67002 HB hHeld ⊢
    refine Z9 (i:=1) (N:=some 27) (v:=?_) (a':=?_) #[false,true,false,false,false,false,false,false,false,false,false,false,false,false,false] rfl rfl (Z6 HT_.out (by kernel_rfl)) (fun _ _ _ h=>h) (Or.inl ⟨by rfl,?_⟩) ?_ ?_
    rotate_left
    ·intro w'
     go_simp
     with_reducible rfl
    rotate_left
    ·simp only[Act.put,List.setIfInBounds_toArray,List.set_cons_zero,List.set_cons_succ,ZN,ZP]
     rfl
    refine Z9 (i:=2) (N:=some 28) (v:=?_) (a':=?_) #[false,true,true,false,false,false,false,false,false,false,false,false,false,false,false] rfl rfl (Z6 HT_.out (by kernel_rfl)) (fun _ _ _ h=>h) (Or.inl ⟨by rfl,?_⟩) ?_ ?_
    rotate_left
    ·intro w'
     go_simp
     with_reducible rfl
    rotate_left
    ·simp only[Act.put,List.setIfInBounds_toArray,List.set_cons_zero,List.set_cons_succ,ZN,ZP]
     rfl
    refine Z9 (i:=6) (N:=some 32) (v:=?_) (a':=?_) #[false,true,true,false,false,false,true,false,false,false,false,false,false,false,false] rfl rfl (Z6 HT_.out (by kernel_rfl)) (fun _ _ _ h=>h) (Or.inl ⟨by rfl,?_⟩) ?_ ?_
    rotate_left
    ·intro w'
     go_simp
     with_reducible rfl
    rotate_left
    ·simp only[Act.put,List.setIfInBounds_toArray,List.set_cons_zero,List.set_cons_succ,ZN,ZP]
     rfl
    refine Z9 (i:=7) (N:=some 33) (v:=?_) (a':=?_) #[false,true,true,false,false,false,true,true,false,false,false,false,false,false,false] rfl rfl (Z6 HT_.out (by kernel_rfl)) (fun _ _ _ h=>h) (Or.inl ⟨by rfl,?_⟩) ?_ ?_
    rotate_left
    ·intro w'
     go_simp
     with_reducible rfl
    rotate_left
    ·simp only[Act.put,List.setIfInBounds_toArray,List.set_cons_zero,List.set_cons_succ,ZN,ZP]
     rfl
    refine take_ (i:=0) (N:=some 26) (v:=?_) (a':=?_) #[true,true,true,false,false,false,true,true,false,false,false,false,false,false,false] rfl rfl (Za3 HT_.out HW_.out (by kernel_rfl)) (fun _ _ _ h=>h) (Or.inl ⟨by rfl,?_⟩) hHeld ?_ ?_
    rotate_left
    ·rintro w' ⟨s0,s1⟩
     go_simp
     with_reducible rfl
    rotate_left
    ·simp only[Act.put,List.setIfInBounds_toArray,List.set_cons_zero,List.set_cons_succ,ZN,ZP]
     rfl
    refine take_ (i:=5) (N:=some 31) (v:=?_) (a':=?_) #[true,true,true,false,false,true,true,true,false,false,false,false,false,false,false] rfl rfl (Za3 HT_.out HW_.out (by kernel_rfl)) (fun _ _ _ h=>h) (Or.inl ⟨by rfl,?_⟩) hHeld ?_ ?_
    rotate_left
    ·rintro w' ⟨s0,s1⟩
     go_simp
     with_reducible rfl
    rotate_left
    ·simp only[Act.put,List.setIfInBounds_toArray,List.set_cons_zero,List.set_cons_succ,ZN,ZP]
     rfl
    refine one_ (i:=3) (N:=some 29) #[true,true,true,true,false,true,true,true,false,false,false,false,false,false,false] rfl rfl (ZaB HT_.out (by kernel_rfl)) (by decide) (fun K hK=>?_)
    refine Zbg Try.func120 (by kernel_rfl) rfl #[.agg #[.int .i64 a0_0,.slice A0_1 l0_1.length c0_1],.int .i64 a2,.int .i64 a1] (by rfl) rfl rfl (by(try simp only[List.map_toArray,List.map_cons,List.map_nil]);first|done|rfl|(simp only[Zk,Zj];rfl)) ?_
    with_reducible refine(ZaI.calls a0_0 _ _ l0_1 a2 a1 t67006 _ ?side1 ?side2 A26.out).mono ?_
    (case side1=>repeat(first|exact(Zb HR0_1.out HB.out)|(with_reducible refine Kd.C_alloc ?_ _)|(with_reducible refine Kd.C_drewN ?_ _)|(with_reducible refine Kd.C_drew ?_)))
    (case side2=>exact HC0_1.out)
    rintro e w30 ⟨rfl,hb⟩
    refine⟨_,rfl,?_⟩
    have n0_:=Za (Zx (g:=gb67001) (o:=.cells #[.int .i64 a0_0,.slice A0_1 l0_1.length c0_1] 90 (0,0)) (by(with_reducible repeat(first|refine Zo ?_ _|refine Zq ?_|refine Zn ?_ _));exact BK67001.out) hb)
    have n1_:=Za (Zx (g:=gb67002) (o:=.cells #[.int .i64 0,.int .i64 0] 29 (0,0)) (by(with_reducible repeat(first|refine Zo ?_ _|refine Zq ?_|refine Zn ?_ _));exact BK67002.out) hb)
    have n2_:=Za (Zy (by repeat(first|(with_reducible first|exact HB.out|apply Zr|apply Zm|apply Zs|refine Zp ?_ GE67001.out|refine Zp ?_ GE67002.out)|exact HB.out)) hb)
    clear BK67001 BK67002 HB;have BK67001:=n0_;have BK67002:=n1_;have HB:=n2_;clear n0_ n1_ n2_
    (try clear hb)
    (try clear hb2)
    (try clear hk)
    (try clear hi)
    refine hK.out _ _ ⟨(Zu BK67001.out 0).trans rfl,(Zu BK67001.out 1).trans rfl⟩ (fun hHeld=>?_)
    clear hK K
    refine Zaa (a':=?_) ?_ ?_
    rotate_left
    ·show Act.put _ (some 29) _=_
     simp only[Act.put,List.setIfInBounds_toArray,List.set_cons_zero,List.set_cons_succ,ZN,ZP]
     rfl
    refine Z9 (i:=4) (N:=some 30) (v:=?_) (a':=?_) #[true,true,true,true,true,true,true,true,false,false,false,false,false,false,false] rfl rfl (Z6 HT_.out (by kernel_rfl)) (fun _ _ _ h=>h) (Or.inl ⟨by rfl,?_⟩) ?_ ?_
    rotate_left
    ·intro w'
     go_simp
     with_reducible rfl
    rotate_left
    ·simp only[Act.put,List.setIfInBounds_toArray,List.set_cons_zero,List.set_cons_succ,ZN,ZP]
     rfl
    refine one_ (i:=8) (N:=some 34) #[true,true,true,true,true,true,true,true,true,false,false,false,false,false,false] rfl rfl (ZaB HT_.out (by kernel_rfl)) (by decide) (fun K hK=>?_)
    refine Zbg Try.func120 (by kernel_rfl) rfl #[.agg #[.int .i64 a0_0,.slice A0_1 l0_1.length c0_1],.int .i64 a1,.int .i64 a2] (by rfl) rfl rfl (by(try simp only[List.map_toArray,List.map_cons,List.map_nil]);first|done|rfl|(simp only[Zk,Zj];rfl)) ?_
    with_reducible refine(ZaI.calls a0_0 _ _ l0_1 a1 a2 t67007 _ ?side1 ?side2 A27.out).mono ?_
    (case side1=>repeat(first|exact(Zb HR0_1.out HB.out)|(with_reducible refine Kd.C_alloc ?_ _)|(with_reducible refine Kd.C_drewN ?_ _)|(with_reducible refine Kd.C_drew ?_)))
    (case side2=>exact HC0_1.out)
    rintro e w31 ⟨rfl,hb⟩
    refine⟨_,rfl,?_⟩
    have n0_:=Za (Zx (g:=gb67001) (o:=.cells #[.int .i64 a0_0,.slice A0_1 l0_1.length c0_1] 90 (0,0)) (by(with_reducible repeat(first|refine Zo ?_ _|refine Zq ?_|refine Zn ?_ _));exact BK67001.out) hb)
    have n1_:=Za (Zx (g:=gb67002) (o:=.cells #[.int .i64 0,.int .i64 0] 29 (0,0)) (by(with_reducible repeat(first|refine Zo ?_ _|refine Zq ?_|refine Zn ?_ _));exact BK67002.out) hb)
    have n2_:=Za (Zy (by repeat(first|(with_reducible first|exact HB.out|apply Zr|apply Zm|apply Zs|refine Zp ?_ GE67001.out|refine Zp ?_ GE67002.out)|exact HB.out)) hb)
    clear BK67001 BK67002 HB;have BK67001:=n0_;have BK67002:=n1_;have HB:=n2_;clear n0_ n1_ n2_
    (try clear hb)
    (try clear hb2)
    (try clear hk)
    (try clear hi)
    refine hK.out _ _ ⟨(Zu BK67001.out 0).trans rfl,(Zu BK67001.out 1).trans rfl⟩ (fun hHeld=>?_)
    clear hK K
    refine Zaa (a':=?_) ?_ ?_
    rotate_left
    ·show Act.put _ (some 34) _=_
     simp only[Act.put,List.setIfInBounds_toArray,List.set_cons_zero,List.set_cons_succ,ZN,ZP]
     rfl
    refine Z9 (i:=9) (N:=some 35) (v:=?_) (a':=?_) #[true,true,true,true,true,true,true,true,true,true,false,false,false,false,false] rfl rfl (Z6 HT_.out (by kernel_rfl)) (fun _ _ _ h=>h) (Or.inl ⟨by rfl,?_⟩) ?_ ?_
    rotate_left
    ·intro w'
     go_simp
     with_reducible rfl
    rotate_left
    ·simp only[Act.put,List.setIfInBounds_toArray,List.set_cons_zero,List.set_cons_succ,ZN,ZP]
     rfl
    refine one_ (i:=10) (N:=some 36) #[true,true,true,true,true,true,true,true,true,true,true,false,false,false,false] rfl rfl (ZaB HT_.out (by kernel_rfl)) (by decide) (fun K hK=>?_)
    refine Zbg Try.func119 (by kernel_rfl) rfl #[.agg #[.int .i64 (wrap64 (-t67006)),.int .i64 t67007],.bool true] (by rfl) rfl rfl (by(try simp only[List.map_toArray,List.map_cons,List.map_nil]);first|done|rfl|(simp only[Zk,Zj];rfl)) ?_
    with_reducible refine(Zba.calls (wrap64 (-t67006)) t67007 true t67008 t67009 t67010 _ A28.out).mono ?_
    rintro e w32 ⟨rfl,hb⟩
    refine⟨_,rfl,?_⟩
    have n0_:=Za (Zx (g:=gb67001) (o:=.cells #[.int .i64 a0_0,.slice A0_1 l0_1.length c0_1] 90 (0,0)) (by(with_reducible repeat(first|refine Zo ?_ _|refine Zq ?_|refine Zn ?_ _));exact BK67001.out) hb)
    have n1_:=Za (Zx (g:=gb67002) (o:=.cells #[.int .i64 0,.int .i64 0] 29 (0,0)) (by(with_reducible repeat(first|refine Zo ?_ _|refine Zq ?_|refine Zn ?_ _));exact BK67002.out) hb)
    have n2_:=Za (Zy (by repeat(first|(with_reducible first|exact HB.out|apply Zr|apply Zm|apply Zs|refine Zp ?_ GE67001.out|refine Zp ?_ GE67002.out)|exact HB.out)) hb)
    clear BK67001 BK67002 HB;have BK67001:=n0_;have BK67002:=n1_;have HB:=n2_;clear n0_ n1_ n2_
    (try clear hb)
    (try clear hb2)
    (try clear hk)
    (try clear hi)
    refine hK.out _ _ ⟨(Zu BK67001.out 0).trans rfl,(Zu BK67001.out 1).trans rfl⟩ (fun hHeld=>?_)
    clear hK K
    refine Zaa (a':=?_) ?_ ?_
    rotate_left
    ·show Act.put _ (some 36) _=_
     simp only[Act.put,List.setIfInBounds_toArray,List.set_cons_zero,List.set_cons_succ,ZN,ZP]
     rfl
    refine Z9 (i:=11) (N:=some 37) (v:=?_) (a':=?_) #[true,true,true,true,true,true,true,true,true,true,true,true,false,false,false] rfl rfl (Z6 HT_.out (by kernel_rfl)) (fun _ _ _ h=>h) (Or.inl ⟨by rfl,?_⟩) ?_ ?_
    rotate_left
    ·intro w'
     go_simp
     with_reducible rfl
    rotate_left
    ·simp only[Act.put,List.setIfInBounds_toArray,List.set_cons_zero,List.set_cons_succ,ZN,ZP]
     rfl
    refine Z9 (i:=12) (N:=some 38) (v:=?_) (a':=?_) #[true,true,true,true,true,true,true,true,true,true,true,true,true,false,false] rfl rfl (Z6 HT_.out (by kernel_rfl)) (fun _ _ _ h=>h) (Or.inl ⟨by rfl,?_⟩) ?_ ?_
    rotate_left
    ·intro w'
     go_simp
     with_reducible rfl
    rotate_left
    ·simp only[Act.put,List.setIfInBounds_toArray,List.set_cons_zero,List.set_cons_succ,ZN,ZP]
     rfl
    refine one_ (i:=13) (N:=none) #[true,true,true,true,true,true,true,true,true,true,true,true,true,true,false] rfl rfl (ZaB HT_.out (by kernel_rfl)) (by decide) (fun K hK=>?_)
    have hs33:w32.cell? ⟨gb67002,0,none⟩=some (.int .i64 0):=(Zu BK67002.out 0).trans rfl
    have hfs33:=Zt BK67002.out 0
    have hns33_0:=NB67001_67002.out
    have hms33_0:=NB67002_67001.out
    have hs34:w32.cell? ⟨gb67002,1,none⟩=some (.int .i64 0):=(Zu BK67002.out 1).trans rfl
    have hfs34:=Zt BK67002.out 1
    have hns34_0:=NB67001_67002.out
    have hms34_0:=NB67002_67001.out
    refine Zb6 (w1:=?_) (by rfl) rfl ?_ ?_
    rotate_left
    ·go_simp
     rfl
    refine hK.out _ _ ⟨((Zaf (p:=⟨gb67002,_,none⟩) NB67001_67002.out _).trans (((Zaf (p:=⟨gb67002,_,none⟩) NB67001_67002.out _).trans (hHeld.1)))),((Zaf (p:=⟨gb67002,_,none⟩) NB67001_67002.out _).trans (((Zaf (p:=⟨gb67002,_,none⟩) NB67001_67002.out _).trans (hHeld.2))))⟩ (fun hHeld=>?_)
    clear hK K
    refine Z9 (i:=14) (N:=some 7) (v:=?_) (a':=?_) #[true,true,true,true,true,true,true,true,true,true,true,true,true,true,true] rfl rfl (Z6 HT_.out (by kernel_rfl)) (fun _ _ _ h=>h) (Or.inl ⟨by rfl,?_⟩) ?_ ?_
    rotate_left
    ·intro w'
     go_simp
     with_reducible rfl
    rotate_left
    ·simp only[Act.put,List.setIfInBounds_toArray,List.set_cons_zero,List.set_cons_succ,ZN,ZP]
     rfl
    refine ZbZ (ZbP HT_.out (by kernel_rfl)) ?_
    try go_wp2
    refine bodyPost_ret (Z5 rfl _ _ gb67002 29 #[.int .i64 t67008,.int .i64 t67009] (0,0) _ rfl (by(with_reducible repeat(first|refine Zo ?_ _|refine Zq ?_|refine Zn ?_ _));refine ZF (cs:=#[.int .i64 t67008,.int .i64 0]) ?_ 1 _ rfl;(with_reducible repeat(first|refine Zo ?_ _|refine Zq ?_|refine Zn ?_ _));refine ZF (cs:=#[.int .i64 0,.int .i64 0]) ?_ 0 _ rfl;(with_reducible repeat(first|refine Zo ?_ _|refine Zq ?_|refine Zn ?_ _));exact BK67002.out) Try.underlying29 rfl (by kernel_rfl)) rfl ?_
    exact⟨by first|rfl|(simp[ZA,Zz] <;> rfl)|(simp[*,ZA,Zz] <;> rfl),by repeat(first|(with_reducible first|exact HB.out|apply Zr|apply Zm|apply Zs|refine Zp ?_ GE67001.out|refine Zp ?_ GE67002.out)|exact HB.out)⟩
def ZaN.f (k:Nat) (a0_0:Int) (l0_1:List (S101)) (a1:Int):Option (Int×Int×Bool):=(ZaT.f k a0_0 l0_1).bind fun bt17003=>((ZM.f k bt17003.1 bt17003.2).bind fun bt17007=>(if bt17007.2.2=true then((Z8.f a0_0 l0_1).bind fun t17013=>(if t17013=true then((ZI.f k bt17007.1 bt17007.2.1 0 a1).bind fun bt17014=>(some (bt17014.1,bt17014.2.1,bt17014.2.2))) else(some (0,0,false)))) else(some (0,0,false))))
set_option maxHeartbeats 8000000 in
set_option maxRecDepth 100000 in
theorem ZaN.calls (k:Nat) (a0_0:Int) (A0_1:Option Addr) (c0_1:Nat) (l0_1:List (S101)) (a1:Int) (r1:Int) (r2:Int) (r3:Bool) (w:World) (hr0_1:Kd.C k101 w A0_1 l0_1.length l0_1) (hc0_1:l0_1.length≤c0_1) (h:ZaN.f k a0_0 l0_1 a1=some (r1,r2,r3)) :
  Calls Try.prog 17 #[.agg #[.int .i64 a0_0,.slice A0_1 l0_1.length c0_1],.int .i64 a1] w fun e w'=>e=.returned (.tuple #[.agg #[.int .i64 r1,.int .i64 r2],.bool r3])∧Below w.heap.size w w':=by
 have hu25:=Try.underlying25
 have hu29:=Try.underlying29
 have hu90:=Try.underlying90
 have HR0_1:=Za hr0_1;have HC0_1:=Za hc0_1;clear hr0_1 hc0_1
 have HB:=Za (Below.refl w.heap.size w)
 have H:((ZaT.f k a0_0 l0_1).bind fun bt17003=>((ZM.f k bt17003.1 bt17003.2).bind fun bt17007=>(if bt17007.2.2=true then((Z8.f a0_0 l0_1).bind fun t17013=>(if t17013=true then((ZI.f k bt17007.1 bt17007.2.1 0 a1).bind fun bt17014=>(some (bt17014.1,bt17014.2.1,bt17014.2.2))) else(some (0,0,false)))) else(some (0,0,false)))))=some (r1,r2,r3):=h
 clear h
 replace H:=Zh H
 obtain⟨⟨t17003,t17004⟩,A30,H⟩:=H
 replace H:((ZM.f k t17003 t17004).bind fun bt17007=>(if bt17007.2.2=true then((Z8.f a0_0 l0_1).bind fun t17013=>(if t17013=true then((ZI.f k bt17007.1 bt17007.2.1 0 a1).bind fun bt17014=>(some (bt17014.1,bt17014.2.1,bt17014.2.2))) else(some (0,0,false)))) else(some (0,0,false))))=some (r1,r2,r3):=H
 have A3:=Za A30;clear A30
 replace H:=Zh H
 obtain⟨⟨t17007,t17008,t17011⟩,A40,H⟩:=H
 replace H:(if t17011=true then((Z8.f a0_0 l0_1).bind fun t17013=>(if t17013=true then((ZI.f k t17007 t17008 0 a1).bind fun bt17014=>(some (bt17014.1,bt17014.2.1,bt17014.2.2))) else(some (0,0,false)))) else(some (0,0,false)))=some (r1,r2,r3):=H
 have A4:=Za A40;clear A40
 by_cases c5:t17011=true
 ·subst c5
  have H1:((Z8.f a0_0 l0_1).bind fun t17013=>(if t17013=true then((ZI.f k t17007 t17008 0 a1).bind fun bt17014=>(some (bt17014.1,bt17014.2.1,bt17014.2.2))) else(some (0,0,false))))=some (r1,r2,r3):=by rw[if_pos rfl] at H;exact H
  clear H
  have H:=H1
  clear H1
  replace H:=Zh H
  obtain⟨t17013,A60,H⟩:=H
  replace H:(if t17013=true then((ZI.f k t17007 t17008 0 a1).bind fun bt17014=>(some (bt17014.1,bt17014.2.1,bt17014.2.2))) else(some (0,0,false)))=some (r1,r2,r3):=H
  have A6:=Za A60;clear A60
  by_cases c7:t17013=true
  ·subst c7
   have H1:((ZI.f k t17007 t17008 0 a1).bind fun bt17014=>(some (bt17014.1,bt17014.2.1,bt17014.2.2)))=some (r1,r2,r3):=by rw[if_pos rfl] at H;exact H
   clear H
   have H:=H1
   clear H1
   replace H:=Zh H
   obtain⟨⟨t17014,t17015,t17016⟩,A80,H⟩:=H
   replace H:(some (t17014,t17015,t17016))=some (r1,r2,r3):=H
   have A8:=Za A80;clear A80
   simp only[Option.some.injEq,Prod.mk.injEq] at H
   obtain⟨rfl,rfl,rfl⟩:=H
   go_enter Try.func17,Try.ntmps17
   go_wp2_with (first|((with_reducible refine ZD (N:=2) rfl ?_);refine ZE ?hg (N:=2) ?hd (cs:=#[.int .i64 a0_0,.slice A0_1 l0_1.length c0_1]) (t:=25) ?hr ?_;(case hd=>rfl);(case hg=>rfl);(case hr=>first|(go_simp;done)|(go_simp;rfl));intro gb17001 hg w9 hbox hb;have n0_:=Za (Zy (by repeat(first|(with_reducible first|exact HB.out|apply Zr|apply Zm|apply Zs)|exact HB.out)) hb);have n1_:=Za (hbox);have n2_:=Za ((by rw[hg];exact(Zv (by repeat(first|(with_reducible first|exact HB.out|apply Zr|apply Zm|apply Zs)|exact HB.out))):w.heap.size≤gb17001));have n3_:=Za ((by rw[hg];exact(Zv (by repeat(first|(with_reducible first|exact HB.out|apply Zr|apply Zm|apply Zs)|exact HB.out))):w.heap.size≤gb17001));clear HB;have HB:=n0_;have BK17001:=n1_;have GW17001:=n2_;have GE17001:=n3_;clear n0_ n1_ n2_ n3_;clear hb hbox hg)|((with_reducible refine ZD (N:=4) rfl ?_);refine ZE ?hg (N:=4) ?hd (cs:=#[.int .i64 0,.int .i64 0]) (t:=29) ?hr ?_;(case hd=>rfl);(case hg=>rfl);(case hr=>first|(go_simp;done)|(go_simp;rfl));intro gb17002 hg w10 hbox hb;have n0_:=Za (Zx (g:=gb17001) (o:=.cells #[.int .i64 a0_0,.slice A0_1 l0_1.length c0_1] 25 (0,0)) (by(with_reducible repeat(first|refine Zo ?_ _|refine Zq ?_|refine Zn ?_ _));exact BK17001.out) hb);have n1_:=Za (Zy (by repeat(first|(with_reducible first|exact HB.out|apply Zr|apply Zm|apply Zs|refine Zp ?_ GE17001.out)|exact HB.out)) hb);have n2_:=Za (hbox);have n3_:=Za ((by rw[hg];exact(Zv (by repeat(first|(with_reducible first|exact HB.out|apply Zr|apply Zm|apply Zs|refine Zp ?_ GE17001.out)|exact HB.out))):w.heap.size≤gb17002));have n4_:=Za ((by rw[hg];exact(Zv (by repeat(first|(with_reducible first|exact HB.out|apply Zr|apply Zm|apply Zs|refine Zp ?_ GE17001.out)|exact HB.out))):w.heap.size≤gb17002));have n5_:=Za ((by rw[hg];exact Nat.ne_of_lt (ZB (g:=gb17001) (o:=.cells #[.int .i64 a0_0,.slice A0_1 l0_1.length c0_1] 25 (0,0)) (by(with_reducible repeat(first|refine Zo ?_ _|refine Zq ?_|refine Zn ?_ _));exact BK17001.out)):gb17001≠gb17002));have n6_:=Za ((by rw[hg];exact Nat.ne_of_gt (ZB (g:=gb17001) (o:=.cells #[.int .i64 a0_0,.slice A0_1 l0_1.length c0_1] 25 (0,0)) (by(with_reducible repeat(first|refine Zo ?_ _|refine Zq ?_|refine Zn ?_ _));exact BK17001.out)):gb17002≠gb17001));clear BK17001;clear HB;have BK17001:=n0_;have HB:=n1_;have BK17002:=n2_;have GW17002:=n3_;have GE17002:=n4_;have NB17001_17002:=n5_;have NB17002_17001:=n6_;clear n0_ n1_ n2_ n3_ n4_ n5_ n6_;clear hb hbox hg;have hnb11:=NB17001_17002.out;have hnc11:=NB17002_17001.out;have hcz12_0:w10.cell? ⟨gb17001,0,none⟩=some (.int .i64 a0_0):=(Zu BK17001.out 0).trans rfl;have hcz12_1:w10.cell? ⟨gb17001,1,none⟩=some (.slice A0_1 l0_1.length c0_1):=(Zu BK17001.out 1).trans rfl;have hfz12_0:=Zt BK17001.out 0;have hfz12_1:=Zt BK17001.out 1)|((with_reducible refine ZG (f:=66) rfl ?_);refine ZV (some 10) rfl rfl Try.func66 (by kernel_rfl) rfl #[.agg #[.int .i64 a0_0,.slice A0_1 l0_1.length c0_1]] rfl (by(try simp only[List.map_toArray,List.map_cons,List.map_nil]);first|done|rfl|(simp only[Zk,Zj];rfl)) ?_;(with_reducible refine(ZaT.calls k a0_0 _ _ l0_1 t17003 t17004 _ ?side1 ?side2 A3.out).mono ?_);(case side1=>repeat(first|exact(Zb HR0_1.out HB.out)|(with_reducible refine Kd.C_alloc ?_ _)|(with_reducible refine Kd.C_drewN ?_ _)|(with_reducible refine Kd.C_drew ?_)));(case side2=>exact HC0_1.out);rintro e w13 ⟨v17005,rfl,ho0,hb⟩;refine⟨_,rfl,?_⟩;have n0_:=Za (Kd.R_lower ho0 (Zv (by repeat(first|(with_reducible first|exact HB.out|apply Zr|apply Zm|apply Zs|refine Zp ?_ GE17001.out|refine Zp ?_ GE17002.out)|exact HB.out))));have n1_:=Za (Zx (g:=gb17001) (o:=.cells #[.int .i64 a0_0,.slice A0_1 l0_1.length c0_1] 25 (0,0)) (by(with_reducible repeat(first|refine Zo ?_ _|refine Zq ?_|refine Zn ?_ _));exact BK17001.out) hb);have n2_:=Za (Zx (g:=gb17002) (o:=.cells #[.int .i64 0,.int .i64 0] 29 (0,0)) (by(with_reducible repeat(first|refine Zo ?_ _|refine Zq ?_|refine Zn ?_ _));exact BK17002.out) hb);have n3_:=Za (Zy (by repeat(first|(with_reducible first|exact HB.out|apply Zr|apply Zm|apply Zs|refine Zp ?_ GE17001.out|refine Zp ?_ GE17002.out)|exact HB.out)) hb);clear BK17001;clear BK17002;clear HB;have HO17006:=n0_;have BK17001:=n1_;have BK17002:=n2_;have HB:=n3_;clear n0_ n1_ n2_ n3_;(try clear hb);(try clear hb2);(try clear hk);(try clear hi);(try clear ho0);obtain⟨Ao14,co14,eo14⟩:=Kd.R_slice HO17006.out;subst eo14)|((with_reducible refine ZG (f:=65) rfl ?_);refine ZV (some 11) rfl rfl Try.func65 (by kernel_rfl) rfl #[.agg #[.int .i64 t17003,.slice Ao14 t17004.length co14]] rfl (by(try simp only[List.map_toArray,List.map_cons,List.map_nil]);first|done|rfl|(simp only[Zk,Zj];rfl)) ?_;(with_reducible refine(ZM.calls k t17003 _ _ t17004 t17007 t17008 true _ ?side1 ?side2 A4.out).mono ?_);(case side1=>repeat(first|exact(Kd.R_reads' HO17006.out).2.2|(with_reducible refine Kd.C_alloc ?_ _)|(with_reducible refine Kd.C_drewN ?_ _)|(with_reducible refine Kd.C_drew ?_)));(case side2=>exact(Kd.R_reads' HO17006.out).2.1);rintro e w15 ⟨v17009,rfl,ho0,hb⟩;refine⟨_,rfl,?_⟩;have n0_:=Za (Kd.R_below (by(with_reducible repeat(first|apply Kd.R_alloc|apply Kd.R_drewN|apply Kd.R_drew));exact HO17006.out) hb);have n1_:=Za (Kd.R_lower ho0 (Zv (by repeat(first|(with_reducible first|exact HB.out|apply Zr|apply Zm|apply Zs|refine Zp ?_ GE17001.out|refine Zp ?_ GE17002.out)|exact HB.out))));have n2_:=Za (Zx (g:=gb17001) (o:=.cells #[.int .i64 a0_0,.slice A0_1 l0_1.length c0_1] 25 (0,0)) (by(with_reducible repeat(first|refine Zo ?_ _|refine Zq ?_|refine Zn ?_ _));exact BK17001.out) hb);have n3_:=Za (Zx (g:=gb17002) (o:=.cells #[.int .i64 0,.int .i64 0] 29 (0,0)) (by(with_reducible repeat(first|refine Zo ?_ _|refine Zq ?_|refine Zn ?_ _));exact BK17002.out) hb);have n4_:=Za (Zy (by repeat(first|(with_reducible first|exact HB.out|apply Zr|apply Zm|apply Zs|refine Zp ?_ GE17001.out|refine Zp ?_ GE17002.out)|exact HB.out)) hb);clear HO17006;clear BK17001;clear BK17002;clear HB;have HO17006:=n0_;have HO17010:=n1_;have BK17001:=n2_;have BK17002:=n3_;have HB:=n4_;clear n0_ n1_ n2_ n3_ n4_;(try clear hb);(try clear hb2);(try clear hk);(try clear hi);(try clear ho0))|((with_reducible refine ZD (N:=6) rfl ?_);refine ZE ?hg (N:=6) ?hd (cs:=#[.int .i64 0,.slice none 0 0]) (t:=90) ?hr ?_;(case hd=>rfl);(case hg=>rfl);(case hr=>first|(go_simp;done)|(go_simp;rfl));intro gb17012 hg w16 hbox hb;have n0_:=Za (Kd.R_below (by(with_reducible repeat(first|apply Kd.R_alloc|apply Kd.R_drewN|apply Kd.R_drew));exact HO17006.out) hb);have n1_:=Za (Kd.R_below (by(with_reducible repeat(first|apply Kd.R_alloc|apply Kd.R_drewN|apply Kd.R_drew));exact HO17010.out) hb);have n2_:=Za (Zx (g:=gb17001) (o:=.cells #[.int .i64 a0_0,.slice A0_1 l0_1.length c0_1] 25 (0,0)) (by(with_reducible repeat(first|refine Zo ?_ _|refine Zq ?_|refine Zn ?_ _));exact BK17001.out) hb);have n3_:=Za (Zx (g:=gb17002) (o:=.cells #[.int .i64 0,.int .i64 0] 29 (0,0)) (by(with_reducible repeat(first|refine Zo ?_ _|refine Zq ?_|refine Zn ?_ _));exact BK17002.out) hb);have n4_:=Za (Zy (by repeat(first|(with_reducible first|exact HB.out|apply Zr|apply Zm|apply Zs|refine Zp ?_ GE17001.out|refine Zp ?_ GE17002.out)|exact HB.out)) hb);have n5_:=Za (hbox);have n6_:=Za ((by rw[hg];exact(Zv (by repeat(first|(with_reducible first|exact HB.out|apply Zr|apply Zm|apply Zs|refine Zp ?_ GE17001.out|refine Zp ?_ GE17002.out)|exact HB.out))):w.heap.size≤gb17012));have n7_:=Za ((by rw[hg];exact(Zv (by repeat(first|(with_reducible first|exact HB.out|apply Zr|apply Zm|apply Zs|refine Zp ?_ GE17001.out|refine Zp ?_ GE17002.out)|exact HB.out))):w.heap.size≤gb17012));have n8_:=Za ((by rw[hg];exact Nat.ne_of_lt (ZB (g:=gb17001) (o:=.cells #[.int .i64 a0_0,.slice A0_1 l0_1.length c0_1] 25 (0,0)) (by(with_reducible repeat(first|refine Zo ?_ _|refine Zq ?_|refine Zn ?_ _));exact BK17001.out)):gb17001≠gb17012));have n9_:=Za ((by rw[hg];exact Nat.ne_of_gt (ZB (g:=gb17001) (o:=.cells #[.int .i64 a0_0,.slice A0_1 l0_1.length c0_1] 25 (0,0)) (by(with_reducible repeat(first|refine Zo ?_ _|refine Zq ?_|refine Zn ?_ _));exact BK17001.out)):gb17012≠gb17001));have n10_:=Za ((by rw[hg];exact Nat.ne_of_lt (ZB (g:=gb17002) (o:=.cells #[.int .i64 0,.int .i64 0] 29 (0,0)) (by(with_reducible repeat(first|refine Zo ?_ _|refine Zq ?_|refine Zn ?_ _));exact BK17002.out)):gb17002≠gb17012));have n11_:=Za ((by rw[hg];exact Nat.ne_of_gt (ZB (g:=gb17002) (o:=.cells #[.int .i64 0,.int .i64 0] 29 (0,0)) (by(with_reducible repeat(first|refine Zo ?_ _|refine Zq ?_|refine Zn ?_ _));exact BK17002.out)):gb17012≠gb17002));clear HO17006;clear HO17010;clear BK17001;clear BK17002;clear HB;have HO17006:=n0_;have HO17010:=n1_;have BK17001:=n2_;have BK17002:=n3_;have HB:=n4_;have BK17012:=n5_;have GW17012:=n6_;have GE17012:=n7_;have NB17001_17012:=n8_;have NB17012_17001:=n9_;have NB17002_17012:=n10_;have NB17012_17002:=n11_;clear n0_ n1_ n2_ n3_ n4_ n5_ n6_ n7_ n8_ n9_ n10_ n11_;clear hb hbox hg;have hnb17:=NB17012_17001.out;have hnc17:=NB17001_17012.out;have hnb18:=NB17012_17002.out;have hnc18:=NB17002_17012.out;have hcz19_0:w16.cell? ⟨gb17012,0,none⟩=some (.int .i64 0):=(Zu BK17012.out 0).trans rfl;have hcz19_1:w16.cell? ⟨gb17012,1,none⟩=some (.slice none 0 0):=(Zu BK17012.out 1).trans rfl;have hfz19_0:=Zt BK17012.out 0;have hfz19_1:=Zt BK17012.out 1;obtain⟨Ao20,co20,eo20⟩:=Kd.R_slice HO17010.out;subst eo20;have hcz21_0:w16.cell? ⟨gb17001,0,none⟩=some (.int .i64 a0_0):=(Zu BK17001.out 0).trans rfl;have hcz21_1:w16.cell? ⟨gb17001,1,none⟩=some (.slice A0_1 l0_1.length c0_1):=(Zu BK17001.out 1).trans rfl;have hfz21_0:=Zt BK17001.out 0;have hfz21_1:=Zt BK17001.out 1)|(go_at_call 19;(with_reducible refine(Z8.calls a0_0 _ _ l0_1 true _ ?side1 ?side2 A6.out).mono ?_);(case side1=>exact Zb HR0_1.out (by repeat(first|(with_reducible first|exact HB.out|apply Zr|apply Zm|apply Zs|refine Zp ?_ GE17001.out|refine Zp ?_ GE17002.out|refine Zp ?_ GE17012.out)|exact HB.out)));(case side2=>exact HC0_1.out);rintro e w22 ⟨rfl,hb⟩;have n0_:=Za (Kd.R_below (by(with_reducible repeat(first|apply Kd.R_alloc|apply Kd.R_drewN|apply Kd.R_drew));exact(Kd.R_mono (Kd.R_far (p:=⟨gb17012,1,none⟩) (Kd.R_far (p:=⟨gb17012,0,none⟩) (Kd.R_types HO17006.out BK17012.out (by decide)) (fun _ hk=>hk.2) (.int .i64 t17007)) (fun _ hk=>hk.2) (.slice Ao20 t17008.length co20)) (fun _ h_=>h_.1))) hb);have n1_:=Za (Kd.R_below (by(with_reducible repeat(first|apply Kd.R_alloc|apply Kd.R_drewN|apply Kd.R_drew));exact(Kd.R_mono (Kd.R_far (p:=⟨gb17012,1,none⟩) (Kd.R_far (p:=⟨gb17012,0,none⟩) (Kd.R_types HO17010.out BK17012.out (by decide)) (fun _ hk=>hk.2) (.int .i64 t17007)) (fun _ hk=>hk.2) (.slice Ao20 t17008.length co20)) (fun _ h_=>h_.1))) hb);have n2_:=Za (Zx (g:=gb17001) (o:=.cells #[.int .i64 a0_0,.slice A0_1 l0_1.length c0_1] 25 (0,0)) (by(with_reducible repeat(first|refine Zo ?_ _|refine Zq ?_|refine Zn ?_ _));refine ZC ?_ NB17001_17012.out _;(with_reducible repeat(first|refine Zo ?_ _|refine Zq ?_|refine Zn ?_ _));refine ZC ?_ NB17001_17012.out _;(with_reducible repeat(first|refine Zo ?_ _|refine Zq ?_|refine Zn ?_ _));exact BK17001.out) hb);have n3_:=Za (Zx (g:=gb17002) (o:=.cells #[.int .i64 0,.int .i64 0] 29 (0,0)) (by(with_reducible repeat(first|refine Zo ?_ _|refine Zq ?_|refine Zn ?_ _));refine ZC ?_ NB17002_17012.out _;(with_reducible repeat(first|refine Zo ?_ _|refine Zq ?_|refine Zn ?_ _));refine ZC ?_ NB17002_17012.out _;(with_reducible repeat(first|refine Zo ?_ _|refine Zq ?_|refine Zn ?_ _));exact BK17002.out) hb);have n4_:=Za (Zx (g:=gb17012) (o:=.cells #[.int .i64 t17007,.slice Ao20 t17008.length co20] 90 (0,0)) (by(with_reducible repeat(first|refine Zo ?_ _|refine Zq ?_|refine Zn ?_ _));refine ZF (cs:=#[.int .i64 t17007,.slice none 0 0]) ?_ 1 _ rfl;(with_reducible repeat(first|refine Zo ?_ _|refine Zq ?_|refine Zn ?_ _));refine ZF (cs:=#[.int .i64 0,.slice none 0 0]) ?_ 0 _ rfl;(with_reducible repeat(first|refine Zo ?_ _|refine Zq ?_|refine Zn ?_ _));exact BK17012.out) hb);have n5_:=Za (Zy (by repeat(first|(with_reducible first|exact HB.out|apply Zr|apply Zm|apply Zs|refine Zp ?_ GE17001.out|refine Zp ?_ GE17002.out|refine Zp ?_ GE17012.out)|exact HB.out)) hb);clear HO17006;clear HO17010;clear BK17001;clear BK17002;clear BK17012;clear HB;have HO17006:=n0_;have HO17010:=n1_;have BK17001:=n2_;have BK17002:=n3_;have BK17012:=n4_;have HB:=n5_;clear n0_ n1_ n2_ n3_ n4_ n5_;(try clear hb);(try clear hb2);(try clear hk);(try clear hi);have hcz23_0:w22.cell? ⟨gb17012,0,none⟩=some (.int .i64 t17007):=(Zu BK17012.out 0).trans rfl;have hcz23_1:w22.cell? ⟨gb17012,1,none⟩=some (.slice Ao20 t17008.length co20):=(Zu BK17012.out 1).trans rfl;have hfz23_0:=Zt BK17012.out 0;have hfz23_1:=Zt BK17012.out 1)|((with_reducible refine ZG (f:=67) rfl ?_);refine ZV (some 24) rfl rfl Try.func67 (by kernel_rfl) rfl #[.agg #[.int .i64 t17007,.slice Ao20 t17008.length co20],.int .i64 0,.int .i64 a1] rfl (by(try simp only[List.map_toArray,List.map_cons,List.map_nil]);first|done|rfl|(simp only[Zk,Zj];rfl)) ?_;(with_reducible refine(ZI.calls k t17007 _ _ t17008 0 a1 t17014 t17015 t17016 _ ?side1 ?side2 A8.out).mono ?_);(case side1=>repeat(first|exact(Kd.R_reads' HO17010.out).2.2|(with_reducible refine Kd.C_alloc ?_ _)|(with_reducible refine Kd.C_drewN ?_ _)|(with_reducible refine Kd.C_drew ?_)));(case side2=>exact(Kd.R_reads' HO17010.out).2.1);rintro e w24 ⟨rfl,hb⟩;refine⟨_,rfl,?_⟩;have n0_:=Za (Kd.R_below (by(with_reducible repeat(first|apply Kd.R_alloc|apply Kd.R_drewN|apply Kd.R_drew));exact HO17006.out) hb);have n1_:=Za (Kd.R_below (by(with_reducible repeat(first|apply Kd.R_alloc|apply Kd.R_drewN|apply Kd.R_drew));exact HO17010.out) hb);have n2_:=Za (Zx (g:=gb17001) (o:=.cells #[.int .i64 a0_0,.slice A0_1 l0_1.length c0_1] 25 (0,0)) (by(with_reducible repeat(first|refine Zo ?_ _|refine Zq ?_|refine Zn ?_ _));exact BK17001.out) hb);have n3_:=Za (Zx (g:=gb17002) (o:=.cells #[.int .i64 0,.int .i64 0] 29 (0,0)) (by(with_reducible repeat(first|refine Zo ?_ _|refine Zq ?_|refine Zn ?_ _));exact BK17002.out) hb);have n4_:=Za (Zx (g:=gb17012) (o:=.cells #[.int .i64 t17007,.slice Ao20 t17008.length co20] 90 (0,0)) (by(with_reducible repeat(first|refine Zo ?_ _|refine Zq ?_|refine Zn ?_ _));exact BK17012.out) hb);have n5_:=Za (Zy (by repeat(first|(with_reducible first|exact HB.out|apply Zr|apply Zm|apply Zs|refine Zp ?_ GE17001.out|refine Zp ?_ GE17002.out|refine Zp ?_ GE17012.out)|exact HB.out)) hb);clear HO17006;clear HO17010;clear BK17001;clear BK17002;clear BK17012;clear HB;have HO17006:=n0_;have HO17010:=n1_;have BK17001:=n2_;have BK17002:=n3_;have BK17012:=n4_;have HB:=n5_;clear n0_ n1_ n2_ n3_ n4_ n5_;(try clear hb);(try clear hb2);(try clear hk);(try clear hi);have hcz25_0:w24.cell? ⟨gb17002,0,none⟩=some (.int .i64 0):=(Zu BK17002.out 0).trans rfl;have hcz25_1:w24.cell? ⟨gb17002,1,none⟩=some (.int .i64 0):=(Zu BK17002.out 1).trans rfl;have hfz25_0:=Zt BK17002.out 0;have hfz25_1:=Zt BK17002.out 1))
   refine bodyPost_ret (Z5 rfl _ _ gb17002 29 #[.int .i64 t17014,.int .i64 t17015] (0,0) _ rfl (by(with_reducible repeat(first|refine Zo ?_ _|refine Zq ?_|refine Zn ?_ _));refine ZF (cs:=#[.int .i64 t17014,.int .i64 0]) ?_ 1 _ rfl;(with_reducible repeat(first|refine Zo ?_ _|refine Zq ?_|refine Zn ?_ _));refine ZF (cs:=#[.int .i64 0,.int .i64 0]) ?_ 0 _ rfl;(with_reducible repeat(first|refine Zo ?_ _|refine Zq ?_|refine Zn ?_ _));exact BK17002.out) Try.underlying29 rfl (by kernel_rfl)) rfl ?_
   exact⟨by first|rfl|(simp[ZA,Zz] <;> rfl)|(simp[*,ZA,Zz] <;> rfl),by repeat(first|(with_reducible first|exact HB.out|apply Zr|apply Zm|apply Zs|refine Zp ?_ GE17001.out|refine Zp ?_ GE17002.out|refine Zp ?_ GE17012.out)|exact HB.out)⟩
  ·replace c7:=Bool.eq_false_iff.mpr c7
   subst c7
   have H1:(some (0,0,false))=some (r1,r2,r3):=by rw[if_neg (show ¬(false=true) by decide)] at H;exact H
   clear H
   have H:=H1
   clear H1
   simp only[Option.some.injEq,Prod.mk.injEq] at H
   obtain⟨rfl,rfl,rfl⟩:=H
   go_enter Try.func17,Try.ntmps17
   go_wp2_with (first|((with_reducible refine ZD (N:=2) rfl ?_);refine ZE ?hg (N:=2) ?hd (cs:=#[.int .i64 a0_0,.slice A0_1 l0_1.length c0_1]) (t:=25) ?hr ?_;(case hd=>rfl);(case hg=>rfl);(case hr=>first|(go_simp;done)|(go_simp;rfl));intro gb17001 hg w26 hbox hb;have n0_:=Za (Zy (by repeat(first|(with_reducible first|exact HB.out|apply Zr|apply Zm|apply Zs)|exact HB.out)) hb);have n1_:=Za (hbox);have n2_:=Za ((by rw[hg];exact(Zv (by repeat(first|(with_reducible first|exact HB.out|apply Zr|apply Zm|apply Zs)|exact HB.out))):w.heap.size≤gb17001));have n3_:=Za ((by rw[hg];exact(Zv (by repeat(first|(with_reducible first|exact HB.out|apply Zr|apply Zm|apply Zs)|exact HB.out))):w.heap.size≤gb17001));clear HB;have HB:=n0_;have BK17001:=n1_;have GW17001:=n2_;have GE17001:=n3_;clear n0_ n1_ n2_ n3_;clear hb hbox hg)|((with_reducible refine ZD (N:=4) rfl ?_);refine ZE ?hg (N:=4) ?hd (cs:=#[.int .i64 0,.int .i64 0]) (t:=29) ?hr ?_;(case hd=>rfl);(case hg=>rfl);(case hr=>first|(go_simp;done)|(go_simp;rfl));intro gb17002 hg w27 hbox hb;have n0_:=Za (Zx (g:=gb17001) (o:=.cells #[.int .i64 a0_0,.slice A0_1 l0_1.length c0_1] 25 (0,0)) (by(with_reducible repeat(first|refine Zo ?_ _|refine Zq ?_|refine Zn ?_ _));exact BK17001.out) hb);have n1_:=Za (Zy (by repeat(first|(with_reducible first|exact HB.out|apply Zr|apply Zm|apply Zs|refine Zp ?_ GE17001.out)|exact HB.out)) hb);have n2_:=Za (hbox);have n3_:=Za ((by rw[hg];exact(Zv (by repeat(first|(with_reducible first|exact HB.out|apply Zr|apply Zm|apply Zs|refine Zp ?_ GE17001.out)|exact HB.out))):w.heap.size≤gb17002));have n4_:=Za ((by rw[hg];exact(Zv (by repeat(first|(with_reducible first|exact HB.out|apply Zr|apply Zm|apply Zs|refine Zp ?_ GE17001.out)|exact HB.out))):w.heap.size≤gb17002));have n5_:=Za ((by rw[hg];exact Nat.ne_of_lt (ZB (g:=gb17001) (o:=.cells #[.int .i64 a0_0,.slice A0_1 l0_1.length c0_1] 25 (0,0)) (by(with_reducible repeat(first|refine Zo ?_ _|refine Zq ?_|refine Zn ?_ _));exact BK17001.out)):gb17001≠gb17002));have n6_:=Za ((by rw[hg];exact Nat.ne_of_gt (ZB (g:=gb17001) (o:=.cells #[.int .i64 a0_0,.slice A0_1 l0_1.length c0_1] 25 (0,0)) (by(with_reducible repeat(first|refine Zo ?_ _|refine Zq ?_|refine Zn ?_ _));exact BK17001.out)):gb17002≠gb17001));clear BK17001;clear HB;have BK17001:=n0_;have HB:=n1_;have BK17002:=n2_;have GW17002:=n3_;have GE17002:=n4_;have NB17001_17002:=n5_;have NB17002_17001:=n6_;clear n0_ n1_ n2_ n3_ n4_ n5_ n6_;clear hb hbox hg;have hnb28:=NB17001_17002.out;have hnc28:=NB17002_17001.out;have hcz29_0:w27.cell? ⟨gb17001,0,none⟩=some (.int .i64 a0_0):=(Zu BK17001.out 0).trans rfl;have hcz29_1:w27.cell? ⟨gb17001,1,none⟩=some (.slice A0_1 l0_1.length c0_1):=(Zu BK17001.out 1).trans rfl;have hfz29_0:=Zt BK17001.out 0;have hfz29_1:=Zt BK17001.out 1)|((with_reducible refine ZG (f:=66) rfl ?_);refine ZV (some 10) rfl rfl Try.func66 (by kernel_rfl) rfl #[.agg #[.int .i64 a0_0,.slice A0_1 l0_1.length c0_1]] rfl (by(try simp only[List.map_toArray,List.map_cons,List.map_nil]);first|done|rfl|(simp only[Zk,Zj];rfl)) ?_;(with_reducible refine(ZaT.calls k a0_0 _ _ l0_1 t17003 t17004 _ ?side1 ?side2 A3.out).mono ?_);(case side1=>repeat(first|exact(Zb HR0_1.out HB.out)|(with_reducible refine Kd.C_alloc ?_ _)|(with_reducible refine Kd.C_drewN ?_ _)|(with_reducible refine Kd.C_drew ?_)));(case side2=>exact HC0_1.out);rintro e w30 ⟨v17005,rfl,ho0,hb⟩;refine⟨_,rfl,?_⟩;have n0_:=Za (Kd.R_lower ho0 (Zv (by repeat(first|(with_reducible first|exact HB.out|apply Zr|apply Zm|apply Zs|refine Zp ?_ GE17001.out|refine Zp ?_ GE17002.out)|exact HB.out))));have n1_:=Za (Zx (g:=gb17001) (o:=.cells #[.int .i64 a0_0,.slice A0_1 l0_1.length c0_1] 25 (0,0)) (by(with_reducible repeat(first|refine Zo ?_ _|refine Zq ?_|refine Zn ?_ _));exact BK17001.out) hb);have n2_:=Za (Zx (g:=gb17002) (o:=.cells #[.int .i64 0,.int .i64 0] 29 (0,0)) (by(with_reducible repeat(first|refine Zo ?_ _|refine Zq ?_|refine Zn ?_ _));exact BK17002.out) hb);have n3_:=Za (Zy (by repeat(first|(with_reducible first|exact HB.out|apply Zr|apply Zm|apply Zs|refine Zp ?_ GE17001.out|refine Zp ?_ GE17002.out)|exact HB.out)) hb);clear BK17001;clear BK17002;clear HB;have HO17006:=n0_;have BK17001:=n1_;have BK17002:=n2_;have HB:=n3_;clear n0_ n1_ n2_ n3_;(try clear hb);(try clear hb2);(try clear hk);(try clear hi);(try clear ho0);obtain⟨Ao31,co31,eo31⟩:=Kd.R_slice HO17006.out;subst eo31)|((with_reducible refine ZG (f:=65) rfl ?_);refine ZV (some 11) rfl rfl Try.func65 (by kernel_rfl) rfl #[.agg #[.int .i64 t17003,.slice Ao31 t17004.length co31]] rfl (by(try simp only[List.map_toArray,List.map_cons,List.map_nil]);first|done|rfl|(simp only[Zk,Zj];rfl)) ?_;(with_reducible refine(ZM.calls k t17003 _ _ t17004 t17007 t17008 true _ ?side1 ?side2 A4.out).mono ?_);(case side1=>repeat(first|exact(Kd.R_reads' HO17006.out).2.2|(with_reducible refine Kd.C_alloc ?_ _)|(with_reducible refine Kd.C_drewN ?_ _)|(with_reducible refine Kd.C_drew ?_)));(case side2=>exact(Kd.R_reads' HO17006.out).2.1);rintro e w32 ⟨v17009,rfl,ho0,hb⟩;refine⟨_,rfl,?_⟩;have n0_:=Za (Kd.R_below (by(with_reducible repeat(first|apply Kd.R_alloc|apply Kd.R_drewN|apply Kd.R_drew));exact HO17006.out) hb);have n1_:=Za (Kd.R_lower ho0 (Zv (by repeat(first|(with_reducible first|exact HB.out|apply Zr|apply Zm|apply Zs|refine Zp ?_ GE17001.out|refine Zp ?_ GE17002.out)|exact HB.out))));have n2_:=Za (Zx (g:=gb17001) (o:=.cells #[.int .i64 a0_0,.slice A0_1 l0_1.length c0_1] 25 (0,0)) (by(with_reducible repeat(first|refine Zo ?_ _|refine Zq ?_|refine Zn ?_ _));exact BK17001.out) hb);have n3_:=Za (Zx (g:=gb17002) (o:=.cells #[.int .i64 0,.int .i64 0] 29 (0,0)) (by(with_reducible repeat(first|refine Zo ?_ _|refine Zq ?_|refine Zn ?_ _));exact BK17002.out) hb);have n4_:=Za (Zy (by repeat(first|(with_reducible first|exact HB.out|apply Zr|apply Zm|apply Zs|refine Zp ?_ GE17001.out|refine Zp ?_ GE17002.out)|exact HB.out)) hb);clear HO17006;clear BK17001;clear BK17002;clear HB;have HO17006:=n0_;have HO17010:=n1_;have BK17001:=n2_;have BK17002:=n3_;have HB:=n4_;clear n0_ n1_ n2_ n3_ n4_;(try clear hb);(try clear hb2);(try clear hk);(try clear hi);(try clear ho0))|((with_reducible refine ZD (N:=6) rfl ?_);refine ZE ?hg (N:=6) ?hd (cs:=#[.int .i64 0,.slice none 0 0]) (t:=90) ?hr ?_;(case hd=>rfl);(case hg=>rfl);(case hr=>first|(go_simp;done)|(go_simp;rfl));intro gb17012 hg w33 hbox hb;have n0_:=Za (Kd.R_below (by(with_reducible repeat(first|apply Kd.R_alloc|apply Kd.R_drewN|apply Kd.R_drew));exact HO17006.out) hb);have n1_:=Za (Kd.R_below (by(with_reducible repeat(first|apply Kd.R_alloc|apply Kd.R_drewN|apply Kd.R_drew));exact HO17010.out) hb);have n2_:=Za (Zx (g:=gb17001) (o:=.cells #[.int .i64 a0_0,.slice A0_1 l0_1.length c0_1] 25 (0,0)) (by(with_reducible repeat(first|refine Zo ?_ _|refine Zq ?_|refine Zn ?_ _));exact BK17001.out) hb);have n3_:=Za (Zx (g:=gb17002) (o:=.cells #[.int .i64 0,.int .i64 0] 29 (0,0)) (by(with_reducible repeat(first|refine Zo ?_ _|refine Zq ?_|refine Zn ?_ _));exact BK17002.out) hb);have n4_:=Za (Zy (by repeat(first|(with_reducible first|exact HB.out|apply Zr|apply Zm|apply Zs|refine Zp ?_ GE17001.out|refine Zp ?_ GE17002.out)|exact HB.out)) hb);have n5_:=Za (hbox);have n6_:=Za ((by rw[hg];exact(Zv (by repeat(first|(with_reducible first|exact HB.out|apply Zr|apply Zm|apply Zs|refine Zp ?_ GE17001.out|refine Zp ?_ GE17002.out)|exact HB.out))):w.heap.size≤gb17012));have n7_:=Za ((by rw[hg];exact(Zv (by repeat(first|(with_reducible first|exact HB.out|apply Zr|apply Zm|apply Zs|refine Zp ?_ GE17001.out|refine Zp ?_ GE17002.out)|exact HB.out))):w.heap.size≤gb17012));have n8_:=Za ((by rw[hg];exact Nat.ne_of_lt (ZB (g:=gb17001) (o:=.cells #[.int .i64 a0_0,.slice A0_1 l0_1.length c0_1] 25 (0,0)) (by(with_reducible repeat(first|refine Zo ?_ _|refine Zq ?_|refine Zn ?_ _));exact BK17001.out)):gb17001≠gb17012));have n9_:=Za ((by rw[hg];exact Nat.ne_of_gt (ZB (g:=gb17001) (o:=.cells #[.int .i64 a0_0,.slice A0_1 l0_1.length c0_1] 25 (0,0)) (by(with_reducible repeat(first|refine Zo ?_ _|refine Zq ?_|refine Zn ?_ _));exact BK17001.out)):gb17012≠gb17001));have n10_:=Za ((by rw[hg];exact Nat.ne_of_lt (ZB (g:=gb17002) (o:=.cells #[.int .i64 0,.int .i64 0] 29 (0,0)) (by(with_reducible repeat(first|refine Zo ?_ _|refine Zq ?_|refine Zn ?_ _));exact BK17002.out)):gb17002≠gb17012));have n11_:=Za ((by rw[hg];exact Nat.ne_of_gt (ZB (g:=gb17002) (o:=.cells #[.int .i64 0,.int .i64 0] 29 (0,0)) (by(with_reducible repeat(first|refine Zo ?_ _|refine Zq ?_|refine Zn ?_ _));exact BK17002.out)):gb17012≠gb17002));clear HO17006;clear HO17010;clear BK17001;clear BK17002;clear HB;have HO17006:=n0_;have HO17010:=n1_;have BK17001:=n2_;have BK17002:=n3_;have HB:=n4_;have BK17012:=n5_;have GW17012:=n6_;have GE17012:=n7_;have NB17001_17012:=n8_;have NB17012_17001:=n9_;have NB17002_17012:=n10_;have NB17012_17002:=n11_;clear n0_ n1_ n2_ n3_ n4_ n5_ n6_ n7_ n8_ n9_ n10_ n11_;clear hb hbox hg;have hnb34:=NB17012_17001.out;have hnc34:=NB17001_17012.out;have hnb35:=NB17012_17002.out;have hnc35:=NB17002_17012.out;have hcz36_0:w33.cell? ⟨gb17012,0,none⟩=some (.int .i64 0):=(Zu BK17012.out 0).trans rfl;have hcz36_1:w33.cell? ⟨gb17012,1,none⟩=some (.slice none 0 0):=(Zu BK17012.out 1).trans rfl;have hfz36_0:=Zt BK17012.out 0;have hfz36_1:=Zt BK17012.out 1;obtain⟨Ao37,co37,eo37⟩:=Kd.R_slice HO17010.out;subst eo37;have hcz38_0:w33.cell? ⟨gb17001,0,none⟩=some (.int .i64 a0_0):=(Zu BK17001.out 0).trans rfl;have hcz38_1:w33.cell? ⟨gb17001,1,none⟩=some (.slice A0_1 l0_1.length c0_1):=(Zu BK17001.out 1).trans rfl;have hfz38_0:=Zt BK17001.out 0;have hfz38_1:=Zt BK17001.out 1)|(go_at_call 19;(with_reducible refine(Z8.calls a0_0 _ _ l0_1 false _ ?side1 ?side2 A6.out).mono ?_);(case side1=>exact Zb HR0_1.out (by repeat(first|(with_reducible first|exact HB.out|apply Zr|apply Zm|apply Zs|refine Zp ?_ GE17001.out|refine Zp ?_ GE17002.out|refine Zp ?_ GE17012.out)|exact HB.out)));(case side2=>exact HC0_1.out);rintro e w39 ⟨rfl,hb⟩;have n0_:=Za (Kd.R_below (by(with_reducible repeat(first|apply Kd.R_alloc|apply Kd.R_drewN|apply Kd.R_drew));exact(Kd.R_mono (Kd.R_far (p:=⟨gb17012,1,none⟩) (Kd.R_far (p:=⟨gb17012,0,none⟩) (Kd.R_types HO17006.out BK17012.out (by decide)) (fun _ hk=>hk.2) (.int .i64 t17007)) (fun _ hk=>hk.2) (.slice Ao37 t17008.length co37)) (fun _ h_=>h_.1))) hb);have n1_:=Za (Kd.R_below (by(with_reducible repeat(first|apply Kd.R_alloc|apply Kd.R_drewN|apply Kd.R_drew));exact(Kd.R_mono (Kd.R_far (p:=⟨gb17012,1,none⟩) (Kd.R_far (p:=⟨gb17012,0,none⟩) (Kd.R_types HO17010.out BK17012.out (by decide)) (fun _ hk=>hk.2) (.int .i64 t17007)) (fun _ hk=>hk.2) (.slice Ao37 t17008.length co37)) (fun _ h_=>h_.1))) hb);have n2_:=Za (Zx (g:=gb17001) (o:=.cells #[.int .i64 a0_0,.slice A0_1 l0_1.length c0_1] 25 (0,0)) (by(with_reducible repeat(first|refine Zo ?_ _|refine Zq ?_|refine Zn ?_ _));refine ZC ?_ NB17001_17012.out _;(with_reducible repeat(first|refine Zo ?_ _|refine Zq ?_|refine Zn ?_ _));refine ZC ?_ NB17001_17012.out _;(with_reducible repeat(first|refine Zo ?_ _|refine Zq ?_|refine Zn ?_ _));exact BK17001.out) hb);have n3_:=Za (Zx (g:=gb17002) (o:=.cells #[.int .i64 0,.int .i64 0] 29 (0,0)) (by(with_reducible repeat(first|refine Zo ?_ _|refine Zq ?_|refine Zn ?_ _));refine ZC ?_ NB17002_17012.out _;(with_reducible repeat(first|refine Zo ?_ _|refine Zq ?_|refine Zn ?_ _));refine ZC ?_ NB17002_17012.out _;(with_reducible repeat(first|refine Zo ?_ _|refine Zq ?_|refine Zn ?_ _));exact BK17002.out) hb);have n4_:=Za (Zx (g:=gb17012) (o:=.cells #[.int .i64 t17007,.slice Ao37 t17008.length co37] 90 (0,0)) (by(with_reducible repeat(first|refine Zo ?_ _|refine Zq ?_|refine Zn ?_ _));refine ZF (cs:=#[.int .i64 t17007,.slice none 0 0]) ?_ 1 _ rfl;(with_reducible repeat(first|refine Zo ?_ _|refine Zq ?_|refine Zn ?_ _));refine ZF (cs:=#[.int .i64 0,.slice none 0 0]) ?_ 0 _ rfl;(with_reducible repeat(first|refine Zo ?_ _|refine Zq ?_|refine Zn ?_ _));exact BK17012.out) hb);have n5_:=Za (Zy (by repeat(first|(with_reducible first|exact HB.out|apply Zr|apply Zm|apply Zs|refine Zp ?_ GE17001.out|refine Zp ?_ GE17002.out|refine Zp ?_ GE17012.out)|exact HB.out)) hb);clear HO17006;clear HO17010;clear BK17001;clear BK17002;clear BK17012;clear HB;have HO17006:=n0_;have HO17010:=n1_;have BK17001:=n2_;have BK17002:=n3_;have BK17012:=n4_;have HB:=n5_;clear n0_ n1_ n2_ n3_ n4_ n5_;(try clear hb);(try clear hb2);(try clear hk);(try clear hi);have hcz40_0:w39.cell? ⟨gb17002,0,none⟩=some (.int .i64 0):=(Zu BK17002.out 0).trans rfl;have hcz40_1:w39.cell? ⟨gb17002,1,none⟩=some (.int .i64 0):=(Zu BK17002.out 1).trans rfl;have hfz40_0:=Zt BK17002.out 0;have hfz40_1:=Zt BK17002.out 1))
   refine bodyPost_ret (Z5 rfl _ _ gb17002 29 #[.int .i64 0,.int .i64 0] (0,0) _ rfl (by(with_reducible repeat(first|refine Zo ?_ _|refine Zq ?_|refine Zn ?_ _));refine ZF (cs:=#[.int .i64 0,.int .i64 0]) ?_ 1 _ rfl;(with_reducible repeat(first|refine Zo ?_ _|refine Zq ?_|refine Zn ?_ _));refine ZF (cs:=#[.int .i64 0,.int .i64 0]) ?_ 0 _ rfl;(with_reducible repeat(first|refine Zo ?_ _|refine Zq ?_|refine Zn ?_ _));exact BK17002.out) Try.underlying29 rfl (by kernel_rfl)) rfl ?_
   exact⟨by first|rfl|(simp[ZA,Zz] <;> rfl)|(simp[*,ZA,Zz] <;> rfl),by repeat(first|(with_reducible first|exact HB.out|apply Zr|apply Zm|apply Zs|refine Zp ?_ GE17001.out|refine Zp ?_ GE17002.out|refine Zp ?_ GE17012.out)|exact HB.out)⟩
 ·replace c5:=Bool.eq_false_iff.mpr c5
  subst c5
  have H1:(some (0,0,false))=some (r1,r2,r3):=by rw[if_neg (show ¬(false=true) by decide)] at H;exact H
  clear H
  have H:=H1
  clear H1
  simp only[Option.some.injEq,Prod.mk.injEq] at H
  obtain⟨rfl,rfl,rfl⟩:=H
  go_enter Try.func17,Try.ntmps17
  go_wp2_with (first|((with_reducible refine ZD (N:=2) rfl ?_);refine ZE ?hg (N:=2) ?hd (cs:=#[.int .i64 a0_0,.slice A0_1 l0_1.length c0_1]) (t:=25) ?hr ?_;(case hd=>rfl);(case hg=>rfl);(case hr=>first|(go_simp;done)|(go_simp;rfl));intro gb17001 hg w41 hbox hb;have n0_:=Za (Zy (by repeat(first|(with_reducible first|exact HB.out|apply Zr|apply Zm|apply Zs)|exact HB.out)) hb);have n1_:=Za (hbox);have n2_:=Za ((by rw[hg];exact(Zv (by repeat(first|(with_reducible first|exact HB.out|apply Zr|apply Zm|apply Zs)|exact HB.out))):w.heap.size≤gb17001));have n3_:=Za ((by rw[hg];exact(Zv (by repeat(first|(with_reducible first|exact HB.out|apply Zr|apply Zm|apply Zs)|exact HB.out))):w.heap.size≤gb17001));clear HB;have HB:=n0_;have BK17001:=n1_;have GW17001:=n2_;have GE17001:=n3_;clear n0_ n1_ n2_ n3_;clear hb hbox hg)|((with_reducible refine ZD (N:=4) rfl ?_);refine ZE ?hg (N:=4) ?hd (cs:=#[.int .i64 0,.int .i64 0]) (t:=29) ?hr ?_;(case hd=>rfl);(case hg=>rfl);(case hr=>first|(go_simp;done)|(go_simp;rfl));intro gb17002 hg w42 hbox hb;have n0_:=Za (Zx (g:=gb17001) (o:=.cells #[.int .i64 a0_0,.slice A0_1 l0_1.length c0_1] 25 (0,0)) (by(with_reducible repeat(first|refine Zo ?_ _|refine Zq ?_|refine Zn ?_ _));exact BK17001.out) hb);have n1_:=Za (Zy (by repeat(first|(with_reducible first|exact HB.out|apply Zr|apply Zm|apply Zs|refine Zp ?_ GE17001.out)|exact HB.out)) hb);have n2_:=Za (hbox);have n3_:=Za ((by rw[hg];exact(Zv (by repeat(first|(with_reducible first|exact HB.out|apply Zr|apply Zm|apply Zs|refine Zp ?_ GE17001.out)|exact HB.out))):w.heap.size≤gb17002));have n4_:=Za ((by rw[hg];exact(Zv (by repeat(first|(with_reducible first|exact HB.out|apply Zr|apply Zm|apply Zs|refine Zp ?_ GE17001.out)|exact HB.out))):w.heap.size≤gb17002));have n5_:=Za ((by rw[hg];exact Nat.ne_of_lt (ZB (g:=gb17001) (o:=.cells #[.int .i64 a0_0,.slice A0_1 l0_1.length c0_1] 25 (0,0)) (by(with_reducible repeat(first|refine Zo ?_ _|refine Zq ?_|refine Zn ?_ _));exact BK17001.out)):gb17001≠gb17002));have n6_:=Za ((by rw[hg];exact Nat.ne_of_gt (ZB (g:=gb17001) (o:=.cells #[.int .i64 a0_0,.slice A0_1 l0_1.length c0_1] 25 (0,0)) (by(with_reducible repeat(first|refine Zo ?_ _|refine Zq ?_|refine Zn ?_ _));exact BK17001.out)):gb17002≠gb17001));clear BK17001;clear HB;have BK17001:=n0_;have HB:=n1_;have BK17002:=n2_;have GW17002:=n3_;have GE17002:=n4_;have NB17001_17002:=n5_;have NB17002_17001:=n6_;clear n0_ n1_ n2_ n3_ n4_ n5_ n6_;clear hb hbox hg;have hnb43:=NB17001_17002.out;have hnc43:=NB17002_17001.out;have hcz44_0:w42.cell? ⟨gb17001,0,none⟩=some (.int .i64 a0_0):=(Zu BK17001.out 0).trans rfl;have hcz44_1:w42.cell? ⟨gb17001,1,none⟩=some (.slice A0_1 l0_1.length c0_1):=(Zu BK17001.out 1).trans rfl;have hfz44_0:=Zt BK17001.out 0;have hfz44_1:=Zt BK17001.out 1)|((with_reducible refine ZG (f:=66) rfl ?_);refine ZV (some 10) rfl rfl Try.func66 (by kernel_rfl) rfl #[.agg #[.int .i64 a0_0,.slice A0_1 l0_1.length c0_1]] rfl (by(try simp only[List.map_toArray,List.map_cons,List.map_nil]);first|done|rfl|(simp only[Zk,Zj];rfl)) ?_;(with_reducible refine(ZaT.calls k a0_0 _ _ l0_1 t17003 t17004 _ ?side1 ?side2 A3.out).mono ?_);(case side1=>repeat(first|exact(Zb HR0_1.out HB.out)|(with_reducible refine Kd.C_alloc ?_ _)|(with_reducible refine Kd.C_drewN ?_ _)|(with_reducible refine Kd.C_drew ?_)));(case side2=>exact HC0_1.out);rintro e w45 ⟨v17005,rfl,ho0,hb⟩;refine⟨_,rfl,?_⟩;have n0_:=Za (Kd.R_lower ho0 (Zv (by repeat(first|(with_reducible first|exact HB.out|apply Zr|apply Zm|apply Zs|refine Zp ?_ GE17001.out|refine Zp ?_ GE17002.out)|exact HB.out))));have n1_:=Za (Zx (g:=gb17001) (o:=.cells #[.int .i64 a0_0,.slice A0_1 l0_1.length c0_1] 25 (0,0)) (by(with_reducible repeat(first|refine Zo ?_ _|refine Zq ?_|refine Zn ?_ _));exact BK17001.out) hb);have n2_:=Za (Zx (g:=gb17002) (o:=.cells #[.int .i64 0,.int .i64 0] 29 (0,0)) (by(with_reducible repeat(first|refine Zo ?_ _|refine Zq ?_|refine Zn ?_ _));exact BK17002.out) hb);have n3_:=Za (Zy (by repeat(first|(with_reducible first|exact HB.out|apply Zr|apply Zm|apply Zs|refine Zp ?_ GE17001.out|refine Zp ?_ GE17002.out)|exact HB.out)) hb);clear BK17001;clear BK17002;clear HB;have HO17006:=n0_;have BK17001:=n1_;have BK17002:=n2_;have HB:=n3_;clear n0_ n1_ n2_ n3_;(try clear hb);(try clear hb2);(try clear hk);(try clear hi);(try clear ho0);obtain⟨Ao46,co46,eo46⟩:=Kd.R_slice HO17006.out;subst eo46)|((with_reducible refine ZG (f:=65) rfl ?_);refine ZV (some 11) rfl rfl Try.func65 (by kernel_rfl) rfl #[.agg #[.int .i64 t17003,.slice Ao46 t17004.length co46]] rfl (by(try simp only[List.map_toArray,List.map_cons,List.map_nil]);first|done|rfl|(simp only[Zk,Zj];rfl)) ?_;(with_reducible refine(ZM.calls k t17003 _ _ t17004 t17007 t17008 false _ ?side1 ?side2 A4.out).mono ?_);(case side1=>repeat(first|exact(Kd.R_reads' HO17006.out).2.2|(with_reducible refine Kd.C_alloc ?_ _)|(with_reducible refine Kd.C_drewN ?_ _)|(with_reducible refine Kd.C_drew ?_)));(case side2=>exact(Kd.R_reads' HO17006.out).2.1);rintro e w47 ⟨v17009,rfl,ho0,hb⟩;refine⟨_,rfl,?_⟩;have n0_:=Za (Kd.R_below (by(with_reducible repeat(first|apply Kd.R_alloc|apply Kd.R_drewN|apply Kd.R_drew));exact HO17006.out) hb);have n1_:=Za (Kd.R_lower ho0 (Zv (by repeat(first|(with_reducible first|exact HB.out|apply Zr|apply Zm|apply Zs|refine Zp ?_ GE17001.out|refine Zp ?_ GE17002.out)|exact HB.out))));have n2_:=Za (Zx (g:=gb17001) (o:=.cells #[.int .i64 a0_0,.slice A0_1 l0_1.length c0_1] 25 (0,0)) (by(with_reducible repeat(first|refine Zo ?_ _|refine Zq ?_|refine Zn ?_ _));exact BK17001.out) hb);have n3_:=Za (Zx (g:=gb17002) (o:=.cells #[.int .i64 0,.int .i64 0] 29 (0,0)) (by(with_reducible repeat(first|refine Zo ?_ _|refine Zq ?_|refine Zn ?_ _));exact BK17002.out) hb);have n4_:=Za (Zy (by repeat(first|(with_reducible first|exact HB.out|apply Zr|apply Zm|apply Zs|refine Zp ?_ GE17001.out|refine Zp ?_ GE17002.out)|exact HB.out)) hb);clear HO17006;clear BK17001;clear BK17002;clear HB;have HO17006:=n0_;have HO17010:=n1_;have BK17001:=n2_;have BK17002:=n3_;have HB:=n4_;clear n0_ n1_ n2_ n3_ n4_;(try clear hb);(try clear hb2);(try clear hk);(try clear hi);(try clear ho0))|((with_reducible refine ZD (N:=6) rfl ?_);refine ZE ?hg (N:=6) ?hd (cs:=#[.int .i64 0,.slice none 0 0]) (t:=90) ?hr ?_;(case hd=>rfl);(case hg=>rfl);(case hr=>first|(go_simp;done)|(go_simp;rfl));intro gb17012 hg w48 hbox hb;have n0_:=Za (Kd.R_below (by(with_reducible repeat(first|apply Kd.R_alloc|apply Kd.R_drewN|apply Kd.R_drew));exact HO17006.out) hb);have n1_:=Za (Kd.R_below (by(with_reducible repeat(first|apply Kd.R_alloc|apply Kd.R_drewN|apply Kd.R_drew));exact HO17010.out) hb);have n2_:=Za (Zx (g:=gb17001) (o:=.cells #[.int .i64 a0_0,.slice A0_1 l0_1.length c0_1] 25 (0,0)) (by(with_reducible repeat(first|refine Zo ?_ _|refine Zq ?_|refine Zn ?_ _));exact BK17001.out) hb);have n3_:=Za (Zx (g:=gb17002) (o:=.cells #[.int .i64 0,.int .i64 0] 29 (0,0)) (by(with_reducible repeat(first|refine Zo ?_ _|refine Zq ?_|refine Zn ?_ _));exact BK17002.out) hb);have n4_:=Za (Zy (by repeat(first|(with_reducible first|exact HB.out|apply Zr|apply Zm|apply Zs|refine Zp ?_ GE17001.out|refine Zp ?_ GE17002.out)|exact HB.out)) hb);have n5_:=Za (hbox);have n6_:=Za ((by rw[hg];exact(Zv (by repeat(first|(with_reducible first|exact HB.out|apply Zr|apply Zm|apply Zs|refine Zp ?_ GE17001.out|refine Zp ?_ GE17002.out)|exact HB.out))):w.heap.size≤gb17012));have n7_:=Za ((by rw[hg];exact(Zv (by repeat(first|(with_reducible first|exact HB.out|apply Zr|apply Zm|apply Zs|refine Zp ?_ GE17001.out|refine Zp ?_ GE17002.out)|exact HB.out))):w.heap.size≤gb17012));have n8_:=Za ((by rw[hg];exact Nat.ne_of_lt (ZB (g:=gb17001) (o:=.cells #[.int .i64 a0_0,.slice A0_1 l0_1.length c0_1] 25 (0,0)) (by(with_reducible repeat(first|refine Zo ?_ _|refine Zq ?_|refine Zn ?_ _));exact BK17001.out)):gb17001≠gb17012));have n9_:=Za ((by rw[hg];exact Nat.ne_of_gt (ZB (g:=gb17001) (o:=.cells #[.int .i64 a0_0,.slice A0_1 l0_1.length c0_1] 25 (0,0)) (by(with_reducible repeat(first|refine Zo ?_ _|refine Zq ?_|refine Zn ?_ _));exact BK17001.out)):gb17012≠gb17001));have n10_:=Za ((by rw[hg];exact Nat.ne_of_lt (ZB (g:=gb17002) (o:=.cells #[.int .i64 0,.int .i64 0] 29 (0,0)) (by(with_reducible repeat(first|refine Zo ?_ _|refine Zq ?_|refine Zn ?_ _));exact BK17002.out)):gb17002≠gb17012));have n11_:=Za ((by rw[hg];exact Nat.ne_of_gt (ZB (g:=gb17002) (o:=.cells #[.int .i64 0,.int .i64 0] 29 (0,0)) (by(with_reducible repeat(first|refine Zo ?_ _|refine Zq ?_|refine Zn ?_ _));exact BK17002.out)):gb17012≠gb17002));clear HO17006;clear HO17010;clear BK17001;clear BK17002;clear HB;have HO17006:=n0_;have HO17010:=n1_;have BK17001:=n2_;have BK17002:=n3_;have HB:=n4_;have BK17012:=n5_;have GW17012:=n6_;have GE17012:=n7_;have NB17001_17012:=n8_;have NB17012_17001:=n9_;have NB17002_17012:=n10_;have NB17012_17002:=n11_;clear n0_ n1_ n2_ n3_ n4_ n5_ n6_ n7_ n8_ n9_ n10_ n11_;clear hb hbox hg;have hnb49:=NB17012_17001.out;have hnc49:=NB17001_17012.out;have hnb50:=NB17012_17002.out;have hnc50:=NB17002_17012.out;have hcz51_0:w48.cell? ⟨gb17012,0,none⟩=some (.int .i64 0):=(Zu BK17012.out 0).trans rfl;have hcz51_1:w48.cell? ⟨gb17012,1,none⟩=some (.slice none 0 0):=(Zu BK17012.out 1).trans rfl;have hfz51_0:=Zt BK17012.out 0;have hfz51_1:=Zt BK17012.out 1;obtain⟨Ao52,co52,eo52⟩:=Kd.R_slice HO17010.out;subst eo52;have hcz53_0:w48.cell? ⟨gb17002,0,none⟩=some (.int .i64 0):=(Zu BK17002.out 0).trans rfl;have hcz53_1:w48.cell? ⟨gb17002,1,none⟩=some (.int .i64 0):=(Zu BK17002.out 1).trans rfl;have hfz53_0:=Zt BK17002.out 0;have hfz53_1:=Zt BK17002.out 1))
  refine bodyPost_ret (Z5 rfl _ _ gb17002 29 #[.int .i64 0,.int .i64 0] (0,0) _ rfl (by(with_reducible repeat(first|refine Zo ?_ _|refine Zq ?_|refine Zn ?_ _));refine ZF (cs:=#[.int .i64 0,.int .i64 0]) ?_ 1 _ rfl;(with_reducible repeat(first|refine Zo ?_ _|refine Zq ?_|refine Zn ?_ _));refine ZF (cs:=#[.int .i64 0,.int .i64 0]) ?_ 0 _ rfl;(with_reducible repeat(first|refine Zo ?_ _|refine Zq ?_|refine Zn ?_ _));refine ZC ?_ NB17002_17012.out _;(with_reducible repeat(first|refine Zo ?_ _|refine Zq ?_|refine Zn ?_ _));refine ZC ?_ NB17002_17012.out _;(with_reducible repeat(first|refine Zo ?_ _|refine Zq ?_|refine Zn ?_ _));exact BK17002.out) Try.underlying29 rfl (by kernel_rfl)) rfl ?_
  exact⟨by first|rfl|(simp[ZA,Zz] <;> rfl)|(simp[*,ZA,Zz] <;> rfl),by repeat(first|(with_reducible first|exact HB.out|apply Zr|apply Zm|apply Zs|refine Zp ?_ GE17001.out|refine Zp ?_ GE17002.out|refine Zp ?_ GE17012.out)|exact HB.out)⟩
def ZR.l0:Nat→List Int→Int→Int→Option (List Int)
 | 0,_,_,_=>none
 | k+1,x0,x2,x3=>if x2<x3 then(if 0≤x3 then(if x3<(x0.length:Int) then(if 0≤x2 then(if x2<(x0.length:Int) then(ZR.l0 k ((x0.set (x2:Int).toNat (rd x0 x3)).set (x3:Int).toNat (rd x0 x2)) (wrap64 (x2+1)) (wrap64 (x3 - 1))) else(none)) else(none)) else(none)) else(none)) else(some x0)
def ZR.f (k:Nat) (l0:List Int):Option (List Int):=ZR.l0 k l0 0 (wrap64 ((l0.length:Int) - 1))
def ZR.T3:Bool×List (List Nat×List Nat):=(true,[([],[]),([],[]),([],[]),([],[]),([],[]),([],[]),([4,5],[4,5]),([6],[6]),([],[]),([],[]),([8,9],[8,9]),([10],[10]),([0,1,0,1,4,5,6,7,11],[0,1]),([12,7,0,1,4,5,6,7,11],[7,12]),([2,3,0,1,2,3,4,5,6,7,8,9,10,11,12,13],[2,3]),([14,11,13,0,1,2,3,4,5,6,7,8,9,10,11,12,13],[11,14])])
def ZR.B3:List Nat:=[0,0,0,0,0,0,48,112,0,0,768,1792,4083,8179,16383,32767]
theorem ZR.tab3:rtab .any (opsOf Try.f122 3)=ZR.T3:=by kernel_rfl
theorem ZR.bits3:Zbr ZR.T3.2 ZR.B3=true:=by kernel_rfl
set_option maxHeartbeats 8000000 in
set_option maxRecDepth 100000 in
theorem ZR.calls (k:Nat) (P0_:Nat→Prop) (u9000_:Value) (l0:List Int) (r:List Int) (w0 w:World) (hB:Below w0.heap.size w0 w) (ho0:Kd.R (Kd.int .i64) 3 w w0.heap.size P0_ u9000_ l0) (h:ZR.f k l0=some r) :
  Calls Try.prog 122 #[u9000_] w fun e w'=>e=.returned (.tuple #[])∧Kd.R (Kd.int .i64) 3 w' w0.heap.size (fun k_=>(P0_ k_∨w.heap.size≤k_)) u9000_ r∧Below w0.heap.size w0 w'∧Kept w w' (fun k_=>P0_ k_):=by
 have HO0:=Za (show Kd.R (Kd.int .i64) 3 w w0.heap.size (fun k_=>(P0_ k_∨w.heap.size≤k_)) u9000_ l0 from Kd.R_mono ho0 (fun k_ hk=>(.inl hk)))
 have HK:=Za (Kept.refl w (fun k_=>P0_ k_))
 have HW0:=Za hB.size
 have HB:=Za hB;clear hB
 have H:(ZR.l0 k l0 0 (wrap64 ((l0.length:Int) - 1)))=some r:=h
 clear h
 have H':=Za H
 clear H
 obtain⟨Ao2,co2,eo2⟩:=Kd.R_slice HO0.out
 subst eo2
 go_enter Try.func122,Try.ntmps122
 go_wp2
 go_loopg [2,3] k (fun kq v2 v3 w'=>∃(x0_1:List Int) (x2_1:Int) (x3_1:Int),v2=.int .i64 x2_1∧v3=.int .i64 x3_1∧Aside0 (ZR.l0 kq x0_1 x2_1 x3_1=some r)∧Aside0 (kq≤k)∧Aside0 (Kd.R (Kd.int .i64) 3 w' w0.heap.size (fun k_=>(P0_ k_∨w.heap.size≤k_)) (.slice Ao2 l0.length co2) x0_1)∧Aside0 (Kept w w' (fun k_=>P0_ k_))∧Aside0 (Below w0.heap.size w0 w'))
 case atStart=>exact⟨(l0),(0),(wrap64 ((l0.length:Int) - 1)),(by first|rfl|(simp;done)|(simp[*];done)),(by first|rfl|(simp;done)|(simp[*];done)),H',⟨Nat.le_refl _⟩,⟨by(with_reducible repeat(first|apply Kd.R_alloc|apply Kd.R_drewN|apply Kd.R_drew));exact HO0.out⟩,⟨by repeat(first|(with_reducible first|exact HK.out|apply Kept.alloc|apply Kept.drewN|apply Kept.drew)|exact HK.out)⟩,⟨by repeat(first|(with_reducible first|exact HB.out|apply Zr|apply Zm|apply Zs)|exact HB.out)⟩⟩
 case round=>
  clear H'
  try clear c1
  try clear p2
  obtain⟨x0_1,x2_1,x3_1,rfl,rfl,HA,HK1,HO_0,HK,HB⟩:=hrel
  have hl0_1:=(Kd.R_reads' HO_0.out).1
  rw[hl0_1] at HO_0
  (try simp only[hl0_1])
  cases gk with
  | zero=>exact absurd HA.out (by simp[ZR.l0])
  | succ k1=>
   have H:=HA.out
   clear HA
   simp only[ZR.l0] at H
   by_cases c3:x2_1<x3_1
   ·rw[if_pos c3] at H
    have c3b0:decide (x2_1<x3_1)=true:=Ze c3
    clear c3
    by_cases c4:0≤x3_1
    ·rw[if_pos c4] at H
     have c4b0:decide (0≤x3_1)=true:=Ze c4
     clear c4
     by_cases c5:x3_1<(x0_1.length:Int)
     ·rw[if_pos c5] at H
      have c5b0:decide (x3_1<(x0_1.length:Int))=true:=Ze c5
      clear c5
      by_cases c6:0≤x2_1
      ·rw[if_pos c6] at H
       have c6b0:decide (0≤x2_1)=true:=Ze c6
       clear c6
       by_cases c7:x2_1<(x0_1.length:Int)
       ·rw[if_pos c7] at H
        have c7b0:decide (x2_1<(x0_1.length:Int))=true:=Ze c7
        clear c7
        obtain⟨y122003,hy122003⟩:∃y_:List Int,y_=(x0_1.set (x2_1:Int).toNat (rd x0_1 x3_1)):=⟨_,rfl⟩
        replace H:(ZR.l0 k1 (y122003.set (x3_1:Int).toNat (rd x0_1 x2_1)) (wrap64 (x2_1+1)) (wrap64 (x3_1 - 1)))=some r:=by first|(rw[hy122003];with_reducible exact H)|(have H2_:=(Zi _ _).symm.trans H;rw[hy122003];with_reducible exact H2_)|(have H2_:=(Zi _ _).symm.trans H;with_reducible exact H2_)|with_reducible exact H|(rw[hy122003];exact H)|exact H
        have Ny122003:=Za hy122003;clear hy122003
        obtain⟨y122004,hy122004⟩:∃y_:List Int,y_=(y122003.set (x3_1:Int).toNat (rd x0_1 x2_1)):=⟨_,rfl⟩
        replace H:(ZR.l0 k1 y122004 (wrap64 (x2_1+1)) (wrap64 (x3_1 - 1)))=some r:=by first|(rw[hy122004];with_reducible exact H)|(have H2_:=(Zi _ _).symm.trans H;rw[hy122004];with_reducible exact H2_)|(have H2_:=(Zi _ _).symm.trans H;with_reducible exact H2_)|with_reducible exact H|(rw[hy122004];exact H)|exact H
        have Ny122004:=Za hy122004;clear hy122004
        have H':=Za H
        clear H
        try go_wp2
        have n0_:=Za (Kd.R_drew HO_0.out)
        have n1_:=Za (Kept.drew HK.out)
        have n2_:=Za (Zs HB.out)
        clear HO_0 HK HB;have HO_0:=n0_;have HK:=n1_;have HB:=n2_;clear n0_ n1_ n2_
        have p122001:0≤(x3_1:Int):=Zd (by first|(with_reducible assumption)|assumption)
        have q122001:x3_1<(x0_1.length:Int):=Zd (by first|(with_reducible assumption)|assumption)
        obtain⟨ad122001,e122001,hx122001_0⟩:=Kd.at_int (Kd.R_reads' HO_0.out).2.2 x3_1 p122001 q122001
        cases e122001
        replace p122001:=eq_true p122001
        replace q122001:=eq_true q122001
        have p122002:0≤(x2_1:Int):=Zd (by first|(with_reducible assumption)|assumption)
        have q122002:x2_1<(x0_1.length:Int):=Zd (by first|(with_reducible assumption)|assumption)
        obtain⟨ad122002,e122002,hx122002_0⟩:=Kd.at_int (Kd.R_reads' HO_0.out).2.2 x2_1 p122002 q122002
        obtain rfl:ad122001=ad122002:=(by injection e122002)
        replace p122002:=eq_true p122002
        replace q122002:=eq_true q122002
        have p8:0≤(x2_1:Int):=Zd (by first|(with_reducible assumption)|assumption)
        have q8:(x2_1:Int)<((x0_1.length:Int):Int):=Zd (by first|(with_reducible assumption)|assumption)
        obtain⟨go8,co8,eo8,gb8,gl8,cl8,HG8⟩:=Kd.R_form HO_0.out (by omega)
        (first|cases eo8|(injection eo8 with ea_ en_ ec_;(first|subst ea_|(injection ea_ with ea_;subst ea_));subst ec_;clear en_))
        have GB8:=Za gb8;have GG8:=Za HG8;clear gb8 gl8 HG8
        have HMgo8:=Za (show(P0_ go8∨w.heap.size≤go8) from(HO_0.out.1 _ rfl))
        (first|simp only[ZbQ] at hx122001_0|skip)
        (first|simp only[ZbQ] at hx122002_0|skip)
        obtain⟨hx8_0,hf8_0⟩:=Kd.R_celln 0 HO_0.out (x2_1:Int) p8 q8
        replace p8:=eq_true p8
        replace q8:=eq_true q8
        have HP11:=Kd.R_putn HO_0.out (x2_1:Int) (rd x0_1 x3_1)
        rw[← Ny122003.out] at HP11
        have HQ11:=Za HP11;clear HP11
        have p9:0≤(x3_1:Int):=Zd (by first|(with_reducible assumption)|assumption)
        have q9:(x3_1:Int)<((x0_1.length:Int):Int):=Zd (by first|(with_reducible assumption)|assumption)
        obtain⟨hx9_0,hf9_0⟩:=Kd.R_celln 0 HQ11.out (x3_1:Int) p9 q9
        replace p9:=eq_true p9
        replace q9:=eq_true q9
        have HP12:=Kd.R_putn HQ11.out (x3_1:Int) (rd x0_1 x2_1)
        rw[← Ny122004.out] at HP12
        have HQ12:=Za HP12;clear HP12
        refine ZbI (n:=16) (S:=fun w'=>w'.cell? ⟨go8,(x3_1).toNat,none⟩=some (.int .i64 (rd x0_1 x3_1))∧w'.cell? ⟨go8,(x2_1).toNat,none⟩=some (.int .i64 (rd x0_1 x2_1))) (ds:=[13,15]) #[false,false,false,false,false,false,false,false,false,false,false,false,false,false,false,false] (by kernel_rfl) rfl rfl ⟨hx122001_0,hx122002_0⟩ (fun hHeld=>?_);refine Zbt ZR.tab3 ZR.bits3 (fun HT_ HW_=>?_)
        generalize wr.drew=w10 at HO_0 HK HB GG8 HQ11 HQ12 hf8_0 hf9_0 hx122001_0 hx122002_0 hx8_0 hx9_0 hHeld ⊢
        refine Z9 (i:=0) (N:=some 14) (v:=?_) (a':=?_) #[true,false,false,false,false,false,false,false,false,false,false,false,false,false,false,false] rfl rfl (Z6 HT_.out (by kernel_rfl)) (fun _ _ _ h=>h) (Or.inl ⟨by rfl,?_⟩) ?_ ?_
        rotate_left
        ·intro w'
         go_simp
         with_reducible rfl
        rotate_left
        ·simp only[Act.put,List.setIfInBounds_toArray,List.set_cons_zero,List.set_cons_succ,ZN,ZP]
         rfl
        refine Z9 (i:=1) (N:=some 15) (v:=?_) (a':=?_) #[true,true,false,false,false,false,false,false,false,false,false,false,false,false,false,false] rfl rfl (Z6 HT_.out (by kernel_rfl)) (fun _ _ _ h=>h) (Or.inl ⟨by rfl,?_⟩) ?_ ?_
        rotate_left
        ·intro w'
         go_simp
         with_reducible rfl
        rotate_left
        ·simp only[Act.put,List.setIfInBounds_toArray,List.set_cons_zero,List.set_cons_succ,ZN,ZP]
         rfl
        refine Z9 (i:=2) (N:=some 16) (v:=?_) (a':=?_) #[true,true,true,false,false,false,false,false,false,false,false,false,false,false,false,false] rfl rfl (Z6 HT_.out (by kernel_rfl)) (fun _ _ _ h=>h) (Or.inl ⟨by rfl,?_⟩) ?_ ?_
        rotate_left
        ·intro w'
         go_simp
         with_reducible rfl
        rotate_left
        ·simp only[Act.put,List.setIfInBounds_toArray,List.set_cons_zero,List.set_cons_succ,ZN,ZP]
         rfl
        refine Z9 (i:=3) (N:=some 17) (v:=?_) (a':=?_) #[true,true,true,true,false,false,false,false,false,false,false,false,false,false,false,false] rfl rfl (Z6 HT_.out (by kernel_rfl)) (fun _ _ _ h=>h) (Or.inl ⟨by rfl,?_⟩) ?_ ?_
        rotate_left
        ·intro w'
         go_simp
         with_reducible rfl
        rotate_left
        ·simp only[Act.put,List.setIfInBounds_toArray,List.set_cons_zero,List.set_cons_succ,ZN,ZP]
         rfl
        refine Z9 (i:=4) (N:=some 18) (v:=?_) (a':=?_) #[true,true,true,true,true,false,false,false,false,false,false,false,false,false,false,false] rfl rfl (Z6 HT_.out (by kernel_rfl)) (fun _ _ _ h=>h) (Or.inl ⟨by rfl,?_⟩) ?_ ?_
        rotate_left
        ·intro w'
         go_simp
         with_reducible rfl
        rotate_left
        ·simp only[Act.put,List.setIfInBounds_toArray,List.set_cons_zero,List.set_cons_succ,ZN,ZP]
         rfl
        refine Z9 (i:=5) (N:=some 19) (v:=?_) (a':=?_) #[true,true,true,true,true,true,false,false,false,false,false,false,false,false,false,false] rfl rfl (Z6 HT_.out (by kernel_rfl)) (fun _ _ _ h=>h) (Or.inl ⟨by rfl,?_⟩) ?_ ?_
        rotate_left
        ·intro w'
         go_simp
         with_reducible rfl
        rotate_left
        ·simp only[Act.put,List.setIfInBounds_toArray,List.set_cons_zero,List.set_cons_succ,ZN,ZP]
         rfl
        refine Z9 (i:=6) (N:=some 20) (v:=?_) (a':=?_) #[true,true,true,true,true,true,true,false,false,false,false,false,false,false,false,false] rfl rfl (Z6 HT_.out (by kernel_rfl)) (fun _ _ _ h=>h) (Or.inl ⟨by rfl,?_⟩) ?_ ?_
        rotate_left
        ·intro w'
         go_simp
         with_reducible rfl
        rotate_left
        ·simp only[Act.put,List.setIfInBounds_toArray,List.set_cons_zero,List.set_cons_succ,ZN,ZP]
         rfl
        refine Z9 (i:=8) (N:=some 22) (v:=?_) (a':=?_) #[true,true,true,true,true,true,true,false,true,false,false,false,false,false,false,false] rfl rfl (Z6 HT_.out (by kernel_rfl)) (fun _ _ _ h=>h) (Or.inl ⟨by rfl,?_⟩) ?_ ?_
        rotate_left
        ·intro w'
         go_simp
         with_reducible rfl
        rotate_left
        ·simp only[Act.put,List.setIfInBounds_toArray,List.set_cons_zero,List.set_cons_succ,ZN,ZP]
         rfl
        refine Z9 (i:=9) (N:=some 23) (v:=?_) (a':=?_) #[true,true,true,true,true,true,true,false,true,true,false,false,false,false,false,false] rfl rfl (Z6 HT_.out (by kernel_rfl)) (fun _ _ _ h=>h) (Or.inl ⟨by rfl,?_⟩) ?_ ?_
        rotate_left
        ·intro w'
         go_simp
         with_reducible rfl
        rotate_left
        ·simp only[Act.put,List.setIfInBounds_toArray,List.set_cons_zero,List.set_cons_succ,ZN,ZP]
         rfl
        refine Z9 (i:=10) (N:=some 24) (v:=?_) (a':=?_) #[true,true,true,true,true,true,true,false,true,true,true,false,false,false,false,false] rfl rfl (Z6 HT_.out (by kernel_rfl)) (fun _ _ _ h=>h) (Or.inl ⟨by rfl,?_⟩) ?_ ?_
        rotate_left
        ·intro w'
         go_simp
         with_reducible rfl
        rotate_left
        ·simp only[Act.put,List.setIfInBounds_toArray,List.set_cons_zero,List.set_cons_succ,ZN,ZP]
         rfl
        refine take_ (i:=7) (N:=some 21) (v:=?_) (a':=?_) #[true,true,true,true,true,true,true,true,true,true,true,false,false,false,false,false] rfl rfl (Za3 HT_.out HW_.out (by kernel_rfl)) (fun _ _ _ h=>h) (Or.inl ⟨by rfl,?_⟩) hHeld ?_ ?_
        rotate_left
        ·rintro w' ⟨s0,s1⟩
         go_simp
         with_reducible rfl
        rotate_left
        ·simp only[Act.put,List.setIfInBounds_toArray,List.set_cons_zero,List.set_cons_succ,ZN,ZP]
         rfl
        refine take_ (i:=11) (N:=some 25) (v:=?_) (a':=?_) #[true,true,true,true,true,true,true,true,true,true,true,true,false,false,false,false] rfl rfl (Za3 HT_.out HW_.out (by kernel_rfl)) (fun _ _ _ h=>h) (Or.inl ⟨by rfl,?_⟩) hHeld ?_ ?_
        rotate_left
        ·rintro w' ⟨s0,s1⟩
         go_simp
         with_reducible rfl
        rotate_left
        ·simp only[Act.put,List.setIfInBounds_toArray,List.set_cons_zero,List.set_cons_succ,ZN,ZP]
         rfl
        refine Z9 (i:=12) (N:=some 26) (v:=?_) (a':=?_) #[true,true,true,true,true,true,true,true,true,true,true,true,true,false,false,false] rfl rfl (Z6 HT_.out (by kernel_rfl)) (fun _ _ _ h=>h) (Or.inl ⟨by rfl,?_⟩) ?_ ?_
        rotate_left
        ·intro w'
         go_simp
         with_reducible rfl
        rotate_left
        ·simp only[Act.put,List.setIfInBounds_toArray,List.set_cons_zero,List.set_cons_succ,ZN,ZP]
         rfl
        refine last_ (i:=13) (N:=none) #[true,true,true,true,true,true,true,true,true,true,true,true,true,true,false,false] rfl rfl (ZaB HT_.out (by kernel_rfl)) (by decide) (fun K hK=>?_)
        refine Zb6 (w1:=?_) (by rfl) rfl ?_ ?_
        rotate_left
        ·go_simp
         rfl
        refine hK.out _ _ ?_
        clear hK K
        refine Z9 (i:=14) (N:=some 27) (v:=?_) (a':=?_) #[true,true,true,true,true,true,true,true,true,true,true,true,true,true,true,false] rfl rfl (Z6 HT_.out (by kernel_rfl)) (fun _ _ _ h=>h) (Or.inl ⟨by rfl,?_⟩) ?_ ?_
        rotate_left
        ·intro w'
         go_simp
         with_reducible rfl
        rotate_left
        ·simp only[Act.put,List.setIfInBounds_toArray,List.set_cons_zero,List.set_cons_succ,ZN,ZP]
         rfl
        refine last_ (i:=15) (N:=none) #[true,true,true,true,true,true,true,true,true,true,true,true,true,true,true,true] rfl rfl (ZaB HT_.out (by kernel_rfl)) (by decide) (fun K hK=>?_)
        refine Zb6 (w1:=?_) (by rfl) rfl ?_ ?_
        rotate_left
        ·go_simp
         rfl
        refine hK.out _ _ ?_
        clear hK K
        refine ZbZ (ZbP HT_.out (by kernel_rfl)) ?_
        try go_wp2
        (try simp only[← hl0_1])
        go_roundg k1
        case measure=>have:=HK1.out;omega
        case rel=>exact⟨(y122004),(wrap64 (x2_1+1)),(wrap64 (x3_1 - 1)),(by first|rfl|(simp;done)|(simp[*];done)),(by first|rfl|(simp;done)|(simp[*];done)),H',⟨by have:=HK1.out;omega⟩,⟨by(try simp only[hl0_1]);(with_reducible repeat(first|apply Kd.R_alloc|apply Kd.R_drewN|apply Kd.R_drew));exact HQ12.out⟩,⟨by repeat(first|(with_reducible first|exact HK.out|apply Kept.alloc|apply Kept.drewN|apply Kept.drew|refine Kept.setCell ?_ HMgo8.out _|refine Kept.setCell ?_ HMgo8.out _)|exact HK.out)⟩,⟨by repeat(first|(with_reducible first|exact HB.out|apply Zr|apply Zm|apply Zs|refine Zp ?_ GB8.out|refine Zp ?_ GB8.out)|exact HB.out)⟩⟩
       ·rw[if_neg c7] at H
        exact absurd H (by simp)
      ·rw[if_neg c6] at H
       exact absurd H (by simp)
     ·rw[if_neg c5] at H
      exact absurd H (by simp)
    ·rw[if_neg c4] at H
     exact absurd H (by simp)
   ·rw[if_neg c3] at H
    have c3b0:decide (x2_1<x3_1)=false:=Zf c3
    clear c3
    obtain rfl:=Zg H
    go_wp2
    first|go_end0|((try simp only[Exit.inBlock,Exit.then]);refine bodyPost_ret (results_none rfl _ _ _) rfl ?_)
    exact⟨by first|rfl|(simp[ZA,Zz] <;> rfl)|(simp[*,ZA,Zz] <;> rfl),(by first|exact(by(with_reducible repeat(first|apply Kd.R_alloc|apply Kd.R_drewN|apply Kd.R_drew));exact HO_0.out)|(simp only[hl0_1];exact(by(with_reducible repeat(first|apply Kd.R_alloc|apply Kd.R_drewN|apply Kd.R_drew));exact HO_0.out))),by repeat(first|(with_reducible first|exact HB.out|apply Zr|apply Zm|apply Zs)|exact HB.out),by repeat(first|(with_reducible first|exact HK.out|apply Kept.alloc|apply Kept.drewN|apply Kept.drew)|exact HK.out)⟩
end Go.Proofs.Ytpoffpdaadhkgaa.Pr
namespace Go.Proofs.Ytpoffpdaadhkgaa.Pr
open Go.RowKit Go.Proofs.YtpoffpdaadhkgaaW.PrintWords Go.Proofs.Ytpoffpdaadhkgaa.Ni
theorem rd_mid (pre:List Int) (x:Int) (post:List Int):rd (pre ++ x :: post) (pre.length:Int)=x:=by
 rw[Za4,List.getD_eq_getElem?_getD,List.getElem?_append_right (Nat.le_refl _),Nat.sub_self];rfl
theorem rev_l:∀(n:Nat) (M pre post:List Int) (k:Nat),M.length=n→n<k→(pre ++ M ++ post).length≤4611686018427387904 →
  ZR.l0 k (pre ++ M ++ post) (pre.length:Int) ((pre.length:Int)+(M.length:Int) - 1)=some (pre ++ M.reverse ++ post):=by
 intro n
 induction n using Nat.strongRecOn with
 | ind n ih=>
  intro M pre post k hM hk hl
  obtain⟨k,rfl⟩:∃m,k=m+1:=⟨k - 1,by omega⟩
  simp only[ZR.l0]
  cases M with
  | nil=>rw[if_neg (by simp only[List.length_nil];omega)];rfl
  | cons a t=>
   rcases List.eq_nil_or_concat t with rfl|⟨u,b,rfl⟩
   ·rw[if_neg (by simp only[List.length_cons,List.length_nil];omega)];rfl
   ·rw[List.concat_eq_append] at *
    have e0:pre ++ a :: (u ++ [b]) ++ post=pre ++ a :: (u ++ b :: post):=by simp
    have e1:pre ++ a :: (u ++ b :: post)=(pre ++ a :: u) ++ b :: post:=by simp
    have x3:(pre.length:Int)+((a :: (u ++ [b])).length:Int) - 1=((pre ++ a :: u).length:Int):=by simp;omega
    have x4:(pre ++ a :: u).length=pre.length+u.length+1:=by simp;omega
    have x5:(pre ++ a :: (u ++ b :: post)).length=pre.length+u.length+2+post.length:=by simp;omega
    rw[e0] at hl ⊢
    rw[x5] at hl
    rw[x3,rd_mid,if_pos (by omega),if_pos (by omega),if_pos (by omega),if_pos (by omega),if_pos (by omega)]
    rw[show rd (pre ++ a :: (u ++ b :: post)) ((pre ++ a :: u).length:Int)=b by rw[e1,rd_mid]]
    rw[Int.toNat_natCast,Int.toNat_natCast,set_mid]
    rw[show pre ++ b :: (u ++ b :: post)=(pre ++ b :: u) ++ b :: post by simp,show(pre ++ a :: u).length=(pre ++ b :: u).length by simp,set_mid]
    have x6:(pre ++ b :: u).length=pre.length+u.length+1:=by simp;omega
    rw[show wrap64 ((pre.length:Int)+1)=((pre ++ [b]).length:Int) by rw[ZaQ (n:=pre.length+u.length+2+post.length) (by omega) (by omega)];simp]
    rw[show wrap64 (((pre ++ b :: u).length:Int) - 1)=((pre ++ [b]).length:Int)+(u.length:Int) - 1 by rw[x6,Zbp (by omega) (by omega)];simp;omega]
    rw[show(pre ++ b :: u) ++ a :: post=(pre ++ [b]) ++ u ++ (a :: post) by simp]
    simp only[List.length_cons,List.length_append,List.length_nil] at hM
    rw[ih u.length (by omega) u (pre ++ [b]) (a :: post) k rfl (by omega) (by simp;omega)]
    simp
theorem rev_f (l:List Int) (k:Nat) (hl:l.length≤4611686018427387904) (hk:2 ^ 64≤k):ZR.f k l=some l.reverse:=by
 unfold ZR.f
 have:=rev_l l.length l [] [] k rfl (by omega) (by simpa using hl)
 rw[Zbp (by omega) (by omega)]
 simpa using this
end Go.Proofs.Ytpoffpdaadhkgaa.Pr
namespace Go.Proofs.Ytpoffpdaadhkgaa.Pr
open Go.RowKit Go.Proofs.YtpoffpdaadhkgaaW.PrintWords Go.Proofs.YtpoffpdaadhkgaaW.PrintLast Go.Proofs.YtpoffpdaadhkgaaW.PrintMore
attribute [local go_sem] Zaj Zah Zaq Zap Zac Zab Zai Zag
set_option linter.unusedVariables false
set_option linter.unusedSimpArgs false
def ZbT.f (a0:Int) (a1:Int):Option (Int×Int):=some (IntKind.u64.wrap ((IntKind.u64.wrap ((IntKind.u64.wrap ((a0 / 4294967296) * (a1 / 4294967296)))+((IntKind.u64.wrap ((IntKind.u64.wrap ((a0 / 4294967296) * (Go.bits .and .u64 a1 4294967295)))+((IntKind.u64.wrap ((Go.bits .and .u64 a0 4294967295) * (Go.bits .and .u64 a1 4294967295))) / 4294967296))) / 4294967296)))+((IntKind.u64.wrap ((Go.bits .and .u64 (IntKind.u64.wrap ((IntKind.u64.wrap ((a0 / 4294967296) * (Go.bits .and .u64 a1 4294967295)))+((IntKind.u64.wrap ((Go.bits .and .u64 a0 4294967295) * (Go.bits .and .u64 a1 4294967295))) / 4294967296))) 4294967295)+(IntKind.u64.wrap ((Go.bits .and .u64 a0 4294967295) * (a1 / 4294967296))))) / 4294967296)),IntKind.u64.wrap (a0 * a1))
set_option maxHeartbeats 8000000 in
set_option maxRecDepth 100000 in
theorem ZbT.calls (a0:Int) (a1:Int) (r1:Int) (r2:Int) (w:World) (h:ZbT.f a0 a1=some (r1,r2)) :
  Calls Try.prog 183 #[.int .u64 a0,.int .u64 a1] w fun e w'=>e=.returned (.tuple #[.int .u64 r1,.int .u64 r2])∧Z1 w w':=by
 have H:(some (IntKind.u64.wrap ((IntKind.u64.wrap ((IntKind.u64.wrap ((a0 / 4294967296) * (a1 / 4294967296)))+((IntKind.u64.wrap ((IntKind.u64.wrap ((a0 / 4294967296) * (Go.bits .and .u64 a1 4294967295)))+((IntKind.u64.wrap ((Go.bits .and .u64 a0 4294967295) * (Go.bits .and .u64 a1 4294967295))) / 4294967296))) / 4294967296)))+((IntKind.u64.wrap ((Go.bits .and .u64 (IntKind.u64.wrap ((IntKind.u64.wrap ((a0 / 4294967296) * (Go.bits .and .u64 a1 4294967295)))+((IntKind.u64.wrap ((Go.bits .and .u64 a0 4294967295) * (Go.bits .and .u64 a1 4294967295))) / 4294967296))) 4294967295)+(IntKind.u64.wrap ((Go.bits .and .u64 a0 4294967295) * (a1 / 4294967296))))) / 4294967296)),IntKind.u64.wrap (a0 * a1)))=some (r1,r2):=h
 clear h
 simp only[Option.some.injEq,Prod.mk.injEq] at H
 obtain⟨rfl,rfl⟩:=H
 go_enter Try.func183,Try.ntmps183
 go_wp2
 go_ret2
 exact⟨by first|rfl|(simp;done)|(simp[*];done),by repeat(first|exact Z1.refl _|apply Z1.step)⟩
def Zc3.f (a0:Int) (a1:Int):Option (Int×Int):=(ZbT.f a0 a1).bind fun bt164001=>(some (bt164001.1,bt164001.2))
set_option maxHeartbeats 8000000 in
set_option maxRecDepth 100000 in
theorem Zc3.calls (a0:Int) (a1:Int) (r1:Int) (r2:Int) (w:World) (h:Zc3.f a0 a1=some (r1,r2)) :
  Calls Try.prog 164 #[.int .u64 a0,.int .u64 a1] w fun e w'=>e=.returned (.tuple #[.int .u64 r1,.int .u64 r2])∧Z1 w w':=by
 have H:((ZbT.f a0 a1).bind fun bt164001=>(some (bt164001.1,bt164001.2)))=some (r1,r2):=h
 clear h
 replace H:=Zh H
 obtain⟨⟨t164001,t164002⟩,A30,H⟩:=H
 replace H:(some (t164001,t164002))=some (r1,r2):=H
 have A3:=Za A30;clear A30
 simp only[Option.some.injEq,Prod.mk.injEq] at H
 obtain⟨rfl,rfl⟩:=H
 go_enter Try.func164,Try.ntmps164
 go_wp2_with (first|((with_reducible refine ZG (f:=183) rfl ?_);refine ZV (some 25) rfl rfl Try.func183 (by kernel_rfl) rfl #[.int .u64 a0,.int .u64 a1] rfl (by(try simp only[List.map_toArray,List.map_cons,List.map_nil]);first|done|rfl|(simp only[Zk,Zj];rfl)) ?_;(with_reducible refine(ZbT.calls a0 a1 t164001 t164002 _ A3.out).mono ?_);rintro e w' ⟨rfl,⟨nd,rfl⟩⟩;refine⟨_,rfl,?_⟩))
 go_ret2
 exact⟨by first|rfl|(simp;done)|(simp[*];done),by repeat(first|exact Z1.refl _|apply Z1.step)⟩
end Go.Proofs.Ytpoffpdaadhkgaa.Pr
