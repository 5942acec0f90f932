/- The texts of one claim, put together by a program of this session. -/
import Derived.WalkKit
import Derived.ProofKit
import Derived.Below
import Derived.Deep.LoopGhost
import Derived.Shelf.Abstract
import Derived.Test.YtodfnelilhjoeaaBSnc1x1
import Derived.Test.YtodfnelilhjoeaaBSnc1x2
namespace Go.Proofs.Ytodfnelilhjoeaa.Pr
open Go.RowKit Go.Proofs.YtodfnelilhjoeaaW.PrintWords Go.Proofs.YtodfnelilhjoeaaW.PrintLast Go.Proofs.YtodfnelilhjoeaaW.PrintMore
attribute [local go_sem] Zac Zaa Zam Zal Z5 Z4 Zab Z9
set_option linter.unusedVariables false
set_option linter.unusedSimpArgs false
mutual
def ZN.j0:Nat→Bool→List (S116)→List (S90)→Int→Option (Bool)
 | 0,_,_,_,_=>none
 | k+1,x33,x121002000,x121002001,x121002002=>if x33=true then(some false) else(ZN.l0 k x121002000 (x121002000.length:Int) 0 x121002000 x121002001 x121002002)
def ZN.l0:Nat→List (S116)→Int→Int→List (S116)→List (S90)→Int→Option (Bool)
 | 0,_,_,_,_,_,_=>none
 | k+1,x35,x36,x37,x121002000,x121002001,x121002002=>if x37<x36 then(if 0≤x37 then(if x37<(x35.length:Int) then((ZbO.f k ((Zz x35 x37).f0) ((Zz x35 x37).f1) ((Zz x35 x37).f2)).bind fun t121006=>(if t121006=true then(if x37≤(x121002000.length:Int) then((some (x121002000.take (x37:Int).toNat:List (S116))).bind fun y121007=>(ZN.l1 k x35 x36 x37 y121007 (y121007.length:Int) 0 x121002000 x121002001 x121002002 ((Zz x35 x37).f0) ((Zz x35 x37).f1) ((Zz x35 x37).f2))) else(none)) else(some false))) else(none)) else(none)) else(some true)
def ZN.l1:Nat→List (S116)→Int→Int→List (S116)→Int→Int→List (S116)→List (S90)→Int→ByteArray→List Int→Int→Option (Bool)
 | 0,_,_,_,_,_,_,_,_,_,_,_,_=>none
 | k+1,x35,x36,x37,x48,x49,x50,x121002000,x121002001,x121002002,x121006000,x121006001,x121006002=>if x50<x49 then(if 0≤x50 then(if x50<(x48.length:Int) then(if ((Zz x48 x50).f0).toList=x121006000.toList then(some false) else(if x121006002=0 then(ZN.l1 k x35 x36 x37 x48 x49 (wrap64 (x50+1)) x121002000 x121002001 x121002002 x121006000 x121006001 x121006002) else(if ((Zz x48 x50).f2)=x121006002 then(some false) else(ZN.l1 k x35 x36 x37 x48 x49 (wrap64 (x50+1)) x121002000 x121002001 x121002002 x121006000 x121006001 x121006002)))) else(none)) else(none)) else(ZN.l0 k x35 x36 (wrap64 (x37+1)) x121002000 x121002001 x121002002)
end
def ZN.f (k:Nat) (l0_0:List (S116)) (l0_1:List (S90)) (a0_2:Int):Option (Bool):=if (l0_0.length:Int)<1 then(ZN.j0 k true l0_0 l0_1 a0_2) else(if (l0_0.length:Int) > 7 then(ZN.j0 k true l0_0 l0_1 a0_2) else(if 0<(l0_0.length:Int) then(if (((Zz l0_0 0).f1).length:Int) > 0 then(ZN.j0 k true l0_0 l0_1 a0_2) else(ZN.j0 k (((Zz l0_0 0).f2) != 0) l0_0 l0_1 a0_2)) else(none)))
set_option maxHeartbeats 8000000 in
set_option maxRecDepth 100000 in
theorem ZN.calls (k:Nat) (A0_0:Option Addr) (c0_0:Nat) (l0_0:List (S116)) (A0_1:Option Addr) (c0_1:Nat) (l0_1:List (S90)) (a0_2:Int) (r:Bool) (w:World) (hr0_0:Kd.C k116 w A0_0 l0_0.length l0_0) (hc0_0:l0_0.length≤c0_0) (hr0_1:Kd.C k90 w A0_1 l0_1.length l0_1) (hc0_1:l0_1.length≤c0_1) (h:ZN.f k l0_0 l0_1 a0_2=some r) :
  Calls Try.prog 121 #[.agg #[.slice A0_0 l0_0.length c0_0,.slice A0_1 l0_1.length c0_1,.int .i64 a0_2]] w fun e w'=>e=.returned (.bool r)∧Below w.heap.size w w':=by
 have hu35:=Try.underlying35
 have hu116:=Try.underlying116
 have HR0_0:=Za hr0_0;have HC0_0:=Za hc0_0;clear hr0_0 hc0_0;have HR0_1:=Za hr0_1;have HC0_1:=Za hc0_1;clear hr0_1 hc0_1
 have HB:=Za (Below.refl w.heap.size w)
 have H:(if (l0_0.length:Int)<1 then(ZN.j0 k true l0_0 l0_1 a0_2) else(if (l0_0.length:Int) > 7 then(ZN.j0 k true l0_0 l0_1 a0_2) else(if 0<(l0_0.length:Int) then(if (((Zz l0_0 0).f1).length:Int) > 0 then(ZN.j0 k true l0_0 l0_1 a0_2) else(ZN.j0 k (((Zz l0_0 0).f2) != 0) l0_0 l0_1 a0_2)) else(none))))=some r:=h
 clear h;have HC2:=Za H;clear H
 go_enter Try.func121,Try.ntmps121
 go_upto_region 1 with (first|((with_reducible refine ZI (N:=1) rfl ?_);refine ZH ?hg (N:=1) ?hd (cs:=#[.slice A0_0 l0_0.length c0_0,.slice A0_1 l0_1.length c0_1,.int .i64 a0_2]) (t:=35) ?hr ?_;(case hd=>rfl);(case hg=>rfl);(case hr=>first|(go_simp;done)|(go_simp;rfl));intro gb121001 hg w3 hbox hb;have BK121001:=Za (hbox);have GW121001:=Za ((by rw[hg];exact(Zx (by exact HB.out)):w.heap.size≤gb121001));have GE121001:=Za ((by rw[hg];exact(Zx (by exact HB.out)):w.heap.size≤gb121001));replace HB:=Za (Zw (by exact HB.out) hb);clear hb hbox hg))
 (try simp only[Act.put,List.setIfInBounds_toArray,List.set_cons_zero,List.set_cons_succ])
 go_cut [33] (fun v33 wc=>∃(kq:Nat) (x33_1:Bool),v33=.bool x33_1∧Aside0 (ZN.j0 kq x33_1 l0_0 l0_1 a0_2=some r)∧Aside0 (kq≤k)∧Aside0 (wc.heap[gb121001]? = some (.cells #[(.slice A0_0 l0_0.length c0_0),(.slice A0_1 l0_1.length c0_1),.int .i64 a0_2] 35 (0,0)))∧Aside0 (Below w.heap.size w wc))
 case first=>
  have H:=HC2.out
  clear HC2
  by_cases c4:(l0_0.length:Int)<1
  ·rw[if_pos c4] at H
   have c4b0:decide ((l0_0.length:Int)<1)=true:=Ze c4
   have c4b1:decide (l0_0.length<1)=true:=Ze (by omega)
   clear c4
   (first|rw[c4b0]|(simp only[ZaN,ZaS];rw[c4b0])|skip)
   have H':=Za H
   clear H
   have hcz5_0:w3.cell? ⟨gb121001,0,none⟩=some (.slice A0_0 l0_0.length c0_0):=(Zs BK121001.out 0).trans rfl
   have hcz5_1:w3.cell? ⟨gb121001,1,none⟩=some (.slice A0_1 l0_1.length c0_1):=(Zs BK121001.out 1).trans rfl
   have hcz5_2:w3.cell? ⟨gb121001,2,none⟩=some (.int .i64 a0_2):=(Zs BK121001.out 2).trans rfl
   have hfz5_0:=Zr BK121001.out 0
   have hfz5_1:=Zr BK121001.out 1
   have hfz5_2:=Zr BK121001.out 2
   go_wp2
   go_meet
   case rel=>exact⟨_,(true),(by first|rfl|(simp;done)|(simp[*];done)),H',⟨by first|omega|exact Nat.le_refl _⟩,⟨by(with_reducible repeat(first|refine Zp ?_ _|refine Zu ?_|refine Zo ?_ _));exact BK121001.out⟩,⟨by repeat(first|(with_reducible first|exact HB.out|apply Zn|apply Zm|apply Zt|refine Zq ?_ GE121001.out)|exact HB.out)⟩⟩
  ·rw[if_neg c4] at H
   have c4b0:decide ((l0_0.length:Int)<1)=false:=Zf c4
   have c4b1:decide (l0_0.length<1)=false:=Zf (by omega)
   clear c4
   (first|rw[c4b0]|(simp only[ZaN,ZaS];rw[c4b0])|skip)
   by_cases c6:(l0_0.length:Int) > 7
   ·rw[if_pos c6] at H
    have c6b0:decide (7<(l0_0.length:Int))=true:=Ze c6
    have c6b1:decide (7<l0_0.length)=true:=Ze (by omega)
    clear c6
    have H':=Za H
    clear H
    have hcz7_0:w3.cell? ⟨gb121001,0,none⟩=some (.slice A0_0 l0_0.length c0_0):=(Zs BK121001.out 0).trans rfl
    have hcz7_1:w3.cell? ⟨gb121001,1,none⟩=some (.slice A0_1 l0_1.length c0_1):=(Zs BK121001.out 1).trans rfl
    have hcz7_2:w3.cell? ⟨gb121001,2,none⟩=some (.int .i64 a0_2):=(Zs BK121001.out 2).trans rfl
    have hfz7_0:=Zr BK121001.out 0
    have hfz7_1:=Zr BK121001.out 1
    have hfz7_2:=Zr BK121001.out 2
    go_wp2
    go_meet
    case rel=>exact⟨_,(true),(by first|rfl|(simp;done)|(simp[*];done)),H',⟨by first|omega|exact Nat.le_refl _⟩,⟨by(with_reducible repeat(first|refine Zp ?_ _|refine Zu ?_|refine Zo ?_ _));exact BK121001.out⟩,⟨by repeat(first|(with_reducible first|exact HB.out|apply Zn|apply Zm|apply Zt|refine Zq ?_ GE121001.out)|exact HB.out)⟩⟩
   ·rw[if_neg c6] at H
    have c6b0:decide (7<(l0_0.length:Int))=false:=Zf c6
    have c6b1:decide (7<l0_0.length)=false:=Zf (by omega)
    clear c6
    by_cases c8:0<(l0_0.length:Int)
    ·rw[if_pos c8] at H
     have c8b0:decide (0<(l0_0.length:Int))=true:=Ze c8
     have c8b1:decide (0<l0_0.length)=true:=Ze (by omega)
     clear c8
     by_cases c9:(((Zz l0_0 0).f1).length:Int) > 0
     ·rw[if_pos c9] at H
      have c9b0:decide (0<(((Zz l0_0 0).f1).length:Int))=true:=Ze c9
      have c9b1:decide (0<((Zz l0_0 0).f1).length)=true:=Ze (by omega)
      clear c9
      have H':=Za H
      clear H
      have hcz10_0:w3.cell? ⟨gb121001,0,none⟩=some (.slice A0_0 l0_0.length c0_0):=(Zs BK121001.out 0).trans rfl
      have hcz10_1:w3.cell? ⟨gb121001,1,none⟩=some (.slice A0_1 l0_1.length c0_1):=(Zs BK121001.out 1).trans rfl
      have hcz10_2:w3.cell? ⟨gb121001,2,none⟩=some (.int .i64 a0_2):=(Zs BK121001.out 2).trans rfl
      have hfz10_0:=Zr BK121001.out 0
      have hfz10_1:=Zr BK121001.out 1
      have hfz10_2:=Zr BK121001.out 2
      have p121002:0≤(0:Int):=(by omega)
      have q121002:0<(l0_0.length:Int):=Zd (by with_reducible assumption)
      obtain⟨ad121002,A121002_1,c121002_1,e121002,hx121002_0,hx121002_1,hx121002_2,hl121002_1,hi121002_1⟩:=Zaq HR0_0.out 0 p121002 q121002
      cases e121002
      have qi121002:(0<l0_0.length)=True:=eq_true (by omega)
      (try rw[show((0:Int)).toNat=0 from rfl] at hx121002_0)
      (try rw[show 0 * 3=0 from rfl] at hx121002_0)
      (try rw[Addr.add_zero'] at hx121002_0)
      (try rw[show((0:Int)).toNat=0 from rfl] at hx121002_1)
      (try rw[show 0 * 3=0 from rfl] at hx121002_1)
      (try rw[Addr.add_zero'] at hx121002_1)
      (try rw[show((0:Int)).toNat=0 from rfl] at hx121002_2)
      (try rw[show 0 * 3=0 from rfl] at hx121002_2)
      (try rw[Addr.add_zero'] at hx121002_2)
      replace hx121002_0:=(HB.out.cell (Zc w _ hx121002_0)).trans hx121002_0
      replace hx121002_1:=(HB.out.cell (Zc w _ hx121002_1)).trans hx121002_1
      replace hx121002_2:=(HB.out.cell (Zc w _ hx121002_2)).trans hx121002_2
      have HR121002_1:=Za hi121002_1;have HC121002_1:=Za hl121002_1;clear hi121002_1 hl121002_1
      replace p121002:=eq_true p121002
      replace q121002:=eq_true q121002
      go_wp2
      go_meet
      case rel=>exact⟨_,(true),(by first|rfl|(simp;done)|(simp[*];done)),H',⟨by first|omega|exact Nat.le_refl _⟩,⟨by(with_reducible repeat(first|refine Zp ?_ _|refine Zu ?_|refine Zo ?_ _));exact BK121001.out⟩,⟨by repeat(first|(with_reducible first|exact HB.out|apply Zn|apply Zm|apply Zt|refine Zq ?_ GE121001.out)|exact HB.out)⟩⟩
     ·rw[if_neg c9] at H
      have c9b0:decide (0<(((Zz l0_0 0).f1).length:Int))=false:=Zf c9
      have c9b1:decide (0<((Zz l0_0 0).f1).length)=false:=Zf (by omega)
      clear c9
      have H':=Za H
      clear H
      have hcz11_0:w3.cell? ⟨gb121001,0,none⟩=some (.slice A0_0 l0_0.length c0_0):=(Zs BK121001.out 0).trans rfl
      have hcz11_1:w3.cell? ⟨gb121001,1,none⟩=some (.slice A0_1 l0_1.length c0_1):=(Zs BK121001.out 1).trans rfl
      have hcz11_2:w3.cell? ⟨gb121001,2,none⟩=some (.int .i64 a0_2):=(Zs BK121001.out 2).trans rfl
      have hfz11_0:=Zr BK121001.out 0
      have hfz11_1:=Zr BK121001.out 1
      have hfz11_2:=Zr BK121001.out 2
      have p121002:0≤(0:Int):=(by omega)
      have q121002:0<(l0_0.length:Int):=Zd (by with_reducible assumption)
      obtain⟨ad121002,A121002_1,c121002_1,e121002,hx121002_0,hx121002_1,hx121002_2,hl121002_1,hi121002_1⟩:=Zaq HR0_0.out 0 p121002 q121002
      cases e121002
      have qi121002:(0<l0_0.length)=True:=eq_true (by omega)
      (try rw[show((0:Int)).toNat=0 from rfl] at hx121002_0)
      (try rw[show 0 * 3=0 from rfl] at hx121002_0)
      (try rw[Addr.add_zero'] at hx121002_0)
      (try rw[show((0:Int)).toNat=0 from rfl] at hx121002_1)
      (try rw[show 0 * 3=0 from rfl] at hx121002_1)
      (try rw[Addr.add_zero'] at hx121002_1)
      (try rw[show((0:Int)).toNat=0 from rfl] at hx121002_2)
      (try rw[show 0 * 3=0 from rfl] at hx121002_2)
      (try rw[Addr.add_zero'] at hx121002_2)
      replace hx121002_0:=(HB.out.cell (Zc w _ hx121002_0)).trans hx121002_0
      replace hx121002_1:=(HB.out.cell (Zc w _ hx121002_1)).trans hx121002_1
      replace hx121002_2:=(HB.out.cell (Zc w _ hx121002_2)).trans hx121002_2
      have HR121002_1:=Za hi121002_1;have HC121002_1:=Za hl121002_1;clear hi121002_1 hl121002_1
      replace p121002:=eq_true p121002
      replace q121002:=eq_true q121002
      have p121003:0≤(0:Int):=(by omega)
      have q121003:0<(l0_0.length:Int):=Zd (by with_reducible assumption)
      obtain⟨ad121003,A121003_1,c121003_1,e121003,hx121003_0,hx121003_1,hx121003_2,hl121003_1,hi121003_1⟩:=Zaq HR0_0.out 0 p121003 q121003
      obtain rfl:ad121002=ad121003:=(by injection e121003)
      have qi121003:(0<l0_0.length)=True:=eq_true (by omega)
      (try rw[show((0:Int)).toNat=0 from rfl] at hx121003_0)
      (try rw[show 0 * 3=0 from rfl] at hx121003_0)
      (try rw[Addr.add_zero'] at hx121003_0)
      (try rw[show((0:Int)).toNat=0 from rfl] at hx121003_1)
      (try rw[show 0 * 3=0 from rfl] at hx121003_1)
      (try rw[Addr.add_zero'] at hx121003_1)
      (try rw[show((0:Int)).toNat=0 from rfl] at hx121003_2)
      (try rw[show 0 * 3=0 from rfl] at hx121003_2)
      (try rw[Addr.add_zero'] at hx121003_2)
      replace hx121003_0:=(HB.out.cell (Zc w _ hx121003_0)).trans hx121003_0
      replace hx121003_1:=(HB.out.cell (Zc w _ hx121003_1)).trans hx121003_1
      replace hx121003_2:=(HB.out.cell (Zc w _ hx121003_2)).trans hx121003_2
      have HR121003_1:=Za hi121003_1;have HC121003_1:=Za hl121003_1;clear hi121003_1 hl121003_1
      replace p121003:=eq_true p121003
      replace q121003:=eq_true q121003
      have ea_:=Zg (hx121002_1.symm.trans hx121003_1)
      injection ea_ with ea_ en_ ec_
      subst ea_;subst ec_;clear en_
      go_wp2
      go_meet
      case rel=>exact⟨_,((((Zz l0_0 0).f2) != 0)),(by first|rfl|(simp;done)|(simp[*];done)),H',⟨by first|omega|exact Nat.le_refl _⟩,⟨by(with_reducible repeat(first|refine Zp ?_ _|refine Zu ?_|refine Zo ?_ _));exact BK121001.out⟩,⟨by repeat(first|(with_reducible first|exact HB.out|apply Zn|apply Zm|apply Zt|refine Zq ?_ GE121001.out)|exact HB.out)⟩⟩
    ·rw[if_neg c8] at H
     exact absurd H (by simp)
 case rest=>
  clear HC2
  try clear c1
  try clear p1
  try clear q1
  try clear qi1
  try clear p2
  try clear c4
  try clear c4b0
  try clear c4b1
  try clear c6
  try clear c6b0
  try clear c6b1
  try clear c8
  try clear c8b0
  try clear c8b1
  try clear c9
  try clear c9b0
  try clear c9b1
  try clear p121002
  try clear p121003
  try clear q121002
  try clear q121003
  obtain⟨kq,x33_1,rfl,HA,HJ1,BK121001,HB⟩:=hcut
  cases kq with
  | zero=>exact absurd HA.out (by simp[ZN.j0])
  | succ kj1=>
   have H:=HA.out
   clear HA
   simp only[ZN.j0] at H
   by_cases c12:x33_1=true
   ·subst c12
    rw[if_pos rfl] at H
    obtain rfl:=Zg H
    go_wp2
    go_ret
    exact⟨by first|rfl|(simp[ZB,ZA] <;> rfl)|(simp[*,ZB,ZA] <;> rfl),by repeat(first|(with_reducible first|exact HB.out|apply Zn|apply Zm|apply Zt|refine Zq ?_ GE121001.out)|exact HB.out)⟩
   ·replace c12:=Bool.eq_false_iff.mpr c12
    subst c12
    have H1:(ZN.l0 kj1 l0_0 (l0_0.length:Int) 0 l0_0 l0_1 a0_2)=some r:=by rw[if_neg (show ¬(false=true) by decide)] at H;exact H
    clear H
    have H:=H1
    clear H1
    have H':=Za H
    clear H
    have hcz13_0:wc.cell? ⟨gb121001,0,none⟩=some (.slice A0_0 l0_0.length c0_0):=(Zs BK121001.out 0).trans rfl
    have hcz13_1:wc.cell? ⟨gb121001,1,none⟩=some (.slice A0_1 l0_1.length c0_1):=(Zs BK121001.out 1).trans rfl
    have hcz13_2:wc.cell? ⟨gb121001,2,none⟩=some (.int .i64 a0_2):=(Zs BK121001.out 2).trans rfl
    have hfz13_0:=Zr BK121001.out 0
    have hfz13_1:=Zr BK121001.out 1
    have hfz13_2:=Zr BK121001.out 2
    go_wp2
    go_loopg [37] kj1 (fun kq v37 w'=>∃(x37_2:Int),v37=.int .i64 x37_2∧Aside0 (ZN.l0 kq l0_0 (l0_0.length:Int) x37_2 l0_0 l0_1 a0_2=some r)∧Aside0 (kq≤kj1)∧Aside0 (w'.heap[gb121001]? = some (.cells #[(.slice A0_0 l0_0.length c0_0),(.slice A0_1 l0_1.length c0_1),.int .i64 a0_2] 35 (0,0)))∧Aside0 (Below w.heap.size w w'))
    case atStart=>exact⟨(0),(by first|rfl|(simp;done)|(simp[*];done)),H',⟨Nat.le_refl _⟩,⟨by(with_reducible repeat(first|refine Zp ?_ _|refine Zu ?_|refine Zo ?_ _));exact BK121001.out⟩,⟨by repeat(first|(with_reducible first|exact HB.out|apply Zn|apply Zm|apply Zt|refine Zq ?_ GE121001.out)|exact HB.out)⟩⟩
    case round=>
     clear H'
     try clear c1
     try clear p1
     try clear q1
     try clear qi1
     try clear p2
     try clear c4
     try clear c4b0
     try clear c4b1
     try clear c6
     try clear c6b0
     try clear c6b1
     try clear c8
     try clear c8b0
     try clear c8b1
     try clear c9
     try clear c9b0
     try clear c9b1
     try clear c12
     try clear p12
     try clear q12
     try clear qi12
     try clear p1
     try clear p121002
     try clear p121003
     try clear p2
     try clear q1
     try clear q121002
     try clear q121003
     obtain⟨x37_2,rfl,HA,HK2,BK121001,HB⟩:=hrel
     cases gk with
     | zero=>exact absurd HA.out (by simp[ZN.l0])
     | succ k2=>
      have H:=HA.out
      clear HA
      simp only[ZN.l0] at H
      by_cases c14:x37_2<(l0_0.length:Int)
      ·rw[if_pos c14] at H
       have c14b0:decide (x37_2<(l0_0.length:Int))=true:=Ze c14
       clear c14
       by_cases c15:0≤x37_2
       ·rw[if_pos c15] at H
        have c15b0:decide (0≤x37_2)=true:=Ze c15
        clear c15
        by_cases c16:x37_2<(l0_0.length:Int)
        ·rw[if_pos c16] at H
         have c16b0:decide (x37_2<(l0_0.length:Int))=true:=Ze c16
         clear c16
         replace H:=Zh H
         obtain⟨t121006,A170,H⟩:=H;have A17:=Za A170;clear A170
         by_cases c18:t121006=true
         ·subst c18
          rw[if_pos rfl] at H
          have c19b0:=eq_true (Zd (by with_reducible assumption):0≤x37_2)
          by_cases c20:x37_2≤(l0_0.length:Int)
          ·rw[if_pos c20] at H
           have c20b0:=eq_true c20
           have c20b1:decide (x37_2≤(l0_0.length:Int))=true:=Ze c20
           clear c20
           obtain⟨y121007,hy121007⟩:∃y_:List (S116),y_=(l0_0.take (x37_2:Int).toNat):=⟨_,rfl⟩
           replace H:(ZN.l1 k2 l0_0 (l0_0.length:Int) x37_2 y121007 (y121007.length:Int) 0 l0_0 l0_1 a0_2 ((Zz l0_0 x37_2).f0) ((Zz l0_0 x37_2).f1) ((Zz l0_0 x37_2).f2))=some r:=by first|(rw[hy121007];with_reducible exact H)|(have H2_:=(Zi _ _).symm.trans H;rw[hy121007];with_reducible exact H2_)|(have H2_:=(Zi _ _).symm.trans H;with_reducible exact H2_)|with_reducible exact H|(rw[hy121007];exact H)|exact H
           have Ny121007:=Za hy121007;clear hy121007
           have H':=Za H
           clear H
           have p121004:0≤(x37_2:Int):=Zd (by with_reducible assumption)
           have q121004:x37_2<(l0_0.length:Int):=Zd (by with_reducible assumption)
           obtain⟨ad121004,A121004_1,c121004_1,e121004,hx121004_0,hx121004_1,hx121004_2,hl121004_1,hi121004_1⟩:=Zaq HR0_0.out x37_2 p121004 q121004
           cases e121004
           replace hx121004_0:=(HB.out.cell (Zc w _ hx121004_0)).trans hx121004_0
           replace hx121004_1:=(HB.out.cell (Zc w _ hx121004_1)).trans hx121004_1
           replace hx121004_2:=(HB.out.cell (Zc w _ hx121004_2)).trans hx121004_2
           have HR121004_1:=Za hi121004_1;have HC121004_1:=Za hl121004_1;clear hi121004_1 hl121004_1
           replace p121004:=eq_true p121004
           replace q121004:=eq_true q121004
           go_wp2_with (first|((with_reducible refine ZI (N:=4) rfl ?_);refine ZH ?hg (N:=4) ?hd (cs:=#[.string (⟨#[]⟩:ByteArray),.slice none 0 0,.int .i64 0]) (t:=116) ?hr ?_;(case hd=>rfl);(case hg=>rfl);(case hr=>first|(go_simp;done)|(go_simp;rfl));intro gb121005 hg w21 hbox hb;have n0_:=Za (Zy (g:=gb121001) (o:=.cells #[.slice (some ad121004) l0_0.length c0_0,.slice A0_1 l0_1.length c0_1,.int .i64 a0_2] 35 (0,0)) BK121001.out hb);have n1_:=Za (Zw (by exact HB.out) hb);have n2_:=Za (hbox);have n3_:=Za ((by rw[hg];exact(Zx (by exact HB.out)):w.heap.size≤gb121005));have n4_:=n3_;have n5_:=Za ((by rw[hg];exact Nat.ne_of_lt (ZO BK121001.out):gb121001≠gb121005));have n6_:=Za n5_.out.symm;clear BK121001;clear HB;have BK121001:=n0_;have HB:=n1_;have BK121005:=n2_;have GW121005:=n3_;have GE121005:=n4_;have NB121001_121005:=n5_;have NB121005_121001:=n6_;clear n0_ n1_ n2_ n3_ n4_ n5_ n6_;clear hb hbox hg;have hnb22:=NB121005_121001.out;have hnc22:=NB121001_121005.out;have hcz23_0:w21.cell? ⟨gb121005,0,none⟩=some (.string (⟨#[]⟩:ByteArray)):=(Zs BK121005.out 0).trans rfl;have hcz23_1:w21.cell? ⟨gb121005,1,none⟩=some (.slice none 0 0):=(Zs BK121005.out 1).trans rfl;have hcz23_2:w21.cell? ⟨gb121005,2,none⟩=some (.int .i64 0):=(Zs BK121005.out 2).trans rfl;have hfz23_0:=Zr BK121005.out 0;have hfz23_1:=Zr BK121005.out 1;have hfz23_2:=Zr BK121005.out 2)|((with_reducible refine ZG (f:=157) rfl ?_);refine ZQ (some 43) rfl rfl Try.func157 (by kernel_rfl) rfl #[.agg #[.string ((Zz l0_0 x37_2).f0),.slice A121004_1 ((Zz l0_0 x37_2).f1).length c121004_1,.int .i64 ((Zz l0_0 x37_2).f2)]] rfl (by(try simp only[List.map_toArray,List.map_cons,List.map_nil]);first|done|rfl|(simp only[Zk,Zj];rfl)) ?_;(with_reducible refine(ZbO.calls k2 ((Zz l0_0 x37_2).f0) _ _ ((Zz l0_0 x37_2).f1) ((Zz l0_0 x37_2).f2) true _ ?side1 ?side2 A17.out).mono ?_);(case side1=>exact Zb HR121004_1.out (by repeat(first|(with_reducible first|exact HB.out|apply Zn|apply Zm|apply Zt|refine Zq ?_ GE121001.out|refine Zq ?_ GE121005.out)|exact HB.out)));(case side2=>exact HC121004_1.out);rintro e w24 ⟨rfl,hb⟩;refine⟨_,rfl,?_⟩;replace BK121001:=Za (Zy (g:=gb121001) (o:=.cells #[.slice (some ad121004) l0_0.length c0_0,.slice A0_1 l0_1.length c0_1,.int .i64 a0_2] 35 (0,0)) (by(with_reducible repeat(first|refine Zp ?_ _|refine Zu ?_|refine Zo ?_ _));refine ZD ?_ NB121001_121005.out _;(with_reducible repeat(first|refine Zp ?_ _|refine Zu ?_|refine Zo ?_ _));refine ZD ?_ NB121001_121005.out _;(with_reducible repeat(first|refine Zp ?_ _|refine Zu ?_|refine Zo ?_ _));refine ZD ?_ NB121001_121005.out _;(with_reducible repeat(first|refine Zp ?_ _|refine Zu ?_|refine Zo ?_ _));exact BK121001.out) hb);replace BK121005:=Za (Zy (g:=gb121005) (o:=.cells #[.string ((Zz l0_0 x37_2).f0),.slice A121004_1 ((Zz l0_0 x37_2).f1).length c121004_1,.int .i64 ((Zz l0_0 x37_2).f2)] 116 (0,0)) (by(with_reducible repeat(first|refine Zp ?_ _|refine Zu ?_|refine Zo ?_ _));refine ZL (cs:=#[.string ((Zz l0_0 x37_2).f0),.slice A121004_1 ((Zz l0_0 x37_2).f1).length c121004_1,.int .i64 0]) ?_ 2 _ rfl;(with_reducible repeat(first|refine Zp ?_ _|refine Zu ?_|refine Zo ?_ _));refine ZL (cs:=#[.string ((Zz l0_0 x37_2).f0),.slice none 0 0,.int .i64 0]) ?_ 1 _ rfl;(with_reducible repeat(first|refine Zp ?_ _|refine Zu ?_|refine Zo ?_ _));refine ZL (cs:=#[.string (⟨#[]⟩:ByteArray),.slice none 0 0,.int .i64 0]) ?_ 0 _ rfl;(with_reducible repeat(first|refine Zp ?_ _|refine Zu ?_|refine Zo ?_ _));exact BK121005.out) hb);replace HB:=Za (Zw (by repeat(first|(with_reducible first|exact HB.out|apply Zn|apply Zm|apply Zt|refine Zq ?_ GE121001.out|refine Zq ?_ GE121005.out)|exact HB.out)) hb);(try clear hb);(try clear hb2);(try clear hk);(try clear hi);have hcz25_0:w24.cell? ⟨gb121001,0,none⟩=some (.slice (some ad121004) l0_0.length c0_0):=(Zs BK121001.out 0).trans rfl;have hcz25_1:w24.cell? ⟨gb121001,1,none⟩=some (.slice A0_1 l0_1.length c0_1):=(Zs BK121001.out 1).trans rfl;have hcz25_2:w24.cell? ⟨gb121001,2,none⟩=some (.int .i64 a0_2):=(Zs BK121001.out 2).trans rfl;have hfz25_0:=Zr BK121001.out 0;have hfz25_1:=Zr BK121001.out 1;have hfz25_2:=Zr BK121001.out 2;have q26:(x37_2:Int)≤((l0_0.length:Int):Int):=Zd (by with_reducible assumption);obtain⟨i026,hi026,_,hsz26,_⟩:=info_parts info116;have hroom26:l0_0.length≤c0_0:=HC0_0.out;have hC26:Kd.C k116 _ (some ad121004) l0_0.length l0_0:=HR0_0.out;have hcut26:=cut_to (P:=Try.prog) 32 116 .i64 Try.underlying32 hi026 (some ad121004) l0_0.length c0_0 x37_2 (Zd (by with_reducible assumption)) q26 hroom26;have hr26:=Kd.C_take (m:=(x37_2:Int).toNat) hC26 (by omega);have hy26:y121007.length=(x37_2:Int).toNat:=(by rw[Ny121007.out,Zj];omega);rw[← Ny121007.out] at hr26;rw[← hy26] at hcut26;have HR121010:=Za hr26;have HC121010:=Za (show y121007.length≤c0_0 from by omega);clear hr26 hC26 hroom26 hi026 hsz26;have KY26:=Za hy26;clear hy26;replace q26:=eq_true q26))
           go_loopg [50] k2 (fun kq v50 w'=>∃(x50_3:Int),v50=.int .i64 x50_3∧Aside0 (ZN.l1 kq l0_0 (l0_0.length:Int) x37_2 y121007 (y121007.length:Int) x50_3 l0_0 l0_1 a0_2 ((Zz l0_0 x37_2).f0) ((Zz l0_0 x37_2).f1) ((Zz l0_0 x37_2).f2)=some r)∧Aside0 (kq≤k2)∧Aside0 (w'.heap[gb121001]? = some (.cells #[(.slice (some ad121004) l0_0.length c0_0),(.slice A0_1 l0_1.length c0_1),.int .i64 a0_2] 35 (0,0)))∧Aside0 (w'.heap[gb121005]? = some (.cells #[.string ((Zz l0_0 x37_2).f0),(.slice A121004_1 ((Zz l0_0 x37_2).f1).length c121004_1),.int .i64 ((Zz l0_0 x37_2).f2)] 116 (0,0)))∧Aside0 (Below w.heap.size w w'))
           case atStart=>exact⟨(0),(by first|rfl|(simp;done)|(simp[*];done)),H',⟨Nat.le_refl _⟩,⟨by(with_reducible repeat(first|refine Zp ?_ _|refine Zu ?_|refine Zo ?_ _));exact BK121001.out⟩,⟨by(with_reducible repeat(first|refine Zp ?_ _|refine Zu ?_|refine Zo ?_ _));exact BK121005.out⟩,⟨by repeat(first|(with_reducible first|exact HB.out|apply Zn|apply Zm|apply Zt|refine Zq ?_ GE121001.out|refine Zq ?_ GE121005.out)|exact HB.out)⟩⟩
           case round=>
            clear H'
            try clear c1
            try clear p1
            try clear q1
            try clear qi1
            try clear c2
            try clear p2
            try clear q2
            try clear c4
            try clear c4b0
            try clear c4b1
            try clear c6
            try clear c6b0
            try clear c6b1
            try clear c8
            try clear c8b0
            try clear c8b1
            try clear c9
            try clear c9b0
            try clear c9b1
            try clear c12
            try clear p12
            try clear q12
            try clear qi12
            try clear c14
            try clear c14b0
            try clear c15
            try clear c15b0
            try clear c16
            try clear c16b0
            try clear c18
            try clear c19
            try clear c19b0
            try clear c20
            try clear c20b0
            try clear c20b1
            try clear c22
            try clear q26
            try clear p1
            try clear p12
            try clear p121002
            try clear p121003
            try clear p121004
            try clear p2
            try clear q1
            try clear q12
            try clear q121002
            try clear q121003
            try clear q121004
            try clear q26
            obtain⟨x50_3,rfl,HA,HK3,BK121001,BK121005,HB⟩:=hrel
            cases gk with
            | zero=>exact absurd HA.out (by simp[ZN.l1])
            | succ k3=>
             have H:=HA.out
             clear HA
             simp only[ZN.l1] at H
             by_cases c27:x50_3<(y121007.length:Int)
             ·rw[if_pos c27] at H
              have c27b0:decide (x50_3<(y121007.length:Int))=true:=Ze c27
              clear c27
              by_cases c28:0≤x50_3
              ·rw[if_pos c28] at H
               have c28b0:decide (0≤x50_3)=true:=Ze c28
               clear c28
               by_cases c29:x50_3<(y121007.length:Int)
               ·rw[if_pos c29] at H
                have c29b0:decide (x50_3<(y121007.length:Int))=true:=Ze c29
                clear c29
                by_cases c30:((Zz y121007 x50_3).f0).toList=((Zz l0_0 x37_2).f0).toList
                ·rw[if_pos c30] at H
                 have c30b0:(((Zz y121007 x50_3).f0).toList == ((Zz l0_0 x37_2).f0).toList)=true:=beq_iff_eq.mpr c30
                 have c30b1:(((Zz y121007 x50_3).f0).toList != ((Zz l0_0 x37_2).f0).toList)=false:=bne_eq_false_iff_eq.mpr c30
                 clear c30
                 obtain rfl:=Zg H
                 have p121011:0≤(x50_3:Int):=Zd (by with_reducible assumption)
                 have q121011:x50_3<(y121007.length:Int):=Zd (by with_reducible assumption)
                 obtain⟨ad121011,A121011_1,c121011_1,e121011,hx121011_0,hx121011_1,hx121011_2,hl121011_1,hi121011_1⟩:=Zaq HR121010.out x50_3 p121011 q121011
                 obtain rfl:ad121004=ad121011:=(by injection e121011)
                 replace hx121011_0:=(HB.out.cell (Zc w _ hx121011_0)).trans hx121011_0
                 replace hx121011_1:=(HB.out.cell (Zc w _ hx121011_1)).trans hx121011_1
                 replace hx121011_2:=(HB.out.cell (Zc w _ hx121011_2)).trans hx121011_2
                 have HR121011_1:=Za hi121011_1;have HC121011_1:=Za hl121011_1;clear hi121011_1 hl121011_1
                 replace p121011:=eq_true p121011
                 replace q121011:=eq_true q121011
                 go_wp2_with (first|((with_reducible refine ZI (N:=6) rfl ?_);refine ZH ?hg (N:=6) ?hd (cs:=#[.string (⟨#[]⟩:ByteArray),.slice none 0 0,.int .i64 0]) (t:=116) ?hr ?_;(case hd=>rfl);(case hg=>rfl);(case hr=>first|(go_simp;done)|(go_simp;rfl));intro gb121012 hg w31 hbox hb;have n0_:=Za (Zy (g:=gb121001) (o:=.cells #[.slice (some ad121004) l0_0.length c0_0,.slice A0_1 l0_1.length c0_1,.int .i64 a0_2] 35 (0,0)) BK121001.out hb);have n1_:=Za (Zy (g:=gb121005) (o:=.cells #[.string ((Zz l0_0 x37_2).f0),.slice A121004_1 ((Zz l0_0 x37_2).f1).length c121004_1,.int .i64 ((Zz l0_0 x37_2).f2)] 116 (0,0)) BK121005.out hb);have n2_:=Za (Zw (by exact HB.out) hb);have n3_:=Za (hbox);have n4_:=Za ((by rw[hg];exact(Zx (by exact HB.out)):w.heap.size≤gb121012));have n5_:=n4_;have n6_:=Za ((by rw[hg];exact Nat.ne_of_lt (ZO BK121001.out):gb121001≠gb121012));have n7_:=Za n6_.out.symm;have n8_:=Za ((by rw[hg];exact Nat.ne_of_lt (ZO BK121005.out):gb121005≠gb121012));have n9_:=Za n8_.out.symm;clear BK121001;clear BK121005;clear HB;have BK121001:=n0_;have BK121005:=n1_;have HB:=n2_;have BK121012:=n3_;have GW121012:=n4_;have GE121012:=n5_;have NB121001_121012:=n6_;have NB121012_121001:=n7_;have NB121005_121012:=n8_;have NB121012_121005:=n9_;clear n0_ n1_ n2_ n3_ n4_ n5_ n6_ n7_ n8_ n9_;clear hb hbox hg;have hnb32:=NB121012_121001.out;have hnc32:=NB121001_121012.out;have hnb33:=NB121012_121005.out;have hnc33:=NB121005_121012.out;have hcz34_0:w31.cell? ⟨gb121012,0,none⟩=some (.string (⟨#[]⟩:ByteArray)):=(Zs BK121012.out 0).trans rfl;have hcz34_1:w31.cell? ⟨gb121012,1,none⟩=some (.slice none 0 0):=(Zs BK121012.out 1).trans rfl;have hcz34_2:w31.cell? ⟨gb121012,2,none⟩=some (.int .i64 0):=(Zs BK121012.out 2).trans rfl;have hfz34_0:=Zr BK121012.out 0;have hfz34_1:=Zr BK121012.out 1;have hfz34_2:=Zr BK121012.out 2;have hnb35:=NB121005_121001.out;have hnc35:=NB121001_121005.out;have hcz36_0:w31.cell? ⟨gb121005,0,none⟩=some (.string ((Zz l0_0 x37_2).f0)):=(Zs BK121005.out 0).trans rfl;have hcz36_1:w31.cell? ⟨gb121005,1,none⟩=some (.slice A121004_1 ((Zz l0_0 x37_2).f1).length c121004_1):=(Zs BK121005.out 1).trans rfl;have hcz36_2:w31.cell? ⟨gb121005,2,none⟩=some (.int .i64 ((Zz l0_0 x37_2).f2)):=(Zs BK121005.out 2).trans rfl;have hfz36_0:=Zr BK121005.out 0;have hfz36_1:=Zr BK121005.out 1;have hfz36_2:=Zr BK121005.out 2))
                 go_ret
                 exact⟨by first|rfl|(simp[ZB,ZA] <;> rfl)|(simp[*,ZB,ZA] <;> rfl),by repeat(first|(with_reducible first|exact HB.out|apply Zn|apply Zm|apply Zt|refine Zq ?_ GE121001.out|refine Zq ?_ GE121005.out|refine Zq ?_ GE121012.out)|exact HB.out)⟩
                ·rw[if_neg c30] at H
                 have c30b0:(((Zz y121007 x50_3).f0).toList == ((Zz l0_0 x37_2).f0).toList)=false:=beq_eq_false_iff_ne.mpr c30
                 have c30b1:(((Zz y121007 x50_3).f0).toList != ((Zz l0_0 x37_2).f0).toList)=true:=bne_iff_ne.mpr c30
                 by_cases c37:((Zz l0_0 x37_2).f2)=0
                 ·rw[if_pos c37] at H
                  have c37b0:(((Zz l0_0 x37_2).f2) == 0)=true:=beq_iff_eq.mpr c37
                  have c37b1:(((Zz l0_0 x37_2).f2) != 0)=false:=bne_eq_false_iff_eq.mpr c37
                  clear c37
                  have H':=Za H
                  clear H
                  have p121011:0≤(x50_3:Int):=Zd (by with_reducible assumption)
                  have q121011:x50_3<(y121007.length:Int):=Zd (by with_reducible assumption)
                  obtain⟨ad121011,A121011_1,c121011_1,e121011,hx121011_0,hx121011_1,hx121011_2,hl121011_1,hi121011_1⟩:=Zaq HR121010.out x50_3 p121011 q121011
                  obtain rfl:ad121004=ad121011:=(by injection e121011)
                  replace hx121011_0:=(HB.out.cell (Zc w _ hx121011_0)).trans hx121011_0
                  replace hx121011_1:=(HB.out.cell (Zc w _ hx121011_1)).trans hx121011_1
                  replace hx121011_2:=(HB.out.cell (Zc w _ hx121011_2)).trans hx121011_2
                  have HR121011_1:=Za hi121011_1;have HC121011_1:=Za hl121011_1;clear hi121011_1 hl121011_1
                  replace p121011:=eq_true p121011
                  replace q121011:=eq_true q121011
                  go_wp2_with (first|((with_reducible refine ZI (N:=6) rfl ?_);refine ZH ?hg (N:=6) ?hd (cs:=#[.string (⟨#[]⟩:ByteArray),.slice none 0 0,.int .i64 0]) (t:=116) ?hr ?_;(case hd=>rfl);(case hg=>rfl);(case hr=>first|(go_simp;done)|(go_simp;rfl));intro gb121012 hg w38 hbox hb;have n0_:=Za (Zy (g:=gb121001) (o:=.cells #[.slice (some ad121004) l0_0.length c0_0,.slice A0_1 l0_1.length c0_1,.int .i64 a0_2] 35 (0,0)) BK121001.out hb);have n1_:=Za (Zy (g:=gb121005) (o:=.cells #[.string ((Zz l0_0 x37_2).f0),.slice A121004_1 ((Zz l0_0 x37_2).f1).length c121004_1,.int .i64 ((Zz l0_0 x37_2).f2)] 116 (0,0)) BK121005.out hb);have n2_:=Za (Zw (by exact HB.out) hb);have n3_:=Za (hbox);have n4_:=Za ((by rw[hg];exact(Zx (by exact HB.out)):w.heap.size≤gb121012));have n5_:=n4_;have n6_:=Za ((by rw[hg];exact Nat.ne_of_lt (ZO BK121001.out):gb121001≠gb121012));have n7_:=Za n6_.out.symm;have n8_:=Za ((by rw[hg];exact Nat.ne_of_lt (ZO BK121005.out):gb121005≠gb121012));have n9_:=Za n8_.out.symm;clear BK121001;clear BK121005;clear HB;have BK121001:=n0_;have BK121005:=n1_;have HB:=n2_;have BK121012:=n3_;have GW121012:=n4_;have GE121012:=n5_;have NB121001_121012:=n6_;have NB121012_121001:=n7_;have NB121005_121012:=n8_;have NB121012_121005:=n9_;clear n0_ n1_ n2_ n3_ n4_ n5_ n6_ n7_ n8_ n9_;clear hb hbox hg;have hnb39:=NB121012_121001.out;have hnc39:=NB121001_121012.out;have hnb40:=NB121012_121005.out;have hnc40:=NB121005_121012.out;have hcz41_0:w38.cell? ⟨gb121012,0,none⟩=some (.string (⟨#[]⟩:ByteArray)):=(Zs BK121012.out 0).trans rfl;have hcz41_1:w38.cell? ⟨gb121012,1,none⟩=some (.slice none 0 0):=(Zs BK121012.out 1).trans rfl;have hcz41_2:w38.cell? ⟨gb121012,2,none⟩=some (.int .i64 0):=(Zs BK121012.out 2).trans rfl;have hfz41_0:=Zr BK121012.out 0;have hfz41_1:=Zr BK121012.out 1;have hfz41_2:=Zr BK121012.out 2;have hnb42:=NB121005_121001.out;have hnc42:=NB121001_121005.out;have hcz43_0:w38.cell? ⟨gb121005,0,none⟩=some (.string ((Zz l0_0 x37_2).f0)):=(Zs BK121005.out 0).trans rfl;have hcz43_1:w38.cell? ⟨gb121005,1,none⟩=some (.slice A121004_1 ((Zz l0_0 x37_2).f1).length c121004_1):=(Zs BK121005.out 1).trans rfl;have hcz43_2:w38.cell? ⟨gb121005,2,none⟩=some (.int .i64 ((Zz l0_0 x37_2).f2)):=(Zs BK121005.out 2).trans rfl;have hfz43_0:=Zr BK121005.out 0;have hfz43_1:=Zr BK121005.out 1;have hfz43_2:=Zr BK121005.out 2))
                  go_roundg k3
                  case measure=>have:=HJ1.out;have:=HK2.out;have:=HK3.out;omega
                  case rel=>exact⟨(wrap64 (x50_3+1)),(by first|rfl|(simp;done)|(simp[*];done)),H',⟨by have:=HJ1.out;have:=HK2.out;have:=HK3.out;omega⟩,⟨by(with_reducible repeat(first|refine Zp ?_ _|refine Zu ?_|refine Zo ?_ _));refine ZD ?_ NB121001_121012.out _;(with_reducible repeat(first|refine Zp ?_ _|refine Zu ?_|refine Zo ?_ _));refine ZD ?_ NB121001_121012.out _;(with_reducible repeat(first|refine Zp ?_ _|refine Zu ?_|refine Zo ?_ _));refine ZD ?_ NB121001_121012.out _;(with_reducible repeat(first|refine Zp ?_ _|refine Zu ?_|refine Zo ?_ _));exact BK121001.out⟩,⟨by(with_reducible repeat(first|refine Zp ?_ _|refine Zu ?_|refine Zo ?_ _));refine ZD ?_ NB121005_121012.out _;(with_reducible repeat(first|refine Zp ?_ _|refine Zu ?_|refine Zo ?_ _));refine ZD ?_ NB121005_121012.out _;(with_reducible repeat(first|refine Zp ?_ _|refine Zu ?_|refine Zo ?_ _));refine ZD ?_ NB121005_121012.out _;(with_reducible repeat(first|refine Zp ?_ _|refine Zu ?_|refine Zo ?_ _));exact BK121005.out⟩,⟨by repeat(first|(with_reducible first|exact HB.out|apply Zn|apply Zm|apply Zt|refine Zq ?_ GE121001.out|refine Zq ?_ GE121005.out|refine Zq ?_ GE121012.out)|exact HB.out)⟩⟩
                 ·rw[if_neg c37] at H
                  have c37b0:(((Zz l0_0 x37_2).f2) == 0)=false:=beq_eq_false_iff_ne.mpr c37
                  have c37b1:(((Zz l0_0 x37_2).f2) != 0)=true:=bne_iff_ne.mpr c37
                  by_cases c44:((Zz y121007 x50_3).f2)=((Zz l0_0 x37_2).f2)
                  ·rw[if_pos c44] at H
                   have c44b0:(((Zz y121007 x50_3).f2) == ((Zz l0_0 x37_2).f2))=true:=beq_iff_eq.mpr c44
                   have c44b1:(((Zz y121007 x50_3).f2) != ((Zz l0_0 x37_2).f2))=false:=bne_eq_false_iff_eq.mpr c44
                   clear c44
                   obtain rfl:=Zg H
                   have p121011:0≤(x50_3:Int):=Zd (by with_reducible assumption)
                   have q121011:x50_3<(y121007.length:Int):=Zd (by with_reducible assumption)
                   obtain⟨ad121011,A121011_1,c121011_1,e121011,hx121011_0,hx121011_1,hx121011_2,hl121011_1,hi121011_1⟩:=Zaq HR121010.out x50_3 p121011 q121011
                   obtain rfl:ad121004=ad121011:=(by injection e121011)
                   replace hx121011_0:=(HB.out.cell (Zc w _ hx121011_0)).trans hx121011_0
                   replace hx121011_1:=(HB.out.cell (Zc w _ hx121011_1)).trans hx121011_1
                   replace hx121011_2:=(HB.out.cell (Zc w _ hx121011_2)).trans hx121011_2
                   have HR121011_1:=Za hi121011_1;have HC121011_1:=Za hl121011_1;clear hi121011_1 hl121011_1
                   replace p121011:=eq_true p121011
                   replace q121011:=eq_true q121011
                   go_wp2_with (first|((with_reducible refine ZI (N:=6) rfl ?_);refine ZH ?hg (N:=6) ?hd (cs:=#[.string (⟨#[]⟩:ByteArray),.slice none 0 0,.int .i64 0]) (t:=116) ?hr ?_;(case hd=>rfl);(case hg=>rfl);(case hr=>first|(go_simp;done)|(go_simp;rfl));intro gb121012 hg w45 hbox hb;have n0_:=Za (Zy (g:=gb121001) (o:=.cells #[.slice (some ad121004) l0_0.length c0_0,.slice A0_1 l0_1.length c0_1,.int .i64 a0_2] 35 (0,0)) BK121001.out hb);have n1_:=Za (Zy (g:=gb121005) (o:=.cells #[.string ((Zz l0_0 x37_2).f0),.slice A121004_1 ((Zz l0_0 x37_2).f1).length c121004_1,.int .i64 ((Zz l0_0 x37_2).f2)] 116 (0,0)) BK121005.out hb);have n2_:=Za (Zw (by exact HB.out) hb);have n3_:=Za (hbox);have n4_:=Za ((by rw[hg];exact(Zx (by exact HB.out)):w.heap.size≤gb121012));have n5_:=n4_;have n6_:=Za ((by rw[hg];exact Nat.ne_of_lt (ZO BK121001.out):gb121001≠gb121012));have n7_:=Za n6_.out.symm;have n8_:=Za ((by rw[hg];exact Nat.ne_of_lt (ZO BK121005.out):gb121005≠gb121012));have n9_:=Za n8_.out.symm;clear BK121001;clear BK121005;clear HB;have BK121001:=n0_;have BK121005:=n1_;have HB:=n2_;have BK121012:=n3_;have GW121012:=n4_;have GE121012:=n5_;have NB121001_121012:=n6_;have NB121012_121001:=n7_;have NB121005_121012:=n8_;have NB121012_121005:=n9_;clear n0_ n1_ n2_ n3_ n4_ n5_ n6_ n7_ n8_ n9_;clear hb hbox hg;have hnb46:=NB121012_121001.out;have hnc46:=NB121001_121012.out;have hnb47:=NB121012_121005.out;have hnc47:=NB121005_121012.out;have hcz48_0:w45.cell? ⟨gb121012,0,none⟩=some (.string (⟨#[]⟩:ByteArray)):=(Zs BK121012.out 0).trans rfl;have hcz48_1:w45.cell? ⟨gb121012,1,none⟩=some (.slice none 0 0):=(Zs BK121012.out 1).trans rfl;have hcz48_2:w45.cell? ⟨gb121012,2,none⟩=some (.int .i64 0):=(Zs BK121012.out 2).trans rfl;have hfz48_0:=Zr BK121012.out 0;have hfz48_1:=Zr BK121012.out 1;have hfz48_2:=Zr BK121012.out 2;have hnb49:=NB121005_121001.out;have hnc49:=NB121001_121005.out;have hcz50_0:w45.cell? ⟨gb121005,0,none⟩=some (.string ((Zz l0_0 x37_2).f0)):=(Zs BK121005.out 0).trans rfl;have hcz50_1:w45.cell? ⟨gb121005,1,none⟩=some (.slice A121004_1 ((Zz l0_0 x37_2).f1).length c121004_1):=(Zs BK121005.out 1).trans rfl;have hcz50_2:w45.cell? ⟨gb121005,2,none⟩=some (.int .i64 ((Zz l0_0 x37_2).f2)):=(Zs BK121005.out 2).trans rfl;have hfz50_0:=Zr BK121005.out 0;have hfz50_1:=Zr BK121005.out 1;have hfz50_2:=Zr BK121005.out 2))
                   go_ret
                   exact⟨by first|rfl|(simp[ZB,ZA] <;> rfl)|(simp[*,ZB,ZA] <;> rfl),by repeat(first|(with_reducible first|exact HB.out|apply Zn|apply Zm|apply Zt|refine Zq ?_ GE121001.out|refine Zq ?_ GE121005.out|refine Zq ?_ GE121012.out)|exact HB.out)⟩
                  ·rw[if_neg c44] at H
                   have c44b0:(((Zz y121007 x50_3).f2) == ((Zz l0_0 x37_2).f2))=false:=beq_eq_false_iff_ne.mpr c44
                   have c44b1:(((Zz y121007 x50_3).f2) != ((Zz l0_0 x37_2).f2))=true:=bne_iff_ne.mpr c44
                   have H':=Za H
                   clear H
                   have p121011:0≤(x50_3:Int):=Zd (by with_reducible assumption)
                   have q121011:x50_3<(y121007.length:Int):=Zd (by with_reducible assumption)
                   obtain⟨ad121011,A121011_1,c121011_1,e121011,hx121011_0,hx121011_1,hx121011_2,hl121011_1,hi121011_1⟩:=Zaq HR121010.out x50_3 p121011 q121011
                   obtain rfl:ad121004=ad121011:=(by injection e121011)
                   replace hx121011_0:=(HB.out.cell (Zc w _ hx121011_0)).trans hx121011_0
                   replace hx121011_1:=(HB.out.cell (Zc w _ hx121011_1)).trans hx121011_1
                   replace hx121011_2:=(HB.out.cell (Zc w _ hx121011_2)).trans hx121011_2
                   have HR121011_1:=Za hi121011_1;have HC121011_1:=Za hl121011_1;clear hi121011_1 hl121011_1
                   replace p121011:=eq_true p121011
                   replace q121011:=eq_true q121011
                   go_wp2_with (first|((with_reducible refine ZI (N:=6) rfl ?_);refine ZH ?hg (N:=6) ?hd (cs:=#[.string (⟨#[]⟩:ByteArray),.slice none 0 0,.int .i64 0]) (t:=116) ?hr ?_;(case hd=>rfl);(case hg=>rfl);(case hr=>first|(go_simp;done)|(go_simp;rfl));intro gb121012 hg w51 hbox hb;have n0_:=Za (Zy (g:=gb121001) (o:=.cells #[.slice (some ad121004) l0_0.length c0_0,.slice A0_1 l0_1.length c0_1,.int .i64 a0_2] 35 (0,0)) BK121001.out hb);have n1_:=Za (Zy (g:=gb121005) (o:=.cells #[.string ((Zz l0_0 x37_2).f0),.slice A121004_1 ((Zz l0_0 x37_2).f1).length c121004_1,.int .i64 ((Zz l0_0 x37_2).f2)] 116 (0,0)) BK121005.out hb);have n2_:=Za (Zw (by exact HB.out) hb);have n3_:=Za (hbox);have n4_:=Za ((by rw[hg];exact(Zx (by exact HB.out)):w.heap.size≤gb121012));have n5_:=n4_;have n6_:=Za ((by rw[hg];exact Nat.ne_of_lt (ZO BK121001.out):gb121001≠gb121012));have n7_:=Za n6_.out.symm;have n8_:=Za ((by rw[hg];exact Nat.ne_of_lt (ZO BK121005.out):gb121005≠gb121012));have n9_:=Za n8_.out.symm;clear BK121001;clear BK121005;clear HB;have BK121001:=n0_;have BK121005:=n1_;have HB:=n2_;have BK121012:=n3_;have GW121012:=n4_;have GE121012:=n5_;have NB121001_121012:=n6_;have NB121012_121001:=n7_;have NB121005_121012:=n8_;have NB121012_121005:=n9_;clear n0_ n1_ n2_ n3_ n4_ n5_ n6_ n7_ n8_ n9_;clear hb hbox hg;have hnb52:=NB121012_121001.out;have hnc52:=NB121001_121012.out;have hnb53:=NB121012_121005.out;have hnc53:=NB121005_121012.out;have hcz54_0:w51.cell? ⟨gb121012,0,none⟩=some (.string (⟨#[]⟩:ByteArray)):=(Zs BK121012.out 0).trans rfl;have hcz54_1:w51.cell? ⟨gb121012,1,none⟩=some (.slice none 0 0):=(Zs BK121012.out 1).trans rfl;have hcz54_2:w51.cell? ⟨gb121012,2,none⟩=some (.int .i64 0):=(Zs BK121012.out 2).trans rfl;have hfz54_0:=Zr BK121012.out 0;have hfz54_1:=Zr BK121012.out 1;have hfz54_2:=Zr BK121012.out 2;have hnb55:=NB121005_121001.out;have hnc55:=NB121001_121005.out;have hcz56_0:w51.cell? ⟨gb121005,0,none⟩=some (.string ((Zz l0_0 x37_2).f0)):=(Zs BK121005.out 0).trans rfl;have hcz56_1:w51.cell? ⟨gb121005,1,none⟩=some (.slice A121004_1 ((Zz l0_0 x37_2).f1).length c121004_1):=(Zs BK121005.out 1).trans rfl;have hcz56_2:w51.cell? ⟨gb121005,2,none⟩=some (.int .i64 ((Zz l0_0 x37_2).f2)):=(Zs BK121005.out 2).trans rfl;have hfz56_0:=Zr BK121005.out 0;have hfz56_1:=Zr BK121005.out 1;have hfz56_2:=Zr BK121005.out 2))
                   go_roundg k3
                   case measure=>have:=HJ1.out;have:=HK2.out;have:=HK3.out;omega
                   case rel=>exact⟨(wrap64 (x50_3+1)),(by first|rfl|(simp;done)|(simp[*];done)),H',⟨by have:=HJ1.out;have:=HK2.out;have:=HK3.out;omega⟩,⟨by(with_reducible repeat(first|refine Zp ?_ _|refine Zu ?_|refine Zo ?_ _));refine ZD ?_ NB121001_121012.out _;(with_reducible repeat(first|refine Zp ?_ _|refine Zu ?_|refine Zo ?_ _));refine ZD ?_ NB121001_121012.out _;(with_reducible repeat(first|refine Zp ?_ _|refine Zu ?_|refine Zo ?_ _));refine ZD ?_ NB121001_121012.out _;(with_reducible repeat(first|refine Zp ?_ _|refine Zu ?_|refine Zo ?_ _));exact BK121001.out⟩,⟨by(with_reducible repeat(first|refine Zp ?_ _|refine Zu ?_|refine Zo ?_ _));refine ZD ?_ NB121005_121012.out _;(with_reducible repeat(first|refine Zp ?_ _|refine Zu ?_|refine Zo ?_ _));refine ZD ?_ NB121005_121012.out _;(with_reducible repeat(first|refine Zp ?_ _|refine Zu ?_|refine Zo ?_ _));refine ZD ?_ NB121005_121012.out _;(with_reducible repeat(first|refine Zp ?_ _|refine Zu ?_|refine Zo ?_ _));exact BK121005.out⟩,⟨by repeat(first|(with_reducible first|exact HB.out|apply Zn|apply Zm|apply Zt|refine Zq ?_ GE121001.out|refine Zq ?_ GE121005.out|refine Zq ?_ GE121012.out)|exact HB.out)⟩⟩
               ·rw[if_neg c29] at H
                exact absurd H (by simp)
              ·rw[if_neg c28] at H
               exact absurd H (by simp)
             ·rw[if_neg c27] at H
              have c27b0:decide (x50_3<(y121007.length:Int))=false:=Zf c27
              clear c27
              have H':=Za H
              clear H
              go_wp2
              go_roundg k3
              case measure=>have:=HJ1.out;have:=HK2.out;have:=HK3.out;omega
              case rel=>exact⟨(wrap64 (x37_2+1)),(by first|rfl|(simp;done)|(simp[*];done)),H',⟨by have:=HJ1.out;have:=HK2.out;have:=HK3.out;omega⟩,⟨by(with_reducible repeat(first|refine Zp ?_ _|refine Zu ?_|refine Zo ?_ _));exact BK121001.out⟩,⟨by repeat(first|(with_reducible first|exact HB.out|apply Zn|apply Zm|apply Zt|refine Zq ?_ GE121001.out|refine Zq ?_ GE121005.out)|exact HB.out)⟩⟩
          ·rw[if_neg c20] at H
           exact absurd H (by simp)
         ·replace c18:=Bool.eq_false_iff.mpr c18
          subst c18
          have H1:(some false)=some r:=by rw[if_neg (show ¬(false=true) by decide)] at H;exact H
          clear H
          have H:=H1
          clear H1
          obtain rfl:=Zg H
          have p121004:0≤(x37_2:Int):=Zd (by with_reducible assumption)
          have q121004:x37_2<(l0_0.length:Int):=Zd (by with_reducible assumption)
          obtain⟨ad121004,A121004_1,c121004_1,e121004,hx121004_0,hx121004_1,hx121004_2,hl121004_1,hi121004_1⟩:=Zaq HR0_0.out x37_2 p121004 q121004
          cases e121004
          replace hx121004_0:=(HB.out.cell (Zc w _ hx121004_0)).trans hx121004_0
          replace hx121004_1:=(HB.out.cell (Zc w _ hx121004_1)).trans hx121004_1
          replace hx121004_2:=(HB.out.cell (Zc w _ hx121004_2)).trans hx121004_2
          have HR121004_1:=Za hi121004_1;have HC121004_1:=Za hl121004_1;clear hi121004_1 hl121004_1
          replace p121004:=eq_true p121004
          replace q121004:=eq_true q121004
          go_wp2_with (first|((with_reducible refine ZI (N:=4) rfl ?_);refine ZH ?hg (N:=4) ?hd (cs:=#[.string (⟨#[]⟩:ByteArray),.slice none 0 0,.int .i64 0]) (t:=116) ?hr ?_;(case hd=>rfl);(case hg=>rfl);(case hr=>first|(go_simp;done)|(go_simp;rfl));intro gb121005 hg w57 hbox hb;have n0_:=Za (Zy (g:=gb121001) (o:=.cells #[.slice (some ad121004) l0_0.length c0_0,.slice A0_1 l0_1.length c0_1,.int .i64 a0_2] 35 (0,0)) BK121001.out hb);have n1_:=Za (Zw (by exact HB.out) hb);have n2_:=Za (hbox);have n3_:=Za ((by rw[hg];exact(Zx (by exact HB.out)):w.heap.size≤gb121005));have n4_:=n3_;have n5_:=Za ((by rw[hg];exact Nat.ne_of_lt (ZO BK121001.out):gb121001≠gb121005));have n6_:=Za n5_.out.symm;clear BK121001;clear HB;have BK121001:=n0_;have HB:=n1_;have BK121005:=n2_;have GW121005:=n3_;have GE121005:=n4_;have NB121001_121005:=n5_;have NB121005_121001:=n6_;clear n0_ n1_ n2_ n3_ n4_ n5_ n6_;clear hb hbox hg;have hnb58:=NB121005_121001.out;have hnc58:=NB121001_121005.out;have hcz59_0:w57.cell? ⟨gb121005,0,none⟩=some (.string (⟨#[]⟩:ByteArray)):=(Zs BK121005.out 0).trans rfl;have hcz59_1:w57.cell? ⟨gb121005,1,none⟩=some (.slice none 0 0):=(Zs BK121005.out 1).trans rfl;have hcz59_2:w57.cell? ⟨gb121005,2,none⟩=some (.int .i64 0):=(Zs BK121005.out 2).trans rfl;have hfz59_0:=Zr BK121005.out 0;have hfz59_1:=Zr BK121005.out 1;have hfz59_2:=Zr BK121005.out 2)|((with_reducible refine ZG (f:=157) rfl ?_);refine ZQ (some 43) rfl rfl Try.func157 (by kernel_rfl) rfl #[.agg #[.string ((Zz l0_0 x37_2).f0),.slice A121004_1 ((Zz l0_0 x37_2).f1).length c121004_1,.int .i64 ((Zz l0_0 x37_2).f2)]] rfl (by(try simp only[List.map_toArray,List.map_cons,List.map_nil]);first|done|rfl|(simp only[Zk,Zj];rfl)) ?_;(with_reducible refine(ZbO.calls k2 ((Zz l0_0 x37_2).f0) _ _ ((Zz l0_0 x37_2).f1) ((Zz l0_0 x37_2).f2) false _ ?side1 ?side2 A17.out).mono ?_);(case side1=>exact Zb HR121004_1.out (by repeat(first|(with_reducible first|exact HB.out|apply Zn|apply Zm|apply Zt|refine Zq ?_ GE121001.out|refine Zq ?_ GE121005.out)|exact HB.out)));(case side2=>exact HC121004_1.out);rintro e w60 ⟨rfl,hb⟩;refine⟨_,rfl,?_⟩;replace BK121001:=Za (Zy (g:=gb121001) (o:=.cells #[.slice (some ad121004) l0_0.length c0_0,.slice A0_1 l0_1.length c0_1,.int .i64 a0_2] 35 (0,0)) (by(with_reducible repeat(first|refine Zp ?_ _|refine Zu ?_|refine Zo ?_ _));refine ZD ?_ NB121001_121005.out _;(with_reducible repeat(first|refine Zp ?_ _|refine Zu ?_|refine Zo ?_ _));refine ZD ?_ NB121001_121005.out _;(with_reducible repeat(first|refine Zp ?_ _|refine Zu ?_|refine Zo ?_ _));refine ZD ?_ NB121001_121005.out _;(with_reducible repeat(first|refine Zp ?_ _|refine Zu ?_|refine Zo ?_ _));exact BK121001.out) hb);replace BK121005:=Za (Zy (g:=gb121005) (o:=.cells #[.string ((Zz l0_0 x37_2).f0),.slice A121004_1 ((Zz l0_0 x37_2).f1).length c121004_1,.int .i64 ((Zz l0_0 x37_2).f2)] 116 (0,0)) (by(with_reducible repeat(first|refine Zp ?_ _|refine Zu ?_|refine Zo ?_ _));refine ZL (cs:=#[.string ((Zz l0_0 x37_2).f0),.slice A121004_1 ((Zz l0_0 x37_2).f1).length c121004_1,.int .i64 0]) ?_ 2 _ rfl;(with_reducible repeat(first|refine Zp ?_ _|refine Zu ?_|refine Zo ?_ _));refine ZL (cs:=#[.string ((Zz l0_0 x37_2).f0),.slice none 0 0,.int .i64 0]) ?_ 1 _ rfl;(with_reducible repeat(first|refine Zp ?_ _|refine Zu ?_|refine Zo ?_ _));refine ZL (cs:=#[.string (⟨#[]⟩:ByteArray),.slice none 0 0,.int .i64 0]) ?_ 0 _ rfl;(with_reducible repeat(first|refine Zp ?_ _|refine Zu ?_|refine Zo ?_ _));exact BK121005.out) hb);replace HB:=Za (Zw (by repeat(first|(with_reducible first|exact HB.out|apply Zn|apply Zm|apply Zt|refine Zq ?_ GE121001.out|refine Zq ?_ GE121005.out)|exact HB.out)) hb);(try clear hb);(try clear hb2);(try clear hk);(try clear hi)))
          go_ret
          exact⟨by first|rfl|(simp[ZB,ZA] <;> rfl)|(simp[*,ZB,ZA] <;> rfl),by repeat(first|(with_reducible first|exact HB.out|apply Zn|apply Zm|apply Zt|refine Zq ?_ GE121001.out|refine Zq ?_ GE121005.out)|exact HB.out)⟩
        ·rw[if_neg c16] at H
         exact absurd H (by simp)
       ·rw[if_neg c15] at H
        exact absurd H (by simp)
      ·rw[if_neg c14] at H
       have c14b0:decide (x37_2<(l0_0.length:Int))=false:=Zf c14
       clear c14
       obtain rfl:=Zg H
       go_wp2
       go_ret
       exact⟨by first|rfl|(simp[ZB,ZA] <;> rfl)|(simp[*,ZB,ZA] <;> rfl),by repeat(first|(with_reducible first|exact HB.out|apply Zn|apply Zm|apply Zt|refine Zq ?_ GE121001.out)|exact HB.out)⟩
end Go.Proofs.Ytodfnelilhjoeaa.Pr
namespace Go.Proofs.Ytodfnelilhjoeaa.Pr
open Go.RowKit Go.Proofs.YtodfnelilhjoeaaW.PrintWords Go.Proofs.Ytodfnelilhjoeaa.Ni
def ZbX (n m:ZZ):Bool:=!(decide (m.f0.toList=n.f0.toList)) && (decide (n.f2=0) || !(decide (m.f2=n.f2)))
def Zcb (ns:List ZZ) (i:Nat):Bool:=Zcf (ns.getD i z116).f0 (ns.getD i z116).f1 (ns.getD i z116).f2 && (ns.take i).all (ZbX (ns.getD i z116))
def Zbn (ns:List ZZ) (i:Nat):Nat→Bool
 | 0=>true
 | d+1=>Zcb ns i && Zbn ns (i+1) d
def ZaZ (ns:List ZZ):Bool:=decide (1≤ns.length) && decide (ns.length≤7) && decide ((ns.getD 0 z116).f1.length=0) && decide ((ns.getD 0 z116).f2=0) && Zbn ns 0 ns.length
theorem nodesFrom_step {ns:List ZZ} {i:Nat} (h:i<ns.length):Zbn ns i (ns.length - i)=(Zcb ns i && Zbn ns (i+1) (ns.length - (i+1))):=by
 rw[show ns.length - i=(ns.length - (i+1))+1 by omega];rfl
theorem areNodes_l1 (ns:List ZZ) (ts:List PTie) (z:Int) (i:Nat) (hi:i<ns.length) (h7:ns.length≤7) (K:Nat) (R:Option Bool) (s:ByteArray) (lb:List Int) (p:Int)
  (hR:∀k,K≤k→ZN.l0 k ns ns.length (wrap64 ((i:Int)+1)) ns ts z=R) :
  ∀k,K+8<k→ZN.l1 k ns ns.length i (ns.take i) (ns.take i).length 0 ns ts z s lb p=if (ns.take i).all (ZbX ⟨s,lb,p⟩)=true then R else some false:=by
 intro k hk
 have hlen:(ns.take i).length=i:=by rw[Zj];omega
 have key:=ZaC (ns.take i).length (fun k j=>ZN.l1 k ns ns.length i (ns.take i) (ns.take i).length (j:Int) ns ts z s lb p=if ((ns.take i).drop j).all (ZbX ⟨s,lb,p⟩)=true then R else some false) K
  (fun k hk=>by
   simp only[ZN.l1]
   rw[if_neg (by omega),hR k hk,List.drop_of_length_le (Nat.le_refl _),List.all_nil,if_pos rfl])
  (fun k j hk hj ih=>by
   simp only[ZN.l1]
   rw[if_pos (by omega),if_pos (by omega),if_pos (by omega),Zbz,Z6 hj (by omega),ih,ZaE hj z116,List.all_cons]
   generalize (ns.take i).getD j z116=m
   by_cases h1:m.f0.toList=s.toList
   ·rw[if_pos h1,show ZbX ⟨s,lb,p⟩ m=false by simp[ZbX,h1]];rfl
   ·rw[if_neg h1]
    by_cases h2:p=0
    ·rw[if_pos h2,show ZbX ⟨s,lb,p⟩ m=true by simp[ZbX,h1,h2],Bool.true_and]
    ·rw[if_neg h2]
     by_cases h3:m.f2=p
     ·rw[if_pos h3,show ZbX ⟨s,lb,p⟩ m=false by simp[ZbX,h2,h3]];rfl
     ·rw[if_neg h3,show ZbX ⟨s,lb,p⟩ m=true by simp[ZbX,h1,h3],Bool.true_and]) 0 k (Nat.zero_le _) (by omega)
 simpa using key
theorem areNodes_l0 (ns:List ZZ) (ts:List PTie) (z:Int) (h7:ns.length≤7) (hb:∀n∈ns,n.f0.size≤9223372036854775807∧n.f1.length≤9223372036854775807) :
  ∀(d i k:Nat),i+d=ns.length→2 ^ 64+10 * d<k→ZN.l0 k ns ns.length (i:Int) ns ts z=some (Zbn ns i d):=by
 intro d
 induction d with
 | zero=>
  intro i k hi hk
  obtain⟨m,rfl⟩:∃m,k=m+1:=⟨k - 1,by omega⟩
  simp only[ZN.l0]
  rw[if_neg (by omega)];rfl
 | succ d ih=>
  intro i k hi hk
  obtain⟨m,rfl⟩:∃m,k=m+1:=⟨k - 1,by omega⟩
  have hlt:i<ns.length:=by omega
  simp only[ZN.l0]
  have hm:=hb _ (Zbr hlt z116)
  rw[if_pos (by omega),if_pos (by omega),if_pos (by omega),Zbz,Zex _ _ _ hm.1 hm.2 m (by omega),Zi]
  show(if _ then _ else _)=some (Zcb ns i && Zbn ns (i+1) d)
  unfold Zcb
  cases hn:Zcf (ns.getD i z116).f0 (ns.getD i z116).f1 (ns.getD i z116).f2 with
  | false=>rfl
  | true=>
   rw[if_pos rfl,if_pos (by omega),Zi,Int.toNat_natCast]
   rw[areNodes_l1 ns ts z i hlt h7 (2 ^ 64+10 * d+1) (some (Zbn ns (i+1) d)) _ _ _ (fun k hk=>by rw[Z6 hlt (by omega)];exact ih (i+1) k (by omega) (by omega)) m (by omega)]
   cases (ns.take i).all (ZbX (ns.getD i z116)) <;> rfl
theorem areNodes_f (ns:List ZZ) (ts:List PTie) (z:Int) (hb:∀n∈ns,n.f0.size≤9223372036854775807∧n.f1.length≤9223372036854775807) (k:Nat) (hk:2 ^ 65≤k):ZN.f k ns ts z=some (ZaZ ns):=by
 obtain⟨m,rfl⟩:∃m,k=m+1:=⟨k - 1,by omega⟩
 unfold ZN.f ZaZ
 by_cases h1:(ns.length:Int)<1
 ·rw[if_pos h1,Zf (show ¬1≤ns.length by omega)]
  simp[ZN.j0]
 ·rw[if_neg h1,Ze (show 1≤ns.length by omega)]
  by_cases h2:(ns.length:Int) > 7
  ·rw[if_pos h2,Zf (show ¬ns.length≤7 by omega)]
   simp[ZN.j0]
  ·rw[if_neg h2,if_pos (by omega),Ze (show ns.length≤7 by omega)]
   have e0:Zz ns 0=ns.getD 0 z116:=rfl
   rw[e0]
   by_cases h3:((ns.getD 0 z116).f1.length:Int) > 0
   ·rw[if_pos h3,Zf (show ¬(ns.getD 0 z116).f1.length=0 by omega)]
    simp[ZN.j0]
   ·rw[if_neg h3,Ze (show(ns.getD 0 z116).f1.length=0 by omega)]
    by_cases h4:(ns.getD 0 z116).f2=0
    ·rw[Ze h4,show((ns.getD 0 z116).f2 != 0)=false by rw[h4];rfl]
     simp only[ZN.j0,Bool.false_eq_true,if_false]
     have:=areNodes_l0 ns ts z (by omega) hb ns.length 0 m (by omega) (by omega)
     rw[show((0:Nat):Int)=0 from rfl] at this
     rw[this];rfl
    ·rw[Zf h4,show((ns.getD 0 z116).f2 != 0)=true by rw[bne_iff_ne];exact h4]
     simp[ZN.j0]
theorem ZcV:∀(l:List Int) (p:Int),Zb2 p l=true→∀x∈l,Zbc x=true
 | [],_,_,x,hx=>by simp at hx
 | y :: l,p,h,x,hx=>by
  unfold Zb2 at h
  simp only[Bool.and_eq_true] at h
  rcases List.mem_cons.1 hx with rfl|hx
  ·exact h.1.1
  ·exact ZcV l _ h.2 x hx
theorem Zdl {ns:List ZZ}:∀(d i:Nat),Zbn ns i d=true→∀j,i≤j→j<i+d→Zcb ns j=true
 | 0,i,_,j,h1,h2=>by omega
 | d+1,i,h,j,h1,h2=>by
  rw[Zbn,Bool.and_eq_true] at h
  by_cases e:j=i
  ·rw[e];exact h.1
  ·exact Zdl d (i+1) h.2 j (by omega) (by omega)
theorem Zdr {ns:List ZZ} (h:ZaZ ns=true):∀j,j<ns.length→Zcb ns j=true:=by
 unfold ZaZ at h
 rw[Bool.and_eq_true] at h
 exact fun j hj=>Zdl _ _ h.2 j (Nat.zero_le _) (by omega)
theorem Zcy {ns:List ZZ} (h:ZaZ ns=true):∀n∈ns,∀x∈n.f1,Zbc x=true:=by
 intro n hn x hx
 obtain⟨j,hj,rfl⟩:=List.mem_iff_getElem.1 hn
 have:=Zdr h j hj
 unfold Zcb Zcf labB at this
 rw[show ns.getD j z116=ns[j] by rw[List.getD_eq_getElem?_getD,Zl hj];rfl] at this
 simp only[Bool.and_eq_true] at this
 exact ZcV _ _ this.1.1.2 x hx
end Go.Proofs.Ytodfnelilhjoeaa.Pr
namespace Go.Proofs.Ytodfnelilhjoeaa.Pr
open Go.RowKit Go.Proofs.YtodfnelilhjoeaaW.PrintWords Go.Proofs.YtodfnelilhjoeaaW.PrintLast Go.Proofs.YtodfnelilhjoeaaW.PrintMore
attribute [local go_sem] Zac Zaa Zam Zal Z5 Z4 Zab Z9
set_option linter.unusedVariables false
set_option linter.unusedSimpArgs false
def Z0.l0:Nat→Int→List (S90)→Int→Int→Option (Int)
 | 0,_,_,_,_=>none
 | k+1,x1,x8,x9,x10=>if x10<x9 then(if 0≤x10 then(if x10<(x8.length:Int) then(if (Zv x8 x10).f4=true then(if ((Zv x8 x10).f1)=x1 then(some x10) else(Z0.l0 k x1 x8 x9 (wrap64 (x10+1)))) else(Z0.l0 k x1 x8 x9 (wrap64 (x10+1)))) else(none)) else(none)) else(some (-1))
def Z0.f (k:Nat) (l0_0:List (S116)) (l0_1:List (S90)) (a0_2:Int) (a1:Int):Option (Int):=Z0.l0 k a1 l0_1 (l0_1.length:Int) 0
set_option maxHeartbeats 8000000 in
set_option maxRecDepth 100000 in
theorem Z0.calls (k:Nat) (A0_0:Option Addr) (c0_0:Nat) (l0_0:List (S116)) (A0_1:Option Addr) (c0_1:Nat) (l0_1:List (S90)) (a0_2:Int) (a1:Int) (r:Int) (w:World) (hr0_0:Kd.C k116 w A0_0 l0_0.length l0_0) (hc0_0:l0_0.length≤c0_0) (hr0_1:Kd.C k90 w A0_1 l0_1.length l0_1) (hc0_1:l0_1.length≤c0_1) (h:Z0.f k l0_0 l0_1 a0_2 a1=some r) :
  Calls Try.prog 76 #[.agg #[.slice A0_0 l0_0.length c0_0,.slice A0_1 l0_1.length c0_1,.int .i64 a0_2],.int .i64 a1] w fun e w'=>e=.returned (.int .i64 r)∧Below w.heap.size w w':=by
 have hu35:=Try.underlying35
 have hu90:=Try.underlying90
 have HR0_0:=Za hr0_0;have HC0_0:=Za hc0_0;clear hr0_0 hc0_0;have HR0_1:=Za hr0_1;have HC0_1:=Za hc0_1;clear hr0_1 hc0_1
 have HB:=Za (Below.refl w.heap.size w)
 have H:(Z0.l0 k a1 l0_1 (l0_1.length:Int) 0)=some r:=h
 clear h
 have H':=Za H
 clear H
 go_enter Try.func76,Try.ntmps76
 go_wp2_with (first|((with_reducible refine ZI (N:=2) rfl ?_);refine ZH ?hg (N:=2) ?hd (cs:=#[.slice A0_0 l0_0.length c0_0,.slice A0_1 l0_1.length c0_1,.int .i64 a0_2]) (t:=35) ?hr ?_;(case hd=>rfl);(case hg=>rfl);(case hr=>first|(go_simp;done)|(go_simp;rfl));intro gb76001 hg w3 hbox hb;have BK76001:=Za (hbox);have GW76001:=Za ((by rw[hg];exact(Zx (by exact HB.out)):w.heap.size≤gb76001));have GE76001:=Za ((by rw[hg];exact(Zx (by exact HB.out)):w.heap.size≤gb76001));replace HB:=Za (Zw (by exact HB.out) hb);clear hb hbox hg;have hcz4_0:w3.cell? ⟨gb76001,0,none⟩=some (.slice A0_0 l0_0.length c0_0):=(Zs BK76001.out 0).trans rfl;have hcz4_1:w3.cell? ⟨gb76001,1,none⟩=some (.slice A0_1 l0_1.length c0_1):=(Zs BK76001.out 1).trans rfl;have hcz4_2:w3.cell? ⟨gb76001,2,none⟩=some (.int .i64 a0_2):=(Zs BK76001.out 2).trans rfl;have hfz4_0:=Zr BK76001.out 0;have hfz4_1:=Zr BK76001.out 1;have hfz4_2:=Zr BK76001.out 2))
 go_loopg [10] k (fun kq v10 w'=>∃(x10_1:Int),v10=.int .i64 x10_1∧Aside0 (Z0.l0 kq a1 l0_1 (l0_1.length:Int) x10_1=some r)∧Aside0 (kq≤k)∧Aside0 (w'.heap[gb76001]? = some (.cells #[(.slice A0_0 l0_0.length c0_0),(.slice A0_1 l0_1.length c0_1),.int .i64 a0_2] 35 (0,0)))∧Aside0 (Below w.heap.size w w'))
 case atStart=>exact⟨(0),(by first|rfl|(simp;done)|(simp[*];done)),H',⟨Nat.le_refl _⟩,⟨by(with_reducible repeat(first|refine Zp ?_ _|refine Zu ?_|refine Zo ?_ _));exact BK76001.out⟩,⟨by repeat(first|(with_reducible first|exact HB.out|apply Zn|apply Zm|apply Zt|refine Zq ?_ GE76001.out)|exact HB.out)⟩⟩
 case round=>
  clear H'
  try clear p2
  try clear hcz4_0
  try clear hcz4_1
  try clear hcz4_2
  try clear hfz4_0
  try clear hfz4_1
  try clear hfz4_2
  obtain⟨x10_1,rfl,HA,HK1,BK76001,HB⟩:=hrel
  cases gk with
  | zero=>exact absurd HA.out (by simp[Z0.l0])
  | succ k1=>
   have H:=HA.out
   clear HA
   simp only[Z0.l0] at H
   by_cases c5:x10_1<(l0_1.length:Int)
   ·rw[if_pos c5] at H
    have c5b0:decide (x10_1<(l0_1.length:Int))=true:=Ze c5
    clear c5
    by_cases c6:0≤x10_1
    ·rw[if_pos c6] at H
     have c6b0:decide (0≤x10_1)=true:=Ze c6
     clear c6
     by_cases c7:x10_1<(l0_1.length:Int)
     ·rw[if_pos c7] at H
      have c7b0:decide (x10_1<(l0_1.length:Int))=true:=Ze c7
      clear c7
      obtain⟨bq8,hbq8⟩:∃b_:Bool,b_=((Zv l0_1 x10_1).f4):=⟨_,rfl⟩
      replace H:(if bq8=true then(if ((Zv l0_1 x10_1).f1)=a1 then(some x10_1) else(Z0.l0 k1 a1 l0_1 (l0_1.length:Int) (wrap64 (x10_1+1)))) else(Z0.l0 k1 a1 l0_1 (l0_1.length:Int) (wrap64 (x10_1+1))))=some r:=by rw[← hbq8] at H;exact H
      have Nbq8:=Za hbq8;clear hbq8
      by_cases c9:bq8=true
      ·subst c9
       rw[if_pos rfl] at H
       by_cases c10:((Zv l0_1 x10_1).f1)=a1
       ·rw[if_pos c10] at H
        have c10b0:(((Zv l0_1 x10_1).f1) == a1)=true:=beq_iff_eq.mpr c10
        clear c10
        obtain rfl:=Zg H
        have p76002:0≤(x10_1:Int):=Zd (by with_reducible assumption)
        have q76002:x10_1<(l0_1.length:Int):=Zd (by with_reducible assumption)
        obtain⟨ad76002,e76002,hx76002_0,hx76002_1,hx76002_2,hx76002_3,hx76002_4⟩:=ZaH HR0_1.out x10_1 p76002 q76002
        (try rw[← Nbq8.out] at hx76002_4)
        cases e76002
        replace hx76002_0:=(HB.out.cell (Zc w _ hx76002_0)).trans hx76002_0
        replace hx76002_1:=(HB.out.cell (Zc w _ hx76002_1)).trans hx76002_1
        replace hx76002_2:=(HB.out.cell (Zc w _ hx76002_2)).trans hx76002_2
        replace hx76002_3:=(HB.out.cell (Zc w _ hx76002_3)).trans hx76002_3
        replace hx76002_4:=(HB.out.cell (Zc w _ hx76002_4)).trans hx76002_4
        replace p76002:=eq_true p76002
        replace q76002:=eq_true q76002
        go_wp2_with (first|((with_reducible refine ZI (N:=6) rfl ?_);refine ZH ?hg (N:=6) ?hd (cs:=#[.int .i64 0,.int .i64 0,.int .i64 0,.int .i64 0,.bool false]) (t:=90) ?hr ?_;(case hd=>rfl);(case hg=>rfl);(case hr=>first|(go_simp;done)|(go_simp;rfl));intro gb76003 hg w11 hbox hb;have n0_:=Za (Zy BK76001.out hb);have n1_:=Za (Zw (by exact HB.out) hb);have n2_:=Za (hbox);have n3_:=Za ((by rw[hg];exact(Zx (by exact HB.out)):w.heap.size≤gb76003));have n4_:=n3_;have n5_:=Za ((by rw[hg];exact Nat.ne_of_lt (ZO BK76001.out):gb76001≠gb76003));have n6_:=Za n5_.out.symm;clear BK76001;clear HB;have BK76001:=n0_;have HB:=n1_;have BK76003:=n2_;have GW76003:=n3_;have GE76003:=n4_;have NB76001_76003:=n5_;have NB76003_76001:=n6_;clear n0_ n1_ n2_ n3_ n4_ n5_ n6_;clear hb hbox hg;have hcz13_0:w11.cell? ⟨gb76003,0,none⟩=some (.int .i64 0):=(Zs BK76003.out 0).trans rfl;have hcz13_1:w11.cell? ⟨gb76003,1,none⟩=some (.int .i64 0):=(Zs BK76003.out 1).trans rfl;have hcz13_2:w11.cell? ⟨gb76003,2,none⟩=some (.int .i64 0):=(Zs BK76003.out 2).trans rfl;have hcz13_3:w11.cell? ⟨gb76003,3,none⟩=some (.int .i64 0):=(Zs BK76003.out 3).trans rfl;have hcz13_4:w11.cell? ⟨gb76003,4,none⟩=some (.bool false):=(Zs BK76003.out 4).trans rfl;have hfz13_0:=Zr BK76003.out 0;have hfz13_1:=Zr BK76003.out 1;have hfz13_2:=Zr BK76003.out 2;have hfz13_3:=Zr BK76003.out 3;have hfz13_4:=Zr BK76003.out 4))
        go_ret
        exact⟨by first|rfl|(simp[ZB,ZA] <;> rfl)|(simp[*,ZB,ZA] <;> rfl),by repeat(first|(with_reducible first|exact HB.out|apply Zn|apply Zm|apply Zt|refine Zq ?_ GE76001.out|refine Zq ?_ GE76003.out)|exact HB.out)⟩
       ·rw[if_neg c10] at H
        have c10b0:(((Zv l0_1 x10_1).f1) == a1)=false:=beq_eq_false_iff_ne.mpr c10
        have H':=Za H
        clear H
        have p76002:0≤(x10_1:Int):=Zd (by with_reducible assumption)
        have q76002:x10_1<(l0_1.length:Int):=Zd (by with_reducible assumption)
        obtain⟨ad76002,e76002,hx76002_0,hx76002_1,hx76002_2,hx76002_3,hx76002_4⟩:=ZaH HR0_1.out x10_1 p76002 q76002
        (try rw[← Nbq8.out] at hx76002_4)
        cases e76002
        replace hx76002_0:=(HB.out.cell (Zc w _ hx76002_0)).trans hx76002_0
        replace hx76002_1:=(HB.out.cell (Zc w _ hx76002_1)).trans hx76002_1
        replace hx76002_2:=(HB.out.cell (Zc w _ hx76002_2)).trans hx76002_2
        replace hx76002_3:=(HB.out.cell (Zc w _ hx76002_3)).trans hx76002_3
        replace hx76002_4:=(HB.out.cell (Zc w _ hx76002_4)).trans hx76002_4
        replace p76002:=eq_true p76002
        replace q76002:=eq_true q76002
        go_wp2_with (first|((with_reducible refine ZI (N:=6) rfl ?_);refine ZH ?hg (N:=6) ?hd (cs:=#[.int .i64 0,.int .i64 0,.int .i64 0,.int .i64 0,.bool false]) (t:=90) ?hr ?_;(case hd=>rfl);(case hg=>rfl);(case hr=>first|(go_simp;done)|(go_simp;rfl));intro gb76003 hg w14 hbox hb;have n0_:=Za (Zy BK76001.out hb);have n1_:=Za (Zw (by exact HB.out) hb);have n2_:=Za (hbox);have n3_:=Za ((by rw[hg];exact(Zx (by exact HB.out)):w.heap.size≤gb76003));have n4_:=n3_;have n5_:=Za ((by rw[hg];exact Nat.ne_of_lt (ZO BK76001.out):gb76001≠gb76003));have n6_:=Za n5_.out.symm;clear BK76001;clear HB;have BK76001:=n0_;have HB:=n1_;have BK76003:=n2_;have GW76003:=n3_;have GE76003:=n4_;have NB76001_76003:=n5_;have NB76003_76001:=n6_;clear n0_ n1_ n2_ n3_ n4_ n5_ n6_;clear hb hbox hg;have hcz16_0:w14.cell? ⟨gb76003,0,none⟩=some (.int .i64 0):=(Zs BK76003.out 0).trans rfl;have hcz16_1:w14.cell? ⟨gb76003,1,none⟩=some (.int .i64 0):=(Zs BK76003.out 1).trans rfl;have hcz16_2:w14.cell? ⟨gb76003,2,none⟩=some (.int .i64 0):=(Zs BK76003.out 2).trans rfl;have hcz16_3:w14.cell? ⟨gb76003,3,none⟩=some (.int .i64 0):=(Zs BK76003.out 3).trans rfl;have hcz16_4:w14.cell? ⟨gb76003,4,none⟩=some (.bool false):=(Zs BK76003.out 4).trans rfl;have hfz16_0:=Zr BK76003.out 0;have hfz16_1:=Zr BK76003.out 1;have hfz16_2:=Zr BK76003.out 2;have hfz16_3:=Zr BK76003.out 3;have hfz16_4:=Zr BK76003.out 4))
        go_roundg k1
        case measure=>have:=HK1.out;omega
        case rel=>exact⟨(wrap64 (x10_1+1)),(by first|rfl|(simp;done)|(simp[*];done)),H',⟨by have:=HK1.out;omega⟩,⟨by(with_reducible repeat(first|refine Zp ?_ _|refine Zu ?_|refine Zo ?_ _));refine ZD ?_ NB76001_76003.out _;(with_reducible repeat(first|refine Zp ?_ _|refine Zu ?_|refine Zo ?_ _));refine ZD ?_ NB76001_76003.out _;(with_reducible repeat(first|refine Zp ?_ _|refine Zu ?_|refine Zo ?_ _));refine ZD ?_ NB76001_76003.out _;(with_reducible repeat(first|refine Zp ?_ _|refine Zu ?_|refine Zo ?_ _));refine ZD ?_ NB76001_76003.out _;(with_reducible repeat(first|refine Zp ?_ _|refine Zu ?_|refine Zo ?_ _));refine ZD ?_ NB76001_76003.out _;(with_reducible repeat(first|refine Zp ?_ _|refine Zu ?_|refine Zo ?_ _));exact BK76001.out⟩,⟨by repeat(first|(with_reducible first|exact HB.out|apply Zn|apply Zm|apply Zt|refine Zq ?_ GE76001.out|refine Zq ?_ GE76003.out)|exact HB.out)⟩⟩
      ·replace c9:=Bool.eq_false_iff.mpr c9
       subst c9
       have H1:(Z0.l0 k1 a1 l0_1 (l0_1.length:Int) (wrap64 (x10_1+1)))=some r:=by rw[if_neg (show ¬(false=true) by decide)] at H;exact H
       clear H
       have H:=H1
       clear H1
       have H':=Za H
       clear H
       have p76002:0≤(x10_1:Int):=Zd (by with_reducible assumption)
       have q76002:x10_1<(l0_1.length:Int):=Zd (by with_reducible assumption)
       obtain⟨ad76002,e76002,hx76002_0,hx76002_1,hx76002_2,hx76002_3,hx76002_4⟩:=ZaH HR0_1.out x10_1 p76002 q76002
       (try rw[← Nbq8.out] at hx76002_4)
       cases e76002
       replace hx76002_0:=(HB.out.cell (Zc w _ hx76002_0)).trans hx76002_0
       replace hx76002_1:=(HB.out.cell (Zc w _ hx76002_1)).trans hx76002_1
       replace hx76002_2:=(HB.out.cell (Zc w _ hx76002_2)).trans hx76002_2
       replace hx76002_3:=(HB.out.cell (Zc w _ hx76002_3)).trans hx76002_3
       replace hx76002_4:=(HB.out.cell (Zc w _ hx76002_4)).trans hx76002_4
       replace p76002:=eq_true p76002
       replace q76002:=eq_true q76002
       go_wp2_with (first|((with_reducible refine ZI (N:=6) rfl ?_);refine ZH ?hg (N:=6) ?hd (cs:=#[.int .i64 0,.int .i64 0,.int .i64 0,.int .i64 0,.bool false]) (t:=90) ?hr ?_;(case hd=>rfl);(case hg=>rfl);(case hr=>first|(go_simp;done)|(go_simp;rfl));intro gb76003 hg w17 hbox hb;have n0_:=Za (Zy BK76001.out hb);have n1_:=Za (Zw (by exact HB.out) hb);have n2_:=Za (hbox);have n3_:=Za ((by rw[hg];exact(Zx (by exact HB.out)):w.heap.size≤gb76003));have n4_:=n3_;have n5_:=Za ((by rw[hg];exact Nat.ne_of_lt (ZO BK76001.out):gb76001≠gb76003));have n6_:=Za n5_.out.symm;clear BK76001;clear HB;have BK76001:=n0_;have HB:=n1_;have BK76003:=n2_;have GW76003:=n3_;have GE76003:=n4_;have NB76001_76003:=n5_;have NB76003_76001:=n6_;clear n0_ n1_ n2_ n3_ n4_ n5_ n6_;clear hb hbox hg;have hcz19_0:w17.cell? ⟨gb76003,0,none⟩=some (.int .i64 0):=(Zs BK76003.out 0).trans rfl;have hcz19_1:w17.cell? ⟨gb76003,1,none⟩=some (.int .i64 0):=(Zs BK76003.out 1).trans rfl;have hcz19_2:w17.cell? ⟨gb76003,2,none⟩=some (.int .i64 0):=(Zs BK76003.out 2).trans rfl;have hcz19_3:w17.cell? ⟨gb76003,3,none⟩=some (.int .i64 0):=(Zs BK76003.out 3).trans rfl;have hcz19_4:w17.cell? ⟨gb76003,4,none⟩=some (.bool false):=(Zs BK76003.out 4).trans rfl;have hfz19_0:=Zr BK76003.out 0;have hfz19_1:=Zr BK76003.out 1;have hfz19_2:=Zr BK76003.out 2;have hfz19_3:=Zr BK76003.out 3;have hfz19_4:=Zr BK76003.out 4))
       go_roundg k1
       case measure=>have:=HK1.out;omega
       case rel=>exact⟨(wrap64 (x10_1+1)),(by first|rfl|(simp;done)|(simp[*];done)),H',⟨by have:=HK1.out;omega⟩,⟨by(with_reducible repeat(first|refine Zp ?_ _|refine Zu ?_|refine Zo ?_ _));refine ZD ?_ NB76001_76003.out _;(with_reducible repeat(first|refine Zp ?_ _|refine Zu ?_|refine Zo ?_ _));refine ZD ?_ NB76001_76003.out _;(with_reducible repeat(first|refine Zp ?_ _|refine Zu ?_|refine Zo ?_ _));refine ZD ?_ NB76001_76003.out _;(with_reducible repeat(first|refine Zp ?_ _|refine Zu ?_|refine Zo ?_ _));refine ZD ?_ NB76001_76003.out _;(with_reducible repeat(first|refine Zp ?_ _|refine Zu ?_|refine Zo ?_ _));refine ZD ?_ NB76001_76003.out _;(with_reducible repeat(first|refine Zp ?_ _|refine Zu ?_|refine Zo ?_ _));exact BK76001.out⟩,⟨by repeat(first|(with_reducible first|exact HB.out|apply Zn|apply Zm|apply Zt|refine Zq ?_ GE76001.out|refine Zq ?_ GE76003.out)|exact HB.out)⟩⟩
     ·rw[if_neg c7] at H
      exact absurd H (by simp)
    ·rw[if_neg c6] at H
     exact absurd H (by simp)
   ·rw[if_neg c5] at H
    have c5b0:decide (x10_1<(l0_1.length:Int))=false:=Zf c5
    clear c5
    obtain rfl:=Zg H
    go_wp2
    go_ret
    exact⟨by first|rfl|(simp[ZB,ZA] <;> rfl)|(simp[*,ZB,ZA] <;> rfl),by repeat(first|(with_reducible first|exact HB.out|apply Zn|apply Zm|apply Zt|refine Zq ?_ GE76001.out)|exact HB.out)⟩
def Zan.l0:Nat→Int→List (S116)→Int→Int→Option (Int)
 | 0,_,_,_,_=>none
 | k+1,x1,x8,x9,x10=>if x10<x9 then(if 0≤x10 then(if x10<(x8.length:Int) then(if ((Zz x8 x10).f2)=x1 then(some x10) else(Zan.l0 k x1 x8 x9 (wrap64 (x10+1)))) else(none)) else(none)) else(some (-1))
def Zan.f (k:Nat) (l0_0:List (S116)) (l0_1:List (S90)) (a0_2:Int) (a1:Int):Option (Int):=Zan.l0 k a1 l0_0 (l0_0.length:Int) 0
set_option maxHeartbeats 8000000 in
set_option maxRecDepth 100000 in
theorem Zan.calls (k:Nat) (A0_0:Option Addr) (c0_0:Nat) (l0_0:List (S116)) (A0_1:Option Addr) (c0_1:Nat) (l0_1:List (S90)) (a0_2:Int) (a1:Int) (r:Int) (w:World) (hr0_0:Kd.C k116 w A0_0 l0_0.length l0_0) (hc0_0:l0_0.length≤c0_0) (hr0_1:Kd.C k90 w A0_1 l0_1.length l0_1) (hc0_1:l0_1.length≤c0_1) (h:Zan.f k l0_0 l0_1 a0_2 a1=some r) :
  Calls Try.prog 69 #[.agg #[.slice A0_0 l0_0.length c0_0,.slice A0_1 l0_1.length c0_1,.int .i64 a0_2],.int .i64 a1] w fun e w'=>e=.returned (.int .i64 r)∧Below w.heap.size w w':=by
 have hu35:=Try.underlying35
 have hu116:=Try.underlying116
 have HR0_0:=Za hr0_0;have HC0_0:=Za hc0_0;clear hr0_0 hc0_0;have HR0_1:=Za hr0_1;have HC0_1:=Za hc0_1;clear hr0_1 hc0_1
 have HB:=Za (Below.refl w.heap.size w)
 have H:(Zan.l0 k a1 l0_0 (l0_0.length:Int) 0)=some r:=h
 clear h
 have H':=Za H
 clear H
 go_enter Try.func69,Try.ntmps69
 go_wp2_with (first|((with_reducible refine ZI (N:=2) rfl ?_);refine ZH ?hg (N:=2) ?hd (cs:=#[.slice A0_0 l0_0.length c0_0,.slice A0_1 l0_1.length c0_1,.int .i64 a0_2]) (t:=35) ?hr ?_;(case hd=>rfl);(case hg=>rfl);(case hr=>first|(go_simp;done)|(go_simp;rfl));intro gb69001 hg w3 hbox hb;have BK69001:=Za (hbox);have GW69001:=Za ((by rw[hg];exact(Zx (by exact HB.out)):w.heap.size≤gb69001));have GE69001:=Za ((by rw[hg];exact(Zx (by exact HB.out)):w.heap.size≤gb69001));replace HB:=Za (Zw (by exact HB.out) hb);clear hb hbox hg;have hcz4_0:w3.cell? ⟨gb69001,0,none⟩=some (.slice A0_0 l0_0.length c0_0):=(Zs BK69001.out 0).trans rfl;have hcz4_1:w3.cell? ⟨gb69001,1,none⟩=some (.slice A0_1 l0_1.length c0_1):=(Zs BK69001.out 1).trans rfl;have hcz4_2:w3.cell? ⟨gb69001,2,none⟩=some (.int .i64 a0_2):=(Zs BK69001.out 2).trans rfl;have hfz4_0:=Zr BK69001.out 0;have hfz4_1:=Zr BK69001.out 1;have hfz4_2:=Zr BK69001.out 2))
 go_loopg [10] k (fun kq v10 w'=>∃(x10_1:Int),v10=.int .i64 x10_1∧Aside0 (Zan.l0 kq a1 l0_0 (l0_0.length:Int) x10_1=some r)∧Aside0 (kq≤k)∧Aside0 (w'.heap[gb69001]? = some (.cells #[(.slice A0_0 l0_0.length c0_0),(.slice A0_1 l0_1.length c0_1),.int .i64 a0_2] 35 (0,0)))∧Aside0 (Below w.heap.size w w'))
 case atStart=>exact⟨(0),(by first|rfl|(simp;done)|(simp[*];done)),H',⟨Nat.le_refl _⟩,⟨by(with_reducible repeat(first|refine Zp ?_ _|refine Zu ?_|refine Zo ?_ _));exact BK69001.out⟩,⟨by repeat(first|(with_reducible first|exact HB.out|apply Zn|apply Zm|apply Zt|refine Zq ?_ GE69001.out)|exact HB.out)⟩⟩
 case round=>
  clear H'
  try clear p2
  obtain⟨x10_1,rfl,HA,HK1,BK69001,HB⟩:=hrel
  cases gk with
  | zero=>exact absurd HA.out (by simp[Zan.l0])
  | succ k1=>
   have H:=HA.out
   clear HA
   simp only[Zan.l0] at H
   by_cases c5:x10_1<(l0_0.length:Int)
   ·rw[if_pos c5] at H
    have c5b0:decide (x10_1<(l0_0.length:Int))=true:=Ze c5
    clear c5
    by_cases c6:0≤x10_1
    ·rw[if_pos c6] at H
     have c6b0:decide (0≤x10_1)=true:=Ze c6
     clear c6
     by_cases c7:x10_1<(l0_0.length:Int)
     ·rw[if_pos c7] at H
      have c7b0:decide (x10_1<(l0_0.length:Int))=true:=Ze c7
      clear c7
      by_cases c8:((Zz l0_0 x10_1).f2)=a1
      ·rw[if_pos c8] at H
       have c8b0:(((Zz l0_0 x10_1).f2) == a1)=true:=beq_iff_eq.mpr c8
       have c8b1:(((Zz l0_0 x10_1).f2) != a1)=false:=bne_eq_false_iff_eq.mpr c8
       clear c8
       obtain rfl:=Zg H
       have p69002:0≤(x10_1:Int):=Zd (by with_reducible assumption)
       have q69002:x10_1<(l0_0.length:Int):=Zd (by with_reducible assumption)
       obtain⟨ad69002,A69002_1,c69002_1,e69002,hx69002_0,hx69002_1,hx69002_2,hl69002_1,hi69002_1⟩:=Zaq HR0_0.out x10_1 p69002 q69002
       cases e69002
       replace hx69002_0:=(HB.out.cell (Zc w _ hx69002_0)).trans hx69002_0
       replace hx69002_1:=(HB.out.cell (Zc w _ hx69002_1)).trans hx69002_1
       replace hx69002_2:=(HB.out.cell (Zc w _ hx69002_2)).trans hx69002_2
       have HR69002_1:=Za hi69002_1;have HC69002_1:=Za hl69002_1;clear hi69002_1 hl69002_1
       replace p69002:=eq_true p69002
       replace q69002:=eq_true q69002
       go_wp2_with (first|((with_reducible refine ZI (N:=6) rfl ?_);refine ZH ?hg (N:=6) ?hd (cs:=#[.string (⟨#[]⟩:ByteArray),.slice none 0 0,.int .i64 0]) (t:=116) ?hr ?_;(case hd=>rfl);(case hg=>rfl);(case hr=>first|(go_simp;done)|(go_simp;rfl));intro gb69003 hg w9 hbox hb;have n0_:=Za (Zy BK69001.out hb);have n1_:=Za (Zw (by exact HB.out) hb);have n2_:=Za (hbox);have n3_:=Za ((by rw[hg];exact(Zx (by exact HB.out)):w.heap.size≤gb69003));have n4_:=n3_;have n5_:=Za ((by rw[hg];exact Nat.ne_of_lt (ZO (g:=gb69001) (o:=.cells #[.slice (some ad69002) l0_0.length c0_0,.slice A0_1 l0_1.length c0_1,.int .i64 a0_2] 35 (0,0)) BK69001.out):gb69001≠gb69003));have n6_:=Za n5_.out.symm;clear BK69001;clear HB;have BK69001:=n0_;have HB:=n1_;have BK69003:=n2_;have GW69003:=n3_;have GE69003:=n4_;have NB69001_69003:=n5_;have NB69003_69001:=n6_;clear n0_ n1_ n2_ n3_ n4_ n5_ n6_;clear hb hbox hg;have hnb10:=NB69003_69001.out;have hnc10:=NB69001_69003.out;have hcz11_0:w9.cell? ⟨gb69003,0,none⟩=some (.string (⟨#[]⟩:ByteArray)):=(Zs BK69003.out 0).trans rfl;have hcz11_1:w9.cell? ⟨gb69003,1,none⟩=some (.slice none 0 0):=(Zs BK69003.out 1).trans rfl;have hcz11_2:w9.cell? ⟨gb69003,2,none⟩=some (.int .i64 0):=(Zs BK69003.out 2).trans rfl;have hfz11_0:=Zr BK69003.out 0;have hfz11_1:=Zr BK69003.out 1;have hfz11_2:=Zr BK69003.out 2))
       go_ret
       exact⟨by first|rfl|(simp[ZB,ZA] <;> rfl)|(simp[*,ZB,ZA] <;> rfl),by repeat(first|(with_reducible first|exact HB.out|apply Zn|apply Zm|apply Zt|refine Zq ?_ GE69001.out|refine Zq ?_ GE69003.out)|exact HB.out)⟩
      ·rw[if_neg c8] at H
       have c8b0:(((Zz l0_0 x10_1).f2) == a1)=false:=beq_eq_false_iff_ne.mpr c8
       have c8b1:(((Zz l0_0 x10_1).f2) != a1)=true:=bne_iff_ne.mpr c8
       have H':=Za H
       clear H
       have p69002:0≤(x10_1:Int):=Zd (by with_reducible assumption)
       have q69002:x10_1<(l0_0.length:Int):=Zd (by with_reducible assumption)
       obtain⟨ad69002,A69002_1,c69002_1,e69002,hx69002_0,hx69002_1,hx69002_2,hl69002_1,hi69002_1⟩:=Zaq HR0_0.out x10_1 p69002 q69002
       cases e69002
       replace hx69002_0:=(HB.out.cell (Zc w _ hx69002_0)).trans hx69002_0
       replace hx69002_1:=(HB.out.cell (Zc w _ hx69002_1)).trans hx69002_1
       replace hx69002_2:=(HB.out.cell (Zc w _ hx69002_2)).trans hx69002_2
       have HR69002_1:=Za hi69002_1;have HC69002_1:=Za hl69002_1;clear hi69002_1 hl69002_1
       replace p69002:=eq_true p69002
       replace q69002:=eq_true q69002
       go_wp2_with (first|((with_reducible refine ZI (N:=6) rfl ?_);refine ZH ?hg (N:=6) ?hd (cs:=#[.string (⟨#[]⟩:ByteArray),.slice none 0 0,.int .i64 0]) (t:=116) ?hr ?_;(case hd=>rfl);(case hg=>rfl);(case hr=>first|(go_simp;done)|(go_simp;rfl));intro gb69003 hg w12 hbox hb;have n0_:=Za (Zy BK69001.out hb);have n1_:=Za (Zw (by exact HB.out) hb);have n2_:=Za (hbox);have n3_:=Za ((by rw[hg];exact(Zx (by exact HB.out)):w.heap.size≤gb69003));have n4_:=n3_;have n5_:=Za ((by rw[hg];exact Nat.ne_of_lt (ZO (g:=gb69001) (o:=.cells #[.slice (some ad69002) l0_0.length c0_0,.slice A0_1 l0_1.length c0_1,.int .i64 a0_2] 35 (0,0)) BK69001.out):gb69001≠gb69003));have n6_:=Za n5_.out.symm;clear BK69001;clear HB;have BK69001:=n0_;have HB:=n1_;have BK69003:=n2_;have GW69003:=n3_;have GE69003:=n4_;have NB69001_69003:=n5_;have NB69003_69001:=n6_;clear n0_ n1_ n2_ n3_ n4_ n5_ n6_;clear hb hbox hg;have hnb13:=NB69003_69001.out;have hnc13:=NB69001_69003.out;have hcz14_0:w12.cell? ⟨gb69003,0,none⟩=some (.string (⟨#[]⟩:ByteArray)):=(Zs BK69003.out 0).trans rfl;have hcz14_1:w12.cell? ⟨gb69003,1,none⟩=some (.slice none 0 0):=(Zs BK69003.out 1).trans rfl;have hcz14_2:w12.cell? ⟨gb69003,2,none⟩=some (.int .i64 0):=(Zs BK69003.out 2).trans rfl;have hfz14_0:=Zr BK69003.out 0;have hfz14_1:=Zr BK69003.out 1;have hfz14_2:=Zr BK69003.out 2))
       go_roundg k1
       case measure=>have:=HK1.out;omega
       case rel=>exact⟨(wrap64 (x10_1+1)),(by first|rfl|(simp;done)|(simp[*];done)),H',⟨by have:=HK1.out;omega⟩,⟨by(with_reducible repeat(first|refine Zp ?_ _|refine Zu ?_|refine Zo ?_ _));refine ZD ?_ NB69001_69003.out _;(with_reducible repeat(first|refine Zp ?_ _|refine Zu ?_|refine Zo ?_ _));refine ZD ?_ NB69001_69003.out _;(with_reducible repeat(first|refine Zp ?_ _|refine Zu ?_|refine Zo ?_ _));refine ZD ?_ NB69001_69003.out _;(with_reducible repeat(first|refine Zp ?_ _|refine Zu ?_|refine Zo ?_ _));exact BK69001.out⟩,⟨by repeat(first|(with_reducible first|exact HB.out|apply Zn|apply Zm|apply Zt|refine Zq ?_ GE69001.out|refine Zq ?_ GE69003.out)|exact HB.out)⟩⟩
     ·rw[if_neg c7] at H
      exact absurd H (by simp)
    ·rw[if_neg c6] at H
     exact absurd H (by simp)
   ·rw[if_neg c5] at H
    have c5b0:decide (x10_1<(l0_0.length:Int))=false:=Zf c5
    clear c5
    obtain rfl:=Zg H
    go_wp2
    go_ret
    exact⟨by first|rfl|(simp[ZB,ZA] <;> rfl)|(simp[*,ZB,ZA] <;> rfl),by repeat(first|(with_reducible first|exact HB.out|apply Zn|apply Zm|apply Zt|refine Zq ?_ GE69001.out)|exact HB.out)⟩
end Go.Proofs.Ytodfnelilhjoeaa.Pr
namespace Go.Proofs.Ytodfnelilhjoeaa.Pr
open Go.RowKit Go.Proofs.YtodfnelilhjoeaaW.PrintWords Go.Proofs.Ytodfnelilhjoeaa.Ni
def Zbw (ts:List PTie) (node:Int):Int:=Za8 (fun t=>t.f4 && decide (t.f1=node)) ts
def ZbB (ns:List ZZ) (p:Int):Int:=Za8 (fun n=>decide (n.f2=p)) ns
def inB (a b c:Int):Bool:=decide (b≤a) && decide (a≤c)
theorem l01In_f (a b c:Int):ZW.f a b c=some (inB a b c):=by
 unfold ZW.f inB
 by_cases h:a≥b
 ·rw[if_pos h,Ze (show b≤a from h),Bool.true_and]
 ·rw[if_neg h,Zf (show ¬b≤a from h),Bool.false_and]
theorem Zct (ns:List ZZ) (ts:List PTie) (z:Int) (node:Int) (hl:ts.length≤9223372036854775807) (k:Nat) (hk:2 ^ 64≤k):Z0.f k ns ts z node=some (Zbw ts node):=by
 have key:=ZaC ts.length (fun k i=>(∀j y,j<i→ts[j]? = some y→(y.f4 && decide (y.f1=node))=false)→Z0.l0 k node ts ts.length (i:Int)=some (Zbw ts node)) 0
  (fun k _ hb=>by
   simp only[Z0.l0]
   rw[if_neg (by omega),Zbw,Zbu _ _ hb])
  (fun k i _ hi ih hb=>by
   simp only[Z0.l0]
   have next:((ts.getD i z90).f4 && decide ((ts.getD i z90).f1=node))=false→Z0.l0 k node ts ts.length ((i+1:Nat):Int)=some (Zbw ts node):=fun h=>ih (by
    intro j y hj hy
    by_cases e:j=i
    ·subst e
     rw[getD_some hi z90] at hy
     cases hy
     exact h
    ·exact hb j y (by omega) hy)
   rw[if_pos (by omega),if_pos (by omega),if_pos (by omega),Zc1,Z6 hi (by omega)]
   by_cases h:(ts.getD i z90).f4=true
   ·rw[if_pos h]
    by_cases h2:(ts.getD i z90).f1=node
    ·rw[if_pos h2,Zbw,ZbI _ ts i _ (getD_some hi z90) (by rw[h,Ze h2];rfl) hb]
    ·rw[if_neg h2,next (by rw[Zf h2,Bool.and_false])]
   ·rw[if_neg h,next (by rw[Bool.eq_false_iff.2 h,Bool.false_and])]) 0 k (Nat.zero_le _) (by omega)
 unfold Z0.f
 exact key (fun j y hj=>absurd hj (by omega))
theorem Zdn (ns:List ZZ) (ts:List PTie) (z:Int) (p:Int) (hl:ns.length≤9223372036854775807) (k:Nat) (hk:2 ^ 64≤k):Zan.f k ns ts z p=some (ZbB ns p):=by
 have key:=ZaC ns.length (fun k i=>(∀j y,j<i→ns[j]? = some y→decide (y.f2=p)=false)→Zan.l0 k p ns ns.length (i:Int)=some (ZbB ns p)) 0
  (fun k _ hb=>by
   simp only[Zan.l0]
   rw[if_neg (by omega),ZbB,Zbu _ _ hb])
  (fun k i _ hi ih hb=>by
   simp only[Zan.l0]
   rw[if_pos (by omega),if_pos (by omega),if_pos (by omega),Zbz,Z6 hi (by omega)]
   by_cases h:(ns.getD i z116).f2=p
   ·rw[if_pos h,ZbB,ZbI _ ns i _ (getD_some hi z116) (Ze h) hb]
   ·rw[if_neg h,ih]
    intro j y hj hy
    by_cases e:j=i
    ·subst e
     rw[getD_some hi z116] at hy
     cases hy
     exact Zf h
    ·exact hb j y (by omega) hy) 0 k (Nat.zero_le _) (by omega)
 unfold Zan.f
 exact key (fun j y hj=>absurd hj (by omega))
def fitN (ns:List ZZ):Bool:=ns.all fun n=>decide (n.f0.size≤9223372036854775807) && decide (n.f1.length≤9223372036854775807)
theorem fitN_iff {ns:List ZZ} (h:fitN ns=true):∀n∈ns,n.f0.size≤9223372036854775807∧n.f1.length≤9223372036854775807:=fun n hn=>by
 have:=List.all_eq_true.1 h n hn
 simpa using this
theorem showCell0 (w:World) (x y z:Value) (t:TypeId):(w.alloc (.cells #[x,y,z] t)).cell? ⟨w.heap.size,0,none⟩=some x:=by go_simp
theorem showCell1 (w:World) (x y z:Value) (t:TypeId):(w.alloc (.cells #[x,y,z] t)).cell? ⟨w.heap.size,1,none⟩=some y:=by go_simp
theorem showCell2 (w:World) (x y z:Value) (t:TypeId):(w.alloc (.cells #[x,y,z] t)).cell? ⟨w.heap.size,2,none⟩=some z:=by go_simp
theorem Zba (a b c:Int) (w:World):Calls Try.prog 68 #[.int .i64 a,.int .i64 b,.int .i64 c] w fun e w'=>e=.returned (.bool (inB a b c))∧∃n,w'=w.drewN n:=
 (ZW.calls a b c _ w (l01In_f a b c)).mono fun _ _ ⟨he,hd⟩=>⟨he,hd.out⟩
theorem quietX {P:Program} {f:FuncId} {args:Array Value} {W:World} {a x:Nat} {v:Value} (h:Calls P f args (W.drewN (a+x)) fun e w'=>e=.returned v∧∃m,w'=(W.drewN (a+x)).drewN m):Calls P f args (W.drewN (a+x)) fun e w''=>e=.returned v∧∃n,w''=W.drewN (a+n):=
 h.mono fun _ _ ⟨he,m,hm⟩=>⟨he,x+m,by rw[hm,World.drewN_drewN,Nat.add_assoc]⟩
theorem Zbs {P:Program} {f:FuncId} {args:Array Value} {W:World} {x:Nat} {v:Value} (h:Calls P f args (W.drewN x) fun e w'=>e=.returned v∧∃m,w'=(W.drewN x).drewN m):Calls P f args (W.drewN x) fun e w''=>e=.returned v∧∃n,w''=W.drewN n:=
 h.mono fun _ _ ⟨he,m,hm⟩=>⟨he,x+m,by rw[hm,World.drewN_drewN]⟩
end Go.Proofs.Ytodfnelilhjoeaa.Pr
namespace Go.Proofs.Ytodfnelilhjoeaa.Pr
open Go.RowKit Go.Proofs.YtodfnelilhjoeaaW.PrintWords Go.Proofs.YtodfnelilhjoeaaW.PrintLast Go.Proofs.YtodfnelilhjoeaaW.PrintMore
attribute [local go_sem] Zac Zaa Zam Zal Z5 Z4 Zab Z9
set_option linter.unusedVariables false
set_option linter.unusedSimpArgs false
def Z8.l0:Nat→Int→List Int→Int→Int→Option (Bool)
 | 0,_,_,_,_=>none
 | k+1,x1,x7,x8,x9=>if x9<x8 then(if 0≤x9 then(if x9<(x7.length:Int) then(if (rd x7 x9)=x1 then(some true) else(Z8.l0 k x1 x7 x8 (wrap64 (x9+1)))) else(none)) else(none)) else(some false)
def Z8.f (k:Nat) (l0:List Int) (a1:Int):Option (Bool):=Z8.l0 k a1 l0 (l0.length:Int) 0
set_option maxHeartbeats 8000000 in
set_option maxRecDepth 100000 in
theorem Z8.calls (k:Nat) (A0:Option Addr) (c0:Nat) (l0:List Int) (a1:Int) (r:Bool) (w:World) (hr0:Kd.C (Kd.int .i64) w A0 l0.length l0) (hc0:l0.length≤c0) (h:Z8.f k l0 a1=some r) :
  Calls Try.prog 150 #[.slice A0 l0.length c0,.int .i64 a1] w fun e w'=>e=.returned (.bool r)∧ZE w w':=by
 have HR0:=Za hr0;have HC0:=Za hc0;clear hr0 hc0
 have H:(Z8.l0 k a1 l0 (l0.length:Int) 0)=some r:=h
 clear h
 have H':=Za H
 clear H
 go_enter Try.func150,Try.ntmps150
 go_wp2
 go_loopg [9] k (fun kq v9 w'=>∃(x9_1:Int),v9=.int .i64 x9_1∧Aside0 (Z8.l0 kq a1 l0 (l0.length:Int) x9_1=some r)∧Aside0 (kq≤k)∧ZE w w')
 case atStart=>exact⟨(0),(by first|rfl|(simp;done)|(simp[*];done)),H',⟨Nat.le_refl _⟩,by repeat(first|exact ZE.refl _|apply ZE.step)⟩
 case round=>
  clear H'
  try clear c1
  try clear p2
  obtain⟨x9_1,rfl,HA,HK1,⟨m1,rfl⟩⟩:=hrel
  cases gk with
  | zero=>exact absurd HA.out (by simp[Z8.l0])
  | succ k1=>
   have H:=HA.out
   clear HA
   simp only[Z8.l0] at H
   by_cases c3:x9_1<(l0.length:Int)
   ·rw[if_pos c3] at H
    have c3b0:decide (x9_1<(l0.length:Int))=true:=Ze c3
    clear c3
    by_cases c4:0≤x9_1
    ·rw[if_pos c4] at H
     have c4b0:decide (0≤x9_1)=true:=Ze c4
     clear c4
     by_cases c5:x9_1<(l0.length:Int)
     ·rw[if_pos c5] at H
      have c5b0:decide (x9_1<(l0.length:Int))=true:=Ze c5
      clear c5
      by_cases c6:(rd l0 x9_1)=a1
      ·rw[if_pos c6] at H
       have c6b0:((rd l0 x9_1) == a1)=true:=beq_iff_eq.mpr c6
       have c6b1:((rd l0 x9_1) != a1)=false:=bne_eq_false_iff_eq.mpr c6
       clear c6
       obtain rfl:=Zg H
       have p150001:0≤(x9_1:Int):=Zd (by first|(with_reducible assumption)|assumption)
       have q150001:x9_1<(l0.length:Int):=Zd (by first|(with_reducible assumption)|assumption)
       obtain⟨ad150001,e150001,hx150001_0⟩:=Kd.at_int HR0.out x9_1 p150001 q150001
       cases e150001
       replace p150001:=eq_true p150001
       replace q150001:=eq_true q150001
       go_wp2
       go_ret
       exact⟨by first|rfl|(simp;done)|(simp[*];done),by repeat(first|exact ZE.refl _|apply ZE.step)⟩
      ·rw[if_neg c6] at H
       have c6b0:((rd l0 x9_1) == a1)=false:=beq_eq_false_iff_ne.mpr c6
       have c6b1:((rd l0 x9_1) != a1)=true:=bne_iff_ne.mpr c6
       have H':=Za H
       clear H
       have p150001:0≤(x9_1:Int):=Zd (by first|(with_reducible assumption)|assumption)
       have q150001:x9_1<(l0.length:Int):=Zd (by first|(with_reducible assumption)|assumption)
       obtain⟨ad150001,e150001,hx150001_0⟩:=Kd.at_int HR0.out x9_1 p150001 q150001
       cases e150001
       replace p150001:=eq_true p150001
       replace q150001:=eq_true q150001
       go_wp2
       go_roundg k1
       case measure=>have:=HK1.out;omega
       case rel=>exact⟨(wrap64 (x9_1+1)),(by first|rfl|(simp;done)|(simp[*];done)),H',⟨by have:=HK1.out;omega⟩,by repeat(first|exact ZE.refl _|apply ZE.step)⟩
     ·rw[if_neg c5] at H
      exact absurd H (by simp)
    ·rw[if_neg c4] at H
     exact absurd H (by simp)
   ·rw[if_neg c3] at H
    have c3b0:decide (x9_1<(l0.length:Int))=false:=Zf c3
    clear c3
    obtain rfl:=Zg H
    go_wp2
    go_ret
    exact⟨by first|rfl|(simp;done)|(simp[*];done),by repeat(first|exact ZE.refl _|apply ZE.step)⟩
mutual
def ZP.j0:Nat→List Int→List Int→Bool→Option (Bool)
 | 0,_,_,_=>none
 | k+1,x0,x1,x14=>if x14=true then(some false) else(ZP.l0 k x0 x1 (x1.length:Int) 0)
def ZP.l0:Nat→List Int→List Int→Int→Int→Option (Bool)
 | 0,_,_,_,_=>none
 | k+1,x0,x15,x16,x17=>if x17<x16 then(if 0≤x17 then(if x17<(x15.length:Int) then((Z8.f k x0 (rd x15 x17)).bind fun t155004=>(if t155004=true then(ZP.l0 k x0 x15 x16 (wrap64 (x17+1))) else(some false))) else(none)) else(none)) else(some true)
end
def ZP.f (k:Nat) (l0:List Int) (l1:List Int):Option (Bool):=(ZU.f k l0).bind fun t155001=>(if t155001=true then((ZU.f k l1).bind fun t155002=>(ZP.j0 k l0 l1 (!t155002))) else(ZP.j0 k l0 l1 true))
set_option maxHeartbeats 8000000 in
set_option maxRecDepth 100000 in
theorem ZP.calls (k:Nat) (A0:Option Addr) (c0:Nat) (l0:List Int) (A1:Option Addr) (c1:Nat) (l1:List Int) (r:Bool) (w:World) (hr0:Kd.C (Kd.int .i64) w A0 l0.length l0) (hc0:l0.length≤c0) (hr1:Kd.C (Kd.int .i64) w A1 l1.length l1) (hc1:l1.length≤c1) (h:ZP.f k l0 l1=some r) :
  Calls Try.prog 155 #[.slice A0 l0.length c0,.slice A1 l1.length c1] w fun e w'=>e=.returned (.bool r)∧ZE w w':=by
 have HR0:=Za hr0;have HC0:=Za hc0;clear hr0 hc0;have HR1:=Za hr1;have HC1:=Za hc1;clear hr1 hc1
 have H:((ZU.f k l0).bind fun t155001=>(if t155001=true then((ZU.f k l1).bind fun t155002=>(ZP.j0 k l0 l1 (!t155002))) else(ZP.j0 k l0 l1 true)))=some r:=h
 clear h;have HC3:=Za H;clear H
 go_enter Try.func155,Try.ntmps155
 go_upto_region 1 with (fail)
 go_cut [14] (fun v14 wc=>∃(kq:Nat) (x14_2:Bool),v14=.bool x14_2∧Aside0 (ZP.j0 kq l0 l1 x14_2=some r)∧Aside0 (kq≤k)∧ZE w wc)
 case first=>
  have H:=HC3.out
  clear HC3
  replace H:=Zh H
  obtain⟨t155001,A40,H⟩:=H
  replace H:(if t155001=true then((ZU.f k l1).bind fun t155002=>(ZP.j0 k l0 l1 (!t155002))) else(ZP.j0 k l0 l1 true))=some r:=H
  have A4:=Za A40;clear A40
  by_cases c5:t155001=true
  ·subst c5
   have H1:((ZU.f k l1).bind fun t155002=>(ZP.j0 k l0 l1 (!t155002)))=some r:=by rw[if_pos rfl] at H;exact H
   clear H
   have H:=H1
   clear H1
   replace H:=Zh H
   obtain⟨t155002,A60,H⟩:=H
   replace H:(ZP.j0 k l0 l1 (!t155002))=some r:=H
   have A6:=Za A60;clear A60
   have H':=Za H
   clear H
   go_wp2_with (first|((with_reducible refine ZG (f:=174) rfl ?_);refine ZQ (some 8) rfl rfl Try.func174 (by kernel_rfl) rfl #[.slice A0 l0.length c0] rfl (by(try simp only[List.map_toArray,List.map_cons,List.map_nil]);first|done|rfl|(simp only[Zk,Zj];rfl)) ?_;(with_reducible refine(ZU.calls k _ _ l0 true _ ?side1 ?side2 A4.out).mono ?_);(case side1=>repeat(first|exact HR0.out|(with_reducible refine Kd.C_alloc ?_ _)|(with_reducible refine Kd.C_drewN ?_ _)|(with_reducible refine Kd.C_drew ?_)));(case side2=>exact HC0.out);rintro e w' ⟨rfl,⟨nd,rfl⟩⟩;refine⟨_,rfl,?_⟩)|(go_at_call 174;(with_reducible refine(ZU.calls k _ _ l1 t155002 _ ?side1 ?side2 A6.out).mono ?_);(case side1=>repeat(first|exact HR1.out|(with_reducible refine Kd.C_alloc ?_ _)|(with_reducible refine Kd.C_drewN ?_ _)|(with_reducible refine Kd.C_drew ?_)));(case side2=>exact HC1.out);rintro e w' ⟨rfl,⟨nd,rfl⟩⟩))
   go_meet
   case rel=>exact⟨_,(!t155002),(by first|rfl|(simp;done)|(simp[*];done)),H',⟨by first|omega|exact Nat.le_refl _⟩,by repeat(first|exact ZE.refl _|apply ZE.step)⟩
  ·replace c5:=Bool.eq_false_iff.mpr c5
   subst c5
   have H1:(ZP.j0 k l0 l1 true)=some r:=by rw[if_neg (show ¬(false=true) by decide)] at H;exact H
   clear H
   have H:=H1
   clear H1
   have H':=Za H
   clear H
   go_wp2_with (first|((with_reducible refine ZG (f:=174) rfl ?_);refine ZQ (some 8) rfl rfl Try.func174 (by kernel_rfl) rfl #[.slice A0 l0.length c0] rfl (by(try simp only[List.map_toArray,List.map_cons,List.map_nil]);first|done|rfl|(simp only[Zk,Zj];rfl)) ?_;(with_reducible refine(ZU.calls k _ _ l0 false _ ?side1 ?side2 A4.out).mono ?_);(case side1=>repeat(first|exact HR0.out|(with_reducible refine Kd.C_alloc ?_ _)|(with_reducible refine Kd.C_drewN ?_ _)|(with_reducible refine Kd.C_drew ?_)));(case side2=>exact HC0.out);rintro e w' ⟨rfl,⟨nd,rfl⟩⟩;refine⟨_,rfl,?_⟩))
   go_meet
   case rel=>exact⟨_,(true),(by first|rfl|(simp;done)|(simp[*];done)),H',⟨by first|omega|exact Nat.le_refl _⟩,by repeat(first|exact ZE.refl _|apply ZE.step)⟩
 case rest=>
  clear HC3
  try clear c1
  try clear p2
  try clear c5
  obtain⟨kq,x14_2,rfl,HA,HJ2,⟨mc2,rfl⟩⟩:=hcut
  cases kq with
  | zero=>exact absurd HA.out (by simp[ZP.j0])
  | succ kj2=>
   have H:=HA.out
   clear HA
   simp only[ZP.j0] at H
   by_cases c7:x14_2=true
   ·subst c7
    have H1:(some false)=some r:=by rw[if_pos rfl] at H;exact H
    clear H
    have H:=H1
    clear H1
    obtain rfl:=Zg H
    go_wp2
    go_ret
    exact⟨by first|rfl|(simp;done)|(simp[*];done),by repeat(first|exact ZE.refl _|apply ZE.step)⟩
   ·replace c7:=Bool.eq_false_iff.mpr c7
    subst c7
    have H1:(ZP.l0 kj2 l0 l1 (l1.length:Int) 0)=some r:=by rw[if_neg (show ¬(false=true) by decide)] at H;exact H
    clear H
    have H:=H1
    clear H1
    have H':=Za H
    clear H
    go_wp2
    go_loopg [17] kj2 (fun kq v17 w'=>∃(x17_2:Int),v17=.int .i64 x17_2∧Aside0 (ZP.l0 kq l0 l1 (l1.length:Int) x17_2=some r)∧Aside0 (kq≤kj2)∧ZE w w')
    case atStart=>exact⟨(0),(by first|rfl|(simp;done)|(simp[*];done)),H',⟨Nat.le_refl _⟩,by repeat(first|exact ZE.refl _|apply ZE.step)⟩
    case round=>
     clear H'
     try clear c1
     try clear c2
     try clear p2
     try clear c5
     try clear c7
     try clear p2
     obtain⟨x17_2,rfl,HA,HK2,⟨m2,rfl⟩⟩:=hrel
     cases gk with
     | zero=>exact absurd HA.out (by simp[ZP.l0])
     | succ k2=>
      have H:=HA.out
      clear HA
      simp only[ZP.l0] at H
      by_cases c8:x17_2<(l1.length:Int)
      ·rw[if_pos c8] at H
       have c8b0:decide (x17_2<(l1.length:Int))=true:=Ze c8
       clear c8
       by_cases c9:0≤x17_2
       ·rw[if_pos c9] at H
        have c9b0:decide (0≤x17_2)=true:=Ze c9
        clear c9
        by_cases c10:x17_2<(l1.length:Int)
        ·rw[if_pos c10] at H
         have c10b0:decide (x17_2<(l1.length:Int))=true:=Ze c10
         clear c10
         replace H:=Zh H
         obtain⟨t155004,A110,H⟩:=H
         replace H:(if t155004=true then(ZP.l0 k2 l0 l1 (l1.length:Int) (wrap64 (x17_2+1))) else(some false))=some r:=H
         have A11:=Za A110;clear A110
         by_cases c12:t155004=true
         ·subst c12
          have H1:(ZP.l0 k2 l0 l1 (l1.length:Int) (wrap64 (x17_2+1)))=some r:=by rw[if_pos rfl] at H;exact H
          clear H
          have H:=H1
          clear H1
          have H':=Za H
          clear H
          have p155003:0≤(x17_2:Int):=Zd (by with_reducible assumption)
          have q155003:x17_2<(l1.length:Int):=Zd (by with_reducible assumption)
          obtain⟨ad155003,e155003,hx155003_0⟩:=Kd.at_int HR1.out x17_2 p155003 q155003
          cases e155003
          replace p155003:=eq_true p155003
          replace q155003:=eq_true q155003
          go_wp2_with (first|((with_reducible refine ZG (f:=150) rfl ?_);refine ZQ (some 23) rfl rfl Try.func150 (by kernel_rfl) rfl #[.slice A0 l0.length c0,.int .i64 (rd l1 x17_2)] rfl (by(try simp only[List.map_toArray,List.map_cons,List.map_nil]);first|done|rfl|(simp only[Zk,Zj];rfl)) ?_;(with_reducible refine(Z8.calls k2 _ _ l0 (rd l1 x17_2) true _ ?side1 ?side2 A11.out).mono ?_);(case side1=>repeat(first|exact HR0.out|(with_reducible refine Kd.C_alloc ?_ _)|(with_reducible refine Kd.C_drewN ?_ _)|(with_reducible refine Kd.C_drew ?_)));(case side2=>exact HC0.out);rintro e w' ⟨rfl,⟨nd,rfl⟩⟩;refine⟨_,rfl,?_⟩))
          go_roundg k2
          case measure=>have:=HJ2.out;have:=HK2.out;omega
          case rel=>exact⟨(wrap64 (x17_2+1)),(by first|rfl|(simp;done)|(simp[*];done)),H',⟨by have:=HJ2.out;have:=HK2.out;omega⟩,by repeat(first|exact ZE.refl _|apply ZE.step)⟩
         ·replace c12:=Bool.eq_false_iff.mpr c12
          subst c12
          have H1:(some false)=some r:=by rw[if_neg (show ¬(false=true) by decide)] at H;exact H
          clear H
          have H:=H1
          clear H1
          obtain rfl:=Zg H
          have p155003:0≤(x17_2:Int):=Zd (by with_reducible assumption)
          have q155003:x17_2<(l1.length:Int):=Zd (by with_reducible assumption)
          obtain⟨ad155003,e155003,hx155003_0⟩:=Kd.at_int HR1.out x17_2 p155003 q155003
          cases e155003
          replace p155003:=eq_true p155003
          replace q155003:=eq_true q155003
          go_wp2_with (first|((with_reducible refine ZG (f:=150) rfl ?_);refine ZQ (some 23) rfl rfl Try.func150 (by kernel_rfl) rfl #[.slice A0 l0.length c0,.int .i64 (rd l1 x17_2)] rfl (by(try simp only[List.map_toArray,List.map_cons,List.map_nil]);first|done|rfl|(simp only[Zk,Zj];rfl)) ?_;(with_reducible refine(Z8.calls k2 _ _ l0 (rd l1 x17_2) false _ ?side1 ?side2 A11.out).mono ?_);(case side1=>repeat(first|exact HR0.out|(with_reducible refine Kd.C_alloc ?_ _)|(with_reducible refine Kd.C_drewN ?_ _)|(with_reducible refine Kd.C_drew ?_)));(case side2=>exact HC0.out);rintro e w' ⟨rfl,⟨nd,rfl⟩⟩;refine⟨_,rfl,?_⟩))
          go_ret
          exact⟨by first|rfl|(simp;done)|(simp[*];done),by repeat(first|exact ZE.refl _|apply ZE.step)⟩
        ·rw[if_neg c10] at H
         exact absurd H (by simp)
       ·rw[if_neg c9] at H
        exact absurd H (by simp)
      ·rw[if_neg c8] at H
       have c8b0:decide (x17_2<(l1.length:Int))=false:=Zf c8
       clear c8
       obtain rfl:=Zg H
       go_wp2
       go_ret
       exact⟨by first|rfl|(simp;done)|(simp[*];done),by repeat(first|exact ZE.refl _|apply ZE.step)⟩
end Go.Proofs.Ytodfnelilhjoeaa.Pr
namespace Go.Proofs.Ytodfnelilhjoeaa.Pr
open Go.RowKit Go.Proofs.YtodfnelilhjoeaaW.PrintWords Go.Proofs.YtodfnelilhjoeaaW.PrintLast Go.Proofs.YtodfnelilhjoeaaW.PrintMore
attribute [local go_sem] Zac Zaa Zam Zal Z5 Z4 Zab Z9
set_option linter.unusedVariables false
set_option linter.unusedSimpArgs false
open Go.Proofs.Ytodfnelilhjoeaa.Ni
set_option maxHeartbeats 4000000 in
theorem ZcC.any (p:Int→Bool) (g:Nat) (lb:Array Value) (eg:∀args w,(callFunc g args).run Try.prog w=.ok (.enter g args) w) (A0:Option Addr) (c0:Nat) (l0:List Int) (w:World) (hr0:Kd.C (Kd.int .i64) w A0 l0.length l0)
  (hp:∀(W:World) (x:Int),x∈l0→Below w.heap.size w W→Calls Try.prog g (#[.int .i64 x] ++ lb) W fun e w'=>e=.returned (.bool (p x))∧Below W.heap.size W w') :
  Calls Try.prog 161 #[.slice A0 l0.length c0,.func (.func g) #[] lb] w fun e w'=>e=.returned (.int .i64 (Za8 p l0))∧Below w.heap.size w w':=by
 have HR0:=Za hr0;have HP:=Za hp;clear hr0 hp
 have HL:l0.length≤9223372036854775807:=HR0.out.2.1
 go_enter Try.func161,Try.ntmps161
 go_wp2
 go_loopg [5,8] l0.length (fun gg _ s8 wr=>∃kk:Nat,Aside0 (kk≤l0.length)∧Aside0 (l0.length - kk≤gg)∧s8=.int .i64 kk∧Aside0 (Below w.heap.size w wr)∧Aside0 (∀j y,j<kk→l0[j]? = some y→p y=false))
 case atStart=>exact⟨0,⟨Nat.zero_le _⟩,⟨by omega⟩,rfl,⟨Below.refl _ _⟩,⟨fun j y hj=>absurd hj (Nat.not_lt_zero _)⟩⟩
 case round=>
  obtain⟨kk,HK,HG,rfl,HB,HN⟩:=hrel
  by_cases hlt:kk<l0.length
  ·have hltz:(kk:Int)<(l0.length:Int):=by omega
   obtain⟨ad,e1,hx0⟩:=Kd.at_int HR0.out (kk:Int) (by omega) hltz
   cases e1
   replace hx0:=(HB.out.cell (Zc w _ hx0)).trans hx0
   rw[Int.toNat_natCast] at hx0
   have hxe:l0[kk]? = some (rd l0 (kk:Int)):=by
    unfold rd
    rw[Int.toNat_natCast,List.getD_eq_getElem?_getD,Zl hlt];rfl
   generalize rd l0 (kk:Int)=y at hx0 hxe
   have HX:=Za hxe;clear hxe
   have hcall:=HP.out wr y (List.mem_of_getElem? HX.out) HB.out
   cases hq:p y with
   | true=>
    have HQ:=Za hq
    rw[hq] at hcall
    clear hq
    go_wp2_with (go_at_fn g;refine hcall.mono ?_;rintro e w' ⟨rfl,hb⟩)
    go_ret
    exact⟨by rw[ZbI p l0 kk y HX.out HQ.out HN.out];rfl,HB.out.trans (hb.mono HB.out.size)⟩
   | false=>
    have HQ:=Za hq
    rw[hq] at hcall
    clear hq
    go_wp2_with (go_at_fn g;refine hcall.mono ?_;rintro e w' ⟨rfl,hb⟩)
    go_roundg (l0.length - (kk+1))
    case measure=>have:=HG.out;omega
    case rel=>
     refine⟨kk+1,⟨by omega⟩,⟨by omega⟩,by go_num,⟨HB.out.trans (hb.mono HB.out.size)⟩,⟨fun j y' hj hy=>?_⟩⟩
     by_cases e:j=kk
     ·subst e
      rw[HX.out] at hy
      cases hy
      exact HQ.out
     ·exact HN.out j y' (by omega) hy
  ·have hltz:¬(kk:Int)<(l0.length:Int):=by omega
   have:kk=l0.length:=by have:=HK.out;omega
   subst this
   go_wp2
   go_ret
   exact⟨by rw[Zbu p l0 HN.out];rfl,HB.out⟩
set_option maxHeartbeats 4000000 in
theorem ZbU.any (p:Int→Bool) (g:Nat) (lb:Array Value) (eg:∀args w,(callFunc g args).run Try.prog w=.ok (.enter g args) w) (A0:Option Addr) (c0:Nat) (l0:List Int) (w:World) (hr0:Kd.C (Kd.int .i64) w A0 l0.length l0)
  (hp:∀(W:World) (x:Int),x∈l0→Below w.heap.size w W→Calls Try.prog g (#[.int .i64 x] ++ lb) W fun e w'=>e=.returned (.bool (p x))∧Below W.heap.size W w') :
  Calls Try.prog 123 #[.slice A0 l0.length c0,.func (.func g) #[] lb] w fun e w'=>e=.returned (.bool (l0.any p))∧Below w.heap.size w w':=by
 have HI:=Za (ZcC.any p g lb eg A0 c0 l0 w hr0 hp)
 clear hr0 hp
 have HE:=Za (ZcO p l0)
 go_enter Try.func123,Try.ntmps123
 go_wp2_with (go_at_call 161;refine HI.out.mono ?_;rintro e w' ⟨rfl,hb⟩)
 go_ret
 exact⟨by rw[← HE.out];rfl,hb⟩
def ZbW.f (l0:List Int) (a1:Int):Option Int:=some (Za8 (fun y=>decide (a1=y)) l0)
set_option maxHeartbeats 4000000 in
theorem ZbW.calls (A0:Option Addr) (c0:Nat) (l0:List Int) (a1:Int) (r:Int) (w:World) (hr0:Kd.C (Kd.int .i64) w A0 l0.length l0) (hc0:l0.length≤c0) (h:ZbW.f l0 a1=some r) :
  Calls Try.prog 89 #[.slice A0 l0.length c0,.int .i64 a1] w fun e w'=>e=.returned (.int .i64 r)∧Below w.heap.size w w':=by
 obtain rfl:=Zg h
 have HR0:=Za hr0
 have HL:l0.length≤9223372036854775807:=HR0.out.2.1
 clear hr0 h hc0
 go_enter Try.func89,Try.ntmps89
 go_wp2
 go_loopg [5,8] l0.length (fun gg _ s8 wr=>∃kk:Nat,Aside0 (kk≤l0.length)∧Aside0 (l0.length - kk≤gg)∧s8=.int .i64 kk∧Aside0 (Below w.heap.size w wr)∧Aside0 (∀j y,j<kk→l0[j]? = some y→decide (a1=y)=false))
 case atStart=>exact⟨0,⟨Nat.zero_le _⟩,⟨by omega⟩,rfl,⟨Below.refl _ _⟩,⟨fun j y hj=>absurd hj (Nat.not_lt_zero _)⟩⟩
 case round=>
  obtain⟨kk,HK,HG,rfl,HB,HN⟩:=hrel
  by_cases hlt:kk<l0.length
  ·have hltz:(kk:Int)<(l0.length:Int):=by omega
   obtain⟨ad,e1,hx⟩:=Kd.at_int HR0.out (kk:Int) (by omega) hltz
   cases e1
   replace hx:=(HB.out.cell (Zc w _ hx)).trans hx
   rw[Int.toNat_natCast] at hx
   have hxe:l0[kk]? = some (rd l0 (kk:Int)):=by
    unfold rd
    rw[Int.toNat_natCast,List.getD_eq_getElem?_getD,Zl hlt];rfl
   generalize rd l0 (kk:Int)=y at hx hxe
   have HX:=Za hxe;clear hxe
   by_cases hq:a1=y
   ·have hqb:(a1 == y)=true:=beq_iff_eq.2 hq
    have HQ:=Za (Ze hq)
    clear hq
    go_wp2
    go_ret
    exact⟨by rw[ZbI _ l0 kk y HX.out HQ.out HN.out];rfl,HB.out⟩
   ·have hqb:(a1 == y)=false:=beq_eq_false_iff_ne.2 hq
    have HQ:=Za (Zf hq)
    clear hq
    go_wp2
    go_roundg (l0.length - (kk+1))
    case measure=>have:=HG.out;omega
    case rel=>
     refine⟨kk+1,⟨by omega⟩,⟨by omega⟩,by go_num,HB,⟨fun j y' hj hy=>?_⟩⟩
     by_cases e:j=kk
     ·subst e
      rw[HX.out] at hy
      cases hy
      exact HQ.out
     ·exact HN.out j y' (by omega) hy
  ·have hltz:¬(kk:Int)<(l0.length:Int):=by omega
   have:kk=l0.length:=by have:=HK.out;omega
   subst this
   go_wp2
   go_ret
   exact⟨by rw[Zbu _ l0 HN.out];rfl,HB.out⟩
def ZK.f (l0:List Int) (a1:Int):Option Bool:=some (l0.any fun y=>decide (a1=y))
theorem ZK.calls (A0:Option Addr) (c0:Nat) (l0:List Int) (a1:Int) (r:Bool) (w:World) (hr0:Kd.C (Kd.int .i64) w A0 l0.length l0) (hc0:l0.length≤c0) (h:ZK.f l0 a1=some r) :
  Calls Try.prog 134 #[.slice A0 l0.length c0,.int .i64 a1] w fun e w'=>e=.returned (.bool r)∧Below w.heap.size w w':=by
 obtain rfl:=Zg h
 have HI:=Za (ZbW.calls A0 c0 l0 a1 (Za8 (fun y=>decide (a1=y)) l0) w hr0 hc0 rfl)
 have HE:=Za (ZcO (fun y=>decide (a1=y)) l0)
 clear hr0 hc0 h
 go_enter Try.func134,Try.ntmps134
 go_wp2_with (go_at_call 89;refine HI.out.mono ?_;rintro e w' ⟨rfl,hb⟩)
 go_ret
 exact⟨by rw[← HE.out];rfl,hb⟩
theorem ZK.hand (A0:Option Addr) (c0:Nat) (l0:List Int) (a1:Int) (w:World) (hr0:Kd.C (Kd.int .i64) w A0 l0.length l0) (hc0:l0.length≤c0) :
  Calls Try.prog 134 #[.slice A0 l0.length c0,.int .i64 a1] w fun e w'=>e=.returned (.bool (l0.any fun y=>decide (a1=y)))∧Below w.heap.size w w':=ZK.calls A0 c0 l0 a1 _ w hr0 hc0 rfl
def ZaM.f (k:Nat) (l0 l1:List Int):Option Bool:=(Z1.f k l0).bind fun a=>if a=true then(Z1.f k l1).bind fun b=>if b=true then some (l1.all fun x=>l0.any fun y=>decide (x=y)) else some false else some false
theorem Zdh.clo (B:Nat) (A0:Option Addr) (c0:Nat) (l0:List Int) (x:Int) (W:World) (hB:W.cell? ⟨B,0,none⟩=some (.slice A0 l0.length c0)) (hr0:Kd.C (Kd.int .i64) W A0 l0.length l0) (hc0:l0.length≤c0) :
  Calls Try.prog 176 #[.int .i64 x,.pointer (some ⟨B,0,none⟩)] W fun e w'=>e=.returned (.bool (!(l0.any fun y=>decide (x=y))))∧Below W.heap.size W w':=by
 have HC:=Za ((ZK.hand A0 c0 l0 x W hr0 hc0))
 clear hr0 hc0
 go_enter Try.func176,Try.ntmps176
 go_wp2_with (go_at_call 134;refine HC.out.mono ?_;rintro e w' ⟨rfl,hb⟩)
 go_ret
 exact⟨rfl,hb⟩
set_option maxHeartbeats 4000000 in
theorem ZaM.calls (k:Nat) (A0:Option Addr) (c0:Nat) (l0:List Int) (A1:Option Addr) (c1:Nat) (l1:List Int) (r:Bool) (w:World) (hr0:Kd.C (Kd.int .i64) w A0 l0.length l0) (hc0:l0.length≤c0) (hr1:Kd.C (Kd.int .i64) w A1 l1.length l1) (hc1:l1.length≤c1) (h:ZaM.f k l0 l1=some r) :
  Calls Try.prog 163 #[.slice A0 l0.length c0,.slice A1 l1.length c1] w fun e w'=>e=.returned (.bool r)∧Below w.heap.size w w':=by
 unfold ZaM.f at h
 obtain⟨a,ha,h⟩:=Option.bind_eq_some_iff.1 h
 have LA:=Za fun (W:World) (hb:Below w.heap.size w W)=>(Z1.calls k A0 c0 l0 a W (Zb hr0 hb) hc0 ha).mono fun e w' ⟨he,hd⟩=>(⟨he,by first|exact hd|exact hd.below⟩:e=Ending.returned (.bool a)∧Below W.heap.size W w')
 have B0:=Za ((Below.refl w.heap.size w).alloc (Nat.le_refl _) (.cells #[.slice A0 l0.length c0] 26))
 cases a with
 | false=>
  rw[if_neg (by decide)] at h
  obtain rfl:=Zg h
  clear hr0 hr1 ha h hc0 hc1
  go_enter Try.func163,Try.ntmps163
  go_wp2_with fail
  refine(LA.out _ B0.out).mono ?_
  rintro e w1 ⟨rfl,hb1⟩
  have B1:=Za (B0.out.trans (hb1.mono B0.out.size))
  clear hb1
  go_wp2
  go_ret
  exact⟨rfl,B1.out⟩
 | true=>
  rw[if_pos rfl] at h
  obtain⟨b,hb_,h⟩:=Option.bind_eq_some_iff.1 h
  have LB:=Za fun (W:World) (hb:Below w.heap.size w W)=>(Z1.calls k A1 c1 l1 b W (Zb hr1 hb) hc1 hb_).mono fun e w' ⟨he,hd⟩=>(⟨he,by first|exact hd|exact hd.below⟩:e=Ending.returned (.bool b)∧Below W.heap.size W w')
  cases b with
  | false=>
   rw[if_neg (by decide)] at h
   obtain rfl:=Zg h
   clear hr0 hr1 ha h hc0 hc1 hb_
   go_enter Try.func163,Try.ntmps163
   go_wp2_with fail
   refine(LA.out _ B0.out).mono ?_
   rintro e w1 ⟨rfl,hb1⟩
   have B1:=Za (B0.out.trans (hb1.mono B0.out.size))
   clear hb1
   go_wp2_with fail
   refine(LB.out _ B1.out).mono ?_
   rintro e w2 ⟨rfl,hb2⟩
   have B2:=Za (B1.out.trans (hb2.mono B1.out.size))
   clear hb2
   go_wp2
   go_ret
   exact⟨rfl,B2.out⟩
  | true=>
   rw[if_pos rfl] at h
   obtain rfl:=Zg h
   have HC:=Za fun (W:World) (hb:Below w.heap.size w W) (hcell:W.cell? ⟨w.heap.size,0,none⟩=some (.slice A0 l0.length c0))=>ZbU.any (fun x=>!(l0.any fun y=>decide (x=y))) 176 #[.pointer (some ⟨w.heap.size,0,none⟩)] (enters_of Try.func176 (by kernel_rfl) rfl) A1 c1 l1 W (Zb hr1 hb)
    (fun W' x _ hb'=>Zdh.clo w.heap.size A0 c0 l0 x W' ((hb'.cell (Zc W _ hcell)).trans hcell) (Zb hr0 (hb.trans (hb'.mono hb.size))) hc0)
   have HV:=Za (show(!(l1.any fun x=>!(l0.any fun y=>decide (x=y))))=l1.all fun x=>l0.any fun y=>decide (x=y) by rw[List.not_any_eq_all_not];simp)
   have C0:=Za (show(w.alloc (.cells #[.slice A0 l0.length c0] 26)).cell? ⟨w.heap.size,0,none⟩=some (.slice A0 l0.length c0) by go_simp)
   clear hr0 hr1 ha h hc0 hc1 hb_
   go_enter Try.func163,Try.ntmps163
   go_wp2_with fail
   refine(LA.out _ B0.out).mono ?_
   rintro e w1 ⟨rfl,hb1⟩
   have B1:=Za (B0.out.trans (hb1.mono B0.out.size))
   have C1:=Za ((hb1.cell (Zc _ _ C0.out)).trans C0.out)
   clear hb1
   go_wp2_with fail
   refine(LB.out _ B1.out).mono ?_
   rintro e w2 ⟨rfl,hb2⟩
   have B2:=Za (B1.out.trans (hb2.mono B1.out.size))
   have C2:=Za ((hb2.cell (Zc _ _ C1.out)).trans C1.out)
   clear hb2
   go_wp2_with fail
   refine(HC.out _ B2.out C2.out).mono ?_
   rintro e w3 ⟨rfl,hb3⟩
   go_wp2
   go_ret
   exact⟨by rw[← HV.out];rfl,B2.out.trans (hb3.mono B2.out.size)⟩
end Go.Proofs.Ytodfnelilhjoeaa.Pr
namespace Go.Proofs.Ytodfnelilhjoeaa.Pr
open Go.RowKit Go.Proofs.YtodfnelilhjoeaaW.PrintWords Go.Proofs.Ytodfnelilhjoeaa.Ni
theorem Zci (l:List Int) (x:Int) (hl:l.length≤9223372036854775807) (k:Nat) (hk:2 ^ 64≤k):Z8.f k l x=some (l.any fun y=>decide (x=y)):=by
 have key:=ZaC l.length (fun k i=>Z8.l0 k x l l.length (i:Int)=some ((l.drop i).any fun y=>decide (x=y))) 0
  (fun k _=>by simp[Z8.l0])
  (fun k i _ hi ih=>by
   simp only[Z8.l0]
   rw[if_pos (by omega),if_pos (by omega),if_pos (by omega),Zbk,Z6 hi (by omega),ZaE hi 0,List.any_cons]
   by_cases h:l.getD i 0=x
   ·rw[if_pos h,Ze h.symm];rfl
   ·rw[if_neg h,ih,Zf (fun e=>h e.symm)];rfl) 0 k (Nat.zero_le _) (by omega)
 unfold Z8.f
 simpa using key
def impB (a b:List Int):Bool:=labB a && labB b && b.all fun x=>a.any fun y=>decide (x=y)
theorem Zdf (a b:List Int) (ha:a.length≤9223372036854775807) (hb:b.length≤9223372036854775807) (k:Nat) (hk:2 ^ 65≤k):ZP.f k a b=some (impB a b):=by
 have key:∀k,2 ^ 64+b.length<k→ZP.l0 k a b b.length 0=some (b.all fun x=>a.any fun y=>decide (x=y)):=by
  intro k hk
  have:=ZaC b.length (fun k i=>ZP.l0 k a b b.length (i:Int)=some ((b.drop i).all fun x=>a.any fun y=>decide (x=y))) (2 ^ 64)
   (fun k _=>by simp[ZP.l0])
   (fun k i hk hi ih=>by
    simp only[ZP.l0]
    rw[if_pos (by omega),if_pos (by omega),if_pos (by omega),Zbk,Z6 hi (by omega),ZaE hi 0,List.all_cons,Zci a _ ha k hk,Zi]
    cases h:a.any fun y=>decide (b.getD i 0=y)
    ·rfl
    ·rw[if_pos rfl,ih];rfl) 0 k (Nat.zero_le _) (by omega)
  simpa using this
 unfold ZP.f impB
 obtain⟨m,rfl⟩:∃m,k=m+1:=⟨k - 1,by omega⟩
 rw[Zch a ha _ (by omega),Zi,Zch b hb _ (by omega)]
 cases labB a
 ·rfl
 ·rw[if_pos rfl,Zi]
  cases labB b
  ·rfl
  ·simp only[ZP.j0,Bool.not_true,Bool.false_eq_true,if_false]
   rw[key m (by omega)];rfl
theorem Zdg (a b:List Int) (ha:a.length≤9223372036854775807) (hb:b.length≤9223372036854775807) (k:Nat) (hk:2 ^ 64≤k):ZaM.f k a b=some (impB a b):=by
 unfold ZaM.f impB
 rw[Zck a ha k hk,Zi,Zck b hb k hk]
 cases labB a
 ·rfl
 ·rw[if_pos rfl,Zi]
  cases labB b <;> rfl
end Go.Proofs.Ytodfnelilhjoeaa.Pr
namespace Go.Proofs.Ytodfnelilhjoeaa.Pr
open Go.RowKit Go.Proofs.YtodfnelilhjoeaaW.PrintWords Go.Proofs.YtodfnelilhjoeaaW.PrintLast Go.Proofs.YtodfnelilhjoeaaW.PrintMore
attribute [local go_sem] Zac Zaa Zam Zal Z5 Z4 Zab Z9
set_option linter.unusedVariables false
set_option linter.unusedSimpArgs false
open Go.Proofs.Ytodfnelilhjoeaa.Ni
set_option maxHeartbeats 4000000 in
theorem impl_Node.any (p:S116→Bool) (g:Nat) (lb:Array Value) (eg:∀args w,(callFunc g args).run Try.prog w=.ok (.enter g args) w) (A0:Option Addr) (c0:Nat) (l0:List S116) (w:World) (hr0:Kd.C k116 w A0 l0.length l0)
  (hp:∀(W:World) (x:S116) (A1_:Option Addr) (c1_:Nat),x∈l0→Below w.heap.size w W→x.f1.length≤c1_→Kd.C (Kd.int .i64) W A1_ x.f1.length x.f1→Calls Try.prog g (#[.agg #[.string x.f0,.slice A1_ x.f1.length c1_,.int .i64 x.f2]] ++ lb) W fun e w'=>e=.returned (.bool (p x))∧Below W.heap.size W w') :
  Calls Try.prog 164 #[.slice A0 l0.length c0,.func (.func g) #[] lb] w fun e w'=>e=.returned (.int .i64 (Za8 p l0))∧Below w.heap.size w w':=by
 have HR0:=Za hr0;have HP:=Za hp;clear hr0 hp
 have HL:l0.length≤9223372036854775807:=HR0.out.2.1
 go_enter Try.func164,Try.ntmps164
 go_wp2
 go_loopg [5,8] l0.length (fun gg _ s8 wr=>∃kk:Nat,Aside0 (kk≤l0.length)∧Aside0 (l0.length - kk≤gg)∧s8=.int .i64 kk∧Aside0 (Below w.heap.size w wr)∧Aside0 (∀j y,j<kk→l0[j]? = some y→p y=false))
 case atStart=>exact⟨0,⟨Nat.zero_le _⟩,⟨by omega⟩,rfl,⟨Below.refl _ _⟩,⟨fun j y hj=>absurd hj (Nat.not_lt_zero _)⟩⟩
 case round=>
  obtain⟨kk,HK,HG,rfl,HB,HN⟩:=hrel
  by_cases hlt:kk<l0.length
  ·have hltz:(kk:Int)<(l0.length:Int):=by omega
   obtain⟨ad,A1_,c1_,e1,hx0,hx1,hx2,l1_,g1_⟩:=Zaq HR0.out (kk:Int) (by omega) hltz
   cases e1
   replace hx0:=(HB.out.cell (Zc w _ hx0)).trans hx0
   rw[Int.toNat_natCast] at hx0
   replace hx1:=(HB.out.cell (Zc w _ hx1)).trans hx1
   rw[Int.toNat_natCast] at hx1
   replace hx2:=(HB.out.cell (Zc w _ hx2)).trans hx2
   rw[Int.toNat_natCast] at hx2
   have hxe:l0[kk]? = some (Zz l0 (kk:Int)):=by
    unfold Zz
    rw[Int.toNat_natCast,List.getD_eq_getElem?_getD,Zl hlt];rfl
   generalize Zz l0 (kk:Int)=y at hx0 hx1 hx2 l1_ g1_ hxe
   have HX:=Za hxe;clear hxe
   have hcall:=HP.out wr y A1_ c1_ (List.mem_of_getElem? HX.out) HB.out l1_ (Zb g1_ HB.out)
   clear g1_ l1_
   cases hq:p y with
   | true=>
    have HQ:=Za hq
    rw[hq] at hcall
    clear hq
    go_wp2_with (go_at_fn g;refine hcall.mono ?_;rintro e w' ⟨rfl,hb⟩)
    go_ret
    exact⟨by rw[ZbI p l0 kk y HX.out HQ.out HN.out];rfl,HB.out.trans (hb.mono HB.out.size)⟩
   | false=>
    have HQ:=Za hq
    rw[hq] at hcall
    clear hq
    go_wp2_with (go_at_fn g;refine hcall.mono ?_;rintro e w' ⟨rfl,hb⟩)
    go_roundg (l0.length - (kk+1))
    case measure=>have:=HG.out;omega
    case rel=>
     refine⟨kk+1,⟨by omega⟩,⟨by omega⟩,by go_num,⟨HB.out.trans (hb.mono HB.out.size)⟩,⟨fun j y' hj hy=>?_⟩⟩
     by_cases e:j=kk
     ·subst e
      rw[HX.out] at hy
      cases hy
      exact HQ.out
     ·exact HN.out j y' (by omega) hy
  ·have hltz:¬(kk:Int)<(l0.length:Int):=by omega
   have:kk=l0.length:=by have:=HK.out;omega
   subst this
   go_wp2
   go_ret
   exact⟨by rw[Zbu p l0 HN.out];rfl,HB.out⟩
def Zb9 (ns:List S116) (p:Int):Int:=Za8 (fun n=>decide (0<p) && decide (n.f2=p)) ns
def Zbd.f (l0_0:List (S116)) (l0_1:List (S90)) (a0_2:Int) (a1:Int):Option Int:=some (Zb9 l0_0 a1)
theorem Zd5.clo (B:Nat) (p:Int) (W:World) (hB:W.cell? ⟨B,0,none⟩=some (.int .i64 p)) (x:S116) (A1_:Option Addr) (c1_:Nat) :
  Calls Try.prog 165 #[.agg #[.string x.f0,.slice A1_ x.f1.length c1_,.int .i64 x.f2],.pointer (some ⟨B,0,none⟩)] W fun e w'=>e=.returned (.bool (decide (0<p) && decide (x.f2=p)))∧Below W.heap.size W w':=by
 have hlt:B<W.heap.size:=Zc W _ hB
 have HE:=Za (show(x.f2 == p)=decide (x.f2=p) by rw[Bool.eq_iff_iff];simp)
 cases hp:decide (0<p) with
 | false=>
  go_enter Try.func165,Try.ntmps165
  go_wp2
  go_ret
  exact⟨rfl,(Below.refl _ _).alloc (Nat.le_refl _) _⟩
 | true=>
  go_enter Try.func165,Try.ntmps165
  go_wp2
  go_ret
  exact⟨by rw[← HE.out];rfl,(Below.refl _ _).alloc (Nat.le_refl _) _⟩
set_option maxHeartbeats 4000000 in
theorem Zbd.calls (A0_0:Option Addr) (c0_0:Nat) (l0_0:List (S116)) (A0_1:Option Addr) (c0_1:Nat) (l0_1:List (S90)) (a0_2:Int) (a1:Int) (r:Int) (w:World) (hr0_0:Kd.C k116 w A0_0 l0_0.length l0_0) (hc0_0:l0_0.length≤c0_0) (hr0_1:Kd.C k90 w A0_1 l0_1.length l0_1) (hc0_1:l0_1.length≤c0_1) (h:Zbd.f l0_0 l0_1 a0_2 a1=some r) :
  Calls Try.prog 126 #[.agg #[.slice A0_0 l0_0.length c0_0,.slice A0_1 l0_1.length c0_1,.int .i64 a0_2],.int .i64 a1] w fun e w'=>e=.returned (.int .i64 r)∧Below w.heap.size w w':=by
 obtain rfl:=Zg h
 have HC':=Za fun (W:World) (B:Nat) (hb:Below w.heap.size w W) (hcell:W.cell? ⟨B,0,none⟩=some (.int .i64 a1))=>impl_Node.any (fun n=>decide (0<a1) && decide (n.f2=a1)) 165 #[.pointer (some ⟨B,0,none⟩)] (enters_of Try.func165 (by kernel_rfl) rfl) A0_0 c0_0 l0_0 W (Zb hr0_0 hb)
    (fun W' x A1_ c1_ _ hb' _ _=>Zd5.clo B a1 W' ((hb'.cell (Zc W _ hcell)).trans hcell) x A1_ c1_)
 clear hr0_0 hr0_1 h
 have HB2:=Za (((Below.refl w.heap.size w).alloc (Nat.le_refl _) (.cells #[.slice A0_0 l0_0.length c0_0,.slice A0_1 l0_1.length c0_1,.int .i64 a0_2] 35)).alloc (by simp) (.cells #[.int .i64 a1] 3))
 have hu:=Try.underlying35
 go_enter Try.func126,Try.ntmps126
 go_wp2_with fail
 refine(HC'.out _ _ HB2.out (by go_simp)).mono ?_
 rintro e w' ⟨rfl,hb⟩
 go_wp2
 go_ret
 exact⟨rfl,HB2.out.trans (hb.mono HB2.out.size)⟩
end Go.Proofs.Ytodfnelilhjoeaa.Pr
namespace Go.Proofs.Ytodfnelilhjoeaa.Pr
open Go.RowKit Go.Proofs.YtodfnelilhjoeaaW.PrintWords Go.Proofs.YtodfnelilhjoeaaW.PrintLast Go.Proofs.YtodfnelilhjoeaaW.PrintMore
attribute [local go_sem] Zac Zaa Zam Zal Z5 Z4 Zab Z9
set_option linter.unusedVariables false
set_option linter.unusedSimpArgs false
def ZbA.f (k:Nat) (l0_0:List (S116)) (l0_1:List (S90)) (a0_2:Int) (l1:List Int) (a2:Int):Option (Bool):=(ZaA.f a2).bind fun t125002=>((Zbd.f l0_0 l0_1 a0_2 t125002).bind fun t125003=>(if t125003<0 then(some false) else(if 0≤t125003 then(if t125003<(l0_0.length:Int) then((ZK.f ((Zz l0_0 t125003).f1) a2).bind fun t125005=>(if t125005=true then(some false) else((ZK.f ((Zz l0_0 t125003).f1) (wrap64 (-a2))).bind fun t125006=>(if t125006=true then(some false) else((ZaM.f k l1 ((Zz l0_0 t125003).f1)).bind fun t125007=>(some t125007)))))) else(none)) else(none))))
set_option maxHeartbeats 8000000 in
set_option maxRecDepth 100000 in
theorem ZbA.calls (k:Nat) (A0_0:Option Addr) (c0_0:Nat) (l0_0:List (S116)) (A0_1:Option Addr) (c0_1:Nat) (l0_1:List (S90)) (a0_2:Int) (A1:Option Addr) (c1:Nat) (l1:List Int) (a2:Int) (r:Bool) (w:World) (hr0_0:Kd.C k116 w A0_0 l0_0.length l0_0) (hc0_0:l0_0.length≤c0_0) (hr0_1:Kd.C k90 w A0_1 l0_1.length l0_1) (hc0_1:l0_1.length≤c0_1) (hr1:Kd.C (Kd.int .i64) w A1 l1.length l1) (hc1:l1.length≤c1) (h:ZbA.f k l0_0 l0_1 a0_2 l1 a2=some r) :
  Calls Try.prog 125 #[.agg #[.slice A0_0 l0_0.length c0_0,.slice A0_1 l0_1.length c0_1,.int .i64 a0_2],.slice A1 l1.length c1,.int .i64 a2] w fun e w'=>e=.returned (.bool r)∧Below w.heap.size w w':=by
 have hu35:=Try.underlying35
 have HR0_0:=Za hr0_0;have HC0_0:=Za hc0_0;clear hr0_0 hc0_0;have HR0_1:=Za hr0_1;have HC0_1:=Za hc0_1;clear hr0_1 hc0_1;have HR1:=Za hr1;have HC1:=Za hc1;clear hr1 hc1
 have HB:=Za (Below.refl w.heap.size w)
 have H:((ZaA.f a2).bind fun t125002=>((Zbd.f l0_0 l0_1 a0_2 t125002).bind fun t125003=>(if t125003<0 then(some false) else(if 0≤t125003 then(if t125003<(l0_0.length:Int) then((ZK.f ((Zz l0_0 t125003).f1) a2).bind fun t125005=>(if t125005=true then(some false) else((ZK.f ((Zz l0_0 t125003).f1) (wrap64 (-a2))).bind fun t125006=>(if t125006=true then(some false) else((ZaM.f k l1 ((Zz l0_0 t125003).f1)).bind fun t125007=>(some t125007)))))) else(none)) else(none)))))=some r:=h
 clear h
 replace H:=Zh H
 obtain⟨t125002,A40,H⟩:=H;have A4:=Za A40;clear A40
 replace H:=Zh H
 obtain⟨t125003,A50,H⟩:=H;have A5:=Za A50;clear A50
 by_cases c6:t125003<0
 ·rw[if_pos c6] at H
  have c6b0:decide (t125003<0)=true:=Ze c6
  clear c6
  obtain rfl:=Zg H
  go_enter Try.func125,Try.ntmps125
  try go_wp2_with (first|((with_reducible refine ZI (N:=3) rfl ?_);refine ZH ?hg (N:=3) ?hd (cs:=#[.slice A0_0 l0_0.length c0_0,.slice A0_1 l0_1.length c0_1,.int .i64 a0_2]) (t:=35) ?hr ?_;(case hd=>rfl);(case hg=>rfl);(case hr=>first|(go_simp;done)|(go_simp;rfl));intro gb125001 hg w7 hbox hb;have BK125001:=Za (hbox);have GW125001:=Za ((by rw[hg];exact(Zx (by exact HB.out)):w.heap.size≤gb125001));have GE125001:=Za ((by rw[hg];exact(Zx (by exact HB.out)):w.heap.size≤gb125001));replace HB:=Za (Zw (by exact HB.out) hb);clear hb hbox hg))
  replace BK125001:=Za (Zu BK125001.out);replace HB:=Za (Zt HB.out)
  refine start_ (n:=5) (S:=fun w'=>w'.cell? ⟨gb125001,0,none⟩=some (.slice A0_0 l0_0.length c0_0)∧w'.cell? ⟨gb125001,1,none⟩=some (.slice A0_1 l0_1.length c0_1)∧w'.cell? ⟨gb125001,2,none⟩=some (.int .i64 a0_2)) (ds:=[]) #[false,false,false,false,false] (by kernel_rfl) rfl rfl ⟨(Zs BK125001.out 0).trans rfl,(Zs BK125001.out 1).trans rfl,(Zs BK125001.out 2).trans rfl⟩ (fun hHeld=>?_)
  generalize w7.drew=w8 at BK125001 HB hHeld ⊢
  refine ZbQ (i:=1) (N:=some 10) (v:=?_) (a':=?_) #[false,true,false,false,false] rfl rfl (by kernel_rfl) (fun _ _ _ h=>h) (Or.inl ⟨by rfl,?_⟩) ?_ ?_
  rotate_left
  ·intro w'
   go_simp
   with_reducible rfl
  rotate_left
  ·simp only[Act.put,List.setIfInBounds_toArray,List.set_cons_zero,List.set_cons_succ,ZaN,ZaS]
   rfl
  refine take_ (i:=0) (N:=some 9) (v:=?_) (a':=?_) #[true,true,false,false,false] rfl rfl (by kernel_rfl) (fun _ _ _ h=>h) (Or.inl ⟨by rfl,?_⟩) hHeld ?_ ?_
  rotate_left
  ·rintro w' ⟨s0,s1,s2⟩
   go_simp
   with_reducible rfl
  rotate_left
  ·simp only[Act.put,List.setIfInBounds_toArray,List.set_cons_zero,List.set_cons_succ,ZaN,ZaS]
   rfl
  refine one_ (i:=2) (N:=some 11) #[true,true,true,false,false] rfl rfl (by kernel_rfl) (by decide) (fun K hK=>?_)
  refine goes_ Try.func162 (by kernel_rfl) rfl #[.int .i64 a2] (by rfl) rfl rfl (by(try simp only[List.map_toArray,List.map_cons,List.map_nil]);first|done|rfl|(simp only[Zk,Zj];rfl)) ?_
  with_reducible refine(ZaA.calls a2 t125002 _ A4.out).mono ?_
  rintro e w9 ⟨rfl,hb⟩
  refine⟨_,rfl,?_⟩
  replace BK125001:=Za (Zy BK125001.out hb);replace HB:=Za (Zw (by exact HB.out) hb)
  (try clear hb)
  (try clear hb2)
  (try clear hk)
  (try clear hi)
  refine hK.out _ _ ⟨(Zs BK125001.out 0).trans rfl,(Zs BK125001.out 1).trans rfl,(Zs BK125001.out 2).trans rfl⟩ (fun hHeld=>?_)
  clear hK K
  refine Zco (a':=?_) ?_ ?_
  rotate_left
  ·show Act.put _ (some 11) _=_
   simp only[Act.put,List.setIfInBounds_toArray,List.set_cons_zero,List.set_cons_succ,ZaN,ZaS]
   rfl
  refine one_ (i:=3) (N:=some 12) #[true,true,true,true,false] rfl rfl (by kernel_rfl) (by decide) (fun K hK=>?_)
  refine goes_ Try.func126 (by kernel_rfl) rfl #[.agg #[.slice A0_0 l0_0.length c0_0,.slice A0_1 l0_1.length c0_1,.int .i64 a0_2],.int .i64 t125002] (by rfl) rfl rfl (by(try simp only[List.map_toArray,List.map_cons,List.map_nil]);first|done|rfl|(simp only[Zk,Zj];rfl)) ?_
  with_reducible refine(Zbd.calls _ _ l0_0 _ _ l0_1 a0_2 t125002 t125003 _ ?side1 ?side2 ?side3 ?side4 A5.out).mono ?_
  (case side1=>exact(Zb HR0_0.out HB.out))
  (case side2=>exact HC0_0.out)
  (case side3=>exact(Zb HR0_1.out HB.out))
  (case side4=>exact HC0_1.out)
  rintro e w10 ⟨rfl,hb⟩
  refine⟨_,rfl,?_⟩
  replace BK125001:=Za (Zy BK125001.out hb);replace HB:=Za (Zw (by exact HB.out) hb)
  (try clear hb)
  (try clear hb2)
  (try clear hk)
  (try clear hi)
  refine hK.out _ _ ⟨(Zs BK125001.out 0).trans rfl,(Zs BK125001.out 1).trans rfl,(Zs BK125001.out 2).trans rfl⟩ (fun hHeld=>?_)
  clear hK K
  refine Zco (a':=?_) ?_ ?_
  rotate_left
  ·show Act.put _ (some 12) _=_
   simp only[Act.put,List.setIfInBounds_toArray,List.set_cons_zero,List.set_cons_succ,ZaN,ZaS]
   rfl
  refine ZbQ (i:=4) (N:=some 7) (v:=?_) (a':=?_) #[true,true,true,true,true] rfl rfl (by kernel_rfl) (fun _ _ _ h=>h) (Or.inl ⟨by rfl,?_⟩) ?_ ?_
  rotate_left
  ·intro w'
   go_simp
   with_reducible rfl
  rotate_left
  ·simp only[Act.put,List.setIfInBounds_toArray,List.set_cons_zero,List.set_cons_succ,ZaN,ZaS]
   rfl
  refine done_ (by kernel_rfl) ?_
  try go_wp2
  go_ret
  exact⟨by first|rfl|(simp[ZB,ZA] <;> rfl)|(simp[*,ZB,ZA] <;> rfl),by repeat(first|(with_reducible first|exact HB.out|apply Zn|apply Zm|apply Zt|refine Zq ?_ GE125001.out)|exact HB.out)⟩
 ·rw[if_neg c6] at H
  have c6b0:decide (t125003<0)=false:=Zf c6
  clear c6
  by_cases c11:0≤t125003
  ·rw[if_pos c11] at H
   have c11b0:decide (0≤t125003)=true:=Ze c11
   clear c11
   by_cases c12:t125003<(l0_0.length:Int)
   ·rw[if_pos c12] at H
    have c12b0:decide (t125003<(l0_0.length:Int))=true:=Ze c12
    clear c12
    replace H:=Zh H
    obtain⟨t125005,A130,H⟩:=H;have A13:=Za A130;clear A130
    by_cases c14:t125005=true
    ·subst c14
     rw[if_pos rfl] at H
     obtain rfl:=Zg H
     go_enter Try.func125,Try.ntmps125
     try go_wp2_with (first|((with_reducible refine ZI (N:=3) rfl ?_);refine ZH ?hg (N:=3) ?hd (cs:=#[.slice A0_0 l0_0.length c0_0,.slice A0_1 l0_1.length c0_1,.int .i64 a0_2]) (t:=35) ?hr ?_;(case hd=>rfl);(case hg=>rfl);(case hr=>first|(go_simp;done)|(go_simp;rfl));intro gb125001 hg w15 hbox hb;have BK125001:=Za (hbox);have GW125001:=Za ((by rw[hg];exact(Zx (by exact HB.out)):w.heap.size≤gb125001));have GE125001:=Za ((by rw[hg];exact(Zx (by exact HB.out)):w.heap.size≤gb125001));replace HB:=Za (Zw (by exact HB.out) hb);clear hb hbox hg))
     replace BK125001:=Za (Zu BK125001.out);replace HB:=Za (Zt HB.out)
     refine start_ (n:=5) (S:=fun w'=>w'.cell? ⟨gb125001,0,none⟩=some (.slice A0_0 l0_0.length c0_0)∧w'.cell? ⟨gb125001,1,none⟩=some (.slice A0_1 l0_1.length c0_1)∧w'.cell? ⟨gb125001,2,none⟩=some (.int .i64 a0_2)) (ds:=[]) #[false,false,false,false,false] (by kernel_rfl) rfl rfl ⟨(Zs BK125001.out 0).trans rfl,(Zs BK125001.out 1).trans rfl,(Zs BK125001.out 2).trans rfl⟩ (fun hHeld=>?_)
     generalize w15.drew=w16 at BK125001 HB hHeld ⊢
     refine ZbQ (i:=1) (N:=some 10) (v:=?_) (a':=?_) #[false,true,false,false,false] rfl rfl (by kernel_rfl) (fun _ _ _ h=>h) (Or.inl ⟨by rfl,?_⟩) ?_ ?_
     rotate_left
     ·intro w'
      go_simp
      with_reducible rfl
     rotate_left
     ·simp only[Act.put,List.setIfInBounds_toArray,List.set_cons_zero,List.set_cons_succ,ZaN,ZaS]
      rfl
     refine take_ (i:=0) (N:=some 9) (v:=?_) (a':=?_) #[true,true,false,false,false] rfl rfl (by kernel_rfl) (fun _ _ _ h=>h) (Or.inl ⟨by rfl,?_⟩) hHeld ?_ ?_
     rotate_left
     ·rintro w' ⟨s0,s1,s2⟩
      go_simp
      with_reducible rfl
     rotate_left
     ·simp only[Act.put,List.setIfInBounds_toArray,List.set_cons_zero,List.set_cons_succ,ZaN,ZaS]
      rfl
     refine one_ (i:=2) (N:=some 11) #[true,true,true,false,false] rfl rfl (by kernel_rfl) (by decide) (fun K hK=>?_)
     refine goes_ Try.func162 (by kernel_rfl) rfl #[.int .i64 a2] (by rfl) rfl rfl (by(try simp only[List.map_toArray,List.map_cons,List.map_nil]);first|done|rfl|(simp only[Zk,Zj];rfl)) ?_
     with_reducible refine(ZaA.calls a2 t125002 _ A4.out).mono ?_
     rintro e w17 ⟨rfl,hb⟩
     refine⟨_,rfl,?_⟩
     replace BK125001:=Za (Zy BK125001.out hb);replace HB:=Za (Zw (by exact HB.out) hb)
     (try clear hb)
     (try clear hb2)
     (try clear hk)
     (try clear hi)
     refine hK.out _ _ ⟨(Zs BK125001.out 0).trans rfl,(Zs BK125001.out 1).trans rfl,(Zs BK125001.out 2).trans rfl⟩ (fun hHeld=>?_)
     clear hK K
     refine Zco (a':=?_) ?_ ?_
     rotate_left
     ·show Act.put _ (some 11) _=_
      simp only[Act.put,List.setIfInBounds_toArray,List.set_cons_zero,List.set_cons_succ,ZaN,ZaS]
      rfl
     refine one_ (i:=3) (N:=some 12) #[true,true,true,true,false] rfl rfl (by kernel_rfl) (by decide) (fun K hK=>?_)
     refine goes_ Try.func126 (by kernel_rfl) rfl #[.agg #[.slice A0_0 l0_0.length c0_0,.slice A0_1 l0_1.length c0_1,.int .i64 a0_2],.int .i64 t125002] (by rfl) rfl rfl (by(try simp only[List.map_toArray,List.map_cons,List.map_nil]);first|done|rfl|(simp only[Zk,Zj];rfl)) ?_
     with_reducible refine(Zbd.calls _ _ l0_0 _ _ l0_1 a0_2 t125002 t125003 _ ?side1 ?side2 ?side3 ?side4 A5.out).mono ?_
     (case side1=>exact(Zb HR0_0.out HB.out))
     (case side2=>exact HC0_0.out)
     (case side3=>exact(Zb HR0_1.out HB.out))
     (case side4=>exact HC0_1.out)
     rintro e w18 ⟨rfl,hb⟩
     refine⟨_,rfl,?_⟩
     replace BK125001:=Za (Zy BK125001.out hb);replace HB:=Za (Zw (by exact HB.out) hb)
     (try clear hb)
     (try clear hb2)
     (try clear hk)
     (try clear hi)
     refine hK.out _ _ ⟨(Zs BK125001.out 0).trans rfl,(Zs BK125001.out 1).trans rfl,(Zs BK125001.out 2).trans rfl⟩ (fun hHeld=>?_)
     clear hK K
     refine Zco (a':=?_) ?_ ?_
     rotate_left
     ·show Act.put _ (some 12) _=_
      simp only[Act.put,List.setIfInBounds_toArray,List.set_cons_zero,List.set_cons_succ,ZaN,ZaS]
      rfl
     refine ZbQ (i:=4) (N:=some 7) (v:=?_) (a':=?_) #[true,true,true,true,true] rfl rfl (by kernel_rfl) (fun _ _ _ h=>h) (Or.inl ⟨by rfl,?_⟩) ?_ ?_
     rotate_left
     ·intro w'
      go_simp
      with_reducible rfl
     rotate_left
     ·simp only[Act.put,List.setIfInBounds_toArray,List.set_cons_zero,List.set_cons_succ,ZaN,ZaS]
      rfl
     refine done_ (by kernel_rfl) ?_
     have hcz19_0:w18.cell? ⟨gb125001,0,none⟩=some (.slice A0_0 l0_0.length c0_0):=(Zs BK125001.out 0).trans rfl
     have hcz19_1:w18.cell? ⟨gb125001,1,none⟩=some (.slice A0_1 l0_1.length c0_1):=(Zs BK125001.out 1).trans rfl
     have hcz19_2:w18.cell? ⟨gb125001,2,none⟩=some (.int .i64 a0_2):=(Zs BK125001.out 2).trans rfl
     have p125004:0≤(t125003:Int):=Zd (by with_reducible assumption)
     have q125004:t125003<(l0_0.length:Int):=Zd (by with_reducible assumption)
     obtain⟨ad125004,A125004_1,c125004_1,e125004,hx125004_0,hx125004_1,hx125004_2,hl125004_1,hi125004_1⟩:=Zaq HR0_0.out t125003 p125004 q125004
     cases e125004
     replace hx125004_0:=(HB.out.cell (Zc w _ hx125004_0)).trans hx125004_0
     replace hx125004_1:=(HB.out.cell (Zc w _ hx125004_1)).trans hx125004_1
     replace hx125004_2:=(HB.out.cell (Zc w _ hx125004_2)).trans hx125004_2
     have HR125004_1:=Za hi125004_1;have HC125004_1:=Za hl125004_1;clear hi125004_1 hl125004_1
     replace p125004:=eq_true p125004
     replace q125004:=eq_true q125004
     try go_wp2_with (first|((with_reducible refine ZG (f:=134) rfl ?_);refine ZQ (some 23) rfl rfl Try.func134 (by kernel_rfl) rfl #[.slice A125004_1 ((Zz l0_0 t125003).f1).length c125004_1,.int .i64 a2] rfl (by(try simp only[List.map_toArray,List.map_cons,List.map_nil]);first|done|rfl|(simp only[Zk,Zj];rfl)) ?_;(with_reducible refine(ZK.calls _ _ ((Zz l0_0 t125003).f1) a2 true _ ?side1 ?side2 A13.out).mono ?_);(case side1=>exact(Zb HR125004_1.out HB.out));(case side2=>exact HC125004_1.out);rintro e w20 ⟨rfl,hb⟩;refine⟨_,rfl,?_⟩;replace BK125001:=Za (Zy BK125001.out hb);replace HB:=Za (Zw (by exact HB.out) hb);(try clear hi)))
     go_ret
     exact⟨by first|rfl|(simp[ZB,ZA] <;> rfl)|(simp[*,ZB,ZA] <;> rfl),by repeat(first|(with_reducible first|exact HB.out|apply Zn|apply Zm|apply Zt|refine Zq ?_ GE125001.out)|exact HB.out)⟩
    ·replace c14:=Bool.eq_false_iff.mpr c14
     subst c14
     have H1:((ZK.f ((Zz l0_0 t125003).f1) (wrap64 (-a2))).bind fun t125006=>(if t125006=true then(some false) else((ZaM.f k l1 ((Zz l0_0 t125003).f1)).bind fun t125007=>(some t125007))))=some r:=by rw[if_neg (show ¬(false=true) by decide)] at H;exact H
     clear H
     have H:=H1
     clear H1
     replace H:=Zh H
     obtain⟨t125006,A210,H⟩:=H;have A21:=Za A210;clear A210
     by_cases c22:t125006=true
     ·subst c22
      rw[if_pos rfl] at H
      obtain rfl:=Zg H
      go_enter Try.func125,Try.ntmps125
      try go_wp2_with (first|((with_reducible refine ZI (N:=3) rfl ?_);refine ZH ?hg (N:=3) ?hd (cs:=#[.slice A0_0 l0_0.length c0_0,.slice A0_1 l0_1.length c0_1,.int .i64 a0_2]) (t:=35) ?hr ?_;(case hd=>rfl);(case hg=>rfl);(case hr=>first|(go_simp;done)|(go_simp;rfl));intro gb125001 hg w23 hbox hb;have BK125001:=Za (hbox);have GW125001:=Za ((by rw[hg];exact(Zx (by exact HB.out)):w.heap.size≤gb125001));have GE125001:=Za ((by rw[hg];exact(Zx (by exact HB.out)):w.heap.size≤gb125001));replace HB:=Za (Zw (by exact HB.out) hb);clear hb hbox hg))
      replace BK125001:=Za (Zu BK125001.out);replace HB:=Za (Zt HB.out)
      refine start_ (n:=5) (S:=fun w'=>w'.cell? ⟨gb125001,0,none⟩=some (.slice A0_0 l0_0.length c0_0)∧w'.cell? ⟨gb125001,1,none⟩=some (.slice A0_1 l0_1.length c0_1)∧w'.cell? ⟨gb125001,2,none⟩=some (.int .i64 a0_2)) (ds:=[]) #[false,false,false,false,false] (by kernel_rfl) rfl rfl ⟨(Zs BK125001.out 0).trans rfl,(Zs BK125001.out 1).trans rfl,(Zs BK125001.out 2).trans rfl⟩ (fun hHeld=>?_)
      generalize w23.drew=w24 at BK125001 HB hHeld ⊢
      refine ZbQ (i:=1) (N:=some 10) (v:=?_) (a':=?_) #[false,true,false,false,false] rfl rfl (by kernel_rfl) (fun _ _ _ h=>h) (Or.inl ⟨by rfl,?_⟩) ?_ ?_
      rotate_left
      ·intro w'
       go_simp
       with_reducible rfl
      rotate_left
      ·simp only[Act.put,List.setIfInBounds_toArray,List.set_cons_zero,List.set_cons_succ,ZaN,ZaS]
       rfl
      refine take_ (i:=0) (N:=some 9) (v:=?_) (a':=?_) #[true,true,false,false,false] rfl rfl (by kernel_rfl) (fun _ _ _ h=>h) (Or.inl ⟨by rfl,?_⟩) hHeld ?_ ?_
      rotate_left
      ·rintro w' ⟨s0,s1,s2⟩
       go_simp
       with_reducible rfl
      rotate_left
      ·simp only[Act.put,List.setIfInBounds_toArray,List.set_cons_zero,List.set_cons_succ,ZaN,ZaS]
       rfl
      refine one_ (i:=2) (N:=some 11) #[true,true,true,false,false] rfl rfl (by kernel_rfl) (by decide) (fun K hK=>?_)
      refine goes_ Try.func162 (by kernel_rfl) rfl #[.int .i64 a2] (by rfl) rfl rfl (by(try simp only[List.map_toArray,List.map_cons,List.map_nil]);first|done|rfl|(simp only[Zk,Zj];rfl)) ?_
      with_reducible refine(ZaA.calls a2 t125002 _ A4.out).mono ?_
      rintro e w25 ⟨rfl,hb⟩
      refine⟨_,rfl,?_⟩
      replace BK125001:=Za (Zy BK125001.out hb);replace HB:=Za (Zw (by exact HB.out) hb)
      (try clear hb)
      (try clear hb2)
      (try clear hk)
      (try clear hi)
      refine hK.out _ _ ⟨(Zs BK125001.out 0).trans rfl,(Zs BK125001.out 1).trans rfl,(Zs BK125001.out 2).trans rfl⟩ (fun hHeld=>?_)
      clear hK K
      refine Zco (a':=?_) ?_ ?_
      rotate_left
      ·show Act.put _ (some 11) _=_
       simp only[Act.put,List.setIfInBounds_toArray,List.set_cons_zero,List.set_cons_succ,ZaN,ZaS]
       rfl
      refine one_ (i:=3) (N:=some 12) #[true,true,true,true,false] rfl rfl (by kernel_rfl) (by decide) (fun K hK=>?_)
      refine goes_ Try.func126 (by kernel_rfl) rfl #[.agg #[.slice A0_0 l0_0.length c0_0,.slice A0_1 l0_1.length c0_1,.int .i64 a0_2],.int .i64 t125002] (by rfl) rfl rfl (by(try simp only[List.map_toArray,List.map_cons,List.map_nil]);first|done|rfl|(simp only[Zk,Zj];rfl)) ?_
      with_reducible refine(Zbd.calls _ _ l0_0 _ _ l0_1 a0_2 t125002 t125003 _ ?side1 ?side2 ?side3 ?side4 A5.out).mono ?_
      (case side1=>exact(Zb HR0_0.out HB.out))
      (case side2=>exact HC0_0.out)
      (case side3=>exact(Zb HR0_1.out HB.out))
      (case side4=>exact HC0_1.out)
      rintro e w26 ⟨rfl,hb⟩
      refine⟨_,rfl,?_⟩
      replace BK125001:=Za (Zy BK125001.out hb);replace HB:=Za (Zw (by exact HB.out) hb)
      (try clear hb)
      (try clear hb2)
      (try clear hk)
      (try clear hi)
      refine hK.out _ _ ⟨(Zs BK125001.out 0).trans rfl,(Zs BK125001.out 1).trans rfl,(Zs BK125001.out 2).trans rfl⟩ (fun hHeld=>?_)
      clear hK K
      refine Zco (a':=?_) ?_ ?_
      rotate_left
      ·show Act.put _ (some 12) _=_
       simp only[Act.put,List.setIfInBounds_toArray,List.set_cons_zero,List.set_cons_succ,ZaN,ZaS]
       rfl
      refine ZbQ (i:=4) (N:=some 7) (v:=?_) (a':=?_) #[true,true,true,true,true] rfl rfl (by kernel_rfl) (fun _ _ _ h=>h) (Or.inl ⟨by rfl,?_⟩) ?_ ?_
      rotate_left
      ·intro w'
       go_simp
       with_reducible rfl
      rotate_left
      ·simp only[Act.put,List.setIfInBounds_toArray,List.set_cons_zero,List.set_cons_succ,ZaN,ZaS]
       rfl
      refine done_ (by kernel_rfl) ?_
      have hcz27_0:w26.cell? ⟨gb125001,0,none⟩=some (.slice A0_0 l0_0.length c0_0):=(Zs BK125001.out 0).trans rfl
      have hcz27_1:w26.cell? ⟨gb125001,1,none⟩=some (.slice A0_1 l0_1.length c0_1):=(Zs BK125001.out 1).trans rfl
      have hcz27_2:w26.cell? ⟨gb125001,2,none⟩=some (.int .i64 a0_2):=(Zs BK125001.out 2).trans rfl
      have p125004:0≤(t125003:Int):=Zd (by with_reducible assumption)
      have q125004:t125003<(l0_0.length:Int):=Zd (by with_reducible assumption)
      obtain⟨ad125004,A125004_1,c125004_1,e125004,hx125004_0,hx125004_1,hx125004_2,hl125004_1,hi125004_1⟩:=Zaq HR0_0.out t125003 p125004 q125004
      cases e125004
      replace hx125004_0:=(HB.out.cell (Zc w _ hx125004_0)).trans hx125004_0
      replace hx125004_1:=(HB.out.cell (Zc w _ hx125004_1)).trans hx125004_1
      replace hx125004_2:=(HB.out.cell (Zc w _ hx125004_2)).trans hx125004_2
      have HR125004_1:=Za hi125004_1;have HC125004_1:=Za hl125004_1;clear hi125004_1 hl125004_1
      replace p125004:=eq_true p125004
      replace q125004:=eq_true q125004
      try go_wp2_with (first|((with_reducible refine ZG (f:=134) rfl ?_);refine ZQ (some 23) rfl rfl Try.func134 (by kernel_rfl) rfl #[.slice A125004_1 ((Zz l0_0 t125003).f1).length c125004_1,.int .i64 a2] rfl (by(try simp only[List.map_toArray,List.map_cons,List.map_nil]);first|done|rfl|(simp only[Zk,Zj];rfl)) ?_;(with_reducible refine(ZK.calls _ _ ((Zz l0_0 t125003).f1) a2 false _ ?side1 ?side2 A13.out).mono ?_);(case side1=>exact(Zb HR125004_1.out HB.out));(case side2=>exact HC125004_1.out);rintro e w28 ⟨rfl,hb⟩;refine⟨_,rfl,?_⟩;replace BK125001:=Za (Zy BK125001.out hb);replace HB:=Za (Zw (by exact HB.out) hb);(try clear hi))|(go_at_call 134;(with_reducible refine(ZK.calls _ _ ((Zz l0_0 t125003).f1) (wrap64 (-a2)) true _ ?side1 ?side2 A21.out).mono ?_);(case side1=>exact(Zb HR125004_1.out HB.out));(case side2=>exact HC125004_1.out);rintro e w29 ⟨rfl,hb⟩;replace BK125001:=Za (Zy BK125001.out hb);replace HB:=Za (Zw (by exact HB.out) hb);(try clear hi)))
      go_ret
      exact⟨by first|rfl|(simp[ZB,ZA] <;> rfl)|(simp[*,ZB,ZA] <;> rfl),by repeat(first|(with_reducible first|exact HB.out|apply Zn|apply Zm|apply Zt|refine Zq ?_ GE125001.out)|exact HB.out)⟩
     ·replace c22:=Bool.eq_false_iff.mpr c22
      subst c22
      have H1:((ZaM.f k l1 ((Zz l0_0 t125003).f1)).bind fun t125007=>(some t125007))=some r:=by rw[if_neg (show ¬(false=true) by decide)] at H;exact H
      clear H
      have H:=H1
      clear H1
      replace H:=Zh H
      obtain⟨t125007,A300,H⟩:=H;have A30:=Za A300;clear A300
      obtain rfl:=Zg H
      go_enter Try.func125,Try.ntmps125
      try go_wp2_with (first|((with_reducible refine ZI (N:=3) rfl ?_);refine ZH ?hg (N:=3) ?hd (cs:=#[.slice A0_0 l0_0.length c0_0,.slice A0_1 l0_1.length c0_1,.int .i64 a0_2]) (t:=35) ?hr ?_;(case hd=>rfl);(case hg=>rfl);(case hr=>first|(go_simp;done)|(go_simp;rfl));intro gb125001 hg w31 hbox hb;have BK125001:=Za (hbox);have GW125001:=Za ((by rw[hg];exact(Zx (by exact HB.out)):w.heap.size≤gb125001));have GE125001:=Za ((by rw[hg];exact(Zx (by exact HB.out)):w.heap.size≤gb125001));replace HB:=Za (Zw (by exact HB.out) hb);clear hb hbox hg))
      replace BK125001:=Za (Zu BK125001.out);replace HB:=Za (Zt HB.out)
      refine start_ (n:=5) (S:=fun w'=>w'.cell? ⟨gb125001,0,none⟩=some (.slice A0_0 l0_0.length c0_0)∧w'.cell? ⟨gb125001,1,none⟩=some (.slice A0_1 l0_1.length c0_1)∧w'.cell? ⟨gb125001,2,none⟩=some (.int .i64 a0_2)) (ds:=[]) #[false,false,false,false,false] (by kernel_rfl) rfl rfl ⟨(Zs BK125001.out 0).trans rfl,(Zs BK125001.out 1).trans rfl,(Zs BK125001.out 2).trans rfl⟩ (fun hHeld=>?_)
      generalize w31.drew=w32 at BK125001 HB hHeld ⊢
      refine ZbQ (i:=1) (N:=some 10) (v:=?_) (a':=?_) #[false,true,false,false,false] rfl rfl (by kernel_rfl) (fun _ _ _ h=>h) (Or.inl ⟨by rfl,?_⟩) ?_ ?_
      rotate_left
      ·intro w'
       go_simp
       with_reducible rfl
      rotate_left
      ·simp only[Act.put,List.setIfInBounds_toArray,List.set_cons_zero,List.set_cons_succ,ZaN,ZaS]
       rfl
      refine take_ (i:=0) (N:=some 9) (v:=?_) (a':=?_) #[true,true,false,false,false] rfl rfl (by kernel_rfl) (fun _ _ _ h=>h) (Or.inl ⟨by rfl,?_⟩) hHeld ?_ ?_
      rotate_left
      ·rintro w' ⟨s0,s1,s2⟩
       go_simp
       with_reducible rfl
      rotate_left
      ·simp only[Act.put,List.setIfInBounds_toArray,List.set_cons_zero,List.set_cons_succ,ZaN,ZaS]
       rfl
      refine one_ (i:=2) (N:=some 11) #[true,true,true,false,false] rfl rfl (by kernel_rfl) (by decide) (fun K hK=>?_)
      refine goes_ Try.func162 (by kernel_rfl) rfl #[.int .i64 a2] (by rfl) rfl rfl (by(try simp only[List.map_toArray,List.map_cons,List.map_nil]);first|done|rfl|(simp only[Zk,Zj];rfl)) ?_
      with_reducible refine(ZaA.calls a2 t125002 _ A4.out).mono ?_
      rintro e w33 ⟨rfl,hb⟩
      refine⟨_,rfl,?_⟩
      replace BK125001:=Za (Zy BK125001.out hb);replace HB:=Za (Zw (by exact HB.out) hb)
      (try clear hb)
      (try clear hb2)
      (try clear hk)
      (try clear hi)
      refine hK.out _ _ ⟨(Zs BK125001.out 0).trans rfl,(Zs BK125001.out 1).trans rfl,(Zs BK125001.out 2).trans rfl⟩ (fun hHeld=>?_)
      clear hK K
      refine Zco (a':=?_) ?_ ?_
      rotate_left
      ·show Act.put _ (some 11) _=_
       simp only[Act.put,List.setIfInBounds_toArray,List.set_cons_zero,List.set_cons_succ,ZaN,ZaS]
       rfl
      refine one_ (i:=3) (N:=some 12) #[true,true,true,true,false] rfl rfl (by kernel_rfl) (by decide) (fun K hK=>?_)
      refine goes_ Try.func126 (by kernel_rfl) rfl #[.agg #[.slice A0_0 l0_0.length c0_0,.slice A0_1 l0_1.length c0_1,.int .i64 a0_2],.int .i64 t125002] (by rfl) rfl rfl (by(try simp only[List.map_toArray,List.map_cons,List.map_nil]);first|done|rfl|(simp only[Zk,Zj];rfl)) ?_
      with_reducible refine(Zbd.calls _ _ l0_0 _ _ l0_1 a0_2 t125002 t125003 _ ?side1 ?side2 ?side3 ?side4 A5.out).mono ?_
      (case side1=>exact(Zb HR0_0.out HB.out))
      (case side2=>exact HC0_0.out)
      (case side3=>exact(Zb HR0_1.out HB.out))
      (case side4=>exact HC0_1.out)
      rintro e w34 ⟨rfl,hb⟩
      refine⟨_,rfl,?_⟩
      replace BK125001:=Za (Zy BK125001.out hb);replace HB:=Za (Zw (by exact HB.out) hb)
      (try clear hb)
      (try clear hb2)
      (try clear hk)
      (try clear hi)
      refine hK.out _ _ ⟨(Zs BK125001.out 0).trans rfl,(Zs BK125001.out 1).trans rfl,(Zs BK125001.out 2).trans rfl⟩ (fun hHeld=>?_)
      clear hK K
      refine Zco (a':=?_) ?_ ?_
      rotate_left
      ·show Act.put _ (some 12) _=_
       simp only[Act.put,List.setIfInBounds_toArray,List.set_cons_zero,List.set_cons_succ,ZaN,ZaS]
       rfl
      refine ZbQ (i:=4) (N:=some 7) (v:=?_) (a':=?_) #[true,true,true,true,true] rfl rfl (by kernel_rfl) (fun _ _ _ h=>h) (Or.inl ⟨by rfl,?_⟩) ?_ ?_
      rotate_left
      ·intro w'
       go_simp
       with_reducible rfl
      rotate_left
      ·simp only[Act.put,List.setIfInBounds_toArray,List.set_cons_zero,List.set_cons_succ,ZaN,ZaS]
       rfl
      refine done_ (by kernel_rfl) ?_
      have hcz35_0:w34.cell? ⟨gb125001,0,none⟩=some (.slice A0_0 l0_0.length c0_0):=(Zs BK125001.out 0).trans rfl
      have hcz35_1:w34.cell? ⟨gb125001,1,none⟩=some (.slice A0_1 l0_1.length c0_1):=(Zs BK125001.out 1).trans rfl
      have hcz35_2:w34.cell? ⟨gb125001,2,none⟩=some (.int .i64 a0_2):=(Zs BK125001.out 2).trans rfl
      have p125004:0≤(t125003:Int):=Zd (by with_reducible assumption)
      have q125004:t125003<(l0_0.length:Int):=Zd (by with_reducible assumption)
      obtain⟨ad125004,A125004_1,c125004_1,e125004,hx125004_0,hx125004_1,hx125004_2,hl125004_1,hi125004_1⟩:=Zaq HR0_0.out t125003 p125004 q125004
      cases e125004
      replace hx125004_0:=(HB.out.cell (Zc w _ hx125004_0)).trans hx125004_0
      replace hx125004_1:=(HB.out.cell (Zc w _ hx125004_1)).trans hx125004_1
      replace hx125004_2:=(HB.out.cell (Zc w _ hx125004_2)).trans hx125004_2
      have HR125004_1:=Za hi125004_1;have HC125004_1:=Za hl125004_1;clear hi125004_1 hl125004_1
      replace p125004:=eq_true p125004
      replace q125004:=eq_true q125004
      try go_wp2_with (first|((with_reducible refine ZG (f:=134) rfl ?_);refine ZQ (some 23) rfl rfl Try.func134 (by kernel_rfl) rfl #[.slice A125004_1 ((Zz l0_0 t125003).f1).length c125004_1,.int .i64 a2] rfl (by(try simp only[List.map_toArray,List.map_cons,List.map_nil]);first|done|rfl|(simp only[Zk,Zj];rfl)) ?_;(with_reducible refine(ZK.calls _ _ ((Zz l0_0 t125003).f1) a2 false _ ?side1 ?side2 A13.out).mono ?_);(case side1=>exact(Zb HR125004_1.out HB.out));(case side2=>exact HC125004_1.out);rintro e w36 ⟨rfl,hb⟩;refine⟨_,rfl,?_⟩;replace BK125001:=Za (Zy BK125001.out hb);replace HB:=Za (Zw (by exact HB.out) hb);(try clear hi))|(go_at_call 134;(with_reducible refine(ZK.calls _ _ ((Zz l0_0 t125003).f1) (wrap64 (-a2)) false _ ?side1 ?side2 A21.out).mono ?_);(case side1=>exact(Zb HR125004_1.out HB.out));(case side2=>exact HC125004_1.out);rintro e w37 ⟨rfl,hb⟩;replace BK125001:=Za (Zy BK125001.out hb);replace HB:=Za (Zw (by exact HB.out) hb);(try clear hi))|(go_at_call 163;(with_reducible refine(ZaM.calls k _ _ l1 _ _ ((Zz l0_0 t125003).f1) t125007 _ ?side1 ?side2 ?side3 ?side4 A30.out).mono ?_);(case side1=>exact(Zb HR1.out HB.out));(case side2=>exact HC1.out);(case side3=>exact(Zb HR125004_1.out HB.out));(case side4=>exact HC125004_1.out);rintro e w38 ⟨rfl,hb⟩;replace BK125001:=Za (Zy BK125001.out hb);replace HB:=Za (Zw (by exact HB.out) hb);(try clear hi)))
      go_ret
      exact⟨by first|rfl|(simp[ZB,ZA] <;> rfl)|(simp[*,ZB,ZA] <;> rfl),by repeat(first|(with_reducible first|exact HB.out|apply Zn|apply Zm|apply Zt|refine Zq ?_ GE125001.out)|exact HB.out)⟩
   ·rw[if_neg c12] at H
    exact absurd H (by simp)
  ·rw[if_neg c11] at H
   exact absurd H (by simp)
end Go.Proofs.Ytodfnelilhjoeaa.Pr
namespace Go.Proofs.Ytodfnelilhjoeaa.Pr
open Go.RowKit Go.Proofs.YtodfnelilhjoeaaW.PrintWords Go.Proofs.Ytodfnelilhjoeaa.Ni
def ZdE (ns:List ZZ) (lb:List Int) (x w:Int):Bool:=
 decide (0≤w) && !((Zz ns w).f1.any fun y=>decide (x=y)) && !((Zz ns w).f1.any fun y=>decide (-x=y)) && impB lb (Zz ns w).f1
def ZbJ (ns:List ZZ) (lb:List Int) (x:Int):Bool:=ZdE ns lb x (Zb9 ns (prp x))
theorem isWatched_f (ns:List ZZ) (ts:List PTie) (z:Int) (lb:List Int) (x:Int) (hb:∀n∈ns,n.f1.length≤9223372036854775807) (hl:lb.length≤9223372036854775807) (hx:Zbc x=true) (k:Nat) (hk:2 ^ 64≤k) :
  ZbA.f k ns ts z lb x=some (ZbJ ns lb x):=by
 have hx3:=(Zbo x).1 hx
 have hbd:=idxOf_bd (fun n:ZZ=>decide (0<prp x) && decide (n.f2=prp x)) ns
 unfold ZbA.f
 rw[ZdH hx,Zi]
 unfold Zbd.f ZbJ ZdE
 rw[Zi]
 have hbd' : -1≤Zb9 ns (prp x)∧Zb9 ns (prp x)<ns.length:=hbd
 generalize Zb9 ns (prp x)=w at hbd' ⊢
 by_cases h:w<0
 ·rw[if_pos h,Zf (show ¬0≤w by omega)];rfl
 ·rw[if_neg h,if_pos (by omega),if_pos (by omega),Ze (show 0≤w by omega)]
  have hm:(Zz ns w).f1.length≤9223372036854775807:=by
   obtain⟨n,rfl⟩:=Int.eq_ofNat_of_zero_le (show 0≤w by omega)
   rw[show Zz ns (n:Int)=ns.getD n z116 from Zbz ns n]
   exact hb _ (Zbr (by omega) _)
  unfold ZK.f
  rw[Zi,ZaJ (i:=-x) (by omega) (by omega),Zdg lb _ hl hm k hk]
  simp only[Zi,Bool.true_and]
  cases (Zz ns w).f1.any fun y=>decide (x=y)
  ·cases (Zz ns w).f1.any fun y=>decide (-x=y)
   ·simp
   ·rfl
  ·rfl
end Go.Proofs.Ytodfnelilhjoeaa.Pr
