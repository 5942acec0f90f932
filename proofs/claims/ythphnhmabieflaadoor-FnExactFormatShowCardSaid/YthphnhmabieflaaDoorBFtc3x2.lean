/- The texts of one claim, put together by a program of this session. -/
import Derived.Test.YthphnhmabieflaaDoorBFtc1x1
import Derived.Test.YthphnhmabieflaaDoorBFtc1x10
import Derived.Test.YthphnhmabieflaaDoorBFtc1x11
import Derived.Test.YthphnhmabieflaaDoorBFtc1x2
import Derived.Test.YthphnhmabieflaaDoorBFtc1x7
import Derived.Test.YthphnhmabieflaaDoorBFtc2x1
import Derived.Test.YthphnhmabieflaaDoorBFtc3x1
namespace Go.Proofs.YthphnhmabieflaaDoor.Pr
open Go.RowKit Go.Proofs.YthphnhmabieflaaDoorW.PrintWords Go.Proofs.YthphnhmabieflaaDoorW.PrintLast Go.Proofs.YthphnhmabieflaaDoorW.PrintMore
attribute [local go_sem] Zah Zaf Zas Zar Z8 Z7 Zag Zae
set_option linter.unusedVariables false
set_option linter.unusedSimpArgs false
mutual
def ZI.l0:Nat→List ByteArray→List (S73)→Int→Int→List (S73)→List (S66)→Int→Option (ByteArray)
 | 0,_,_,_,_,_,_,_=>none
 | k+1,x3,x17,x18,x19,x21002000,x21002001,x21002002=>if x19<x18 then(if 0≤x19 then(if x19<(x17.length:Int) then(if 5+((Zp x17 x19).f0).size≤9223372036854775807 then(if ((⟨#[110,111,100,101,32]⟩:ByteArray) ++ ((Zp x17 x19).f0)).size+1≤9223372036854775807 then((Z0.f k ((Zp x17 x19).f1)).bind fun t21009=>(if (((⟨#[110,111,100,101,32]⟩:ByteArray) ++ ((Zp x17 x19).f0)) ++ (⟨#[32]⟩:ByteArray)).size+t21009.size≤9223372036854775807 then(if ((Zp x17 x19).f2)=0 then(if x3.length<8796093022208 then(ZI.l0 k (x3 ++ [(((⟨#[110,111,100,101,32]⟩:ByteArray) ++ ((Zp x17 x19).f0)) ++ (⟨#[32]⟩:ByteArray)) ++ t21009]) x17 x18 (wrap64 (x19+1)) x21002000 x21002001 x21002002) else(none)) else((ZR.f ((Zp x17 x19).f2)).bind fun t21013=>(if 7+t21013.size≤9223372036854775807 then(if ((((⟨#[110,111,100,101,32]⟩:ByteArray) ++ ((Zp x17 x19).f0)) ++ (⟨#[32]⟩:ByteArray)) ++ t21009).size+((⟨#[32,119,97,116,99,104,32]⟩:ByteArray) ++ t21013).size≤9223372036854775807 then(if x3.length<8796093022208 then(ZI.l0 k (x3 ++ [((((⟨#[110,111,100,101,32]⟩:ByteArray) ++ ((Zp x17 x19).f0)) ++ (⟨#[32]⟩:ByteArray)) ++ t21009) ++ ((⟨#[32,119,97,116,99,104,32]⟩:ByteArray) ++ t21013)]) x17 x18 (wrap64 (x19+1)) x21002000 x21002001 x21002002) else(none)) else(none)) else(none)))) else(none))) else(none)) else(none)) else(none)) else(none)) else(ZI.l1 k x3 (x21002001.length:Int) 0 x21002000 x21002001 x21002002)
def ZI.l1:Nat→List ByteArray→Int→Int→List (S73)→List (S66)→Int→Option (ByteArray)
 | 0,_,_,_,_,_,_=>none
 | k+1,x3,x47,x48,x21002000,x21002001,x21002002=>if x48<x47 then((Zaa.f x21002000 x21002001 x21002002 x48).bind fun t21017=>(if x3.length<8796093022208 then(ZI.l1 k (x3 ++ [t21017]) x47 (wrap64 (x48+1)) x21002000 x21002001 x21002002) else(none))) else((Zai.f x3 (⟨#[10]⟩:ByteArray)).bind fun t21021=>(if t21021.size+1≤9223372036854775807 then(some (t21021 ++ (⟨#[10]⟩:ByteArray))) else(none)))
end
def ZI.f (k:Nat) (l0_0:List (S73)) (l0_1:List (S66)) (a0_2:Int):Option (ByteArray):=(ZaG.f l0_0 l0_1 a0_2).bind fun t21002=>(if t21002=true then((ZR.f a0_2).bind fun t21003=>(if 8+t21003.size≤9223372036854775807 then(ZI.l0 k (([(⟨#[104,111,114,105,122,111,110,32]⟩:ByteArray) ++ t21003]:List ByteArray)) l0_0 (l0_0.length:Int) 0 l0_0 l0_1 a0_2) else(none))) else(some (⟨#[]⟩:ByteArray)))
def ZI.T7:Bool×List (List Nat×List Nat):=(true,[([],[]),([0],[0]),([1],[1]),([2],[2]),([],[]),([4],[4]),([5],[5]),([3,6],[3,6]),([7,6,0,1,2,3,4,5,6,7],[7])])
def ZI.B7:List Nat:=[0,1,3,7,0,16,48,127,255]
theorem ZI.tab7:rtab .any (opsOf Tryd.f21 7)=ZI.T7:=by kernel_rfl
theorem ZI.bits7:Zbz ZI.T7.2 ZI.B7=true:=by kernel_rfl
set_option maxHeartbeats 8000000 in
set_option maxRecDepth 100000 in
theorem ZI.calls (k:Nat) (A0_0:Option Addr) (c0_0:Nat) (l0_0:List (S73)) (A0_1:Option Addr) (c0_1:Nat) (l0_1:List (S66)) (a0_2:Int) (r:ByteArray) (w:World) (hr0_0:Kd.C k73 w A0_0 l0_0.length l0_0) (hc0_0:l0_0.length≤c0_0) (hr0_1:Kd.C k66 w A0_1 l0_1.length l0_1) (hc0_1:l0_1.length≤c0_1) (ht:TW w) (h:ZI.f k l0_0 l0_1 a0_2=some r) :
  Calls Tryd.prog 21 #[.agg #[.slice A0_0 l0_0.length c0_0,.slice A0_1 l0_1.length c0_1,.int .i64 a0_2]] w fun e w'=>e=.returned (.string r)∧Below w.heap.size w w':=by
 have HTW:=Za ht;clear ht
 have hu36:=Tryd.underlying36
 have hu73:=Tryd.underlying73
 have HR0_0:=Za hr0_0;have HC0_0:=Za hc0_0;clear hr0_0 hc0_0;have HR0_1:=Za hr0_1;have HC0_1:=Za hc0_1;clear hr0_1 hc0_1
 have HB:=Za (Below.refl w.heap.size w)
 have H:((ZaG.f l0_0 l0_1 a0_2).bind fun t21002=>(if t21002=true then((ZR.f a0_2).bind fun t21003=>(if 8+t21003.size≤9223372036854775807 then(ZI.l0 k (([(⟨#[104,111,114,105,122,111,110,32]⟩:ByteArray) ++ t21003]:List ByteArray)) l0_0 (l0_0.length:Int) 0 l0_0 l0_1 a0_2) else(none))) else(some (⟨#[]⟩:ByteArray))))=some r:=h
 clear h
 replace H:=Zh H
 obtain⟨t21002,A20,H⟩:=H
 replace H:(if t21002=true then((ZR.f a0_2).bind fun t21003=>(if 8+t21003.size≤9223372036854775807 then(ZI.l0 k (([(⟨#[104,111,114,105,122,111,110,32]⟩:ByteArray) ++ t21003]:List ByteArray)) l0_0 (l0_0.length:Int) 0 l0_0 l0_1 a0_2) else(none))) else(some (⟨#[]⟩:ByteArray)))=some r:=H
 have A2:=Za A20;clear A20
 by_cases c3:t21002=true
 ·subst c3
  have H1:((ZR.f a0_2).bind fun t21003=>(if 8+t21003.size≤9223372036854775807 then(ZI.l0 k (([(⟨#[104,111,114,105,122,111,110,32]⟩:ByteArray) ++ t21003]:List ByteArray)) l0_0 (l0_0.length:Int) 0 l0_0 l0_1 a0_2) else(none)))=some r:=by rw[if_pos rfl] at H;exact H
  clear H
  have H:=H1
  clear H1
  replace H:=Zh H
  obtain⟨t21003,A40,H⟩:=H
  replace H:(if 8+t21003.size≤9223372036854775807 then(ZI.l0 k (([(⟨#[104,111,114,105,122,111,110,32]⟩:ByteArray) ++ t21003]:List ByteArray)) l0_0 (l0_0.length:Int) 0 l0_0 l0_1 a0_2) else(none))=some r:=H
  have A4:=Za A40;clear A40
  by_cases c5:8+t21003.size≤9223372036854775807
  ·rw[if_pos c5] at H
   have c5b0:=eq_true c5
   have c5b1:decide (8+t21003.size≤9223372036854775807)=true:=Ze c5
   try have c5b2:(9223372036854775807<8+t21003.size)=False:=eq_false (Nat.not_lt.2 c5)
   obtain⟨y21004,hy21004⟩:∃y_:List ByteArray,y_=(([(⟨#[104,111,114,105,122,111,110,32]⟩:ByteArray) ++ t21003]:List ByteArray)):=⟨_,rfl⟩
   replace H:(ZI.l0 k y21004 l0_0 (l0_0.length:Int) 0 l0_0 l0_1 a0_2)=some r:=by first|(rw[hy21004];with_reducible exact H)|(have H2_:=(Zi _ _).symm.trans H;rw[hy21004];with_reducible exact H2_)|(have H2_:=(Zi _ _).symm.trans H;with_reducible exact H2_)|with_reducible exact H|(rw[hy21004];exact H)|exact H
   have Ny21004:=Za hy21004;clear hy21004
   have H':=Za H
   clear H
   go_enter Tryd.func21,Tryd.ntmps21
   go_wp2_with (first|((with_reducible refine ZN (N:=1) rfl ?_);refine ZP ?hg (N:=1) ?hd (cs:=#[.slice A0_0 l0_0.length c0_0,.slice A0_1 l0_1.length c0_1,.int .i64 a0_2]) (t:=36) ?hr ?_;(case hd=>rfl);(case hg=>rfl);(case hr=>first|(go_simp;done)|(go_simp;rfl));intro gb21001 hg w6 hbox hb;have BK21001:=Za (hbox);have GW21001:=Za ((by rw[hg];exact(Zy (by repeat(first|(with_reducible first|exact HB.out|apply Zn|apply Zm|apply Zo)|exact HB.out))):w.heap.size≤gb21001));have GE21001:=Za ((by rw[hg];exact(Zy (by repeat(first|(with_reducible first|exact HB.out|apply Zn|apply Zm|apply Zo)|exact HB.out))):w.heap.size≤gb21001));replace HB:=Za (Zx (by repeat(first|(with_reducible first|exact HB.out|apply Zn|apply Zm|apply Zo)|exact HB.out)) hb);clear hb hbox hg;have hcz7_0:w6.cell? ⟨gb21001,0,none⟩=some (.slice A0_0 l0_0.length c0_0):=(Zq BK21001.out 0).trans rfl;have hcz7_1:w6.cell? ⟨gb21001,1,none⟩=some (.slice A0_1 l0_1.length c0_1):=(Zq BK21001.out 1).trans rfl;have hcz7_2:w6.cell? ⟨gb21001,2,none⟩=some (.int .i64 a0_2):=(Zq BK21001.out 2).trans rfl;have hfz7_0:=Zt BK21001.out 0;have hfz7_1:=Zt BK21001.out 1;have hfz7_2:=Zt BK21001.out 2)|((with_reducible refine ZG (f:=48) rfl ?_);refine ZX (some 9) rfl rfl Tryd.func48 (by kernel_rfl) rfl #[.agg #[.slice A0_0 l0_0.length c0_0,.slice A0_1 l0_1.length c0_1,.int .i64 a0_2]] rfl (by(try simp only[List.map_toArray,List.map_cons,List.map_nil]);first|done|rfl|(simp only[Zk,Zj];rfl)) ?_;(with_reducible refine(ZaG.calls _ _ l0_0 _ _ l0_1 a0_2 true _ ?side1 ?side2 ?side3 ?side4 A2.out).mono ?_);(case side1=>repeat(first|exact(Zb HR0_0.out HB.out)|(with_reducible refine Kd.C_alloc ?_ _)|(with_reducible refine Kd.C_drewN ?_ _)|(with_reducible refine Kd.C_drew ?_)));(case side2=>exact HC0_0.out);(case side3=>repeat(first|exact(Zb HR0_1.out HB.out)|(with_reducible refine Kd.C_alloc ?_ _)|(with_reducible refine Kd.C_drewN ?_ _)|(with_reducible refine Kd.C_drew ?_)));(case side4=>exact HC0_1.out);rintro e w8 ⟨rfl,hb⟩;refine⟨_,rfl,?_⟩;replace BK21001:=Za (ZB (g:=gb21001) (o:=.cells #[.slice A0_0 l0_0.length c0_0,.slice A0_1 l0_1.length c0_1,.int .i64 a0_2] 36 (0,0)) (by(with_reducible repeat(first|refine Zu ?_ _|refine Zv ?_|refine Zs ?_ _));exact BK21001.out) hb);replace HB:=Za (Zx (by repeat(first|(with_reducible first|exact HB.out|apply Zn|apply Zm|apply Zo|refine Zr ?_ GE21001.out)|exact HB.out)) hb);(try clear hb);(try clear hb2);(try clear hk);(try clear hi);have hcz9_0:w8.cell? ⟨gb21001,0,none⟩=some (.slice A0_0 l0_0.length c0_0):=(Zq BK21001.out 0).trans rfl;have hcz9_1:w8.cell? ⟨gb21001,1,none⟩=some (.slice A0_1 l0_1.length c0_1):=(Zq BK21001.out 1).trans rfl;have hcz9_2:w8.cell? ⟨gb21001,2,none⟩=some (.int .i64 a0_2):=(Zq BK21001.out 2).trans rfl;have hfz9_0:=Zt BK21001.out 0;have hfz9_1:=Zt BK21001.out 1;have hfz9_2:=Zt BK21001.out 2)|((with_reducible refine ZG (f:=38) rfl ?_);refine ZX (some 13) rfl rfl Tryd.func38 (by kernel_rfl) rfl #[.int .i64 a0_2] rfl (by(try simp only[List.map_toArray,List.map_cons,List.map_nil]);first|done|rfl|(simp only[Zk,Zj];rfl)) ?_;(with_reducible refine(ZR.calls a0_2 t21003 _ ?sideT A4.out).mono ?_);(case sideT=>exact TW.below HTW.out (by repeat(first|(with_reducible first|exact HB.out|apply Zn|apply Zm|apply Zo|refine Zr ?_ GE21001.out)|exact HB.out)));rintro e w10 ⟨rfl,hb⟩;refine⟨_,rfl,?_⟩;replace BK21001:=Za (ZB (g:=gb21001) (o:=.cells #[.slice A0_0 l0_0.length c0_0,.slice A0_1 l0_1.length c0_1,.int .i64 a0_2] 36 (0,0)) (by(with_reducible repeat(first|refine Zu ?_ _|refine Zv ?_|refine Zs ?_ _));exact BK21001.out) hb);replace HB:=Za (Zx (by repeat(first|(with_reducible first|exact HB.out|apply Zn|apply Zm|apply Zo|refine Zr ?_ GE21001.out)|exact HB.out)) hb);(try clear hb);(try clear hb2);(try clear hk);(try clear hi))|((with_reducible refine ZN (N:=15) rfl ?_);refine Kd.R_lit Kd.string _ 9 ?hg (N:=15) ?hd (xs:=([(⟨#[104,111,114,105,122,111,110,32]⟩:ByteArray) ++ t21003]:List ByteArray)) (inner:=[.string ((⟨#[104,111,114,105,122,111,110,32]⟩:ByteArray) ++ t21003)]) (ok:=fun _=>True) (okp:=fun _=>True) ?hr ?hp (fun _ hk=>hk) trivial (Below.refl _ _) (Nat.le_refl _) (by simp) ?_;(case hd=>rfl);(case hg=>rfl);(case hr=>first|(go_simp;done)|(go_simp;rfl));(case hp=>exact(Reps.one (show Kd.M Kd.string _ _ _ ((⟨#[104,111,114,105,122,111,110,32]⟩:ByteArray) ++ t21003) [.string ((⟨#[104,111,114,105,122,111,110,32]⟩:ByteArray) ++ t21003)] from rfl) (Reps.none _ _)));intro v21005 w11 ho12 hb hg_ hnew_;clear hg_ hnew_;(first|rw[← Ny21004.out] at ho12|(simp only[Int.reduceToNat] at ho12;rw[← Ny21004.out] at ho12));have HO21006:=Za (Kd.R_lower ho12 (Zy (by repeat(first|(with_reducible first|exact HB.out|apply Zn|apply Zm|apply Zo|refine Zr ?_ GE21001.out)|exact HB.out))));replace BK21001:=Za (ZB (g:=gb21001) (o:=.cells #[.slice A0_0 l0_0.length c0_0,.slice A0_1 l0_1.length c0_1,.int .i64 a0_2] 36 (0,0)) (by(with_reducible repeat(first|refine Zu ?_ _|refine Zv ?_|refine Zs ?_ _));exact BK21001.out) hb);replace HB:=Za (Zx (by repeat(first|(with_reducible first|exact HB.out|apply Zn|apply Zm|apply Zo|refine Zr ?_ GE21001.out)|exact HB.out)) hb);clear hb ho12;have hcz13_0:w11.cell? ⟨gb21001,0,none⟩=some (.slice A0_0 l0_0.length c0_0):=(Zq BK21001.out 0).trans rfl;have hcz13_1:w11.cell? ⟨gb21001,1,none⟩=some (.slice A0_1 l0_1.length c0_1):=(Zq BK21001.out 1).trans rfl;have hcz13_2:w11.cell? ⟨gb21001,2,none⟩=some (.int .i64 a0_2):=(Zq BK21001.out 2).trans rfl;have hfz13_0:=Zt BK21001.out 0;have hfz13_1:=Zt BK21001.out 1;have hfz13_2:=Zt BK21001.out 2))
   go_loopg [3,19] k (fun kq v3 v19 w'=>∃(x3_1:List ByteArray) (x19_1:Int),v19=.int .i64 x19_1∧Aside0 (ZI.l0 kq x3_1 l0_0 (l0_0.length:Int) x19_1 l0_0 l0_1 a0_2=some r)∧Aside0 (kq≤k)∧Aside0 (Kd.R Kd.string 9 w' w.heap.size (fun _=>True) v3 x3_1)∧Aside0 (w'.heap[gb21001]? = some (.cells #[(.slice A0_0 l0_0.length c0_0),(.slice A0_1 l0_1.length c0_1),.int .i64 a0_2] 36 (0,0)))∧Aside0 (Below w.heap.size w w'))
   case atStart=>exact⟨(y21004),(0),(by first|rfl|(simp;done)|(simp[*];done)),H',⟨Nat.le_refl _⟩,⟨by(with_reducible repeat(first|apply Kd.R_alloc|apply Kd.R_drewN|apply Kd.R_drew));exact HO21006.out⟩,⟨by(with_reducible repeat(first|refine Zu ?_ _|refine Zv ?_|refine Zs ?_ _));exact BK21001.out⟩,⟨by repeat(first|(with_reducible first|exact HB.out|apply Zn|apply Zm|apply Zo|refine Zr ?_ GE21001.out)|exact HB.out)⟩⟩
   case round=>
    clear H'
    try clear c2
    try clear p2
    try clear c3
    try clear c4
    try clear c5
    try clear c5b0
    try clear c5b1
    try clear c5b2
    try clear hcz13_0
    try clear hcz13_1
    try clear hcz13_2
    try clear hcz7_0
    try clear hcz7_1
    try clear hcz7_2
    try clear hcz9_0
    try clear hcz9_1
    try clear hcz9_2
    try clear hfz13_0
    try clear hfz13_1
    try clear hfz13_2
    try clear hfz7_0
    try clear hfz7_1
    try clear hfz7_2
    try clear hfz9_0
    try clear hfz9_1
    try clear hfz9_2
    obtain⟨x3_1,x19_1,rfl,HA,HK1,HO_3,BK21001,HB⟩:=hrel
    cases gk with
    | zero=>exact absurd HA.out (by simp[ZI.l0])
    | succ k1=>
     have H:=HA.out
     clear HA
     simp only[ZI.l0] at H
     by_cases c14:x19_1<(l0_0.length:Int)
     ·rw[if_pos c14] at H
      have c14b0:decide (x19_1<(l0_0.length:Int))=true:=Ze c14
      clear c14
      by_cases c15:0≤x19_1
      ·rw[if_pos c15] at H
       have c15b0:decide (0≤x19_1)=true:=Ze c15
       clear c15
       by_cases c16:x19_1<(l0_0.length:Int)
       ·rw[if_pos c16] at H
        have c16b0:decide (x19_1<(l0_0.length:Int))=true:=Ze c16
        clear c16
        by_cases c17:5+((Zp l0_0 x19_1).f0).size≤9223372036854775807
        ·rw[if_pos c17] at H
         have c17b0:=eq_true c17
         have c17b1:decide (5+((Zp l0_0 x19_1).f0).size≤9223372036854775807)=true:=Ze c17
         try have c17b2:(9223372036854775807<5+((Zp l0_0 x19_1).f0).size)=False:=eq_false (Nat.not_lt.2 c17)
         by_cases c18:((⟨#[110,111,100,101,32]⟩:ByteArray) ++ ((Zp l0_0 x19_1).f0)).size+1≤9223372036854775807
         ·rw[if_pos c18] at H
          have c18b0:=eq_true c18
          have c18b1:decide (((⟨#[110,111,100,101,32]⟩:ByteArray) ++ ((Zp l0_0 x19_1).f0)).size+1≤9223372036854775807)=true:=Ze c18
          try have c18b2:(9223372036854775807<((⟨#[110,111,100,101,32]⟩:ByteArray) ++ ((Zp l0_0 x19_1).f0)).size+1)=False:=eq_false (Nat.not_lt.2 c18)
          try have c18b4:(9223372036854775807<(5+((Zp l0_0 x19_1).f0).size)+1)=False:=eq_false (Nat.not_lt.2 (by have h_:=c18;simp only[ByteArray.size_append] at h_;exact h_))
          replace H:=Zh H
          obtain⟨t21009,A190,H⟩:=H
          replace H:(if (((⟨#[110,111,100,101,32]⟩:ByteArray) ++ ((Zp l0_0 x19_1).f0)) ++ (⟨#[32]⟩:ByteArray)).size+t21009.size≤9223372036854775807 then(if ((Zp l0_0 x19_1).f2)=0 then(if x3_1.length<8796093022208 then(ZI.l0 k1 (x3_1 ++ [(((⟨#[110,111,100,101,32]⟩:ByteArray) ++ ((Zp l0_0 x19_1).f0)) ++ (⟨#[32]⟩:ByteArray)) ++ t21009]) l0_0 (l0_0.length:Int) (wrap64 (x19_1+1)) l0_0 l0_1 a0_2) else(none)) else((ZR.f ((Zp l0_0 x19_1).f2)).bind fun t21013=>(if 7+t21013.size≤9223372036854775807 then(if ((((⟨#[110,111,100,101,32]⟩:ByteArray) ++ ((Zp l0_0 x19_1).f0)) ++ (⟨#[32]⟩:ByteArray)) ++ t21009).size+((⟨#[32,119,97,116,99,104,32]⟩:ByteArray) ++ t21013).size≤9223372036854775807 then(if x3_1.length<8796093022208 then(ZI.l0 k1 (x3_1 ++ [((((⟨#[110,111,100,101,32]⟩:ByteArray) ++ ((Zp l0_0 x19_1).f0)) ++ (⟨#[32]⟩:ByteArray)) ++ t21009) ++ ((⟨#[32,119,97,116,99,104,32]⟩:ByteArray) ++ t21013)]) l0_0 (l0_0.length:Int) (wrap64 (x19_1+1)) l0_0 l0_1 a0_2) else(none)) else(none)) else(none)))) else(none))=some r:=H
          have A19:=Za A190;clear A190
          by_cases c20:(((⟨#[110,111,100,101,32]⟩:ByteArray) ++ ((Zp l0_0 x19_1).f0)) ++ (⟨#[32]⟩:ByteArray)).size+t21009.size≤9223372036854775807
          ·rw[if_pos c20] at H
           have c20b0:=eq_true c20
           have c20b1:decide ((((⟨#[110,111,100,101,32]⟩:ByteArray) ++ ((Zp l0_0 x19_1).f0)) ++ (⟨#[32]⟩:ByteArray)).size+t21009.size≤9223372036854775807)=true:=Ze c20
           try have c20b2:(9223372036854775807<(((⟨#[110,111,100,101,32]⟩:ByteArray) ++ ((Zp l0_0 x19_1).f0)) ++ (⟨#[32]⟩:ByteArray)).size+t21009.size)=False:=eq_false (Nat.not_lt.2 c20)
           try have c20b4:(9223372036854775807<((5+((Zp l0_0 x19_1).f0).size)+1)+t21009.size)=False:=eq_false (Nat.not_lt.2 (by have h_:=c20;simp only[ByteArray.size_append] at h_;exact h_))
           by_cases c21:((Zp l0_0 x19_1).f2)=0
           ·rw[if_pos c21] at H
            have c21b0:(((Zp l0_0 x19_1).f2) == 0)=true:=beq_iff_eq.mpr c21
            have c21b1:(((Zp l0_0 x19_1).f2) != 0)=false:=bne_eq_false_iff_eq.mpr c21
            clear c21
            by_cases c22:x3_1.length<8796093022208
            ·rw[if_pos c22] at H
             have LMc22:=Za c22;clear c22
             obtain⟨y21010,hy21010⟩:∃y_:List ByteArray,y_=(x3_1 ++ [(((⟨#[110,111,100,101,32]⟩:ByteArray) ++ ((Zp l0_0 x19_1).f0)) ++ (⟨#[32]⟩:ByteArray)) ++ t21009]):=⟨_,rfl⟩
             replace H:(ZI.l0 k1 y21010 l0_0 (l0_0.length:Int) (wrap64 (x19_1+1)) l0_0 l0_1 a0_2)=some r:=by first|(rw[hy21010];with_reducible exact H)|(have H2_:=(Zi _ _).symm.trans H;rw[hy21010];with_reducible exact H2_)|(have H2_:=(Zi _ _).symm.trans H;with_reducible exact H2_)|with_reducible exact H|(rw[hy21010];exact H)|exact H
             have Ny21010:=Za hy21010;clear hy21010
             have H':=Za H
             clear H
             have p21007:0≤(x19_1:Int):=Zd (by first|(with_reducible assumption)|assumption)
             have q21007:x19_1<(l0_0.length:Int):=Zd (by first|(with_reducible assumption)|assumption)
             obtain⟨ad21007,A21007_1,c21007_1,e21007,hx21007_0,hx21007_1,hx21007_2,hl21007_1,hi21007_1⟩:=Zan HR0_0.out x19_1 p21007 q21007
             cases e21007
             replace hx21007_0:=(HB.out.cell (Zc w _ hx21007_0)).trans hx21007_0
             replace hx21007_1:=(HB.out.cell (Zc w _ hx21007_1)).trans hx21007_1
             replace hx21007_2:=(HB.out.cell (Zc w _ hx21007_2)).trans hx21007_2
             have HR21007_1:=Za hi21007_1;have HC21007_1:=Za hl21007_1;clear hi21007_1 hl21007_1
             replace p21007:=eq_true p21007
             replace q21007:=eq_true q21007
             try go_wp2_with (first|((with_reducible refine ZN (N:=5) rfl ?_);refine ZP ?hg (N:=5) ?hd (cs:=#[.string (⟨#[]⟩:ByteArray),.slice none 0 0,.int .i64 0]) (t:=73) ?hr ?_;(case hd=>rfl);(case hg=>rfl);(case hr=>first|(go_simp;done)|(go_simp;rfl));intro gb21008 hg w23 hbox hb;have BK21008:=Za (hbox);have GW21008:=Za ((by rw[hg];exact(Zy (by repeat(first|(with_reducible first|exact HB.out|apply Zn|apply Zm|apply Zo|refine Zr ?_ GE21001.out)|exact HB.out))):w.heap.size≤gb21008));have GE21008:=Za ((by rw[hg];exact(Zy (by repeat(first|(with_reducible first|exact HB.out|apply Zn|apply Zm|apply Zo|refine Zr ?_ GE21001.out)|exact HB.out))):w.heap.size≤gb21008));have NB21001_21008:=Za ((by rw[hg];exact Nat.ne_of_lt (ZY (g:=gb21001) (o:=.cells #[.slice (some ad21007) l0_0.length c0_0,.slice A0_1 l0_1.length c0_1,.int .i64 a0_2] 36 (0,0)) (by(with_reducible repeat(first|refine Zu ?_ _|refine Zv ?_|refine Zs ?_ _));exact BK21001.out)):gb21001≠gb21008));have NB21008_21001:=Za ((by rw[hg];exact Nat.ne_of_gt (ZY (g:=gb21001) (o:=.cells #[.slice (some ad21007) l0_0.length c0_0,.slice A0_1 l0_1.length c0_1,.int .i64 a0_2] 36 (0,0)) (by(with_reducible repeat(first|refine Zu ?_ _|refine Zv ?_|refine Zs ?_ _));exact BK21001.out)):gb21008≠gb21001));replace HO_3:=Za (Kd.R_below (by(with_reducible repeat(first|apply Kd.R_alloc|apply Kd.R_drewN|apply Kd.R_drew));exact HO_3.out) hb);replace BK21001:=Za (ZB (g:=gb21001) (o:=.cells #[.slice (some ad21007) l0_0.length c0_0,.slice A0_1 l0_1.length c0_1,.int .i64 a0_2] 36 (0,0)) (by(with_reducible repeat(first|refine Zu ?_ _|refine Zv ?_|refine Zs ?_ _));exact BK21001.out) hb);replace HB:=Za (Zx (by repeat(first|(with_reducible first|exact HB.out|apply Zn|apply Zm|apply Zo|refine Zr ?_ GE21001.out)|exact HB.out)) hb);clear hb hbox hg;have hnb24:=NB21008_21001.out;have hnc24:=NB21001_21008.out;have hcz25_0:w23.cell? ⟨gb21008,0,none⟩=some (.string (⟨#[]⟩:ByteArray)):=(Zq BK21008.out 0).trans rfl;have hcz25_1:w23.cell? ⟨gb21008,1,none⟩=some (.slice none 0 0):=(Zq BK21008.out 1).trans rfl;have hcz25_2:w23.cell? ⟨gb21008,2,none⟩=some (.int .i64 0):=(Zq BK21008.out 2).trans rfl;have hfz25_0:=Zt BK21008.out 0;have hfz25_1:=Zt BK21008.out 1;have hfz25_2:=Zt BK21008.out 2))
             have n0_:Aside0 (Kd.R Kd.string 9 (((w23.setCell ⟨gb21008,0,none⟩ (.string ((Zp l0_0 x19_1).f0))).setCell ⟨gb21008,1,none⟩ (.slice A21007_1 ((Zp l0_0 x19_1).f1).length c21007_1)).setCell ⟨gb21008,2,none⟩ (.int .i64 ((Zp l0_0 x19_1).f2))) w.heap.size (fun _=>True) u3 x3_1):=⟨by(with_reducible repeat(first|apply Kd.R_alloc|apply Kd.R_drewN|apply Kd.R_drew));exact Kd.R_mono (Kd.R_far (p:=⟨gb21008,2,none⟩) (Kd.R_far (p:=⟨gb21008,1,none⟩) (Kd.R_far (p:=⟨gb21008,0,none⟩) (Kd.R_types HO_3.out BK21008.out (by decide)) (fun _ hk=>hk.2) (.string ((Zp l0_0 x19_1).f0))) (fun _ hk=>hk.2) (.slice A21007_1 ((Zp l0_0 x19_1).f1).length c21007_1)) (fun _ hk=>hk.2) (.int .i64 ((Zp l0_0 x19_1).f2))) (fun _ hk=>trivial)⟩
             have n1_:Aside0 ((((w23.setCell ⟨gb21008,0,none⟩ (.string ((Zp l0_0 x19_1).f0))).setCell ⟨gb21008,1,none⟩ (.slice A21007_1 ((Zp l0_0 x19_1).f1).length c21007_1)).setCell ⟨gb21008,2,none⟩ (.int .i64 ((Zp l0_0 x19_1).f2))).heap[gb21001]? = some (.cells #[.slice (some ad21007) l0_0.length c0_0,.slice A0_1 l0_1.length c0_1,.int .i64 a0_2] 36 (0,0))):=⟨by(with_reducible repeat(first|refine Zu ?_ _|refine Zv ?_|refine Zs ?_ _));refine ZV ?_ NB21001_21008.out _;(with_reducible repeat(first|refine Zu ?_ _|refine Zv ?_|refine Zs ?_ _));refine ZV ?_ NB21001_21008.out _;(with_reducible repeat(first|refine Zu ?_ _|refine Zv ?_|refine Zs ?_ _));refine ZV ?_ NB21001_21008.out _;(with_reducible repeat(first|refine Zu ?_ _|refine Zv ?_|refine Zs ?_ _));exact BK21001.out⟩
             have n2_:Aside0 ((((w23.setCell ⟨gb21008,0,none⟩ (.string ((Zp l0_0 x19_1).f0))).setCell ⟨gb21008,1,none⟩ (.slice A21007_1 ((Zp l0_0 x19_1).f1).length c21007_1)).setCell ⟨gb21008,2,none⟩ (.int .i64 ((Zp l0_0 x19_1).f2))).heap[gb21008]? = some (.cells #[.string ((Zp l0_0 x19_1).f0),.slice A21007_1 ((Zp l0_0 x19_1).f1).length c21007_1,.int .i64 ((Zp l0_0 x19_1).f2)] 73 (0,0))):=⟨by(with_reducible repeat(first|refine Zu ?_ _|refine Zv ?_|refine Zs ?_ _));refine Z6 (cs:=#[.string ((Zp l0_0 x19_1).f0),.slice A21007_1 ((Zp l0_0 x19_1).f1).length c21007_1,.int .i64 0]) ?_ 2 _ rfl;(with_reducible repeat(first|refine Zu ?_ _|refine Zv ?_|refine Zs ?_ _));refine Z6 (cs:=#[.string ((Zp l0_0 x19_1).f0),.slice none 0 0,.int .i64 0]) ?_ 1 _ rfl;(with_reducible repeat(first|refine Zu ?_ _|refine Zv ?_|refine Zs ?_ _));refine Z6 (cs:=#[.string (⟨#[]⟩:ByteArray),.slice none 0 0,.int .i64 0]) ?_ 0 _ rfl;(with_reducible repeat(first|refine Zu ?_ _|refine Zv ?_|refine Zs ?_ _));exact BK21008.out⟩
             have n3_:Aside0 (Below w.heap.size w (((w23.setCell ⟨gb21008,0,none⟩ (.string ((Zp l0_0 x19_1).f0))).setCell ⟨gb21008,1,none⟩ (.slice A21007_1 ((Zp l0_0 x19_1).f1).length c21007_1)).setCell ⟨gb21008,2,none⟩ (.int .i64 ((Zp l0_0 x19_1).f2)))):=⟨by repeat(first|(with_reducible first|exact HB.out|apply Zn|apply Zm|apply Zo|refine Zr ?_ GE21001.out|refine Zr ?_ GE21008.out)|exact HB.out)⟩
             (try clear HO_3)
             (try clear BK21001)
             (try clear BK21008)
             (try clear HB)
             generalize (((w23.setCell ⟨gb21008,0,none⟩ (.string ((Zp l0_0 x19_1).f0))).setCell ⟨gb21008,1,none⟩ (.slice A21007_1 ((Zp l0_0 x19_1).f1).length c21007_1)).setCell ⟨gb21008,2,none⟩ (.int .i64 ((Zp l0_0 x19_1).f2)))=w26 at n0_ n1_ n2_ n3_ ⊢
             have HO_3:=n0_;have BK21001:=n1_;have BK21008:=n2_;have HB:=n3_;clear n0_ n1_ n2_ n3_
             replace HO_3:=Za (Kd.R_drew HO_3.out);replace BK21001:=Za (Zv BK21001.out);replace BK21008:=Za (Zv BK21008.out);replace HB:=Za (Zo HB.out)
             refine Zbq (n:=9) (S:=fun w'=>w'.cell? ⟨gb21008,0,none⟩=some (.string ((Zp l0_0 x19_1).f0))∧w'.cell? ⟨gb21008,1,none⟩=some (.slice A21007_1 ((Zp l0_0 x19_1).f1).length c21007_1)∧w'.cell? ⟨gb21008,2,none⟩=some (.int .i64 ((Zp l0_0 x19_1).f2))) (ds:=[]) #[false,false,false,false,false,false,false,false,false] (by kernel_rfl) rfl rfl ⟨(Zq BK21008.out 0).trans rfl,(Zq BK21008.out 1).trans rfl,(Zq BK21008.out 2).trans rfl⟩ (fun hHeld=>?_);refine Zbe ZI.tab7 ZI.bits7 (fun HT_ HW_=>?_)
             generalize w26.drew=w27 at HO_3 BK21001 BK21008 HB hHeld ⊢
             refine ZO (i:=0) (N:=some 23) (v:=?_) (a':=?_) #[true,false,false,false,false,false,false,false,false] rfl rfl (ZJ HT_.out (by kernel_rfl)) (fun _ _ _ h=>h) (Or.inl ⟨by rfl,?_⟩) ?_ ?_
             rotate_left
             ·intro w'
              go_simp
              with_reducible rfl
             rotate_left
             ·simp only[Act.put,List.setIfInBounds_toArray,List.set_cons_zero,List.set_cons_succ,ZC,ZD]
              rfl
             refine ZO (i:=4) (N:=some 27) (v:=?_) (a':=?_) #[true,false,false,false,true,false,false,false,false] rfl rfl (ZJ HT_.out (by kernel_rfl)) (fun _ _ _ h=>h) (Or.inl ⟨by rfl,?_⟩) ?_ ?_
             rotate_left
             ·intro w'
              go_simp
              with_reducible rfl
             rotate_left
             ·simp only[Act.put,List.setIfInBounds_toArray,List.set_cons_zero,List.set_cons_succ,ZC,ZD]
              rfl
             refine take_ (i:=1) (N:=some 24) (v:=?_) (a':=?_) #[true,true,false,false,true,false,false,false,false] rfl rfl (Z3 HT_.out HW_.out (by kernel_rfl)) (fun _ _ _ h=>h) (Or.inl ⟨by rfl,?_⟩) hHeld ?_ ?_
             rotate_left
             ·rintro w' ⟨s0,s1,s2⟩
              go_simp
              with_reducible rfl
             rotate_left
             ·simp only[Act.put,List.setIfInBounds_toArray,List.set_cons_zero,List.set_cons_succ,ZC,ZD]
              rfl
             refine ZO (i:=2) (N:=some 25) (v:=?_) (a':=?_) #[true,true,true,false,true,false,false,false,false] rfl rfl (ZJ HT_.out (by kernel_rfl)) (fun _ _ _ h=>h) (Or.inl ⟨by rfl,?_⟩) ?_ ?_
             rotate_left
             ·intro w'
              go_simp
              with_reducible rfl
             rotate_left
             ·simp only[Act.put,List.setIfInBounds_toArray,List.set_cons_zero,List.set_cons_succ,ZC,ZD]
              rfl
             refine ZO (i:=3) (N:=some 26) (v:=?_) (a':=?_) #[true,true,true,true,true,false,false,false,false] rfl rfl (ZJ HT_.out (by kernel_rfl)) (fun _ _ _ h=>h) (Or.inl ⟨by rfl,?_⟩) ?_ ?_
             rotate_left
             ·intro w'
              go_simp
              with_reducible rfl
             rotate_left
             ·simp only[Act.put,List.setIfInBounds_toArray,List.set_cons_zero,List.set_cons_succ,ZC,ZD]
              rfl
             refine take_ (i:=5) (N:=some 28) (v:=?_) (a':=?_) #[true,true,true,true,true,true,false,false,false] rfl rfl (Z3 HT_.out HW_.out (by kernel_rfl)) (fun _ _ _ h=>h) (Or.inl ⟨by rfl,?_⟩) hHeld ?_ ?_
             rotate_left
             ·rintro w' ⟨s0,s1,s2⟩
              go_simp
              with_reducible rfl
             rotate_left
             ·simp only[Act.put,List.setIfInBounds_toArray,List.set_cons_zero,List.set_cons_succ,ZC,ZD]
              rfl
             refine one_ (i:=6) (N:=some 29) #[true,true,true,true,true,true,true,false,false] rfl rfl (ZaR HT_.out (by kernel_rfl)) (by decide) (fun K hK=>?_)
             refine ZaX Tryd.func11 (by kernel_rfl) rfl #[.slice A21007_1 ((Zp l0_0 x19_1).f1).length c21007_1] (by rfl) rfl rfl (by(try simp only[List.map_toArray,List.map_cons,List.map_nil]);first|done|rfl|(simp only[Zk,Zj];rfl)) ?_
             with_reducible refine(Z0.calls k1 _ _ ((Zp l0_0 x19_1).f1) t21009 _ ?side1 ?side2 ?sideT A19.out).mono ?_
             case sideT=>exact TW.below HTW.out (by repeat(first|(with_reducible first|exact HB.out|apply Zn|apply Zm|apply Zo|refine Zr ?_ GE21001.out|refine Zr ?_ GE21008.out)|exact HB.out))
             (case side1=>repeat(first|exact(Zb HR21007_1.out HB.out)|(with_reducible refine Kd.C_alloc ?_ _)|(with_reducible refine Kd.C_drewN ?_ _)|(with_reducible refine Kd.C_drew ?_)))
             (case side2=>exact HC21007_1.out)
             rintro e w28 ⟨rfl,hb⟩
             refine⟨_,rfl,?_⟩
             replace HO_3:=Za (Kd.R_below (by(with_reducible repeat(first|apply Kd.R_alloc|apply Kd.R_drewN|apply Kd.R_drew));exact HO_3.out) hb);replace BK21001:=Za (ZB (g:=gb21001) (o:=.cells #[.slice (some ad21007) l0_0.length c0_0,.slice A0_1 l0_1.length c0_1,.int .i64 a0_2] 36 (0,0)) (by(with_reducible repeat(first|refine Zu ?_ _|refine Zv ?_|refine Zs ?_ _));exact BK21001.out) hb);replace BK21008:=Za (ZB (g:=gb21008) (o:=.cells #[.string ((Zp l0_0 x19_1).f0),.slice A21007_1 ((Zp l0_0 x19_1).f1).length c21007_1,.int .i64 ((Zp l0_0 x19_1).f2)] 73 (0,0)) (by(with_reducible repeat(first|refine Zu ?_ _|refine Zv ?_|refine Zs ?_ _));exact BK21008.out) hb);replace HB:=Za (Zx (by repeat(first|(with_reducible first|exact HB.out|apply Zn|apply Zm|apply Zo|refine Zr ?_ GE21001.out|refine Zr ?_ GE21008.out)|exact HB.out)) hb)
             (try clear hb)
             (try clear hb2)
             (try clear hk)
             (try clear hi)
             refine hK.out _ _ ⟨(Zq BK21008.out 0).trans rfl,(Zq BK21008.out 1).trans rfl,(Zq BK21008.out 2).trans rfl⟩ (fun hHeld=>?_)
             clear hK K
             refine ZaE (a':=?_) ?_ ?_
             rotate_left
             ·show Act.put _ (some 29) _=_
              simp only[Act.put,List.setIfInBounds_toArray,List.set_cons_zero,List.set_cons_succ,ZC,ZD]
              rfl
             refine ZO (i:=7) (N:=some 30) (v:=?_) (a':=?_) #[true,true,true,true,true,true,true,true,false] rfl rfl (ZJ HT_.out (by kernel_rfl)) (fun _ _ _ h=>h) (Or.inl ⟨by rfl,?_⟩) ?_ ?_
             rotate_left
             ·intro w'
              go_simp
              with_reducible rfl
             rotate_left
             ·simp only[Act.put,List.setIfInBounds_toArray,List.set_cons_zero,List.set_cons_succ,ZC,ZD]
              rfl
             refine ZO (i:=8) (N:=some 6) (v:=?_) (a':=?_) #[true,true,true,true,true,true,true,true,true] rfl rfl (ZJ HT_.out (by kernel_rfl)) (fun _ _ _ h=>h) (Or.inl ⟨by rfl,?_⟩) ?_ ?_
             rotate_left
             ·intro w'
              go_simp
              with_reducible rfl
             rotate_left
             ·simp only[Act.put,List.setIfInBounds_toArray,List.set_cons_zero,List.set_cons_succ,ZC,ZD]
              rfl
             refine ZbJ (ZbA HT_.out (by kernel_rfl)) ?_
             have hcz29_0:w28.cell? ⟨gb21008,0,none⟩=some (.string ((Zp l0_0 x19_1).f0)):=(Zq BK21008.out 0).trans rfl
             have hcz29_1:w28.cell? ⟨gb21008,1,none⟩=some (.slice A21007_1 ((Zp l0_0 x19_1).f1).length c21007_1):=(Zq BK21008.out 1).trans rfl
             have hcz29_2:w28.cell? ⟨gb21008,2,none⟩=some (.int .i64 ((Zp l0_0 x19_1).f2)):=(Zq BK21008.out 2).trans rfl
             have hfz29_0:=Zt BK21008.out 0
             have hfz29_1:=Zt BK21008.out 1
             have hfz29_2:=Zt BK21008.out 2
             try go_wp2_with (first|((with_reducible refine Zbx (b:=.append) (xs:=#[.tmp 40,.tmp 42]) rfl ?_);at_builtin;refine Kd.R_append Kd.string (w0:=w) w.heap.size rfl (.tmp 40) (.tmp 42) 56 9 (.string ⟨#[]⟩) 16 rfl Tryd.underlying56 Zcw rfl (by decide) (by omega) u3 x3_1 ((((⟨#[110,111,100,101,32]⟩:ByteArray) ++ ((Zp l0_0 x19_1).f0)) ++ (⟨#[32]⟩:ByteArray)) ++ t21009) [.string ((((⟨#[110,111,100,101,32]⟩:ByteArray) ++ ((Zp l0_0 x19_1).f0)) ++ (⟨#[32]⟩:ByteArray)) ++ t21009)] (fun _=>True) (fun _=>False) rfl rfl ?aP (fun _ hk=>hk.elim) ?aF ?aO ?aB ?aS ?aL ?_;(case aP=>exact rfl);(case aB=>exact(by repeat(first|(with_reducible first|exact HB.out|apply Zn|apply Zm|apply Zo|refine Zr ?_ GE21001.out|refine Zr ?_ GE21008.out)|exact HB.out)));(case aF=>exact(fun _ _=>trivial));(case aO=>exact(by(with_reducible repeat(first|apply Kd.R_alloc|apply Kd.R_drewN|apply Kd.R_drew));exact HO_3.out));(case aS=>exact(Zy (by repeat(first|(with_reducible first|exact HB.out|apply Zn|apply Zm|apply Zo|refine Zr ?_ GE21001.out|refine Zr ?_ GE21008.out)|exact HB.out))));(case aL=>have:=LMc22.out;omega);intro v21011 w30 ho hb hg hat;rw[← Ny21010.out] at ho;have HO21012:=Za (ho);replace BK21001:=Za (ZbY (g:=gb21001) (o:=.cells #[.slice (some ad21007) l0_0.length c0_0,.slice A0_1 l0_1.length c0_1,.int .i64 a0_2] 36 (0,0)) (by(with_reducible repeat(first|refine Zu ?_ _|refine Zv ?_|refine Zs ?_ _));exact BK21001.out) hg (Kd.R_ne HO_3.out BK21001.out (by decide)));replace BK21008:=Za (ZbY (g:=gb21008) (o:=.cells #[.string ((Zp l0_0 x19_1).f0),.slice A21007_1 ((Zp l0_0 x19_1).f1).length c21007_1,.int .i64 ((Zp l0_0 x19_1).f2)] 73 (0,0)) (by(with_reducible repeat(first|refine Zu ?_ _|refine Zv ?_|refine Zs ?_ _));exact BK21008.out) hg (Kd.R_ne HO_3.out BK21008.out (by decide)));replace HB:=Za (hb);clear HO_3;clear ho hb hg hat))
             go_roundg k1
             case measure=>have:=HK1.out;omega
             case rel=>exact⟨(y21010),(wrap64 (x19_1+1)),(by first|rfl|(simp;done)|(simp[*];done)),H',⟨by have:=HK1.out;omega⟩,⟨by(with_reducible repeat(first|apply Kd.R_alloc|apply Kd.R_drewN|apply Kd.R_drew));exact HO21012.out⟩,⟨by(with_reducible repeat(first|refine Zu ?_ _|refine Zv ?_|refine Zs ?_ _));exact BK21001.out⟩,⟨by repeat(first|(with_reducible first|exact HB.out|apply Zn|apply Zm|apply Zo|refine Zr ?_ GE21001.out|refine Zr ?_ GE21008.out)|exact HB.out)⟩⟩
            ·rw[if_neg c22] at H
             exact absurd H (by simp)
           ·rw[if_neg c21] at H
            have c21b0:(((Zp l0_0 x19_1).f2) == 0)=false:=beq_eq_false_iff_ne.mpr c21
            have c21b1:(((Zp l0_0 x19_1).f2) != 0)=true:=bne_iff_ne.mpr c21
            replace H:=Zh H
            obtain⟨t21013,A310,H⟩:=H
            replace H:(if 7+t21013.size≤9223372036854775807 then(if ((((⟨#[110,111,100,101,32]⟩:ByteArray) ++ ((Zp l0_0 x19_1).f0)) ++ (⟨#[32]⟩:ByteArray)) ++ t21009).size+((⟨#[32,119,97,116,99,104,32]⟩:ByteArray) ++ t21013).size≤9223372036854775807 then(if x3_1.length<8796093022208 then(ZI.l0 k1 (x3_1 ++ [((((⟨#[110,111,100,101,32]⟩:ByteArray) ++ ((Zp l0_0 x19_1).f0)) ++ (⟨#[32]⟩:ByteArray)) ++ t21009) ++ ((⟨#[32,119,97,116,99,104,32]⟩:ByteArray) ++ t21013)]) l0_0 (l0_0.length:Int) (wrap64 (x19_1+1)) l0_0 l0_1 a0_2) else(none)) else(none)) else(none))=some r:=H
            have A31:=Za A310;clear A310
            by_cases c32:7+t21013.size≤9223372036854775807
            ·rw[if_pos c32] at H
             have c32b0:=eq_true c32
             have c32b1:decide (7+t21013.size≤9223372036854775807)=true:=Ze c32
             try have c32b2:(9223372036854775807<7+t21013.size)=False:=eq_false (Nat.not_lt.2 c32)
             by_cases c33:((((⟨#[110,111,100,101,32]⟩:ByteArray) ++ ((Zp l0_0 x19_1).f0)) ++ (⟨#[32]⟩:ByteArray)) ++ t21009).size+((⟨#[32,119,97,116,99,104,32]⟩:ByteArray) ++ t21013).size≤9223372036854775807
             ·rw[if_pos c33] at H
              have c33b0:=eq_true c33
              have c33b1:decide (((((⟨#[110,111,100,101,32]⟩:ByteArray) ++ ((Zp l0_0 x19_1).f0)) ++ (⟨#[32]⟩:ByteArray)) ++ t21009).size+((⟨#[32,119,97,116,99,104,32]⟩:ByteArray) ++ t21013).size≤9223372036854775807)=true:=Ze c33
              try have c33b2:(9223372036854775807<((((⟨#[110,111,100,101,32]⟩:ByteArray) ++ ((Zp l0_0 x19_1).f0)) ++ (⟨#[32]⟩:ByteArray)) ++ t21009).size+((⟨#[32,119,97,116,99,104,32]⟩:ByteArray) ++ t21013).size)=False:=eq_false (Nat.not_lt.2 c33)
              try have c33b4:(9223372036854775807<(((5+((Zp l0_0 x19_1).f0).size)+1)+t21009.size)+(7+t21013.size))=False:=eq_false (Nat.not_lt.2 (by have h_:=c33;simp only[ByteArray.size_append] at h_;exact h_))
              by_cases c34:x3_1.length<8796093022208
              ·rw[if_pos c34] at H
               have LMc34:=Za c34;clear c34
               obtain⟨y21014,hy21014⟩:∃y_:List ByteArray,y_=(x3_1 ++ [((((⟨#[110,111,100,101,32]⟩:ByteArray) ++ ((Zp l0_0 x19_1).f0)) ++ (⟨#[32]⟩:ByteArray)) ++ t21009) ++ ((⟨#[32,119,97,116,99,104,32]⟩:ByteArray) ++ t21013)]):=⟨_,rfl⟩
               replace H:(ZI.l0 k1 y21014 l0_0 (l0_0.length:Int) (wrap64 (x19_1+1)) l0_0 l0_1 a0_2)=some r:=by first|(rw[hy21014];with_reducible exact H)|(have H2_:=(Zi _ _).symm.trans H;rw[hy21014];with_reducible exact H2_)|(have H2_:=(Zi _ _).symm.trans H;with_reducible exact H2_)|with_reducible exact H|(rw[hy21014];exact H)|exact H
               have Ny21014:=Za hy21014;clear hy21014
               have H':=Za H
               clear H
               have p21007:0≤(x19_1:Int):=Zd (by first|(with_reducible assumption)|assumption)
               have q21007:x19_1<(l0_0.length:Int):=Zd (by first|(with_reducible assumption)|assumption)
               obtain⟨ad21007,A21007_1,c21007_1,e21007,hx21007_0,hx21007_1,hx21007_2,hl21007_1,hi21007_1⟩:=Zan HR0_0.out x19_1 p21007 q21007
               cases e21007
               replace hx21007_0:=(HB.out.cell (Zc w _ hx21007_0)).trans hx21007_0
               replace hx21007_1:=(HB.out.cell (Zc w _ hx21007_1)).trans hx21007_1
               replace hx21007_2:=(HB.out.cell (Zc w _ hx21007_2)).trans hx21007_2
               have HR21007_1:=Za hi21007_1;have HC21007_1:=Za hl21007_1;clear hi21007_1 hl21007_1
               replace p21007:=eq_true p21007
               replace q21007:=eq_true q21007
               try go_wp2_with (first|((with_reducible refine ZN (N:=5) rfl ?_);refine ZP ?hg (N:=5) ?hd (cs:=#[.string (⟨#[]⟩:ByteArray),.slice none 0 0,.int .i64 0]) (t:=73) ?hr ?_;(case hd=>rfl);(case hg=>rfl);(case hr=>first|(go_simp;done)|(go_simp;rfl));intro gb21008 hg w35 hbox hb;have BK21008:=Za (hbox);have GW21008:=Za ((by rw[hg];exact(Zy (by repeat(first|(with_reducible first|exact HB.out|apply Zn|apply Zm|apply Zo|refine Zr ?_ GE21001.out)|exact HB.out))):w.heap.size≤gb21008));have GE21008:=Za ((by rw[hg];exact(Zy (by repeat(first|(with_reducible first|exact HB.out|apply Zn|apply Zm|apply Zo|refine Zr ?_ GE21001.out)|exact HB.out))):w.heap.size≤gb21008));have NB21001_21008:=Za ((by rw[hg];exact Nat.ne_of_lt (ZY (g:=gb21001) (o:=.cells #[.slice (some ad21007) l0_0.length c0_0,.slice A0_1 l0_1.length c0_1,.int .i64 a0_2] 36 (0,0)) (by(with_reducible repeat(first|refine Zu ?_ _|refine Zv ?_|refine Zs ?_ _));exact BK21001.out)):gb21001≠gb21008));have NB21008_21001:=Za ((by rw[hg];exact Nat.ne_of_gt (ZY (g:=gb21001) (o:=.cells #[.slice (some ad21007) l0_0.length c0_0,.slice A0_1 l0_1.length c0_1,.int .i64 a0_2] 36 (0,0)) (by(with_reducible repeat(first|refine Zu ?_ _|refine Zv ?_|refine Zs ?_ _));exact BK21001.out)):gb21008≠gb21001));replace HO_3:=Za (Kd.R_below (by(with_reducible repeat(first|apply Kd.R_alloc|apply Kd.R_drewN|apply Kd.R_drew));exact HO_3.out) hb);replace BK21001:=Za (ZB (g:=gb21001) (o:=.cells #[.slice (some ad21007) l0_0.length c0_0,.slice A0_1 l0_1.length c0_1,.int .i64 a0_2] 36 (0,0)) (by(with_reducible repeat(first|refine Zu ?_ _|refine Zv ?_|refine Zs ?_ _));exact BK21001.out) hb);replace HB:=Za (Zx (by repeat(first|(with_reducible first|exact HB.out|apply Zn|apply Zm|apply Zo|refine Zr ?_ GE21001.out)|exact HB.out)) hb);clear hb hbox hg;have hnb36:=NB21008_21001.out;have hnc36:=NB21001_21008.out;have hcz37_0:w35.cell? ⟨gb21008,0,none⟩=some (.string (⟨#[]⟩:ByteArray)):=(Zq BK21008.out 0).trans rfl;have hcz37_1:w35.cell? ⟨gb21008,1,none⟩=some (.slice none 0 0):=(Zq BK21008.out 1).trans rfl;have hcz37_2:w35.cell? ⟨gb21008,2,none⟩=some (.int .i64 0):=(Zq BK21008.out 2).trans rfl;have hfz37_0:=Zt BK21008.out 0;have hfz37_1:=Zt BK21008.out 1;have hfz37_2:=Zt BK21008.out 2))
               have n0_:Aside0 (Kd.R Kd.string 9 (((w35.setCell ⟨gb21008,0,none⟩ (.string ((Zp l0_0 x19_1).f0))).setCell ⟨gb21008,1,none⟩ (.slice A21007_1 ((Zp l0_0 x19_1).f1).length c21007_1)).setCell ⟨gb21008,2,none⟩ (.int .i64 ((Zp l0_0 x19_1).f2))) w.heap.size (fun _=>True) u3 x3_1):=⟨by(with_reducible repeat(first|apply Kd.R_alloc|apply Kd.R_drewN|apply Kd.R_drew));exact Kd.R_mono (Kd.R_far (p:=⟨gb21008,2,none⟩) (Kd.R_far (p:=⟨gb21008,1,none⟩) (Kd.R_far (p:=⟨gb21008,0,none⟩) (Kd.R_types HO_3.out BK21008.out (by decide)) (fun _ hk=>hk.2) (.string ((Zp l0_0 x19_1).f0))) (fun _ hk=>hk.2) (.slice A21007_1 ((Zp l0_0 x19_1).f1).length c21007_1)) (fun _ hk=>hk.2) (.int .i64 ((Zp l0_0 x19_1).f2))) (fun _ hk=>trivial)⟩
               have n1_:Aside0 ((((w35.setCell ⟨gb21008,0,none⟩ (.string ((Zp l0_0 x19_1).f0))).setCell ⟨gb21008,1,none⟩ (.slice A21007_1 ((Zp l0_0 x19_1).f1).length c21007_1)).setCell ⟨gb21008,2,none⟩ (.int .i64 ((Zp l0_0 x19_1).f2))).heap[gb21001]? = some (.cells #[.slice (some ad21007) l0_0.length c0_0,.slice A0_1 l0_1.length c0_1,.int .i64 a0_2] 36 (0,0))):=⟨by(with_reducible repeat(first|refine Zu ?_ _|refine Zv ?_|refine Zs ?_ _));refine ZV ?_ NB21001_21008.out _;(with_reducible repeat(first|refine Zu ?_ _|refine Zv ?_|refine Zs ?_ _));refine ZV ?_ NB21001_21008.out _;(with_reducible repeat(first|refine Zu ?_ _|refine Zv ?_|refine Zs ?_ _));refine ZV ?_ NB21001_21008.out _;(with_reducible repeat(first|refine Zu ?_ _|refine Zv ?_|refine Zs ?_ _));exact BK21001.out⟩
               have n2_:Aside0 ((((w35.setCell ⟨gb21008,0,none⟩ (.string ((Zp l0_0 x19_1).f0))).setCell ⟨gb21008,1,none⟩ (.slice A21007_1 ((Zp l0_0 x19_1).f1).length c21007_1)).setCell ⟨gb21008,2,none⟩ (.int .i64 ((Zp l0_0 x19_1).f2))).heap[gb21008]? = some (.cells #[.string ((Zp l0_0 x19_1).f0),.slice A21007_1 ((Zp l0_0 x19_1).f1).length c21007_1,.int .i64 ((Zp l0_0 x19_1).f2)] 73 (0,0))):=⟨by(with_reducible repeat(first|refine Zu ?_ _|refine Zv ?_|refine Zs ?_ _));refine Z6 (cs:=#[.string ((Zp l0_0 x19_1).f0),.slice A21007_1 ((Zp l0_0 x19_1).f1).length c21007_1,.int .i64 0]) ?_ 2 _ rfl;(with_reducible repeat(first|refine Zu ?_ _|refine Zv ?_|refine Zs ?_ _));refine Z6 (cs:=#[.string ((Zp l0_0 x19_1).f0),.slice none 0 0,.int .i64 0]) ?_ 1 _ rfl;(with_reducible repeat(first|refine Zu ?_ _|refine Zv ?_|refine Zs ?_ _));refine Z6 (cs:=#[.string (⟨#[]⟩:ByteArray),.slice none 0 0,.int .i64 0]) ?_ 0 _ rfl;(with_reducible repeat(first|refine Zu ?_ _|refine Zv ?_|refine Zs ?_ _));exact BK21008.out⟩
               have n3_:Aside0 (Below w.heap.size w (((w35.setCell ⟨gb21008,0,none⟩ (.string ((Zp l0_0 x19_1).f0))).setCell ⟨gb21008,1,none⟩ (.slice A21007_1 ((Zp l0_0 x19_1).f1).length c21007_1)).setCell ⟨gb21008,2,none⟩ (.int .i64 ((Zp l0_0 x19_1).f2)))):=⟨by repeat(first|(with_reducible first|exact HB.out|apply Zn|apply Zm|apply Zo|refine Zr ?_ GE21001.out|refine Zr ?_ GE21008.out)|exact HB.out)⟩
               (try clear HO_3)
               (try clear BK21001)
               (try clear BK21008)
               (try clear HB)
               generalize (((w35.setCell ⟨gb21008,0,none⟩ (.string ((Zp l0_0 x19_1).f0))).setCell ⟨gb21008,1,none⟩ (.slice A21007_1 ((Zp l0_0 x19_1).f1).length c21007_1)).setCell ⟨gb21008,2,none⟩ (.int .i64 ((Zp l0_0 x19_1).f2)))=w38 at n0_ n1_ n2_ n3_ ⊢
               have HO_3:=n0_;have BK21001:=n1_;have BK21008:=n2_;have HB:=n3_;clear n0_ n1_ n2_ n3_
               replace HO_3:=Za (Kd.R_drew HO_3.out);replace BK21001:=Za (Zv BK21001.out);replace BK21008:=Za (Zv BK21008.out);replace HB:=Za (Zo HB.out)
               refine Zbq (n:=9) (S:=fun w'=>w'.cell? ⟨gb21008,0,none⟩=some (.string ((Zp l0_0 x19_1).f0))∧w'.cell? ⟨gb21008,1,none⟩=some (.slice A21007_1 ((Zp l0_0 x19_1).f1).length c21007_1)∧w'.cell? ⟨gb21008,2,none⟩=some (.int .i64 ((Zp l0_0 x19_1).f2))) (ds:=[]) #[false,false,false,false,false,false,false,false,false] (by kernel_rfl) rfl rfl ⟨(Zq BK21008.out 0).trans rfl,(Zq BK21008.out 1).trans rfl,(Zq BK21008.out 2).trans rfl⟩ (fun hHeld=>?_);refine Zbe ZI.tab7 ZI.bits7 (fun HT_ HW_=>?_)
               generalize w38.drew=w39 at HO_3 BK21001 BK21008 HB hHeld ⊢
               refine ZO (i:=0) (N:=some 23) (v:=?_) (a':=?_) #[true,false,false,false,false,false,false,false,false] rfl rfl (ZJ HT_.out (by kernel_rfl)) (fun _ _ _ h=>h) (Or.inl ⟨by rfl,?_⟩) ?_ ?_
               rotate_left
               ·intro w'
                go_simp
                with_reducible rfl
               rotate_left
               ·simp only[Act.put,List.setIfInBounds_toArray,List.set_cons_zero,List.set_cons_succ,ZC,ZD]
                rfl
               refine ZO (i:=4) (N:=some 27) (v:=?_) (a':=?_) #[true,false,false,false,true,false,false,false,false] rfl rfl (ZJ HT_.out (by kernel_rfl)) (fun _ _ _ h=>h) (Or.inl ⟨by rfl,?_⟩) ?_ ?_
               rotate_left
               ·intro w'
                go_simp
                with_reducible rfl
               rotate_left
               ·simp only[Act.put,List.setIfInBounds_toArray,List.set_cons_zero,List.set_cons_succ,ZC,ZD]
                rfl
               refine take_ (i:=1) (N:=some 24) (v:=?_) (a':=?_) #[true,true,false,false,true,false,false,false,false] rfl rfl (Z3 HT_.out HW_.out (by kernel_rfl)) (fun _ _ _ h=>h) (Or.inl ⟨by rfl,?_⟩) hHeld ?_ ?_
               rotate_left
               ·rintro w' ⟨s0,s1,s2⟩
                go_simp
                with_reducible rfl
               rotate_left
               ·simp only[Act.put,List.setIfInBounds_toArray,List.set_cons_zero,List.set_cons_succ,ZC,ZD]
                rfl
               refine ZO (i:=2) (N:=some 25) (v:=?_) (a':=?_) #[true,true,true,false,true,false,false,false,false] rfl rfl (ZJ HT_.out (by kernel_rfl)) (fun _ _ _ h=>h) (Or.inl ⟨by rfl,?_⟩) ?_ ?_
               rotate_left
               ·intro w'
                go_simp
                with_reducible rfl
               rotate_left
               ·simp only[Act.put,List.setIfInBounds_toArray,List.set_cons_zero,List.set_cons_succ,ZC,ZD]
                rfl
               refine ZO (i:=3) (N:=some 26) (v:=?_) (a':=?_) #[true,true,true,true,true,false,false,false,false] rfl rfl (ZJ HT_.out (by kernel_rfl)) (fun _ _ _ h=>h) (Or.inl ⟨by rfl,?_⟩) ?_ ?_
               rotate_left
               ·intro w'
                go_simp
                with_reducible rfl
               rotate_left
               ·simp only[Act.put,List.setIfInBounds_toArray,List.set_cons_zero,List.set_cons_succ,ZC,ZD]
                rfl
               refine take_ (i:=5) (N:=some 28) (v:=?_) (a':=?_) #[true,true,true,true,true,true,false,false,false] rfl rfl (Z3 HT_.out HW_.out (by kernel_rfl)) (fun _ _ _ h=>h) (Or.inl ⟨by rfl,?_⟩) hHeld ?_ ?_
               rotate_left
               ·rintro w' ⟨s0,s1,s2⟩
                go_simp
                with_reducible rfl
               rotate_left
               ·simp only[Act.put,List.setIfInBounds_toArray,List.set_cons_zero,List.set_cons_succ,ZC,ZD]
                rfl
               refine one_ (i:=6) (N:=some 29) #[true,true,true,true,true,true,true,false,false] rfl rfl (ZaR HT_.out (by kernel_rfl)) (by decide) (fun K hK=>?_)
               refine ZaX Tryd.func11 (by kernel_rfl) rfl #[.slice A21007_1 ((Zp l0_0 x19_1).f1).length c21007_1] (by rfl) rfl rfl (by(try simp only[List.map_toArray,List.map_cons,List.map_nil]);first|done|rfl|(simp only[Zk,Zj];rfl)) ?_
               with_reducible refine(Z0.calls k1 _ _ ((Zp l0_0 x19_1).f1) t21009 _ ?side1 ?side2 ?sideT A19.out).mono ?_
               case sideT=>exact TW.below HTW.out (by repeat(first|(with_reducible first|exact HB.out|apply Zn|apply Zm|apply Zo|refine Zr ?_ GE21001.out|refine Zr ?_ GE21008.out)|exact HB.out))
               (case side1=>repeat(first|exact(Zb HR21007_1.out HB.out)|(with_reducible refine Kd.C_alloc ?_ _)|(with_reducible refine Kd.C_drewN ?_ _)|(with_reducible refine Kd.C_drew ?_)))
               (case side2=>exact HC21007_1.out)
               rintro e w40 ⟨rfl,hb⟩
               refine⟨_,rfl,?_⟩
               replace HO_3:=Za (Kd.R_below (by(with_reducible repeat(first|apply Kd.R_alloc|apply Kd.R_drewN|apply Kd.R_drew));exact HO_3.out) hb);replace BK21001:=Za (ZB (g:=gb21001) (o:=.cells #[.slice (some ad21007) l0_0.length c0_0,.slice A0_1 l0_1.length c0_1,.int .i64 a0_2] 36 (0,0)) (by(with_reducible repeat(first|refine Zu ?_ _|refine Zv ?_|refine Zs ?_ _));exact BK21001.out) hb);replace BK21008:=Za (ZB (g:=gb21008) (o:=.cells #[.string ((Zp l0_0 x19_1).f0),.slice A21007_1 ((Zp l0_0 x19_1).f1).length c21007_1,.int .i64 ((Zp l0_0 x19_1).f2)] 73 (0,0)) (by(with_reducible repeat(first|refine Zu ?_ _|refine Zv ?_|refine Zs ?_ _));exact BK21008.out) hb);replace HB:=Za (Zx (by repeat(first|(with_reducible first|exact HB.out|apply Zn|apply Zm|apply Zo|refine Zr ?_ GE21001.out|refine Zr ?_ GE21008.out)|exact HB.out)) hb)
               (try clear hb)
               (try clear hb2)
               (try clear hk)
               (try clear hi)
               refine hK.out _ _ ⟨(Zq BK21008.out 0).trans rfl,(Zq BK21008.out 1).trans rfl,(Zq BK21008.out 2).trans rfl⟩ (fun hHeld=>?_)
               clear hK K
               refine ZaE (a':=?_) ?_ ?_
               rotate_left
               ·show Act.put _ (some 29) _=_
                simp only[Act.put,List.setIfInBounds_toArray,List.set_cons_zero,List.set_cons_succ,ZC,ZD]
                rfl
               refine ZO (i:=7) (N:=some 30) (v:=?_) (a':=?_) #[true,true,true,true,true,true,true,true,false] rfl rfl (ZJ HT_.out (by kernel_rfl)) (fun _ _ _ h=>h) (Or.inl ⟨by rfl,?_⟩) ?_ ?_
               rotate_left
               ·intro w'
                go_simp
                with_reducible rfl
               rotate_left
               ·simp only[Act.put,List.setIfInBounds_toArray,List.set_cons_zero,List.set_cons_succ,ZC,ZD]
                rfl
               refine ZO (i:=8) (N:=some 6) (v:=?_) (a':=?_) #[true,true,true,true,true,true,true,true,true] rfl rfl (ZJ HT_.out (by kernel_rfl)) (fun _ _ _ h=>h) (Or.inl ⟨by rfl,?_⟩) ?_ ?_
               rotate_left
               ·intro w'
                go_simp
                with_reducible rfl
               rotate_left
               ·simp only[Act.put,List.setIfInBounds_toArray,List.set_cons_zero,List.set_cons_succ,ZC,ZD]
                rfl
               refine ZbJ (ZbA HT_.out (by kernel_rfl)) ?_
               have hcz41_0:w40.cell? ⟨gb21008,0,none⟩=some (.string ((Zp l0_0 x19_1).f0)):=(Zq BK21008.out 0).trans rfl
               have hcz41_1:w40.cell? ⟨gb21008,1,none⟩=some (.slice A21007_1 ((Zp l0_0 x19_1).f1).length c21007_1):=(Zq BK21008.out 1).trans rfl
               have hcz41_2:w40.cell? ⟨gb21008,2,none⟩=some (.int .i64 ((Zp l0_0 x19_1).f2)):=(Zq BK21008.out 2).trans rfl
               have hfz41_0:=Zt BK21008.out 0
               have hfz41_1:=Zt BK21008.out 1
               have hfz41_2:=Zt BK21008.out 2
               try go_wp2_with (first|((with_reducible refine ZG (f:=38) rfl ?_);refine ZX (some 37) rfl rfl Tryd.func38 (by kernel_rfl) rfl #[.int .i64 ((Zp l0_0 x19_1).f2)] rfl (by(try simp only[List.map_toArray,List.map_cons,List.map_nil]);first|done|rfl|(simp only[Zk,Zj];rfl)) ?_;(with_reducible refine(ZR.calls ((Zp l0_0 x19_1).f2) t21013 _ ?sideT A31.out).mono ?_);(case sideT=>exact TW.below HTW.out (by repeat(first|(with_reducible first|exact HB.out|apply Zn|apply Zm|apply Zo|refine Zr ?_ GE21001.out|refine Zr ?_ GE21008.out)|exact HB.out)));rintro e w42 ⟨rfl,hb⟩;refine⟨_,rfl,?_⟩;replace HO_3:=Za (Kd.R_below (by(with_reducible repeat(first|apply Kd.R_alloc|apply Kd.R_drewN|apply Kd.R_drew));exact HO_3.out) hb);replace BK21001:=Za (ZB (g:=gb21001) (o:=.cells #[.slice (some ad21007) l0_0.length c0_0,.slice A0_1 l0_1.length c0_1,.int .i64 a0_2] 36 (0,0)) (by(with_reducible repeat(first|refine Zu ?_ _|refine Zv ?_|refine Zs ?_ _));exact BK21001.out) hb);replace BK21008:=Za (ZB (g:=gb21008) (o:=.cells #[.string ((Zp l0_0 x19_1).f0),.slice A21007_1 ((Zp l0_0 x19_1).f1).length c21007_1,.int .i64 ((Zp l0_0 x19_1).f2)] 73 (0,0)) (by(with_reducible repeat(first|refine Zu ?_ _|refine Zv ?_|refine Zs ?_ _));exact BK21008.out) hb);replace HB:=Za (Zx (by repeat(first|(with_reducible first|exact HB.out|apply Zn|apply Zm|apply Zo|refine Zr ?_ GE21001.out|refine Zr ?_ GE21008.out)|exact HB.out)) hb);(try clear hb);(try clear hb2);(try clear hk);(try clear hi))|((with_reducible refine Zbx (b:=.append) (xs:=#[.tmp 40,.tmp 42]) rfl ?_);at_builtin;refine Kd.R_append Kd.string (w0:=w) w.heap.size rfl (.tmp 40) (.tmp 42) 56 9 (.string ⟨#[]⟩) 16 rfl Tryd.underlying56 Zcw rfl (by decide) (by omega) u3 x3_1 (((((⟨#[110,111,100,101,32]⟩:ByteArray) ++ ((Zp l0_0 x19_1).f0)) ++ (⟨#[32]⟩:ByteArray)) ++ t21009) ++ ((⟨#[32,119,97,116,99,104,32]⟩:ByteArray) ++ t21013)) [.string (((((⟨#[110,111,100,101,32]⟩:ByteArray) ++ ((Zp l0_0 x19_1).f0)) ++ (⟨#[32]⟩:ByteArray)) ++ t21009) ++ ((⟨#[32,119,97,116,99,104,32]⟩:ByteArray) ++ t21013))] (fun _=>True) (fun _=>False) rfl rfl ?aP (fun _ hk=>hk.elim) ?aF ?aO ?aB ?aS ?aL ?_;(case aP=>exact rfl);(case aB=>exact(by repeat(first|(with_reducible first|exact HB.out|apply Zn|apply Zm|apply Zo|refine Zr ?_ GE21001.out|refine Zr ?_ GE21008.out)|exact HB.out)));(case aF=>exact(fun _ _=>trivial));(case aO=>exact(by(with_reducible repeat(first|apply Kd.R_alloc|apply Kd.R_drewN|apply Kd.R_drew));exact HO_3.out));(case aS=>exact(Zy (by repeat(first|(with_reducible first|exact HB.out|apply Zn|apply Zm|apply Zo|refine Zr ?_ GE21001.out|refine Zr ?_ GE21008.out)|exact HB.out))));(case aL=>have:=LMc34.out;omega);intro v21015 w43 ho hb hg hat;rw[← Ny21014.out] at ho;have HO21016:=Za (ho);replace BK21001:=Za (ZbY (g:=gb21001) (o:=.cells #[.slice (some ad21007) l0_0.length c0_0,.slice A0_1 l0_1.length c0_1,.int .i64 a0_2] 36 (0,0)) (by(with_reducible repeat(first|refine Zu ?_ _|refine Zv ?_|refine Zs ?_ _));exact BK21001.out) hg (Kd.R_ne HO_3.out BK21001.out (by decide)));replace BK21008:=Za (ZbY (g:=gb21008) (o:=.cells #[.string ((Zp l0_0 x19_1).f0),.slice A21007_1 ((Zp l0_0 x19_1).f1).length c21007_1,.int .i64 ((Zp l0_0 x19_1).f2)] 73 (0,0)) (by(with_reducible repeat(first|refine Zu ?_ _|refine Zv ?_|refine Zs ?_ _));exact BK21008.out) hg (Kd.R_ne HO_3.out BK21008.out (by decide)));replace HB:=Za (hb);clear HO_3;clear ho hb hg hat))
               go_roundg k1
               case measure=>have:=HK1.out;omega
               case rel=>exact⟨(y21014),(wrap64 (x19_1+1)),(by first|rfl|(simp;done)|(simp[*];done)),H',⟨by have:=HK1.out;omega⟩,⟨by(with_reducible repeat(first|apply Kd.R_alloc|apply Kd.R_drewN|apply Kd.R_drew));exact HO21016.out⟩,⟨by(with_reducible repeat(first|refine Zu ?_ _|refine Zv ?_|refine Zs ?_ _));exact BK21001.out⟩,⟨by repeat(first|(with_reducible first|exact HB.out|apply Zn|apply Zm|apply Zo|refine Zr ?_ GE21001.out|refine Zr ?_ GE21008.out)|exact HB.out)⟩⟩
              ·rw[if_neg c34] at H
               exact absurd H (by simp)
             ·rw[if_neg c33] at H
              exact absurd H (by simp)
            ·rw[if_neg c32] at H
             exact absurd H (by simp)
          ·rw[if_neg c20] at H
           exact absurd H (by simp)
         ·rw[if_neg c18] at H
          exact absurd H (by simp)
        ·rw[if_neg c17] at H
         exact absurd H (by simp)
       ·rw[if_neg c16] at H
        exact absurd H (by simp)
      ·rw[if_neg c15] at H
       exact absurd H (by simp)
     ·rw[if_neg c14] at H
      have c14b0:decide (x19_1<(l0_0.length:Int))=false:=Zf c14
      clear c14
      have H':=Za H
      clear H
      have hcz44_0:wr.cell? ⟨gb21001,0,none⟩=some (.slice A0_0 l0_0.length c0_0):=(Zq BK21001.out 0).trans rfl
      have hcz44_1:wr.cell? ⟨gb21001,1,none⟩=some (.slice A0_1 l0_1.length c0_1):=(Zq BK21001.out 1).trans rfl
      have hcz44_2:wr.cell? ⟨gb21001,2,none⟩=some (.int .i64 a0_2):=(Zq BK21001.out 2).trans rfl
      have hfz44_0:=Zt BK21001.out 0
      have hfz44_1:=Zt BK21001.out 1
      have hfz44_2:=Zt BK21001.out 2
      go_wp2
      go_loopg [3,48] k1 (fun kq v3 v48 w'=>∃(x3_2:List ByteArray) (x48_2:Int),v48=.int .i64 x48_2∧Aside0 (ZI.l1 kq x3_2 (l0_1.length:Int) x48_2 l0_0 l0_1 a0_2=some r)∧Aside0 (kq≤k1)∧Aside0 (Kd.R Kd.string 9 w' w.heap.size (fun _=>True) v3 x3_2)∧Aside0 (w'.heap[gb21001]? = some (.cells #[(.slice A0_0 l0_0.length c0_0),(.slice A0_1 l0_1.length c0_1),.int .i64 a0_2] 36 (0,0)))∧Aside0 (Below w.heap.size w w'))
      case atStart=>exact⟨(x3_1),(0),(by first|rfl|(simp;done)|(simp[*];done)),H',⟨Nat.le_refl _⟩,⟨by(with_reducible repeat(first|apply Kd.R_alloc|apply Kd.R_drewN|apply Kd.R_drew));exact HO_3.out⟩,⟨by(with_reducible repeat(first|refine Zu ?_ _|refine Zv ?_|refine Zs ?_ _));exact BK21001.out⟩,⟨by repeat(first|(with_reducible first|exact HB.out|apply Zn|apply Zm|apply Zo|refine Zr ?_ GE21001.out)|exact HB.out)⟩⟩
      case round=>
       clear H'
       try clear c1
       try clear c2
       try clear p2
       try clear q2
       try clear hx2
       try clear c3
       try clear c4
       try clear c5
       try clear c5b0
       try clear c5b1
       try clear c5b2
       try clear p6
       try clear c11
       try clear c14
       try clear c14b0
       try clear c15
       try clear c15b0
       try clear c16
       try clear c16b0
       try clear c17
       try clear c17b0
       try clear c17b1
       try clear c17b2
       try clear c18
       try clear c18b0
       try clear c18b1
       try clear c18b2
       try clear c20
       try clear c20b0
       try clear c20b1
       try clear c20b2
       try clear c21
       try clear c21b0
       try clear c21b1
       try clear p21
       try clear q21
       try clear hx21
       try clear c22
       try clear c24
       try clear c32
       try clear c32b0
       try clear c32b1
       try clear c32b2
       try clear c33
       try clear c33b0
       try clear c33b1
       try clear c33b2
       try clear c34
       try clear c36
       try clear c38
       try clear hcz13_0
       try clear hcz13_1
       try clear hcz13_2
       try clear hcz25_0
       try clear hcz25_1
       try clear hcz25_2
       try clear hcz29_0
       try clear hcz29_1
       try clear hcz29_2
       try clear hcz37_0
       try clear hcz37_1
       try clear hcz37_2
       try clear hcz41_0
       try clear hcz41_1
       try clear hcz41_2
       try clear hcz44_0
       try clear hcz44_1
       try clear hcz44_2
       try clear hcz7_0
       try clear hcz7_1
       try clear hcz7_2
       try clear hcz9_0
       try clear hcz9_1
       try clear hcz9_2
       try clear hfz13_0
       try clear hfz13_1
       try clear hfz13_2
       try clear hfz25_0
       try clear hfz25_1
       try clear hfz25_2
       try clear hfz29_0
       try clear hfz29_1
       try clear hfz29_2
       try clear hfz37_0
       try clear hfz37_1
       try clear hfz37_2
       try clear hfz41_0
       try clear hfz41_1
       try clear hfz41_2
       try clear hfz44_0
       try clear hfz44_1
       try clear hfz44_2
       try clear hfz7_0
       try clear hfz7_1
       try clear hfz7_2
       try clear hfz9_0
       try clear hfz9_1
       try clear hfz9_2
       try clear hx21007_0
       try clear hx21007_1
       try clear hx21007_2
       try clear p2
       try clear p21007
       try clear q21007
       obtain⟨x3_2,x48_2,rfl,HA,HK2,HO_3,BK21001,HB⟩:=hrel
       cases gk with
       | zero=>exact absurd HA.out (by simp[ZI.l1])
       | succ k2=>
        have H:=HA.out
        clear HA
        simp only[ZI.l1] at H
        by_cases c45:x48_2<(l0_1.length:Int)
        ·rw[if_pos c45] at H
         have c45b0:decide (x48_2<(l0_1.length:Int))=true:=Ze c45
         clear c45
         replace H:=Zh H
         obtain⟨t21017,A460,H⟩:=H
         replace H:(if x3_2.length<8796093022208 then(ZI.l1 k2 (x3_2 ++ [t21017]) (l0_1.length:Int) (wrap64 (x48_2+1)) l0_0 l0_1 a0_2) else(none))=some r:=H
         have A46:=Za A460;clear A460
         by_cases c47:x3_2.length<8796093022208
         ·rw[if_pos c47] at H
          have LMc47:=Za c47;clear c47
          obtain⟨y21018,hy21018⟩:∃y_:List ByteArray,y_=(x3_2 ++ [t21017]):=⟨_,rfl⟩
          replace H:(ZI.l1 k2 y21018 (l0_1.length:Int) (wrap64 (x48_2+1)) l0_0 l0_1 a0_2)=some r:=by first|(rw[hy21018];with_reducible exact H)|(have H2_:=(Zi _ _).symm.trans H;rw[hy21018];with_reducible exact H2_)|(have H2_:=(Zi _ _).symm.trans H;with_reducible exact H2_)|with_reducible exact H|(rw[hy21018];exact H)|exact H
          have Ny21018:=Za hy21018;clear hy21018
          have H':=Za H
          clear H
          have hcz48_0:wr.cell? ⟨gb21001,0,none⟩=some (.slice A0_0 l0_0.length c0_0):=(Zq BK21001.out 0).trans rfl
          have hcz48_1:wr.cell? ⟨gb21001,1,none⟩=some (.slice A0_1 l0_1.length c0_1):=(Zq BK21001.out 1).trans rfl
          have hcz48_2:wr.cell? ⟨gb21001,2,none⟩=some (.int .i64 a0_2):=(Zq BK21001.out 2).trans rfl
          have hfz48_0:=Zt BK21001.out 0
          have hfz48_1:=Zt BK21001.out 1
          have hfz48_2:=Zt BK21001.out 2
          go_wp2_with (first|((with_reducible refine ZG (f:=50) rfl ?_);refine ZX (some 54) rfl rfl Tryd.func50 (by kernel_rfl) rfl #[.agg #[.slice A0_0 l0_0.length c0_0,.slice A0_1 l0_1.length c0_1,.int .i64 a0_2],.int .i64 x48_2] rfl (by(try simp only[List.map_toArray,List.map_cons,List.map_nil]);first|done|rfl|(simp only[Zk,Zj];rfl)) ?_;(with_reducible refine(Zaa.calls _ _ l0_0 _ _ l0_1 a0_2 x48_2 t21017 _ ?side1 ?side2 ?side3 ?side4 ?sideT A46.out).mono ?_);(case sideT=>exact TW.below HTW.out (by repeat(first|(with_reducible first|exact HB.out|apply Zn|apply Zm|apply Zo|refine Zr ?_ GE21001.out)|exact HB.out)));(case side1=>repeat(first|exact(Zb HR0_0.out HB.out)|(with_reducible refine Kd.C_alloc ?_ _)|(with_reducible refine Kd.C_drewN ?_ _)|(with_reducible refine Kd.C_drew ?_)));(case side2=>exact HC0_0.out);(case side3=>repeat(first|exact(Zb HR0_1.out HB.out)|(with_reducible refine Kd.C_alloc ?_ _)|(with_reducible refine Kd.C_drewN ?_ _)|(with_reducible refine Kd.C_drew ?_)));(case side4=>exact HC0_1.out);rintro e w49 ⟨rfl,hb⟩;refine⟨_,rfl,?_⟩;replace HO_3:=Za (Kd.R_below (by(with_reducible repeat(first|apply Kd.R_alloc|apply Kd.R_drewN|apply Kd.R_drew));exact HO_3.out) hb);replace BK21001:=Za (ZB (g:=gb21001) (o:=.cells #[.slice A0_0 l0_0.length c0_0,.slice A0_1 l0_1.length c0_1,.int .i64 a0_2] 36 (0,0)) (by(with_reducible repeat(first|refine Zu ?_ _|refine Zv ?_|refine Zs ?_ _));exact BK21001.out) hb);replace HB:=Za (Zx (by repeat(first|(with_reducible first|exact HB.out|apply Zn|apply Zm|apply Zo|refine Zr ?_ GE21001.out)|exact HB.out)) hb);(try clear hb);(try clear hb2);(try clear hk);(try clear hi))|((with_reducible refine Zbx (b:=.append) (xs:=#[.tmp 51,.tmp 55]) rfl ?_);at_builtin;refine Kd.R_append Kd.string (w0:=w) w.heap.size rfl (.tmp 51) (.tmp 55) 56 9 (.string ⟨#[]⟩) 16 rfl Tryd.underlying56 Zcw rfl (by decide) (by omega) u3 x3_2 t21017 [.string t21017] (fun _=>True) (fun _=>False) rfl rfl ?aP (fun _ hk=>hk.elim) ?aF ?aO ?aB ?aS ?aL ?_;(case aP=>exact rfl);(case aB=>exact(by repeat(first|(with_reducible first|exact HB.out|apply Zn|apply Zm|apply Zo|refine Zr ?_ GE21001.out)|exact HB.out)));(case aF=>exact(fun _ _=>trivial));(case aO=>exact(by(with_reducible repeat(first|apply Kd.R_alloc|apply Kd.R_drewN|apply Kd.R_drew));exact HO_3.out));(case aS=>exact(Zy (by repeat(first|(with_reducible first|exact HB.out|apply Zn|apply Zm|apply Zo|refine Zr ?_ GE21001.out)|exact HB.out))));(case aL=>have:=LMc47.out;omega);intro v21019 w50 ho hb hg hat;rw[← Ny21018.out] at ho;have HO21020:=Za (ho);replace BK21001:=Za (ZbY (g:=gb21001) (o:=.cells #[.slice A0_0 l0_0.length c0_0,.slice A0_1 l0_1.length c0_1,.int .i64 a0_2] 36 (0,0)) (by(with_reducible repeat(first|refine Zu ?_ _|refine Zv ?_|refine Zs ?_ _));exact BK21001.out) hg (Kd.R_ne HO_3.out BK21001.out (by decide)));replace HB:=Za (hb);clear HO_3;clear ho hb hg hat))
          go_roundg k2
          case measure=>have:=HK1.out;have:=HK2.out;omega
          case rel=>exact⟨(y21018),(wrap64 (x48_2+1)),(by first|rfl|(simp;done)|(simp[*];done)),H',⟨by have:=HK1.out;have:=HK2.out;omega⟩,⟨by(with_reducible repeat(first|apply Kd.R_alloc|apply Kd.R_drewN|apply Kd.R_drew));exact HO21020.out⟩,⟨by(with_reducible repeat(first|refine Zu ?_ _|refine Zv ?_|refine Zs ?_ _));exact BK21001.out⟩,⟨by repeat(first|(with_reducible first|exact HB.out|apply Zn|apply Zm|apply Zo|refine Zr ?_ GE21001.out)|exact HB.out)⟩⟩
         ·rw[if_neg c47] at H
          exact absurd H (by simp)
        ·rw[if_neg c45] at H
         have c45b0:decide (x48_2<(l0_1.length:Int))=false:=Zf c45
         clear c45
         replace H:=Zh H
         obtain⟨t21021,A510,H⟩:=H
         replace H:(if t21021.size+1≤9223372036854775807 then(some (t21021 ++ (⟨#[10]⟩:ByteArray))) else(none))=some r:=H
         have A51:=Za A510;clear A510
         by_cases c52:t21021.size+1≤9223372036854775807
         ·rw[if_pos c52] at H
          have c52b0:=eq_true c52
          have c52b1:decide (t21021.size+1≤9223372036854775807)=true:=Ze c52
          try have c52b2:(9223372036854775807<t21021.size+1)=False:=eq_false (Nat.not_lt.2 c52)
          obtain rfl:=Zg H
          obtain⟨Ao53,co53,eo53⟩:=Kd.R_slice HO_3.out
          subst eo53
          go_wp2_with (first|((with_reducible refine ZG (f:=40) rfl ?_);refine ZX (some 59) rfl rfl Tryd.func40 (by kernel_rfl) rfl #[.slice Ao53 x3_2.length co53,.string (⟨#[10]⟩:ByteArray)] rfl (by(try simp only[List.map_toArray,List.map_cons,List.map_nil]);first|done|rfl|(simp only[Zk,Zj];rfl)) ?_;(with_reducible refine(Zai.calls _ _ x3_2 (⟨#[10]⟩:ByteArray) t21021 _ ?side1 ?side2 ?sideS A51.out).mono ?_);(case sideS=>exact R_spot HO_3.out);(case side1=>repeat(first|exact(Kd.R_reads' HO_3.out).2.2|(with_reducible refine Kd.C_alloc ?_ _)|(with_reducible refine Kd.C_drewN ?_ _)|(with_reducible refine Kd.C_drew ?_)));(case side2=>exact(Kd.R_reads' HO_3.out).2.1);rintro e w54 ⟨rfl,hb⟩;refine⟨_,rfl,?_⟩;replace HO_3:=Za (Kd.R_below (by(with_reducible repeat(first|apply Kd.R_alloc|apply Kd.R_drewN|apply Kd.R_drew));exact HO_3.out) hb);replace BK21001:=Za (ZB (g:=gb21001) (o:=.cells #[.slice A0_0 l0_0.length c0_0,.slice A0_1 l0_1.length c0_1,.int .i64 a0_2] 36 (0,0)) (by(with_reducible repeat(first|refine Zu ?_ _|refine Zv ?_|refine Zs ?_ _));exact BK21001.out) hb);replace HB:=Za (Zx (by repeat(first|(with_reducible first|exact HB.out|apply Zn|apply Zm|apply Zo|refine Zr ?_ GE21001.out)|exact HB.out)) hb);(try clear hb);(try clear hb2);(try clear hk);(try clear hi)))
          go_ret
          exact⟨by first|rfl|(simp[ZA,Zz] <;> rfl)|(simp[*,ZA,Zz] <;> rfl),by repeat(first|(with_reducible first|exact HB.out|apply Zn|apply Zm|apply Zo|refine Zr ?_ GE21001.out)|exact HB.out)⟩
         ·rw[if_neg c52] at H
          exact absurd H (by simp)
  ·rw[if_neg c5] at H
   exact absurd H (by simp)
 ·replace c3:=Bool.eq_false_iff.mpr c3
  subst c3
  have H1:(some (⟨#[]⟩:ByteArray))=some r:=by rw[if_neg (show ¬(false=true) by decide)] at H;exact H
  clear H
  have H:=H1
  clear H1
  obtain rfl:=Zg H
  go_enter Tryd.func21,Tryd.ntmps21
  go_wp2_with (first|((with_reducible refine ZN (N:=1) rfl ?_);refine ZP ?hg (N:=1) ?hd (cs:=#[.slice A0_0 l0_0.length c0_0,.slice A0_1 l0_1.length c0_1,.int .i64 a0_2]) (t:=36) ?hr ?_;(case hd=>rfl);(case hg=>rfl);(case hr=>first|(go_simp;done)|(go_simp;rfl));intro gb21001 hg w55 hbox hb;have BK21001:=Za (hbox);have GW21001:=Za ((by rw[hg];exact(Zy (by repeat(first|(with_reducible first|exact HB.out|apply Zn|apply Zm|apply Zo)|exact HB.out))):w.heap.size≤gb21001));have GE21001:=Za ((by rw[hg];exact(Zy (by repeat(first|(with_reducible first|exact HB.out|apply Zn|apply Zm|apply Zo)|exact HB.out))):w.heap.size≤gb21001));replace HB:=Za (Zx (by repeat(first|(with_reducible first|exact HB.out|apply Zn|apply Zm|apply Zo)|exact HB.out)) hb);clear hb hbox hg;have hcz56_0:w55.cell? ⟨gb21001,0,none⟩=some (.slice A0_0 l0_0.length c0_0):=(Zq BK21001.out 0).trans rfl;have hcz56_1:w55.cell? ⟨gb21001,1,none⟩=some (.slice A0_1 l0_1.length c0_1):=(Zq BK21001.out 1).trans rfl;have hcz56_2:w55.cell? ⟨gb21001,2,none⟩=some (.int .i64 a0_2):=(Zq BK21001.out 2).trans rfl;have hfz56_0:=Zt BK21001.out 0;have hfz56_1:=Zt BK21001.out 1;have hfz56_2:=Zt BK21001.out 2)|((with_reducible refine ZG (f:=48) rfl ?_);refine ZX (some 9) rfl rfl Tryd.func48 (by kernel_rfl) rfl #[.agg #[.slice A0_0 l0_0.length c0_0,.slice A0_1 l0_1.length c0_1,.int .i64 a0_2]] rfl (by(try simp only[List.map_toArray,List.map_cons,List.map_nil]);first|done|rfl|(simp only[Zk,Zj];rfl)) ?_;(with_reducible refine(ZaG.calls _ _ l0_0 _ _ l0_1 a0_2 false _ ?side1 ?side2 ?side3 ?side4 A2.out).mono ?_);(case side1=>repeat(first|exact(Zb HR0_0.out HB.out)|(with_reducible refine Kd.C_alloc ?_ _)|(with_reducible refine Kd.C_drewN ?_ _)|(with_reducible refine Kd.C_drew ?_)));(case side2=>exact HC0_0.out);(case side3=>repeat(first|exact(Zb HR0_1.out HB.out)|(with_reducible refine Kd.C_alloc ?_ _)|(with_reducible refine Kd.C_drewN ?_ _)|(with_reducible refine Kd.C_drew ?_)));(case side4=>exact HC0_1.out);rintro e w57 ⟨rfl,hb⟩;refine⟨_,rfl,?_⟩;replace BK21001:=Za (ZB (g:=gb21001) (o:=.cells #[.slice A0_0 l0_0.length c0_0,.slice A0_1 l0_1.length c0_1,.int .i64 a0_2] 36 (0,0)) (by(with_reducible repeat(first|refine Zu ?_ _|refine Zv ?_|refine Zs ?_ _));exact BK21001.out) hb);replace HB:=Za (Zx (by repeat(first|(with_reducible first|exact HB.out|apply Zn|apply Zm|apply Zo|refine Zr ?_ GE21001.out)|exact HB.out)) hb);(try clear hb);(try clear hb2);(try clear hk);(try clear hi)))
  go_ret
  exact⟨by first|rfl|(simp[ZA,Zz] <;> rfl)|(simp[*,ZA,Zz] <;> rfl),by repeat(first|(with_reducible first|exact HB.out|apply Zn|apply Zm|apply Zo|refine Zr ?_ GE21001.out)|exact HB.out)⟩
end Go.Proofs.YthphnhmabieflaaDoor.Pr
set_option linter.unusedSimpArgs false
set_option linter.unusedVariables false
namespace Go.Proofs.YthphnhmabieflaaDoor.Pr
open Go.RowKit Go.Proofs.YthphnhmabieflaaDoorW.PrintWords Go.Proofs.YthphnhmabieflaaDoor.Ni
def litT (x:Int):List UInt8:=if x<0 then 33 :: 112 :: Lib.itoa (prp x) else 112 :: Lib.itoa (prp x)
def labT (l:List Int):List UInt8:=if labB l=true then(if l=[] then[45] else Lib.join (l.map litT) [38]) else[]
theorem ZdK:∀(l:List Int) (p:Int),0≤p→Zbm p l=true→(l.length:Int)+p≤3∨l=[]
 | [],_,_,_=>.inr rfl
 | x :: t,p,hp,h=>by
  left
  simp only[Zbm,Bool.and_eq_true,decide_eq_true_eq] at h
  have h1:=Zcf h.1.1
  rw[List.length_cons]
  rcases ZdK t (prp x) (by omega) h.2 with h2|h2
  ·omega
  ·subst h2;simp only[List.length_nil];omega
theorem ZcF {l:List Int} (h:labB l=true):l.length≤3:=by
 rcases ZdK l 0 (by omega) h with h2|h2
 ·omega
 ·subst h2;simp
theorem ZdW {x:Int} (h:Za7 x=true):(litT x).length≤22:=by
 have h1:=Zcf h
 have h2:=Zba (prp x) (by omega) (by omega)
 unfold litT
 split <;> simp only[List.length_cons] <;> omega
theorem Zdr (s:List UInt8):∀(l:List (List UInt8)),(∀x∈l,x.length≤22)→(Lib.join l s).length≤(22+s.length) * l.length
 | [],_=>by simp[Lib.join]
 | x :: t,h=>by
  have h1:∀l:List (List UInt8),(∀x∈l,x.length≤22)→(Lib.joinTail s l).length≤(22+s.length) * l.length:=by
   intro l
   induction l with
   | nil=>intro _;simp[Lib.joinTail]
   | cons y r ih=>
    intro hy
    have h2:=ih (fun z hz=>hy z (by simp[hz]))
    have h3:=hy y (by simp)
    rw[Zb8,List.length_append,List.length_append,List.length_cons,Nat.mul_succ];omega
  have h2:=h1 t (fun z hz=>h z (by simp[hz]))
  have h3:=h x (by simp)
  rw[Lib.join_cons,List.length_append,List.length_cons,Nat.mul_succ];omega
theorem Zdo:∀(l:List Int) (p:Int),Zbm p l=true→∀x∈l,Za7 x=true
 | [],_,_,x,hx=>by cases hx
 | y :: t,p,h,x,hx=>by
  simp only[Zbm,Bool.and_eq_true] at h
  rcases List.mem_cons.1 hx with rfl|hx
  ·exact h.1.1
  ·exact Zdo t _ h.2 x hx
theorem Zdp {l:List Int} (h:labB l=true):∀x∈l,Za7 x=true:=Zdo l 0 h
theorem bl_bs:∀(l:List (List UInt8)),bl (l.map bs)=l
 | []=>rfl
 | x :: t=>by
  show(bs x).data.toList :: bl (t.map bs)=_
  rw[Zbd,bl_bs t]
theorem Zdu (l:List Int) (hl:l.length≤1048576) (k:Nat) (hk:2 ^ 66≤k):Z0.f k l=some (bs (labT l)):=by
 unfold Z0.f labT
 rw[Zb3 l (by omega) k (by omega),Zi]
 cases hb:labB l with
 | false=>rfl
 | true=>
  have hall:=Zdp hb
  have h3:=ZcF hb
  rw[if_pos rfl,if_pos rfl]
  by_cases h0:l=[]
  ·subst h0;rfl
  ·rw[if_neg (by cases l with|nil=>exact absurd rfl h0|cons x t=>rw[List.length_cons];omega),if_neg h0]
   have key:=ZaM l.length (fun k i=>∀acc:List (List UInt8),acc.length≤i→(∀x∈acc,x.length≤22)→Z0.l0 k (acc.map bs) l (l.length:Int) (i:Int)=some (bs (Lib.join (acc ++ (l.drop i).map litT) [38]))) (2 ^ 65)
    (fun k _ acc ha hx=>by
     simp only[Z0.l0]
     have hj:=Zdr [38] acc hx
     rw[List.length_singleton] at hj
     rw[if_neg (by omega),List.drop_length,show(⟨#[38]⟩:ByteArray)=bs [38] from rfl,Zcl _ _ (by simp;omega) (by rw[bl_bs,Zbd];omega),bl_bs,Zbd]
     simp)
    (fun k i hk hi ih acc ha hx=>by
     have hlit:=hall _ (Zbp hi 0)
     have hp:=Zcf hlit
     have h2:=Zba (prp (l.getD i 0)) (by omega) (by omega)
     simp only[Z0.l0]
     rw[if_pos (by omega),if_pos (by omega),if_pos (by omega),Zbg,Zc4 hlit,Zi,ZaZ _ (by omega) (by omega),Zi,ZaD,if_pos (by omega),ZaA hi 0,show(⟨#[112]⟩:ByteArray)=bs [112] from rfl,ZaW,ZaD,Zax hi (by omega)]
     have hlt:=ZdW hlit
     have hn:=ih (acc ++ [litT (l.getD i 0)]) (by simp;omega) (fun x hx'=>by
      rcases List.mem_append.1 hx' with h|h
      ·exact hx x h
      ·rw[List.mem_singleton] at h;subst h;exact hlt)
     rw[List.append_assoc,List.map_append] at hn
     by_cases hneg:l.getD i 0<0
     ·rw[if_pos hneg,if_pos (by simp only[List.length_cons,List.length_append,List.length_nil];omega),if_pos (by simp;omega),show(⟨#[33]⟩:ByteArray)=bs [33] from rfl,ZaW]
      have e:[33] ++ ([112] ++ Lib.itoa (prp (l.getD i 0)))=litT (l.getD i 0):=by unfold litT;rw[if_pos hneg];rfl
      rw[e];exact hn
     ·rw[if_neg hneg,if_pos (by simp;omega)]
      have e:[112] ++ Lib.itoa (prp (l.getD i 0))=litT (l.getD i 0):=by unfold litT;rw[if_neg hneg];rfl
      rw[e];exact hn) 0 k (Nat.zero_le _) (by omega)
   have:=key [] (by simp) (fun x hx=>by cases hx)
   simpa using this
theorem Zdk (l:List Int) (hl:l.length≤1048576) (k:Nat) (hk:2 ^ 66≤k):ZZ.f k l=some (bs (labT l)):=by
 unfold ZZ.f labT
 rw[Zb0 l (by omega) k (by omega),Zi]
 cases hb:labB l with
 | false=>rfl
 | true=>
  have hall:=Zdp hb
  have h3:=ZcF hb
  rw[if_pos rfl,if_pos rfl]
  by_cases h0:l=[]
  ·subst h0;rfl
  ·rw[if_neg (by cases l with|nil=>exact absurd rfl h0|cons x t=>rw[List.length_cons];omega),if_neg h0]
   have key:=ZaM l.length (fun k i=>∀acc:List (List UInt8),acc.length≤i→(∀x∈acc,x.length≤22)→ZZ.l0 k (acc.map bs) l (l.length:Int) (i:Int)=some (bs (Lib.join (acc ++ (l.drop i).map litT) [38]))) (2 ^ 65)
    (fun k hk acc ha hx=>by
     simp only[ZZ.l0]
     have hj:=Zdr [38] acc hx
     rw[List.length_singleton] at hj
     rw[if_neg (by omega),List.drop_length,show(⟨#[38]⟩:ByteArray)=bs [38] from rfl,ZdG _ _ (by simp;omega) (by rw[bl_bs,Zbd];omega) k (by omega),bl_bs,Zbd]
     simp)
    (fun k i hk hi ih acc ha hx=>by
     have hlit:=hall _ (Zbp hi 0)
     have hp:=Zcf hlit
     have h2:=Zba (prp (l.getD i 0)) (by omega) (by omega)
     simp only[ZZ.l0]
     rw[if_pos (by omega),if_pos (by omega),if_pos (by omega),Zbg,ZcS hlit,Zi,Zbh _ (by omega) (by omega) k (by omega),Zi,ZaD,if_pos (by omega),ZaA hi 0,show(⟨#[112]⟩:ByteArray)=bs [112] from rfl,ZaW,ZaD,Zax hi (by omega)]
     have hlt:=ZdW hlit
     have hn:=ih (acc ++ [litT (l.getD i 0)]) (by simp;omega) (fun x hx'=>by
      rcases List.mem_append.1 hx' with h|h
      ·exact hx x h
      ·rw[List.mem_singleton] at h;subst h;exact hlt)
     rw[List.append_assoc,List.map_append] at hn
     by_cases hneg:l.getD i 0<0
     ·rw[if_pos hneg,if_pos (by simp only[List.length_cons,List.length_append,List.length_nil];omega),if_pos (by simp;omega),show(⟨#[33]⟩:ByteArray)=bs [33] from rfl,ZaW]
      have e:[33] ++ ([112] ++ Lib.itoa (prp (l.getD i 0)))=litT (l.getD i 0):=by unfold litT;rw[if_pos hneg];rfl
      rw[e];exact hn
     ·rw[if_neg hneg,if_pos (by simp;omega)]
      have e:[112] ++ Lib.itoa (prp (l.getD i 0))=litT (l.getD i 0):=by unfold litT;rw[if_neg hneg];rfl
      rw[e];exact hn) 0 k (Nat.zero_le _) (by omega)
   have:=key [] (by simp) (fun x hx=>by cases hx)
   simpa using this
theorem ZdX (l:List Int):(labT l).length≤69:=by
 unfold labT
 by_cases h:labB l=true
 ·rw[if_pos h]
  by_cases h0:l=[]
  ·rw[if_pos h0];simp
  ·rw[if_neg h0]
   have h1:=ZcF h
   have h2:=Zdr [38] (l.map litT) (fun x hx=>by
    obtain⟨y,hy,rfl⟩:=List.mem_map.1 hx
    exact ZdW (Zdp h y hy))
   rw[List.length_singleton,List.length_map] at h2
   omega
 ·rw[if_neg h];simp
def ZbC (ns:List Z2) (n:Z2):List UInt8:=[110,111,100,101,32] ++ n.f0.data.toList ++ [32] ++ labT n.f1 ++ (if n.f2=0 then[] else[32,119,97,116,99,104,32] ++ Lib.itoa n.f2)
def Za5:List (List UInt8)→List UInt8
 | []=>[]
 | x :: t=>x ++ [10] ++ Za5 t
theorem flat_tail:∀(t:List (List UInt8)) (x:List UInt8),x ++ Lib.joinTail [10] t ++ [10]=x ++ [10] ++ Za5 t
 | [],x=>by simp[Lib.joinTail,Za5]
 | y :: r,x=>by
  have:=flat_tail r y
  rw[Zb8,Za5,← this]
  simp only[List.append_assoc]
theorem flat_join (x:List UInt8) (t:List (List UInt8)):Lib.join (x :: t) [10] ++ [10]=Za5 (x :: t):=by rw[Lib.join_cons,flat_tail,Za5]
theorem nodeT_len {ns:List Z2} (h:Zac ns=true) {i:Nat} (hi:i<ns.length):(ZbC ns (ns.getD i z73)).length≤150:=by
 have h1:=Zcd h (show(0:Int)≤(i:Int) by omega) (by omega)
 have h2:=Zcv h (show(0:Int)≤(i:Int) by omega) (by omega)
 unfold nmL at h1
 rw[Zbi] at h1 h2
 have h3:=ZdX (ns.getD i z73).f1
 have h4:=Zba (ns.getD i z73).f2 (by omega) (by omega)
 unfold ZbC
 split <;> simp only[List.length_append,List.length_cons,List.length_nil] <;> omega
theorem impl_Show_l1 {ns:List Z2} {ts:List PTie} (z:Int) (hn:Zac ns=true) (ht:ZaU ns ts=true) (k:Nat) (hk:2 ^ 65≤k) (acc:List (List UInt8)) (ha:acc.length≤100) (hne:acc≠[]) (hb:∀x∈acc,x.length≤150):ZI.l1 k (acc.map bs) ts.length 0 ns ts z=some (bs (Za5 (acc ++ ts.map (tieT ns)))):=by
 have h14:=Zct ht
 have key:=ZaM ts.length (fun k i=>∀acc:List (List UInt8),acc.length≤100+i→acc≠[]→(∀x∈acc,x.length≤150)→ZI.l1 k (acc.map bs) (ts.length:Int) (i:Int) ns ts z=some (bs (Za5 (acc ++ (ts.drop i).map (tieT ns))))) 0
  (fun k _ acc ha hne hb=>by
   simp only[ZI.l1]
   have hj:=Zds 150 [10] acc hb
   rw[List.length_singleton] at hj
   rw[if_neg (by omega),List.drop_length,List.map_nil,List.append_nil,show(⟨#[10]⟩:ByteArray)=bs [10] from rfl,Zcl _ _ (by simp;omega) (by rw[ZcJ,Zbd];omega),ZcJ,Zbd,Zi,ZaD,if_pos (by omega),ZaW]
   obtain⟨x,t,rfl⟩:=List.exists_cons_of_ne_nil hne
   rw[flat_join])
  (fun k i hk hi ih acc ha hne hb=>by
   simp only[ZI.l1]
   rw[if_pos (by omega),Zc1 z hn ht (by omega) (by omega),Zi,if_pos (by simp;omega),Zax hi (by omega),ZaA hi z66]
   have hl:=ZdR hn ht (show(0:Int)≤(i:Int) by omega) (by omega)
   have:=ih (acc ++ [tieT ns (Zw ts (i:Int))]) (by simp;omega) (by simp) (fun x hx'=>by
     rcases List.mem_append.1 hx' with h|h
     ·exact hb x h
     ·rw[List.mem_singleton] at h;subst h;omega)
   rw[List.map_append,List.append_assoc acc] at this
   rw[List.map_cons,← Zdy]
   exact this) 0 k (Nat.zero_le _) (by omega)
 simpa using key acc (by omega) hne hb
theorem impl_Show_l0 {ns:List Z2} {ts:List PTie} (z:Int) (hn:Zac ns=true) (ht:ZaU ns ts=true) (k:Nat) (hk:2 ^ 68≤k) (x:List UInt8) (hx:x.length≤150):ZI.l0 k [bs x] ns ns.length 0 ns ts z=some (bs (Za5 ((x :: ns.map (ZbC ns)) ++ ts.map (tieT ns)))):=by
 have h7:=Zb4 hn
 have key:=ZaM ns.length (fun k i=>∀acc:List (List UInt8),acc.length≤1+i→acc≠[]→(∀x∈acc,x.length≤150)→ZI.l0 k (acc.map bs) ns (ns.length:Int) (i:Int) ns ts z=some (bs (Za5 ((acc ++ (ns.drop i).map (ZbC ns)) ++ ts.map (tieT ns))))) (2 ^ 67)
  (fun k hk acc ha hne hb=>by
   simp only[ZI.l0]
   rw[if_neg (by omega),List.drop_length,List.map_nil,List.append_nil]
   exact impl_Show_l1 z hn ht k (by omega) acc (by omega) hne hb)
  (fun k i hk hi ih acc ha hne hb=>by
   simp only[ZI.l0]
   have h1:=Zcd hn (show(0:Int)≤(i:Int) by omega) (by omega)
   have h2:=Zcv hn (show(0:Int)≤(i:Int) by omega) (by omega)
   have hl:=nodeT_len hn hi
   have hlab:=ZcF h2.2.1
   rw[if_pos (by omega),if_pos (by omega),if_pos (by omega),nm_bs,Zax hi (by omega),ZaA hi z73,List.map_cons]
   unfold nmL at h1 ⊢
   rw[Zbi] at h1 h2 hlab ⊢
   have hn2:=ih (acc ++ [ZbC ns (ns.getD i z73)]) (by simp;omega) (by simp) (fun x hx'=>by
     rcases List.mem_append.1 hx' with h|h
     ·exact hb x h
     ·rw[List.mem_singleton] at h;subst h;exact hl)
   rw[List.map_append,List.append_assoc acc] at hn2
   generalize ns.getD i z73=n at *
   have h3:=ZdX n.f1
   have h4:=Zba n.f2 (by omega) (by omega)
   rw[Zdu n.f1 (by omega) k (by omega)]
   simp only[Zi,show(⟨#[32]⟩:ByteArray)=bs [32] from rfl,show(⟨#[110,111,100,101,32]⟩:ByteArray)=bs [110,111,100,101,32] from rfl,show(⟨#[32,119,97,116,99,104,32]⟩:ByteArray)=bs [32,119,97,116,99,104,32] from rfl,ZaZ n.f2 (show -9223372036854775808≤n.f2 by omega) (by omega),ZaW,ZaD,List.length_append,List.length_cons,List.length_nil]
   rw[if_pos (by omega),if_pos (by omega),if_pos (by omega)]
   by_cases h0:n.f2=0
   ·rw[if_pos h0]
    have e:[110,111,100,101,32] ++ n.f0.data.toList ++ [32] ++ labT n.f1=ZbC ns n:=by
     unfold ZbC;rw[if_pos h0,List.append_nil]
    rw[if_pos (by simp;omega),e]
    exact hn2
   ·rw[if_neg h0]
    have e:[110,111,100,101,32] ++ n.f0.data.toList ++ [32] ++ labT n.f1 ++ ([32,119,97,116,99,104,32] ++ Lib.itoa n.f2)=ZbC ns n:=by
     unfold ZbC;rw[if_neg h0]
    rw[if_pos (by omega),if_pos (by omega),if_pos (by simp;omega),e]
    exact hn2) 0 k (Nat.zero_le _) (by omega)
 simpa using key [x] (by simp) (by simp) (fun y hy=>by rw[List.mem_singleton] at hy;subst hy;exact hx)
theorem spec_Show_l1 {ns:List Z2} {ts:List PTie} (z:Int) (hn:Zac ns=true) (ht:ZaU ns ts=true) (k:Nat) (hk:2 ^ 67≤k) (s:List UInt8) (ha:s.length≤10000):ZK.l1 k (bs s) ts ts.length 0 ns ts z=some (bs (s ++ Za5 (ts.map (tieT ns)))):=by
 have h14:=Zct ht
 have key:=ZaM ts.length (fun k i=>∀s:List UInt8,s.length≤10000+100 * i→ZK.l1 k (bs s) ts (ts.length:Int) (i:Int) ns ts z=some (bs (s ++ Za5 ((ts.drop i).map (tieT ns))))) (2 ^ 66)
  (fun k _ s ha=>by
   simp only[ZK.l1]
   rw[if_neg (by omega),List.drop_length,List.map_nil,Za5,List.append_nil])
  (fun k i hk hi ih s ha=>by
   simp only[ZK.l1]
   obtain⟨e1,e2,e3,e4⟩:=tie_bd ht (show(0:Int)≤(i:Int) by omega) (by omega)
   have hl:=ZdR hn ht (show(0:Int)≤(i:Int) by omega) (by omega)
   rw[if_pos (by omega),if_pos (by omega),if_pos (by omega),Zdb ts z hn _ _ _ _ _ e1 e2 e3 e4 k (by omega),Zi]
   show(if (bs s).size+(bs (tieT ns (Zw ts (i:Int)))).size≤_ then(if (bs s ++ bs (tieT ns (Zw ts (i:Int)))).size+1≤_ then ZK.l1 k ((bs s ++ bs (tieT ns (Zw ts (i:Int)))) ++ bs [10]) ts ts.length (wrap64 (i+1)) ns ts z else _) else _)=_
   rw[ZaW,ZaW,ZaD,ZaD,ZaD,if_pos (by omega),if_pos (by simp only[List.length_append];omega),Zax hi (by omega),ZaA hi z66,ih _ (by simp only[List.length_append,List.length_singleton];omega),List.map_cons,Za5,Zdy]
   simp only[List.append_assoc]) 0 k (Nat.zero_le _) (by omega)
 simpa using key s (by omega)
theorem spec_Show_l0 {ns:List Z2} {ts:List PTie} (z:Int) (hn:Zac ns=true) (ht:ZaU ns ts=true) (k:Nat) (hk:2 ^ 69≤k) (s:List UInt8) (ha:s.length≤1000):ZK.l0 k (bs s) ns ns.length 0 ns ts z=some (bs (s ++ Za5 (ns.map (ZbC ns)) ++ Za5 (ts.map (tieT ns)))):=by
 have h7:=Zb4 hn
 have key:=ZaM ns.length (fun k i=>∀s:List UInt8,s.length≤1000+200 * i→ZK.l0 k (bs s) ns (ns.length:Int) (i:Int) ns ts z=some (bs (s ++ Za5 ((ns.drop i).map (ZbC ns)) ++ Za5 (ts.map (tieT ns))))) (2 ^ 68)
  (fun k _ s ha=>by
   simp only[ZK.l0]
   rw[if_neg (by omega),List.drop_length,List.map_nil,Za5,List.append_nil,spec_Show_l1 z hn ht k (by omega) s (by omega)])
  (fun k i hk hi ih s ha=>by
   simp only[ZK.l0]
   have h1:=Zcd hn (show(0:Int)≤(i:Int) by omega) (by omega)
   have h2:=Zcv hn (show(0:Int)≤(i:Int) by omega) (by omega)
   have hl:=nodeT_len hn hi
   have hlab:=ZcF h2.2.1
   rw[if_pos (by omega),if_pos (by omega),if_pos (by omega),nm_bs,Zax hi (by omega),ZaA hi z73,List.map_cons]
   unfold nmL at h1 ⊢
   rw[Zbi] at h1 h2 hlab ⊢
   have hn2:=ih (s ++ ZbC ns (ns.getD i z73) ++ [10]) (by simp only[List.length_append,List.length_singleton];omega)
   rw[Za5]
   generalize ns.getD i z73=n at *
   have h3:=ZdX n.f1
   have h4:=Zba n.f2 (by omega) (by omega)
   rw[Zdk n.f1 (by omega) k (by omega)]
   simp only[Zi,show(⟨#[32]⟩:ByteArray)=bs [32] from rfl,show(⟨#[10]⟩:ByteArray)=bs [10] from rfl,show(⟨#[110,111,100,101,32]⟩:ByteArray)=bs [110,111,100,101,32] from rfl,show(⟨#[32,119,97,116,99,104,32]⟩:ByteArray)=bs [32,119,97,116,99,104,32] from rfl,Zbh n.f2 (show -9223372036854775808≤n.f2 by omega) (by omega) k (by omega),ZaW,ZaD,List.length_append,List.length_cons,List.length_nil]
   rw[if_pos (by omega),if_pos (by omega),if_pos (by omega),if_pos (by omega)]
   by_cases h0:n.f2=0
   ·rw[if_pos h0]
    have e:s ++ [110,111,100,101,32] ++ n.f0.data.toList ++ [32] ++ labT n.f1 ++ [10]=s ++ ZbC ns n ++ [10]:=by
     unfold ZbC;rw[if_pos h0];simp only[List.append_assoc,List.append_nil]
    rw[if_pos (by omega),e,hn2]
    simp only[List.append_assoc]
   ·rw[if_neg h0]
    have e:s ++ [110,111,100,101,32] ++ n.f0.data.toList ++ [32] ++ labT n.f1 ++ [32,119,97,116,99,104,32] ++ Lib.itoa n.f2 ++ [10]=s ++ ZbC ns n ++ [10]:=by
     unfold ZbC;rw[if_neg h0];simp only[List.append_assoc]
    rw[if_pos (by omega),if_pos (by omega),if_pos (by omega),e,hn2]
    simp only[List.append_assoc]) 0 k (Nat.zero_le _) (by omega)
 simpa using key s (by omega)
theorem flatL_app:∀(a b:List (List UInt8)),Za5 (a ++ b)=Za5 a ++ Za5 b
 | [],b=>rfl
 | x :: t,b=>by rw[List.cons_append,Za5,Za5,flatL_app t b];simp only[List.append_assoc]
def horT (z:Int):List UInt8:=[104,111,114,105,122,111,110,32] ++ Lib.itoa z
def fshowB (ns:List Z2) (ts:List PTie) (z:Int):ByteArray:=if ZaL ns ts z=true then bs (Za5 ((horT z :: ns.map (ZbC ns)) ++ ts.map (tieT ns))) else⟨#[]⟩
theorem Zd7 {ns:List Z2} {ts:List PTie} {z:Int} (h:ZaL ns ts z=true):1≤z∧z≤10:=by
 unfold ZaL at h
 simp only[Bool.and_eq_true,Bool.not_eq_true',decide_eq_false_iff_not] at h
 omega
theorem ZdF {ns:List Z2} {ts:List PTie} {z:Int} (hf:fitN ns=true) (k:Nat) (hk:2 ^ 69≤k):ZI.f k ns ts z=some (fshowB ns ts z):=by
 unfold ZI.f fshowB
 rw[Zcs hf,Zi]
 cases hp:ZaL ns ts z with
 | false=>rfl
 | true=>
  have hz:=Zd7 hp
  have h4:=Zba z (by omega) (by omega)
  rw[if_pos rfl,if_pos rfl,ZaZ z (by omega) (by omega),Zi,ZaD,if_pos (by omega),show(⟨#[104,111,114,105,122,111,110,32]⟩:ByteArray)=bs [104,111,114,105,122,111,110,32] from rfl,ZaW,impl_Show_l0 z (ZbL hp) (Zb6 hp) k (by omega) _ (by simp only[List.length_append,List.length_cons,List.length_nil];omega)]
  rfl
theorem ZdE {ns:List Z2} {ts:List PTie} {z:Int} (hf:fitN ns=true) (k:Nat) (hk:2 ^ 69≤k):ZK.f k ns ts z=some (fshowB ns ts z):=by
 unfold ZK.f fshowB
 rw[Zcp ns ts z hf k (by omega),Zi]
 cases hp:ZaL ns ts z with
 | false=>rfl
 | true=>
  have hz:=Zd7 hp
  have h4:=Zba z (by omega) (by omega)
  rw[if_pos rfl,if_pos rfl,Zbh z (by omega) (by omega) k (by omega),Zi,ZaD,if_pos (by omega),show(⟨#[104,111,114,105,122,111,110,32]⟩:ByteArray)=bs [104,111,114,105,122,111,110,32] from rfl,show(⟨#[10]⟩:ByteArray)=bs [10] from rfl,ZaW,ZaW,ZaD,if_pos (by simp only[List.length_append,List.length_cons,List.length_nil];omega),spec_Show_l0 z (ZbL hp) (Zb6 hp) k (by omega) _ (by simp only[List.length_append,List.length_cons,List.length_nil];omega),flatL_app,Za5]
  rfl
end Go.Proofs.YthphnhmabieflaaDoor.Pr
