/- The texts of one claim, put together by a program of this session. -/
import Derived.Test.YtammpmadchekeaaBWlc1x1
namespace Go.Proofs.Ytammpmadchekeaa.Pr
open Go.RowKit Go.Proofs.YtammpmadchekeaaW.PrintWords Go.Proofs.YtammpmadchekeaaW.PrintLast Go.Proofs.YtammpmadchekeaaW.PrintMore
attribute [local go_sem] ZV ZT Z0 ZZ ZN ZM ZU ZS
set_option linter.unusedVariables false
set_option linter.unusedSimpArgs false
def laws_FnExactWithoutLiteral.j0:Nat→List Int→Int→List Int→List Int→Bool→Option (Bool)
 | 0,_,_,_,_,_=>none
 | k+1,x0,x1,x5,x7,x43=>if x43=true then(some false) else((Zn.f k x7 1).bind fun bt6021=>((Zo.f k bt6021.2 1).bind fun t6023=>(if t6023<0 then(some false) else(if t6023=bt6021.1 then((Zk.f k x0).bind fun t6024=>((Zq.f t6024 x1).bind fun t6027=>((Zi.f k t6027 x5).bind fun t6030=>(if t6030=true then((Zo.f k bt6021.2 1).bind fun t6031=>(if t6031<0 then(some false) else(if t6031=bt6021.1 then(some true) else(some false)))) else(some false))))) else(some false)))))
def laws_FnExactWithoutLiteral.f (k:Nat) (l0:List Int) (a1:Int):Option (Bool):=if (l0.length:Int) > 1048576 then(some true) else((Zk.f k l0).bind fun t6001=>((Zm.f k t6001 a1).bind fun t6004=>((Zk.f k l0).bind fun t6007=>((Zq.f t6007 a1).bind fun t6010=>((Zi.f k t6010 t6004).bind fun t6013=>(if t6013=true then((Zk.f k l0).bind fun t6014=>((Zi.f k t6007 t6014).bind fun t6017=>(if t6017=true then((Zn.f k t6007 1).bind fun bt6018=>(if bt6018.1<0 then(laws_FnExactWithoutLiteral.j0 k l0 a1 t6004 t6010 true) else((Zi.f k t6010 t6004).bind fun t6020=>(laws_FnExactWithoutLiteral.j0 k l0 a1 t6004 t6010 (!t6020))))) else(some false)))) else(some false)))))))
set_option maxHeartbeats 8000000 in
set_option maxRecDepth 100000 in
theorem laws_FnExactWithoutLiteral.calls (k:Nat) (A0:Option Addr) (c0:Nat) (l0:List Int) (a1:Int) (w:World) (hr0:Kd.C (Kd.int .i64) w A0 l0.length l0) (hc0:l0.length≤c0) (h:laws_FnExactWithoutLiteral.f k l0 a1=some true) :
  Calls Try.prog 6 #[.slice A0 l0.length c0,.int .i64 a1] w fun e w'=>e=.returned (.bool true)∧Below w.heap.size w w':=by
 have HR0:=Za hr0;have HC0:=Za hc0;clear hr0 hc0
 have HB:=Za (Below.refl w.heap.size w)
 have H:(if (l0.length:Int) > 1048576 then(some true) else((Zk.f k l0).bind fun t6001=>((Zm.f k t6001 a1).bind fun t6004=>((Zk.f k l0).bind fun t6007=>((Zq.f t6007 a1).bind fun t6010=>((Zi.f k t6010 t6004).bind fun t6013=>(if t6013=true then((Zk.f k l0).bind fun t6014=>((Zi.f k t6007 t6014).bind fun t6017=>(if t6017=true then((Zn.f k t6007 1).bind fun bt6018=>(if bt6018.1<0 then(laws_FnExactWithoutLiteral.j0 k l0 a1 t6004 t6010 true) else((Zi.f k t6010 t6004).bind fun t6020=>(laws_FnExactWithoutLiteral.j0 k l0 a1 t6004 t6010 (!t6020))))) else(some false)))) else(some false))))))))=some true:=h
 clear h
 by_cases c3:(l0.length:Int) > 1048576
 ·rw[if_pos c3] at H
  have c3b0:decide (1048576<(l0.length:Int))=true:=decide_eq_true c3
  have c3b1:decide (1048576<l0.length)=true:=decide_eq_true (by omega)
  clear c3 H
  go_enter Try.func6,Try.ntmps6
  go_wp2
  go_ret
  exact⟨by first|rfl|(simp[ZG,ZF] <;> rfl)|(simp[*,ZG,ZF] <;> rfl),by repeat(first|(with_reducible first|exact HB.out|apply Zj|apply Zh|apply Zl)|exact HB.out)⟩
 ·rw[if_neg c3] at H
  have c3b0:decide (1048576<(l0.length:Int))=false:=decide_eq_false c3
  have c3b1:decide (1048576<l0.length)=false:=decide_eq_false (by omega)
  clear c3
  replace H:=Zc H
  obtain⟨t6001,A40,H⟩:=H
  replace H:((Zm.f k t6001 a1).bind fun t6004=>((Zk.f k l0).bind fun t6007=>((Zq.f t6007 a1).bind fun t6010=>((Zi.f k t6010 t6004).bind fun t6013=>(if t6013=true then((Zk.f k l0).bind fun t6014=>((Zi.f k t6007 t6014).bind fun t6017=>(if t6017=true then((Zn.f k t6007 1).bind fun bt6018=>(if bt6018.1<0 then(laws_FnExactWithoutLiteral.j0 k l0 a1 t6004 t6010 true) else((Zi.f k t6010 t6004).bind fun t6020=>(laws_FnExactWithoutLiteral.j0 k l0 a1 t6004 t6010 (!t6020))))) else(some false)))) else(some false))))))=some true:=H
  have A4:=Za A40;clear A40
  replace H:=Zc H
  obtain⟨t6004,A50,H⟩:=H
  replace H:((Zk.f k l0).bind fun t6007=>((Zq.f t6007 a1).bind fun t6010=>((Zi.f k t6010 t6004).bind fun t6013=>(if t6013=true then((Zk.f k l0).bind fun t6014=>((Zi.f k t6007 t6014).bind fun t6017=>(if t6017=true then((Zn.f k t6007 1).bind fun bt6018=>(if bt6018.1<0 then(laws_FnExactWithoutLiteral.j0 k l0 a1 t6004 t6010 true) else((Zi.f k t6010 t6004).bind fun t6020=>(laws_FnExactWithoutLiteral.j0 k l0 a1 t6004 t6010 (!t6020))))) else(some false)))) else(some false)))))=some true:=H
  have A5:=Za A50;clear A50
  replace H:=Zc H
  obtain⟨t6007,A60,H⟩:=H
  replace H:((Zq.f t6007 a1).bind fun t6010=>((Zi.f k t6010 t6004).bind fun t6013=>(if t6013=true then((Zk.f k l0).bind fun t6014=>((Zi.f k t6007 t6014).bind fun t6017=>(if t6017=true then((Zn.f k t6007 1).bind fun bt6018=>(if bt6018.1<0 then(laws_FnExactWithoutLiteral.j0 k l0 a1 t6004 t6010 true) else((Zi.f k t6010 t6004).bind fun t6020=>(laws_FnExactWithoutLiteral.j0 k l0 a1 t6004 t6010 (!t6020))))) else(some false)))) else(some false))))=some true:=H
  have A6:=Za A60;clear A60
  replace H:=Zc H
  obtain⟨t6010,A70,H⟩:=H
  replace H:((Zi.f k t6010 t6004).bind fun t6013=>(if t6013=true then((Zk.f k l0).bind fun t6014=>((Zi.f k t6007 t6014).bind fun t6017=>(if t6017=true then((Zn.f k t6007 1).bind fun bt6018=>(if bt6018.1<0 then(laws_FnExactWithoutLiteral.j0 k l0 a1 t6004 t6010 true) else((Zi.f k t6010 t6004).bind fun t6020=>(laws_FnExactWithoutLiteral.j0 k l0 a1 t6004 t6010 (!t6020))))) else(some false)))) else(some false)))=some true:=H
  have A7:=Za A70;clear A70
  replace H:=Zc H
  obtain⟨t6013,A80,H⟩:=H
  replace H:(if t6013=true then((Zk.f k l0).bind fun t6014=>((Zi.f k t6007 t6014).bind fun t6017=>(if t6017=true then((Zn.f k t6007 1).bind fun bt6018=>(if bt6018.1<0 then(laws_FnExactWithoutLiteral.j0 k l0 a1 t6004 t6010 true) else((Zi.f k t6010 t6004).bind fun t6020=>(laws_FnExactWithoutLiteral.j0 k l0 a1 t6004 t6010 (!t6020))))) else(some false)))) else(some false))=some true:=H
  have A8:=Za A80;clear A80
  by_cases c9:t6013=true
  ·subst c9
   have H1:((Zk.f k l0).bind fun t6014=>((Zi.f k t6007 t6014).bind fun t6017=>(if t6017=true then((Zn.f k t6007 1).bind fun bt6018=>(if bt6018.1<0 then(laws_FnExactWithoutLiteral.j0 k l0 a1 t6004 t6010 true) else((Zi.f k t6010 t6004).bind fun t6020=>(laws_FnExactWithoutLiteral.j0 k l0 a1 t6004 t6010 (!t6020))))) else(some false))))=some true:=by rw[if_pos rfl] at H;first|done|exact H
   clear H
   have H:=H1
   clear H1
   replace H:=Zc H
   obtain⟨t6014,A100,H⟩:=H
   replace H:((Zi.f k t6007 t6014).bind fun t6017=>(if t6017=true then((Zn.f k t6007 1).bind fun bt6018=>(if bt6018.1<0 then(laws_FnExactWithoutLiteral.j0 k l0 a1 t6004 t6010 true) else((Zi.f k t6010 t6004).bind fun t6020=>(laws_FnExactWithoutLiteral.j0 k l0 a1 t6004 t6010 (!t6020))))) else(some false)))=some true:=H
   have A10:=Za A100;clear A100
   replace H:=Zc H
   obtain⟨t6017,A110,H⟩:=H
   replace H:(if t6017=true then((Zn.f k t6007 1).bind fun bt6018=>(if bt6018.1<0 then(laws_FnExactWithoutLiteral.j0 k l0 a1 t6004 t6010 true) else((Zi.f k t6010 t6004).bind fun t6020=>(laws_FnExactWithoutLiteral.j0 k l0 a1 t6004 t6010 (!t6020))))) else(some false))=some true:=H
   have A11:=Za A110;clear A110
   by_cases c12:t6017=true
   ·subst c12
    have H1:((Zn.f k t6007 1).bind fun bt6018=>(if bt6018.1<0 then(laws_FnExactWithoutLiteral.j0 k l0 a1 t6004 t6010 true) else((Zi.f k t6010 t6004).bind fun t6020=>(laws_FnExactWithoutLiteral.j0 k l0 a1 t6004 t6010 (!t6020)))))=some true:=by rw[if_pos rfl] at H;first|done|exact H
    clear H
    have H:=H1
    clear H1
    replace H:=Zc H
    obtain⟨⟨t6018,t6019⟩,A130,H⟩:=H
    replace H:(if t6018<0 then(laws_FnExactWithoutLiteral.j0 k l0 a1 t6004 t6010 true) else((Zi.f k t6010 t6004).bind fun t6020=>(laws_FnExactWithoutLiteral.j0 k l0 a1 t6004 t6010 (!t6020))))=some true:=H
    have A13:=Za A130;clear A130;have HC14:=Za H;clear H
    go_enter Try.func6,Try.ntmps6
    go_upto_region 12 with (first|((with_reducible refine Zx (f:=15) rfl ?_);refine ZJ (some 16) rfl rfl Try.func15 (by kernel_rfl) rfl #[.slice A0 l0.length c0] rfl (by(try simp only[List.map_toArray,List.map_cons,List.map_nil]);first|done|rfl|(simp only[Zf,Ze];rfl)) ?_;(with_reducible refine(Zk.calls k _ _ l0 t6001 _ ?side1 ?side2 A4.out).mono ?_);(case side1=>repeat(first|exact HR0.out|(with_reducible refine Kd.C_alloc ?_ _)|(with_reducible refine Kd.C_drewN ?_ _)|(with_reducible refine Kd.C_drew ?_)));(case side2=>exact HC0.out);rintro e w15 ⟨v6002,rfl,ho0,hb⟩;refine⟨_,rfl,?_⟩;have n0_:=Za (Kd.R_lower ho0 (ZC (by repeat(first|(with_reducible first|exact HB.out|apply Zj|apply Zh|apply Zl)|exact HB.out))));have n1_:=Za (ZD (by repeat(first|(with_reducible first|exact HB.out|apply Zj|apply Zh|apply Zl)|exact HB.out)) hb);clear HB;have HO6003:=n0_;have HB:=n1_;clear n0_ n1_;(try clear hb);(try clear hb2);(try clear hk);(try clear hi);(try clear ho0);obtain⟨Ao16,co16,eo16⟩:=Kd.R_slice HO6003.out;subst eo16)|((with_reducible refine Zx (f:=22) rfl ?_);refine ZJ (some 18) rfl rfl Try.func22 (by kernel_rfl) rfl #[.slice Ao16 t6001.length co16,.int .i64 a1] rfl (by(try simp only[List.map_toArray,List.map_cons,List.map_nil]);first|done|rfl|(simp only[Zf,Ze];rfl)) ?_;(with_reducible refine(Zm.calls k _ _ t6001 a1 t6004 _ ?side1 ?side2 A5.out).mono ?_);(case side1=>repeat(first|exact(Kd.R_reads' HO6003.out).2.2|(with_reducible refine Kd.C_alloc ?_ _)|(with_reducible refine Kd.C_drewN ?_ _)|(with_reducible refine Kd.C_drew ?_)));(case side2=>exact(Kd.R_reads' HO6003.out).2.1);rintro e w17 ⟨v6005,rfl,ho0,hb⟩;refine⟨_,rfl,?_⟩;have n0_:=Za (Kd.R_elder' (by(with_reducible repeat(first|apply Kd.R_alloc|apply Kd.R_drewN|apply Kd.R_drew));exact HO6003.out) (Kd.R_base ho0) hb);have n1_:=Za (Kd.R_lower (Kd.R_new' ho0 (Kd.R_lt (by(with_reducible repeat(first|apply Kd.R_alloc|apply Kd.R_drewN|apply Kd.R_drew));exact HO6003.out))) (ZC (by repeat(first|(with_reducible first|exact HB.out|apply Zj|apply Zh|apply Zl)|exact HB.out))));have n2_:=Za (ZD (by repeat(first|(with_reducible first|exact HB.out|apply Zj|apply Zh|apply Zl)|exact HB.out)) hb);clear HO6003;clear HB;have HO6003:=n0_;have HO6006:=n1_;have HB:=n2_;clear n0_ n1_ n2_;(try clear hb);(try clear hb2);(try clear hk);(try clear hi);(try clear ho0))|((with_reducible refine Zx (f:=15) rfl ?_);refine ZJ (some 20) rfl rfl Try.func15 (by kernel_rfl) rfl #[.slice A0 l0.length c0] rfl (by(try simp only[List.map_toArray,List.map_cons,List.map_nil]);first|done|rfl|(simp only[Zf,Ze];rfl)) ?_;(with_reducible refine(Zk.calls k _ _ l0 t6007 _ ?side1 ?side2 A6.out).mono ?_);(case side1=>repeat(first|exact(Kd.C_below HR0.out HB.out)|(with_reducible refine Kd.C_alloc ?_ _)|(with_reducible refine Kd.C_drewN ?_ _)|(with_reducible refine Kd.C_drew ?_)));(case side2=>exact HC0.out);rintro e w18 ⟨v6008,rfl,ho0,hb⟩;refine⟨_,rfl,?_⟩;have n0_:=Za (Kd.R_elder' (by(with_reducible repeat(first|apply Kd.R_alloc|apply Kd.R_drewN|apply Kd.R_drew));exact HO6003.out) (Kd.R_base ho0) hb);have n1_:=Za (Kd.R_elder' (by(with_reducible repeat(first|apply Kd.R_alloc|apply Kd.R_drewN|apply Kd.R_drew));exact HO6006.out) (Kd.R_base ho0) hb);have n2_:=Za (Kd.R_lower (Kd.R_new' (Kd.R_new' ho0 (Kd.R_lt (by(with_reducible repeat(first|apply Kd.R_alloc|apply Kd.R_drewN|apply Kd.R_drew));exact HO6003.out))) (Kd.R_lt (by(with_reducible repeat(first|apply Kd.R_alloc|apply Kd.R_drewN|apply Kd.R_drew));exact HO6006.out))) (ZC (by repeat(first|(with_reducible first|exact HB.out|apply Zj|apply Zh|apply Zl)|exact HB.out))));have n3_:=Za (ZD (by repeat(first|(with_reducible first|exact HB.out|apply Zj|apply Zh|apply Zl)|exact HB.out)) hb);clear HO6003;clear HO6006;clear HB;have HO6003:=n0_;have HO6006:=n1_;have HO6009:=n2_;have HB:=n3_;clear n0_ n1_ n2_ n3_;(try clear hb);(try clear hb2);(try clear hk);(try clear hi);(try clear ho0);obtain⟨Ao19,co19,eo19⟩:=Kd.R_slice HO6009.out;subst eo19)|((with_reducible refine Zx (f:=23) rfl ?_);refine ZJ (some 23) rfl rfl Try.func23 (by kernel_rfl) rfl #[.slice Ao19 t6007.length co19,.int .i64 a1] rfl (by(try simp only[List.map_toArray,List.map_cons,List.map_nil]);first|done|rfl|(simp only[Zf,Ze];rfl)) ?_;(with_reducible refine(Zq.calls _ _ t6007 a1 t6010 _ ?side1 ?side2 A7.out).mono ?_);(case side1=>repeat(first|exact(Kd.R_reads' HO6009.out).2.2|(with_reducible refine Kd.C_alloc ?_ _)|(with_reducible refine Kd.C_drewN ?_ _)|(with_reducible refine Kd.C_drew ?_)));(case side2=>exact(Kd.R_reads' HO6009.out).2.1);rintro e w20 ⟨v6011,rfl,ho0,hb⟩;refine⟨_,rfl,?_⟩;have n0_:=Za (Kd.R_elder' (by(with_reducible repeat(first|apply Kd.R_alloc|apply Kd.R_drewN|apply Kd.R_drew));exact HO6003.out) (Kd.R_base ho0) hb);have n1_:=Za (Kd.R_elder' (by(with_reducible repeat(first|apply Kd.R_alloc|apply Kd.R_drewN|apply Kd.R_drew));exact HO6006.out) (Kd.R_base ho0) hb);have n2_:=Za (Kd.R_elder' (by(with_reducible repeat(first|apply Kd.R_alloc|apply Kd.R_drewN|apply Kd.R_drew));exact HO6009.out) (Kd.R_base ho0) hb);have n3_:=Za (Kd.R_lower (Kd.R_new' (Kd.R_new' (Kd.R_new' ho0 (Kd.R_lt (by(with_reducible repeat(first|apply Kd.R_alloc|apply Kd.R_drewN|apply Kd.R_drew));exact HO6003.out))) (Kd.R_lt (by(with_reducible repeat(first|apply Kd.R_alloc|apply Kd.R_drewN|apply Kd.R_drew));exact HO6006.out))) (Kd.R_lt (by(with_reducible repeat(first|apply Kd.R_alloc|apply Kd.R_drewN|apply Kd.R_drew));exact HO6009.out))) (ZC (by repeat(first|(with_reducible first|exact HB.out|apply Zj|apply Zh|apply Zl)|exact HB.out))));have n4_:=Za (ZD (by repeat(first|(with_reducible first|exact HB.out|apply Zj|apply Zh|apply Zl)|exact HB.out)) hb);clear HO6003;clear HO6006;clear HO6009;clear HB;have HO6003:=n0_;have HO6006:=n1_;have HO6009:=n2_;have HO6012:=n3_;have HB:=n4_;clear n0_ n1_ n2_ n3_ n4_;(try clear hb);(try clear hb2);(try clear hk);(try clear hi);(try clear ho0);obtain⟨Ao21,co21,eo21⟩:=Kd.R_slice HO6012.out;subst eo21;obtain⟨Ao22,co22,eo22⟩:=Kd.R_slice HO6006.out;subst eo22)|((with_reducible refine Zx (f:=17) rfl ?_);refine ZJ (some 26) rfl rfl Try.func17 (by kernel_rfl) rfl #[.slice Ao21 t6010.length co21,.slice Ao22 t6004.length co22] rfl (by(try simp only[List.map_toArray,List.map_cons,List.map_nil]);first|done|rfl|(simp only[Zf,Ze];rfl)) ?_;(with_reducible refine(Zi.calls k _ _ t6010 _ _ t6004 true _ ?side1 ?side2 ?side3 ?side4 A8.out).mono ?_);(case side1=>repeat(first|exact(Kd.R_reads' HO6012.out).2.2|(with_reducible refine Kd.C_alloc ?_ _)|(with_reducible refine Kd.C_drewN ?_ _)|(with_reducible refine Kd.C_drew ?_)));(case side2=>exact(Kd.R_reads' HO6012.out).2.1);(case side3=>repeat(first|exact(Kd.R_reads' HO6006.out).2.2|(with_reducible refine Kd.C_alloc ?_ _)|(with_reducible refine Kd.C_drewN ?_ _)|(with_reducible refine Kd.C_drew ?_)));(case side4=>exact(Kd.R_reads' HO6006.out).2.1);rintro e w' ⟨rfl,⟨nd,rfl⟩⟩;refine⟨_,rfl,?_⟩)|((with_reducible refine Zx (f:=15) rfl ?_);refine ZJ (some 30) rfl rfl Try.func15 (by kernel_rfl) rfl #[.slice A0 l0.length c0] rfl (by(try simp only[List.map_toArray,List.map_cons,List.map_nil]);first|done|rfl|(simp only[Zf,Ze];rfl)) ?_;(with_reducible refine(Zk.calls k _ _ l0 t6014 _ ?side1 ?side2 A10.out).mono ?_);(case side1=>repeat(first|exact(Kd.C_below HR0.out (by repeat(first|(with_reducible first|exact HB.out|apply Zj|apply Zh|apply Zl)|exact HB.out)))|(with_reducible refine Kd.C_alloc ?_ _)|(with_reducible refine Kd.C_drewN ?_ _)|(with_reducible refine Kd.C_drew ?_)));(case side2=>exact HC0.out);rintro e w23 ⟨v6015,rfl,ho0,hb⟩;refine⟨_,rfl,?_⟩;have n0_:=Za (Kd.R_elder' (by(with_reducible repeat(first|apply Kd.R_alloc|apply Kd.R_drewN|apply Kd.R_drew));exact HO6003.out) (Kd.R_base ho0) hb);have n1_:=Za (Kd.R_elder' (by(with_reducible repeat(first|apply Kd.R_alloc|apply Kd.R_drewN|apply Kd.R_drew));exact HO6006.out) (Kd.R_base ho0) hb);have n2_:=Za (Kd.R_elder' (by(with_reducible repeat(first|apply Kd.R_alloc|apply Kd.R_drewN|apply Kd.R_drew));exact HO6009.out) (Kd.R_base ho0) hb);have n3_:=Za (Kd.R_elder' (by(with_reducible repeat(first|apply Kd.R_alloc|apply Kd.R_drewN|apply Kd.R_drew));exact HO6012.out) (Kd.R_base ho0) hb);have n4_:=Za (Kd.R_lower (Kd.R_new' (Kd.R_new' (Kd.R_new' (Kd.R_new' ho0 (Kd.R_lt (by(with_reducible repeat(first|apply Kd.R_alloc|apply Kd.R_drewN|apply Kd.R_drew));exact HO6003.out))) (Kd.R_lt (by(with_reducible repeat(first|apply Kd.R_alloc|apply Kd.R_drewN|apply Kd.R_drew));exact HO6006.out))) (Kd.R_lt (by(with_reducible repeat(first|apply Kd.R_alloc|apply Kd.R_drewN|apply Kd.R_drew));exact HO6009.out))) (Kd.R_lt (by(with_reducible repeat(first|apply Kd.R_alloc|apply Kd.R_drewN|apply Kd.R_drew));exact HO6012.out))) (ZC (by repeat(first|(with_reducible first|exact HB.out|apply Zj|apply Zh|apply Zl)|exact HB.out))));have n5_:=Za (ZD (by repeat(first|(with_reducible first|exact HB.out|apply Zj|apply Zh|apply Zl)|exact HB.out)) hb);clear HO6003;clear HO6006;clear HO6009;clear HO6012;clear HB;have HO6003:=n0_;have HO6006:=n1_;have HO6009:=n2_;have HO6012:=n3_;have HO6016:=n4_;have HB:=n5_;clear n0_ n1_ n2_ n3_ n4_ n5_;(try clear hb);(try clear hb2);(try clear hk);(try clear hi);(try clear ho0);obtain⟨Ao24,co24,eo24⟩:=Kd.R_slice HO6016.out;subst eo24)|((with_reducible refine Zx (f:=17) rfl ?_);refine ZJ (some 31) rfl rfl Try.func17 (by kernel_rfl) rfl #[.slice Ao19 t6007.length co19,.slice Ao24 t6014.length co24] rfl (by(try simp only[List.map_toArray,List.map_cons,List.map_nil]);first|done|rfl|(simp only[Zf,Ze];rfl)) ?_;(with_reducible refine(Zi.calls k _ _ t6007 _ _ t6014 true _ ?side1 ?side2 ?side3 ?side4 A11.out).mono ?_);(case side1=>repeat(first|exact(Kd.R_reads' HO6009.out).2.2|(with_reducible refine Kd.C_alloc ?_ _)|(with_reducible refine Kd.C_drewN ?_ _)|(with_reducible refine Kd.C_drew ?_)));(case side2=>exact(Kd.R_reads' HO6009.out).2.1);(case side3=>repeat(first|exact(Kd.R_reads' HO6016.out).2.2|(with_reducible refine Kd.C_alloc ?_ _)|(with_reducible refine Kd.C_drewN ?_ _)|(with_reducible refine Kd.C_drew ?_)));(case side4=>exact(Kd.R_reads' HO6016.out).2.1);rintro e w' ⟨rfl,⟨nd,rfl⟩⟩;refine⟨_,rfl,?_⟩)|((with_reducible refine Zx (f:=24) rfl ?_);refine ZJ (some 35) rfl rfl Try.func24 (by kernel_rfl) rfl #[.slice Ao19 t6007.length co19,.int .i64 1] rfl (by(try simp only[List.map_toArray,List.map_cons,List.map_nil]);first|done|rfl|(simp only[Zf,Ze];rfl)) ?_;(with_reducible refine(Zn.calls k (fun k_=>some k_=(.slice Ao19 t6007.length co19:Value).ownBlock) (.slice Ao19 t6007.length co19) t6007 1 t6018 t6019 w _ ?side1 ?side2 A13.out).mono ?_);(case side1=>repeat(first|(with_reducible first|exact HB.out|apply Zj|apply Zh|apply Zl)|exact HB.out));(case side2=>exact Kd.R_tight rfl HO6009.out);rintro e w25 ⟨rfl,hy0,hb,hkp⟩;refine⟨_,rfl,?_⟩;have n0_:=Za (Kd.R_mono (ok':=fun k_=>some k_≠(.slice Ao22 t6004.length co22:Value).ownBlock∧some k_≠(.slice Ao19 t6007.length co19:Value).ownBlock∧some k_≠(.slice Ao21 t6010.length co21:Value).ownBlock∧some k_≠(.slice Ao24 t6014.length co24:Value).ownBlock) (Kd.R_keptB (HO6003.out) hkp (fun k_ hk_ hs_=>(hk_.1.1.2) hs_)) (fun k_ hk_=>⟨hk_.1.1.1.1.2,hk_.1.1.1.2,hk_.1.1.2,hk_.1.2⟩));have n1_:=Za (Kd.R_mono (ok':=fun k_=>some k_≠(.slice Ao16 t6001.length co16:Value).ownBlock∧some k_≠(.slice Ao19 t6007.length co19:Value).ownBlock∧some k_≠(.slice Ao21 t6010.length co21:Value).ownBlock∧some k_≠(.slice Ao24 t6014.length co24:Value).ownBlock) (Kd.R_keptB (HO6006.out) hkp (fun k_ hk_ hs_=>(hk_.1.1.2) hs_)) (fun k_ hk_=>⟨hk_.1.1.1.1.2,hk_.1.1.1.2,hk_.1.1.2,hk_.1.2⟩));have n2_:=Za (Kd.R_reok rfl hy0 (fun k_ e_=>HO6009.out.1 k_ e_));have n3_:=Za (Kd.R_mono (ok':=fun k_=>some k_≠(.slice Ao16 t6001.length co16:Value).ownBlock∧some k_≠(.slice Ao22 t6004.length co22:Value).ownBlock∧some k_≠(.slice Ao19 t6007.length co19:Value).ownBlock∧some k_≠(.slice Ao24 t6014.length co24:Value).ownBlock) (Kd.R_keptB (HO6012.out) hkp (fun k_ hk_ hs_=>(hk_.1.2) hs_)) (fun k_ hk_=>⟨hk_.1.1.1.1.2,hk_.1.1.1.2,hk_.1.1.2,hk_.1.2⟩));have n4_:=Za (Kd.R_mono (ok':=fun k_=>some k_≠(.slice Ao16 t6001.length co16:Value).ownBlock∧some k_≠(.slice Ao22 t6004.length co22:Value).ownBlock∧some k_≠(.slice Ao19 t6007.length co19:Value).ownBlock∧some k_≠(.slice Ao21 t6010.length co21:Value).ownBlock) (Kd.R_keptB (HO6016.out) hkp (fun k_ hk_ hs_=>(hk_.1.2) hs_)) (fun k_ hk_=>⟨hk_.1.1.1.1.2,hk_.1.1.1.2,hk_.1.1.2,hk_.1.2⟩));have n5_:=Za (hb);clear HO6003;clear HO6006;clear HO6009;clear HO6012;clear HO6016;clear HB;have HO6003:=n0_;have HO6006:=n1_;have HO6009:=n2_;have HO6012:=n3_;have HO6016:=n4_;have HB:=n5_;clear n0_ n1_ n2_ n3_ n4_ n5_;(try clear hb);(try clear hkp);(try clear hy0)))
    (try simp only[Act.put,List.setIfInBounds_toArray,List.set_cons_zero,List.set_cons_succ])
    go_cut [43] (fun v43 wc=>∃(kq:Nat) (x43_13:Bool),v43=.bool x43_13∧Aside0 (laws_FnExactWithoutLiteral.j0 kq l0 a1 t6004 t6010 x43_13=some true)∧Aside0 (kq≤k)∧Aside0 (Kd.R (Kd.int .i64) 3 wc w.heap.size (fun k_=>some k_≠((.slice Ao21 t6010.length co21):Value).ownBlock) (.slice Ao22 t6004.length co22) t6004)∧Aside0 (Kd.R (Kd.int .i64) 3 wc w.heap.size (fun k_=>some k_≠((.slice Ao22 t6004.length co22):Value).ownBlock) (.slice Ao21 t6010.length co21) t6010)∧Aside0 (Below w.heap.size w wc))
    case first=>
     have H:=HC14.out
     clear HC14
     by_cases c26:t6018<0
     ·rw[if_pos c26] at H
      have c26b0:decide (t6018<0)=true:=decide_eq_true c26
      clear c26
      (first|rw[c26b0]|(simp only[i64_w,i32_w];rw[c26b0])|skip)
      have H':=Za H
      clear H
      go_wp2
      go_meet
      case rel=>exact⟨_,(true),(by first|rfl|(simp;done)|(simp[*];done)),H',⟨by first|omega|exact Nat.le_refl _⟩,⟨by(with_reducible repeat(first|apply Kd.R_alloc|apply Kd.R_drewN|apply Kd.R_drew));exact Kd.R_mono HO6006.out (fun _ hk=>hk.2.2.1)⟩,⟨by(with_reducible repeat(first|apply Kd.R_alloc|apply Kd.R_drewN|apply Kd.R_drew));exact Kd.R_mono HO6012.out (fun _ hk=>hk.2.1)⟩,⟨by repeat(first|(with_reducible first|exact HB.out|apply Zj|apply Zh|apply Zl)|exact HB.out)⟩⟩
     ·rw[if_neg c26] at H
      have c26b0:decide (t6018<0)=false:=decide_eq_false c26
      clear c26
      (first|rw[c26b0]|(simp only[i64_w,i32_w];rw[c26b0])|skip)
      replace H:=Zc H
      obtain⟨t6020,A270,H⟩:=H
      replace H:(laws_FnExactWithoutLiteral.j0 k l0 a1 t6004 t6010 (!t6020))=some true:=H
      have A27:=Za A270;clear A270
      have H':=Za H
      clear H
      go_wp2_with (first|(go_at_call 17;(with_reducible refine(Zi.calls k _ _ t6010 _ _ t6004 t6020 _ ?side1 ?side2 ?side3 ?side4 A27.out).mono ?_);(case side1=>repeat(first|exact(Kd.R_reads' HO6012.out).2.2|(with_reducible refine Kd.C_alloc ?_ _)|(with_reducible refine Kd.C_drewN ?_ _)|(with_reducible refine Kd.C_drew ?_)));(case side2=>exact(Kd.R_reads' HO6012.out).2.1);(case side3=>repeat(first|exact(Kd.R_reads' HO6006.out).2.2|(with_reducible refine Kd.C_alloc ?_ _)|(with_reducible refine Kd.C_drewN ?_ _)|(with_reducible refine Kd.C_drew ?_)));(case side4=>exact(Kd.R_reads' HO6006.out).2.1);rintro e w' ⟨rfl,⟨nd,rfl⟩⟩))
      go_meet
      case rel=>exact⟨_,(!t6020),(by first|rfl|(simp;done)|(simp[*];done)),H',⟨by first|omega|exact Nat.le_refl _⟩,⟨by(with_reducible repeat(first|apply Kd.R_alloc|apply Kd.R_drewN|apply Kd.R_drew));exact Kd.R_mono HO6006.out (fun _ hk=>hk.2.2.1)⟩,⟨by(with_reducible repeat(first|apply Kd.R_alloc|apply Kd.R_drewN|apply Kd.R_drew));exact Kd.R_mono HO6012.out (fun _ hk=>hk.2.1)⟩,⟨by repeat(first|(with_reducible first|exact HB.out|apply Zj|apply Zh|apply Zl)|exact HB.out)⟩⟩
    case rest=>
     clear HC14
     try clear c1
     try clear c2
     try clear p2
     try clear c3
     try clear c3b0
     try clear c3b1
     try clear c6
     try clear c9
     try clear c12
     try clear c15
     try clear c17
     try clear c22
     try clear c23
     try clear c24
     try clear c26
     try clear c26b0
     obtain⟨kq,x43_13,rfl,HA,HJ13,HO_5,HO_7,HB⟩:=hcut
     cases kq with
     | zero=>exact absurd HA.out (by simp[laws_FnExactWithoutLiteral.j0])
     | succ kj13=>
      have H:=HA.out
      clear HA
      simp only[laws_FnExactWithoutLiteral.j0] at H
      by_cases c28:x43_13=true
      ·subst c28
       exact absurd H (by simp)
      ·replace c28:=Bool.eq_false_iff.mpr c28
       subst c28
       have H1:((Zn.f kj13 t6010 1).bind fun bt6021=>((Zo.f kj13 bt6021.2 1).bind fun t6023=>(if t6023<0 then(some false) else(if t6023=bt6021.1 then((Zk.f kj13 l0).bind fun t6024=>((Zq.f t6024 a1).bind fun t6027=>((Zi.f kj13 t6027 t6004).bind fun t6030=>(if t6030=true then((Zo.f kj13 bt6021.2 1).bind fun t6031=>(if t6031<0 then(some false) else(if t6031=bt6021.1 then(some true) else(some false)))) else(some false))))) else(some false)))))=some true:=by rw[if_neg (show ¬(false=true) by decide)] at H;first|done|exact H
       clear H
       have H:=H1
       clear H1
       replace H:=Zc H
       obtain⟨⟨t6021,t6022⟩,A290,H⟩:=H
       replace H:((Zo.f kj13 t6022 1).bind fun t6023=>(if t6023<0 then(some false) else(if t6023=t6021 then((Zk.f kj13 l0).bind fun t6024=>((Zq.f t6024 a1).bind fun t6027=>((Zi.f kj13 t6027 t6004).bind fun t6030=>(if t6030=true then((Zo.f kj13 t6022 1).bind fun t6031=>(if t6031<0 then(some false) else(if t6031=t6021 then(some true) else(some false)))) else(some false))))) else(some false))))=some true:=H
       have A29:=Za A290;clear A290
       replace H:=Zc H
       obtain⟨t6023,A300,H⟩:=H
       replace H:(if t6023<0 then(some false) else(if t6023=t6021 then((Zk.f kj13 l0).bind fun t6024=>((Zq.f t6024 a1).bind fun t6027=>((Zi.f kj13 t6027 t6004).bind fun t6030=>(if t6030=true then((Zo.f kj13 t6022 1).bind fun t6031=>(if t6031<0 then(some false) else(if t6031=t6021 then(some true) else(some false)))) else(some false))))) else(some false)))=some true:=H
       have A30:=Za A300;clear A300
       by_cases c31:t6023<0
       ·rw[if_pos c31] at H
        have c31b0:decide (t6023<0)=true:=decide_eq_true c31
        clear c31
        exact absurd H (by simp)
       ·rw[if_neg c31] at H
        have c31b0:decide (t6023<0)=false:=decide_eq_false c31
        clear c31
        by_cases c32:t6023=t6021
        ·rw[if_pos c32] at H
         have c32b0:(t6023 == t6021)=true:=beq_iff_eq.mpr c32
         have c32b1:(t6023 != t6021)=false:=bne_eq_false_iff_eq.mpr c32
         clear c32
         replace H:=Zc H
         obtain⟨t6024,A330,H⟩:=H
         replace H:((Zq.f t6024 a1).bind fun t6027=>((Zi.f kj13 t6027 t6004).bind fun t6030=>(if t6030=true then((Zo.f kj13 t6022 1).bind fun t6031=>(if t6031<0 then(some false) else(if t6031=t6021 then(some true) else(some false)))) else(some false))))=some true:=H
         have A33:=Za A330;clear A330
         replace H:=Zc H
         obtain⟨t6027,A340,H⟩:=H
         replace H:((Zi.f kj13 t6027 t6004).bind fun t6030=>(if t6030=true then((Zo.f kj13 t6022 1).bind fun t6031=>(if t6031<0 then(some false) else(if t6031=t6021 then(some true) else(some false)))) else(some false)))=some true:=H
         have A34:=Za A340;clear A340
         replace H:=Zc H
         obtain⟨t6030,A350,H⟩:=H
         replace H:(if t6030=true then((Zo.f kj13 t6022 1).bind fun t6031=>(if t6031<0 then(some false) else(if t6031=t6021 then(some true) else(some false)))) else(some false))=some true:=H
         have A35:=Za A350;clear A350
         by_cases c36:t6030=true
         ·subst c36
          have H1:((Zo.f kj13 t6022 1).bind fun t6031=>(if t6031<0 then(some false) else(if t6031=t6021 then(some true) else(some false))))=some true:=by rw[if_pos rfl] at H;first|done|exact H
          clear H
          have H:=H1
          clear H1
          replace H:=Zc H
          obtain⟨t6031,A370,H⟩:=H
          replace H:(if t6031<0 then(some false) else(if t6031=t6021 then(some true) else(some false)))=some true:=H
          have A37:=Za A370;clear A370
          by_cases c38:t6031<0
          ·rw[if_pos c38] at H
           have c38b0:decide (t6031<0)=true:=decide_eq_true c38
           clear c38
           exact absurd H (by simp)
          ·rw[if_neg c38] at H
           have c38b0:decide (t6031<0)=false:=decide_eq_false c38
           clear c38
           by_cases c39:t6031=t6021
           ·rw[if_pos c39] at H
            have c39b0:(t6031 == t6021)=true:=beq_iff_eq.mpr c39
            have c39b1:(t6031 != t6021)=false:=bne_eq_false_iff_eq.mpr c39
            clear c39 H
            go_wp2_with (first|((with_reducible refine Zx (f:=24) rfl ?_);refine ZJ (some 46) rfl rfl Try.func24 (by kernel_rfl) rfl #[.slice Ao21 t6010.length co21,.int .i64 1] rfl (by(try simp only[List.map_toArray,List.map_cons,List.map_nil]);first|done|rfl|(simp only[Zf,Ze];rfl)) ?_;(with_reducible refine(Zn.calls kj13 (fun k_=>some k_=(.slice Ao21 t6010.length co21:Value).ownBlock) (.slice Ao21 t6010.length co21) t6010 1 t6021 t6022 w _ ?side1 ?side2 A29.out).mono ?_);(case side1=>repeat(first|(with_reducible first|exact HB.out|apply Zj|apply Zh|apply Zl)|exact HB.out));(case side2=>exact Kd.R_tight rfl HO_7.out);rintro e w40 ⟨rfl,hy0,hb,hkp⟩;refine⟨_,rfl,?_⟩;have n0_:=Za (Kd.R_mono (ok':=fun k_=>some k_≠(.slice Ao21 t6010.length co21:Value).ownBlock) (Kd.R_keptB (HO_5.out) hkp (fun k_ hk_ hs_=>(hk_) hs_)) (fun k_ hk_=>hk_.1));have n1_:=Za (Kd.R_reok rfl hy0 (fun k_ e_=>HO_7.out.1 k_ e_));have n2_:=Za (hb);clear HO_5;clear HO_7;clear HB;have HO_5:=n0_;have HO_7:=n1_;have HB:=n2_;clear n0_ n1_ n2_;(try clear hb);(try clear hkp);(try clear hy0))|((with_reducible refine Zx (f:=25) rfl ?_);refine ZJ (some 49) rfl rfl Try.func25 (by kernel_rfl) rfl #[.slice Ao21 t6022.length co21,.int .i64 1] rfl (by(try simp only[List.map_toArray,List.map_cons,List.map_nil]);first|done|(rw[show t6022.length=t6010.length from(Kd.R_reads' HO_7.out).1.symm] <;> rfl)|rfl|(simp only[Zf,Ze];rfl)) ?_;(with_reducible refine(Zo.calls kj13 _ _ t6022 1 t6023 _ ?side1 ?side2 A30.out).mono ?_);(case side1=>repeat(first|exact(Kd.R_reads' HO_7.out).2.2|(with_reducible refine Kd.C_alloc ?_ _)|(with_reducible refine Kd.C_drewN ?_ _)|(with_reducible refine Kd.C_drew ?_)));(case side2=>rw[show t6022.length=t6010.length from(Kd.R_reads' HO_7.out).1.symm];exact(Kd.R_reads' HO_7.out).2.1);rintro e w' ⟨rfl,⟨nd,rfl⟩⟩;refine⟨_,rfl,?_⟩)|((with_reducible refine Zx (f:=15) rfl ?_);refine ZJ (some 56) rfl rfl Try.func15 (by kernel_rfl) rfl #[.slice A0 l0.length c0] rfl (by(try simp only[List.map_toArray,List.map_cons,List.map_nil]);first|done|rfl|(simp only[Zf,Ze];rfl)) ?_;(with_reducible refine(Zk.calls kj13 _ _ l0 t6024 _ ?side1 ?side2 A33.out).mono ?_);(case side1=>repeat(first|exact(Kd.C_below HR0.out (by repeat(first|(with_reducible first|exact HB.out|apply Zj|apply Zh|apply Zl)|exact HB.out)))|(with_reducible refine Kd.C_alloc ?_ _)|(with_reducible refine Kd.C_drewN ?_ _)|(with_reducible refine Kd.C_drew ?_)));(case side2=>exact HC0.out);rintro e w41 ⟨v6025,rfl,ho0,hb⟩;refine⟨_,rfl,?_⟩;have n0_:=Za (Kd.R_elder' (by(with_reducible repeat(first|apply Kd.R_alloc|apply Kd.R_drewN|apply Kd.R_drew));exact HO_5.out) (Kd.R_base ho0) hb);have n1_:=Za (Kd.R_elder' (by(with_reducible repeat(first|apply Kd.R_alloc|apply Kd.R_drewN|apply Kd.R_drew));exact HO_7.out) (Kd.R_base ho0) hb);have n2_:=Za (Kd.R_lower (Kd.R_new' (Kd.R_new' ho0 (Kd.R_lt (by(with_reducible repeat(first|apply Kd.R_alloc|apply Kd.R_drewN|apply Kd.R_drew));exact HO_5.out))) (Kd.R_lt (by(with_reducible repeat(first|apply Kd.R_alloc|apply Kd.R_drewN|apply Kd.R_drew));exact HO_7.out))) (ZC (by repeat(first|(with_reducible first|exact HB.out|apply Zj|apply Zh|apply Zl)|exact HB.out))));have n3_:=Za (ZD (by repeat(first|(with_reducible first|exact HB.out|apply Zj|apply Zh|apply Zl)|exact HB.out)) hb);clear HO_5;clear HO_7;clear HB;have HO_5:=n0_;have HO_7:=n1_;have HO6026:=n2_;have HB:=n3_;clear n0_ n1_ n2_ n3_;(try clear hb);(try clear hb2);(try clear hk);(try clear hi);(try clear ho0);obtain⟨Ao42,co42,eo42⟩:=Kd.R_slice HO6026.out;subst eo42)|((with_reducible refine Zx (f:=23) rfl ?_);refine ZJ (some 58) rfl rfl Try.func23 (by kernel_rfl) rfl #[.slice Ao42 t6024.length co42,.int .i64 a1] rfl (by(try simp only[List.map_toArray,List.map_cons,List.map_nil]);first|done|rfl|(simp only[Zf,Ze];rfl)) ?_;(with_reducible refine(Zq.calls _ _ t6024 a1 t6027 _ ?side1 ?side2 A34.out).mono ?_);(case side1=>repeat(first|exact(Kd.R_reads' HO6026.out).2.2|(with_reducible refine Kd.C_alloc ?_ _)|(with_reducible refine Kd.C_drewN ?_ _)|(with_reducible refine Kd.C_drew ?_)));(case side2=>exact(Kd.R_reads' HO6026.out).2.1);rintro e w43 ⟨v6028,rfl,ho0,hb⟩;refine⟨_,rfl,?_⟩;have n0_:=Za (Kd.R_elder' (by(with_reducible repeat(first|apply Kd.R_alloc|apply Kd.R_drewN|apply Kd.R_drew));exact HO_5.out) (Kd.R_base ho0) hb);have n1_:=Za (Kd.R_elder' (by(with_reducible repeat(first|apply Kd.R_alloc|apply Kd.R_drewN|apply Kd.R_drew));exact HO_7.out) (Kd.R_base ho0) hb);have n2_:=Za (Kd.R_elder' (by(with_reducible repeat(first|apply Kd.R_alloc|apply Kd.R_drewN|apply Kd.R_drew));exact HO6026.out) (Kd.R_base ho0) hb);have n3_:=Za (Kd.R_lower (Kd.R_new' (Kd.R_new' (Kd.R_new' ho0 (Kd.R_lt (by(with_reducible repeat(first|apply Kd.R_alloc|apply Kd.R_drewN|apply Kd.R_drew));exact HO_5.out))) (Kd.R_lt (by(with_reducible repeat(first|apply Kd.R_alloc|apply Kd.R_drewN|apply Kd.R_drew));exact HO_7.out))) (Kd.R_lt (by(with_reducible repeat(first|apply Kd.R_alloc|apply Kd.R_drewN|apply Kd.R_drew));exact HO6026.out))) (ZC (by repeat(first|(with_reducible first|exact HB.out|apply Zj|apply Zh|apply Zl)|exact HB.out))));have n4_:=Za (ZD (by repeat(first|(with_reducible first|exact HB.out|apply Zj|apply Zh|apply Zl)|exact HB.out)) hb);clear HO_5;clear HO_7;clear HO6026;clear HB;have HO_5:=n0_;have HO_7:=n1_;have HO6026:=n2_;have HO6029:=n3_;have HB:=n4_;clear n0_ n1_ n2_ n3_ n4_;(try clear hb);(try clear hb2);(try clear hk);(try clear hi);(try clear ho0);obtain⟨Ao44,co44,eo44⟩:=Kd.R_slice HO6029.out;subst eo44)|((with_reducible refine Zx (f:=17) rfl ?_);refine ZJ (some 61) rfl rfl Try.func17 (by kernel_rfl) rfl #[.slice Ao44 t6027.length co44,.slice Ao22 t6004.length co22] rfl (by(try simp only[List.map_toArray,List.map_cons,List.map_nil]);first|done|rfl|(simp only[Zf,Ze];rfl)) ?_;(with_reducible refine(Zi.calls kj13 _ _ t6027 _ _ t6004 true _ ?side1 ?side2 ?side3 ?side4 A35.out).mono ?_);(case side1=>repeat(first|exact(Kd.R_reads' HO6029.out).2.2|(with_reducible refine Kd.C_alloc ?_ _)|(with_reducible refine Kd.C_drewN ?_ _)|(with_reducible refine Kd.C_drew ?_)));(case side2=>exact(Kd.R_reads' HO6029.out).2.1);(case side3=>repeat(first|exact(Kd.R_reads' HO_5.out).2.2|(with_reducible refine Kd.C_alloc ?_ _)|(with_reducible refine Kd.C_drewN ?_ _)|(with_reducible refine Kd.C_drew ?_)));(case side4=>exact(Kd.R_reads' HO_5.out).2.1);rintro e w' ⟨rfl,⟨nd,rfl⟩⟩;refine⟨_,rfl,?_⟩)|((with_reducible refine Zx (f:=25) rfl ?_);refine ZJ (some 65) rfl rfl Try.func25 (by kernel_rfl) rfl #[.slice Ao21 t6022.length co21,.int .i64 1] rfl (by(try simp only[List.map_toArray,List.map_cons,List.map_nil]);first|done|(rw[show t6022.length=t6010.length from(Kd.R_reads' HO_7.out).1.symm] <;> rfl)|rfl|(simp only[Zf,Ze];rfl)) ?_;(with_reducible refine(Zo.calls kj13 _ _ t6022 1 t6031 _ ?side1 ?side2 A37.out).mono ?_);(case side1=>repeat(first|exact(Kd.R_reads' HO_7.out).2.2|(with_reducible refine Kd.C_alloc ?_ _)|(with_reducible refine Kd.C_drewN ?_ _)|(with_reducible refine Kd.C_drew ?_)));(case side2=>rw[show t6022.length=t6010.length from(Kd.R_reads' HO_7.out).1.symm];exact(Kd.R_reads' HO_7.out).2.1);rintro e w' ⟨rfl,⟨nd,rfl⟩⟩;refine⟨_,rfl,?_⟩))
            go_ret
            exact⟨by first|rfl|(simp[ZG,ZF] <;> rfl)|(simp[*,ZG,ZF] <;> rfl),by repeat(first|(with_reducible first|exact HB.out|apply Zj|apply Zh|apply Zl)|exact HB.out)⟩
           ·rw[if_neg c39] at H
            have c39b0:(t6031 == t6021)=false:=beq_eq_false_iff_ne.mpr c39
            have c39b1:(t6031 != t6021)=true:=bne_iff_ne.mpr c39
            exact absurd H (by simp)
         ·replace c36:=Bool.eq_false_iff.mpr c36
          subst c36
          exact absurd H (by simp)
        ·rw[if_neg c32] at H
         have c32b0:(t6023 == t6021)=false:=beq_eq_false_iff_ne.mpr c32
         have c32b1:(t6023 != t6021)=true:=bne_iff_ne.mpr c32
         exact absurd H (by simp)
   ·replace c12:=Bool.eq_false_iff.mpr c12
    subst c12
    exact absurd H (by simp)
  ·replace c9:=Bool.eq_false_iff.mpr c9
   subst c9
   exact absurd H (by simp)
def laws_FnExactWithoutLiteral.Pure:Prop:=∀(y0:List Int) (y1:Int),(fun l_:List Int=>l_.length≤maxLen∧∀x_∈l_,(fun n_:Int=>(Lit.int .i64 n_).wf=true) x_) y0→(fun n_:Int=>(Lit.int .i64 n_).wf=true) y1→∃k,laws_FnExactWithoutLiteral.f k y0 y1=some true
end Go.Proofs.Ytammpmadchekeaa.Pr
set_option linter.unusedSimpArgs false
namespace Go.Proofs.Ytammpmadchekeaa.Pure
open Go.RowKit Go.Proofs.Ytammpmadchekeaa.Pr Go.Proofs.Ytammpmadchekeaa.Ni Go.Proofs.YtammpmadchekeaaW.PrintWords Go.Proofs.YtammpmadchekeaaW.PrintMore
theorem FnExactWithoutLiteral:laws_FnExactWithoutLiteral.Pure:=by
 rintro l q ⟨hl,_⟩ _
 simp only[maxLen] at hl
 refine⟨2 ^ 70+1,?_⟩
 unfold laws_FnExactWithoutLiteral.f
 by_cases hm:(l.length:Int) > 1048576
 ·rw[if_pos hm]
 rw[if_neg hm]
 have hl2:l.length≤1048576:=by omega
 have hf:(l.filter fun x=>!litB q x).length≤1048576:=Nat.le_trans (List.length_filter_le _ _) hl2
 have hi:Zq.f l q=some (l.filter fun x=>!litB q x):=by unfold Zq.f;rw[if_pos hl2]
 have ht:∀k,2 ^ 64≤k→Zk.f k l=some l:=fun k hk=>toIntS_f l (by omega) k hk
 have he:∀(m:List Int) k,m.length≤1048576→2 ^ 64≤k→Zi.f k m m=some true:=fun m k hm hk=>eqIntS_refl m (by omega) k hk
 rw[ht (2 ^ 70+1) (by omega),Zd,ZaS l q hl2 (2 ^ 70+1) (by omega),Zd,Zd,hi,Zd,he _ (2 ^ 70+1) hf (by omega),Zd,if_pos rfl,Zd,he l (2 ^ 70+1) hl2 (by omega),Zd,if_pos rfl,
  ZaI l hl2 1 (by omega) (by omega) (2 ^ 70+1) (by omega),Zd,if_neg (by simp only;omega),Zd]
 simp only[laws_FnExactWithoutLiteral.j0,Bool.not_true,Bool.false_eq_true,if_false]
 rw[ZaI _ hf 1 (by omega) (by omega) (2 ^ 70) (by omega),Zd]
 simp only[]
 rw[heldIntS_f _ hf 1 (by omega) (by omega) (2 ^ 70) (by omega),Zd,if_neg (by omega),if_pos rfl,ht (2 ^ 70) (by omega),Zd,hi,Zd,he _ (2 ^ 70) hf (by omega),Zd,if_pos rfl,Zd,if_neg (by omega),if_pos rfl]
end Go.Proofs.Ytammpmadchekeaa.Pure
