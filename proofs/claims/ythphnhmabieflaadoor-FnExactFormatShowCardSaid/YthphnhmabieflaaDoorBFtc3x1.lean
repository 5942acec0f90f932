/- The texts of one claim, put together by a program of this session. -/
import Derived.Test.YthphnhmabieflaaDoorBFtc1x1
import Derived.Test.YthphnhmabieflaaDoorBFtc1x10
import Derived.Test.YthphnhmabieflaaDoorBFtc1x2
import Derived.Test.YthphnhmabieflaaDoorBFtc1x7
namespace Go.Proofs.YthphnhmabieflaaDoor.Pr
open Go.RowKit Go.Proofs.YthphnhmabieflaaDoorW.PrintWords Go.Proofs.YthphnhmabieflaaDoorW.PrintLast Go.Proofs.YthphnhmabieflaaDoorW.PrintMore
attribute [local go_sem] Zah Zaf Zas Zar Z8 Z7 Zag Zae
set_option linter.unusedVariables false
set_option linter.unusedSimpArgs false
def ZZ.l0:Nat→List ByteArray→List Int→Int→Int→Option (ByteArray)
 | 0,_,_,_,_=>none
 | k+1,x3,x14,x15,x16=>if x16<x15 then(if 0≤x16 then(if x16<(x14.length:Int) then((Zal.f (rd x14 x16)).bind fun t9007=>((ZF.f k t9007).bind fun t9008=>(if 1+t9008.size≤9223372036854775807 then(if (rd x14 x16)<0 then(if 1+((⟨#[112]⟩:ByteArray) ++ t9008).size≤9223372036854775807 then(if x3.length<8796093022208 then(ZZ.l0 k (x3 ++ [(⟨#[33]⟩:ByteArray) ++ ((⟨#[112]⟩:ByteArray) ++ t9008)]) x14 x15 (wrap64 (x16+1))) else(none)) else(none)) else(if x3.length<8796093022208 then(ZZ.l0 k (x3 ++ [(⟨#[112]⟩:ByteArray) ++ t9008]) x14 x15 (wrap64 (x16+1))) else(none))) else(none)))) else(none)) else(none)) else((ZaH.f k x3 (⟨#[38]⟩:ByteArray)).bind fun t9005=>(some t9005))
def ZZ.f (k:Nat) (l0:List Int):Option (ByteArray):=(ZU.f k l0).bind fun t9004=>(if t9004=true then(if (l0.length:Int)=0 then(some (⟨#[45]⟩:ByteArray)) else(ZZ.l0 k (([]:List ByteArray)) l0 (l0.length:Int) 0)) else(some (⟨#[]⟩:ByteArray)))
set_option maxHeartbeats 8000000 in
set_option maxRecDepth 100000 in
theorem ZZ.calls (k:Nat) (A0:Option Addr) (c0:Nat) (l0:List Int) (r:ByteArray) (w:World) (hr0:Kd.C (Kd.int .i64) w A0 l0.length l0) (hc0:l0.length≤c0) (h:ZZ.f k l0=some r) :
  Calls Tryd.prog 9 #[.slice A0 l0.length c0] w fun e w'=>e=.returned (.string r)∧Below w.heap.size w w':=by
 have HR0:=Za hr0;have HC0:=Za hc0;clear hr0 hc0
 have HB:=Za (Below.refl w.heap.size w)
 have H:((ZU.f k l0).bind fun t9004=>(if t9004=true then(if (l0.length:Int)=0 then(some (⟨#[45]⟩:ByteArray)) else(ZZ.l0 k (([]:List ByteArray)) l0 (l0.length:Int) 0)) else(some (⟨#[]⟩:ByteArray))))=some r:=h
 clear h
 obtain⟨y9001,hy9001⟩:∃y_:List ByteArray,y_=(([]:List ByteArray)):=⟨_,rfl⟩
 replace H:((ZU.f k l0).bind fun t9004=>(if t9004=true then(if (l0.length:Int)=0 then(some (⟨#[45]⟩:ByteArray)) else(ZZ.l0 k y9001 l0 (l0.length:Int) 0)) else(some (⟨#[]⟩:ByteArray))))=some r:=by first|(rw[hy9001];with_reducible exact H)|(have H2_:=(Zi _ _).symm.trans H;rw[hy9001];with_reducible exact H2_)|(have H2_:=(Zi _ _).symm.trans H;with_reducible exact H2_)|with_reducible exact H|(rw[hy9001];exact H)|exact H
 have Ny9001:=Za hy9001;clear hy9001
 replace H:=Zh H
 obtain⟨t9004,A20,H⟩:=H
 replace H:(if t9004=true then(if (l0.length:Int)=0 then(some (⟨#[45]⟩:ByteArray)) else(ZZ.l0 k y9001 l0 (l0.length:Int) 0)) else(some (⟨#[]⟩:ByteArray)))=some r:=H
 have A2:=Za A20;clear A20
 by_cases c3:t9004=true
 ·subst c3
  have H1:(if (l0.length:Int)=0 then(some (⟨#[45]⟩:ByteArray)) else(ZZ.l0 k y9001 l0 (l0.length:Int) 0))=some r:=by rw[if_pos rfl] at H;exact H
  clear H
  have H:=H1
  clear H1
  by_cases c4:(l0.length:Int)=0
  ·rw[if_pos c4] at H
   have c4b0:((l0.length:Int) == 0)=true:=beq_iff_eq.mpr c4
   have c4b1:((l0.length:Int) != 0)=false:=bne_eq_false_iff_eq.mpr c4
   clear c4
   obtain rfl:=Zg H
   go_enter Tryd.func9,Tryd.ntmps9
   go_wp2_with (first|((with_reducible refine ZN (N:=7) rfl ?_);refine Kd.R_lit Kd.string _ 9 ?hg (N:=7) ?hd (xs:=([]:List ByteArray)) (inner:=[]) (ok:=fun _=>True) (okp:=fun _=>True) ?hr ?hp (fun _ hk=>hk) trivial (Below.refl _ _) (Nat.le_refl _) (by simp) ?_;(case hd=>rfl);(case hg=>rfl);(case hr=>first|(go_simp;done)|(go_simp;rfl));(case hp=>exact(Reps.none _ _));intro v9002 w5 ho6 hb hg_ hnew_;clear hg_ hnew_;(first|rw[← Ny9001.out] at ho6|(simp only[Int.reduceToNat] at ho6;rw[← Ny9001.out] at ho6));have HO9003:=Za (Kd.R_lower ho6 (Zy (by repeat(first|(with_reducible first|exact HB.out|apply Zn|apply Zm|apply Zo)|exact HB.out))));replace HB:=Za (Zx (by repeat(first|(with_reducible first|exact HB.out|apply Zn|apply Zm|apply Zo)|exact HB.out)) hb);clear hb ho6)|((with_reducible refine ZG (f:=34) rfl ?_);refine ZX (some 9) rfl rfl Tryd.func34 (by kernel_rfl) rfl #[.slice A0 l0.length c0] rfl (by(try simp only[List.map_toArray,List.map_cons,List.map_nil]);first|done|rfl|(simp only[Zk,Zj];rfl)) ?_;(with_reducible refine(ZU.calls k _ _ l0 true _ ?side1 ?side2 A2.out).mono ?_);(case side1=>repeat(first|exact(Zb HR0.out HB.out)|(with_reducible refine Kd.C_alloc ?_ _)|(with_reducible refine Kd.C_drewN ?_ _)|(with_reducible refine Kd.C_drew ?_)));(case side2=>exact HC0.out);rintro e w' ⟨rfl,⟨nd,rfl⟩⟩;refine⟨_,rfl,?_⟩))
   go_ret
   exact⟨by first|rfl|(simp[ZA,Zz] <;> rfl)|(simp[*,ZA,Zz] <;> rfl),by repeat(first|(with_reducible first|exact HB.out|apply Zn|apply Zm|apply Zo)|exact HB.out)⟩
  ·rw[if_neg c4] at H
   have c4b0:((l0.length:Int) == 0)=false:=beq_eq_false_iff_ne.mpr c4
   have c4b1:((l0.length:Int) != 0)=true:=bne_iff_ne.mpr c4
   have c4b2:¬(l0=[]):=fun h_=>c4 (by rw[h_];rfl)
   have H':=Za H
   clear H
   go_enter Tryd.func9,Tryd.ntmps9
   go_wp2_with (first|((with_reducible refine ZN (N:=7) rfl ?_);refine Kd.R_lit Kd.string _ 9 ?hg (N:=7) ?hd (xs:=([]:List ByteArray)) (inner:=[]) (ok:=fun _=>True) (okp:=fun _=>True) ?hr ?hp (fun _ hk=>hk) trivial (Below.refl _ _) (Nat.le_refl _) (by simp) ?_;(case hd=>rfl);(case hg=>rfl);(case hr=>first|(go_simp;done)|(go_simp;rfl));(case hp=>exact(Reps.none _ _));intro v9002 w7 ho8 hb hg_ hnew_;clear hg_ hnew_;(first|rw[← Ny9001.out] at ho8|(simp only[Int.reduceToNat] at ho8;rw[← Ny9001.out] at ho8));have HO9003:=Za (Kd.R_lower ho8 (Zy (by repeat(first|(with_reducible first|exact HB.out|apply Zn|apply Zm|apply Zo)|exact HB.out))));replace HB:=Za (Zx (by repeat(first|(with_reducible first|exact HB.out|apply Zn|apply Zm|apply Zo)|exact HB.out)) hb);clear hb ho8)|((with_reducible refine ZG (f:=34) rfl ?_);refine ZX (some 9) rfl rfl Tryd.func34 (by kernel_rfl) rfl #[.slice A0 l0.length c0] rfl (by(try simp only[List.map_toArray,List.map_cons,List.map_nil]);first|done|rfl|(simp only[Zk,Zj];rfl)) ?_;(with_reducible refine(ZU.calls k _ _ l0 true _ ?side1 ?side2 A2.out).mono ?_);(case side1=>repeat(first|exact(Zb HR0.out HB.out)|(with_reducible refine Kd.C_alloc ?_ _)|(with_reducible refine Kd.C_drewN ?_ _)|(with_reducible refine Kd.C_drew ?_)));(case side2=>exact HC0.out);rintro e w' ⟨rfl,⟨nd,rfl⟩⟩;refine⟨_,rfl,?_⟩))
   go_loopg [3,16] k (fun kq v3 v16 w'=>∃(x3_1:List ByteArray) (x16_1:Int),v16=.int .i64 x16_1∧Aside0 (ZZ.l0 kq x3_1 l0 (l0.length:Int) x16_1=some r)∧Aside0 (kq≤k)∧Aside0 (Kd.R Kd.string 9 w' w.heap.size (fun _=>True) v3 x3_1)∧Aside0 (Below w.heap.size w w'))
   case atStart=>exact⟨(y9001),(0),(by first|rfl|(simp;done)|(simp[*];done)),H',⟨Nat.le_refl _⟩,⟨by(with_reducible repeat(first|apply Kd.R_alloc|apply Kd.R_drewN|apply Kd.R_drew));exact HO9003.out⟩,⟨by repeat(first|(with_reducible first|exact HB.out|apply Zn|apply Zm|apply Zo)|exact HB.out)⟩⟩
   case round=>
    clear H'
    try clear p2
    try clear c3
    try clear c4
    try clear c4b0
    try clear c4b1
    try clear c4b2
    obtain⟨x3_1,x16_1,rfl,HA,HK1,HO_3,HB⟩:=hrel
    cases gk with
    | zero=>exact absurd HA.out (by simp[ZZ.l0])
    | succ k1=>
     have H:=HA.out
     clear HA
     simp only[ZZ.l0] at H
     by_cases c9:x16_1<(l0.length:Int)
     ·rw[if_pos c9] at H
      have c9b0:decide (x16_1<(l0.length:Int))=true:=Ze c9
      clear c9
      by_cases c10:0≤x16_1
      ·rw[if_pos c10] at H
       have c10b0:decide (0≤x16_1)=true:=Ze c10
       clear c10
       by_cases c11:x16_1<(l0.length:Int)
       ·rw[if_pos c11] at H
        have c11b0:decide (x16_1<(l0.length:Int))=true:=Ze c11
        clear c11
        replace H:=Zh H
        obtain⟨t9007,A120,H⟩:=H
        replace H:((ZF.f k1 t9007).bind fun t9008=>(if 1+t9008.size≤9223372036854775807 then(if (rd l0 x16_1)<0 then(if 1+((⟨#[112]⟩:ByteArray) ++ t9008).size≤9223372036854775807 then(if x3_1.length<8796093022208 then(ZZ.l0 k1 (x3_1 ++ [(⟨#[33]⟩:ByteArray) ++ ((⟨#[112]⟩:ByteArray) ++ t9008)]) l0 (l0.length:Int) (wrap64 (x16_1+1))) else(none)) else(none)) else(if x3_1.length<8796093022208 then(ZZ.l0 k1 (x3_1 ++ [(⟨#[112]⟩:ByteArray) ++ t9008]) l0 (l0.length:Int) (wrap64 (x16_1+1))) else(none))) else(none)))=some r:=H
        have A12:=Za A120;clear A120
        replace H:=Zh H
        obtain⟨t9008,A130,H⟩:=H
        replace H:(if 1+t9008.size≤9223372036854775807 then(if (rd l0 x16_1)<0 then(if 1+((⟨#[112]⟩:ByteArray) ++ t9008).size≤9223372036854775807 then(if x3_1.length<8796093022208 then(ZZ.l0 k1 (x3_1 ++ [(⟨#[33]⟩:ByteArray) ++ ((⟨#[112]⟩:ByteArray) ++ t9008)]) l0 (l0.length:Int) (wrap64 (x16_1+1))) else(none)) else(none)) else(if x3_1.length<8796093022208 then(ZZ.l0 k1 (x3_1 ++ [(⟨#[112]⟩:ByteArray) ++ t9008]) l0 (l0.length:Int) (wrap64 (x16_1+1))) else(none))) else(none))=some r:=H
        have A13:=Za A130;clear A130
        by_cases c14:1+t9008.size≤9223372036854775807
        ·rw[if_pos c14] at H
         have c14b0:=eq_true c14
         have c14b1:decide (1+t9008.size≤9223372036854775807)=true:=Ze c14
         try have c14b2:(9223372036854775807<1+t9008.size)=False:=eq_false (Nat.not_lt.2 c14)
         by_cases c15:(rd l0 x16_1)<0
         ·rw[if_pos c15] at H
          have c15b0:decide ((rd l0 x16_1)<0)=true:=Ze c15
          clear c15
          by_cases c16:1+((⟨#[112]⟩:ByteArray) ++ t9008).size≤9223372036854775807
          ·rw[if_pos c16] at H
           have c16b0:=eq_true c16
           have c16b1:decide (1+((⟨#[112]⟩:ByteArray) ++ t9008).size≤9223372036854775807)=true:=Ze c16
           try have c16b2:(9223372036854775807<1+((⟨#[112]⟩:ByteArray) ++ t9008).size)=False:=eq_false (Nat.not_lt.2 c16)
           try have c16b4:(9223372036854775807<1+(1+t9008.size))=False:=eq_false (Nat.not_lt.2 (by have h_:=c16;simp only[ByteArray.size_append] at h_;exact h_))
           by_cases c17:x3_1.length<8796093022208
           ·rw[if_pos c17] at H
            have LMc17:=Za c17;clear c17
            obtain⟨y9009,hy9009⟩:∃y_:List ByteArray,y_=(x3_1 ++ [(⟨#[33]⟩:ByteArray) ++ ((⟨#[112]⟩:ByteArray) ++ t9008)]):=⟨_,rfl⟩
            replace H:(ZZ.l0 k1 y9009 l0 (l0.length:Int) (wrap64 (x16_1+1)))=some r:=by first|(rw[hy9009];with_reducible exact H)|(have H2_:=(Zi _ _).symm.trans H;rw[hy9009];with_reducible exact H2_)|(have H2_:=(Zi _ _).symm.trans H;with_reducible exact H2_)|with_reducible exact H|(rw[hy9009];exact H)|exact H
            have Ny9009:=Za hy9009;clear hy9009
            have H':=Za H
            clear H
            have p9006:0≤(x16_1:Int):=Zd (by first|(with_reducible assumption)|assumption)
            have q9006:x16_1<(l0.length:Int):=Zd (by first|(with_reducible assumption)|assumption)
            obtain⟨ad9006,e9006,hx9006_0⟩:=Kd.at_int HR0.out x16_1 p9006 q9006
            cases e9006
            replace hx9006_0:=(HB.out.cell (Zc w _ hx9006_0)).trans hx9006_0
            replace p9006:=eq_true p9006
            replace q9006:=eq_true q9006
            go_wp2_with (first|((with_reducible refine ZG (f:=36) rfl ?_);refine ZX (some 21) rfl rfl Tryd.func36 (by kernel_rfl) rfl #[.int .i64 (rd l0 x16_1)] rfl (by(try simp only[List.map_toArray,List.map_cons,List.map_nil]);first|done|rfl|(simp only[Zk,Zj];rfl)) ?_;(with_reducible refine(Zal.calls (rd l0 x16_1) t9007 _ A12.out).mono ?_);rintro e w' ⟨rfl,⟨nd,rfl⟩⟩;refine⟨_,rfl,?_⟩)|((with_reducible refine ZG (f:=35) rfl ?_);refine ZX (some 22) rfl rfl Tryd.func35 (by kernel_rfl) rfl #[.int .i64 t9007] rfl (by(try simp only[List.map_toArray,List.map_cons,List.map_nil]);first|done|rfl|(simp only[Zk,Zj];rfl)) ?_;(with_reducible refine(ZF.calls k1 t9007 t9008 _ A13.out).mono ?_);rintro e w18 ⟨rfl,hb⟩;refine⟨_,rfl,?_⟩;replace HO_3:=Za (Kd.R_below (by(with_reducible repeat(first|apply Kd.R_alloc|apply Kd.R_drewN|apply Kd.R_drew));exact HO_3.out) hb);replace HB:=Za (Zx (by repeat(first|(with_reducible first|exact HB.out|apply Zn|apply Zm|apply Zo)|exact HB.out)) hb);(try clear hb);(try clear hb2);(try clear hk);(try clear hi))|((with_reducible refine Zbx (b:=.append) (xs:=#[.tmp 28,.tmp 30]) rfl ?_);at_builtin;refine Kd.R_append Kd.string (w0:=w) w.heap.size rfl (.tmp 28) (.tmp 30) 56 9 (.string ⟨#[]⟩) 16 rfl Tryd.underlying56 Zcw rfl (by decide) (by omega) u3 x3_1 ((⟨#[33]⟩:ByteArray) ++ ((⟨#[112]⟩:ByteArray) ++ t9008)) [.string ((⟨#[33]⟩:ByteArray) ++ ((⟨#[112]⟩:ByteArray) ++ t9008))] (fun _=>True) (fun _=>False) rfl rfl ?aP (fun _ hk=>hk.elim) ?aF ?aO ?aB ?aS ?aL ?_;(case aP=>exact rfl);(case aB=>exact(by repeat(first|(with_reducible first|exact HB.out|apply Zn|apply Zm|apply Zo)|exact HB.out)));(case aF=>exact(fun _ _=>trivial));(case aO=>exact(by(with_reducible repeat(first|apply Kd.R_alloc|apply Kd.R_drewN|apply Kd.R_drew));exact HO_3.out));(case aS=>exact(Zy (by repeat(first|(with_reducible first|exact HB.out|apply Zn|apply Zm|apply Zo)|exact HB.out))));(case aL=>have:=LMc17.out;omega);intro v9010 w19 ho hb hg hat;rw[← Ny9009.out] at ho;have HO9011:=Za (ho);replace HB:=Za (hb);clear HO_3;clear ho hb hg hat))
            go_roundg k1
            case measure=>have:=HK1.out;omega
            case rel=>exact⟨(y9009),(wrap64 (x16_1+1)),(by first|rfl|(simp;done)|(simp[*];done)),H',⟨by have:=HK1.out;omega⟩,⟨by(with_reducible repeat(first|apply Kd.R_alloc|apply Kd.R_drewN|apply Kd.R_drew));exact HO9011.out⟩,⟨by repeat(first|(with_reducible first|exact HB.out|apply Zn|apply Zm|apply Zo)|exact HB.out)⟩⟩
           ·rw[if_neg c17] at H
            exact absurd H (by simp)
          ·rw[if_neg c16] at H
           exact absurd H (by simp)
         ·rw[if_neg c15] at H
          have c15b0:decide ((rd l0 x16_1)<0)=false:=Zf c15
          clear c15
          by_cases c20:x3_1.length<8796093022208
          ·rw[if_pos c20] at H
           have LMc20:=Za c20;clear c20
           obtain⟨y9012,hy9012⟩:∃y_:List ByteArray,y_=(x3_1 ++ [(⟨#[112]⟩:ByteArray) ++ t9008]):=⟨_,rfl⟩
           replace H:(ZZ.l0 k1 y9012 l0 (l0.length:Int) (wrap64 (x16_1+1)))=some r:=by first|(rw[hy9012];with_reducible exact H)|(have H2_:=(Zi _ _).symm.trans H;rw[hy9012];with_reducible exact H2_)|(have H2_:=(Zi _ _).symm.trans H;with_reducible exact H2_)|with_reducible exact H|(rw[hy9012];exact H)|exact H
           have Ny9012:=Za hy9012;clear hy9012
           have H':=Za H
           clear H
           have p9006:0≤(x16_1:Int):=Zd (by first|(with_reducible assumption)|assumption)
           have q9006:x16_1<(l0.length:Int):=Zd (by first|(with_reducible assumption)|assumption)
           obtain⟨ad9006,e9006,hx9006_0⟩:=Kd.at_int HR0.out x16_1 p9006 q9006
           cases e9006
           replace hx9006_0:=(HB.out.cell (Zc w _ hx9006_0)).trans hx9006_0
           replace p9006:=eq_true p9006
           replace q9006:=eq_true q9006
           go_wp2_with (first|((with_reducible refine ZG (f:=36) rfl ?_);refine ZX (some 21) rfl rfl Tryd.func36 (by kernel_rfl) rfl #[.int .i64 (rd l0 x16_1)] rfl (by(try simp only[List.map_toArray,List.map_cons,List.map_nil]);first|done|rfl|(simp only[Zk,Zj];rfl)) ?_;(with_reducible refine(Zal.calls (rd l0 x16_1) t9007 _ A12.out).mono ?_);rintro e w' ⟨rfl,⟨nd,rfl⟩⟩;refine⟨_,rfl,?_⟩)|((with_reducible refine ZG (f:=35) rfl ?_);refine ZX (some 22) rfl rfl Tryd.func35 (by kernel_rfl) rfl #[.int .i64 t9007] rfl (by(try simp only[List.map_toArray,List.map_cons,List.map_nil]);first|done|rfl|(simp only[Zk,Zj];rfl)) ?_;(with_reducible refine(ZF.calls k1 t9007 t9008 _ A13.out).mono ?_);rintro e w21 ⟨rfl,hb⟩;refine⟨_,rfl,?_⟩;replace HO_3:=Za (Kd.R_below (by(with_reducible repeat(first|apply Kd.R_alloc|apply Kd.R_drewN|apply Kd.R_drew));exact HO_3.out) hb);replace HB:=Za (Zx (by repeat(first|(with_reducible first|exact HB.out|apply Zn|apply Zm|apply Zo)|exact HB.out)) hb);(try clear hb);(try clear hb2);(try clear hk);(try clear hi))|((with_reducible refine Zbx (b:=.append) (xs:=#[.tmp 28,.tmp 30]) rfl ?_);at_builtin;refine Kd.R_append Kd.string (w0:=w) w.heap.size rfl (.tmp 28) (.tmp 30) 56 9 (.string ⟨#[]⟩) 16 rfl Tryd.underlying56 Zcw rfl (by decide) (by omega) u3 x3_1 ((⟨#[112]⟩:ByteArray) ++ t9008) [.string ((⟨#[112]⟩:ByteArray) ++ t9008)] (fun _=>True) (fun _=>False) rfl rfl ?aP (fun _ hk=>hk.elim) ?aF ?aO ?aB ?aS ?aL ?_;(case aP=>exact rfl);(case aB=>exact(by repeat(first|(with_reducible first|exact HB.out|apply Zn|apply Zm|apply Zo)|exact HB.out)));(case aF=>exact(fun _ _=>trivial));(case aO=>exact(by(with_reducible repeat(first|apply Kd.R_alloc|apply Kd.R_drewN|apply Kd.R_drew));exact HO_3.out));(case aS=>exact(Zy (by repeat(first|(with_reducible first|exact HB.out|apply Zn|apply Zm|apply Zo)|exact HB.out))));(case aL=>have:=LMc20.out;omega);intro v9013 w22 ho hb hg hat;rw[← Ny9012.out] at ho;have HO9014:=Za (ho);replace HB:=Za (hb);clear HO_3;clear ho hb hg hat))
           go_roundg k1
           case measure=>have:=HK1.out;omega
           case rel=>exact⟨(y9012),(wrap64 (x16_1+1)),(by first|rfl|(simp;done)|(simp[*];done)),H',⟨by have:=HK1.out;omega⟩,⟨by(with_reducible repeat(first|apply Kd.R_alloc|apply Kd.R_drewN|apply Kd.R_drew));exact HO9014.out⟩,⟨by repeat(first|(with_reducible first|exact HB.out|apply Zn|apply Zm|apply Zo)|exact HB.out)⟩⟩
          ·rw[if_neg c20] at H
           exact absurd H (by simp)
        ·rw[if_neg c14] at H
         exact absurd H (by simp)
       ·rw[if_neg c11] at H
        exact absurd H (by simp)
      ·rw[if_neg c10] at H
       exact absurd H (by simp)
     ·rw[if_neg c9] at H
      have c9b0:decide (x16_1<(l0.length:Int))=false:=Zf c9
      clear c9
      replace H:=Zh H
      obtain⟨t9005,A230,H⟩:=H
      replace H:(some t9005)=some r:=H
      have A23:=Za A230;clear A230
      obtain rfl:=Zg H
      obtain⟨Ao24,co24,eo24⟩:=Kd.R_slice HO_3.out
      subst eo24
      go_wp2_with (first|((with_reducible refine ZG (f:=37) rfl ?_);refine ZX (some 34) rfl rfl Tryd.func37 (by kernel_rfl) rfl #[.slice Ao24 x3_1.length co24,.string (⟨#[38]⟩:ByteArray)] rfl (by(try simp only[List.map_toArray,List.map_cons,List.map_nil]);first|done|rfl|(simp only[Zk,Zj];rfl)) ?_;(with_reducible refine(ZaH.calls k1 _ _ x3_1 (⟨#[38]⟩:ByteArray) t9005 _ ?side1 ?side2 A23.out).mono ?_);(case side1=>repeat(first|exact(Kd.R_reads' HO_3.out).2.2|(with_reducible refine Kd.C_alloc ?_ _)|(with_reducible refine Kd.C_drewN ?_ _)|(with_reducible refine Kd.C_drew ?_)));(case side2=>exact(Kd.R_reads' HO_3.out).2.1);rintro e w' ⟨rfl,⟨nd,rfl⟩⟩;refine⟨_,rfl,?_⟩))
      go_ret
      exact⟨by first|rfl|(simp[ZA,Zz] <;> rfl)|(simp[*,ZA,Zz] <;> rfl),by repeat(first|(with_reducible first|exact HB.out|apply Zn|apply Zm|apply Zo)|exact HB.out)⟩
 ·replace c3:=Bool.eq_false_iff.mpr c3
  subst c3
  have H1:(some (⟨#[]⟩:ByteArray))=some r:=by rw[if_neg (show ¬(false=true) by decide)] at H;exact H
  clear H
  have H:=H1
  clear H1
  obtain rfl:=Zg H
  go_enter Tryd.func9,Tryd.ntmps9
  go_wp2_with (first|((with_reducible refine ZN (N:=7) rfl ?_);refine Kd.R_lit Kd.string _ 9 ?hg (N:=7) ?hd (xs:=([]:List ByteArray)) (inner:=[]) (ok:=fun _=>True) (okp:=fun _=>True) ?hr ?hp (fun _ hk=>hk) trivial (Below.refl _ _) (Nat.le_refl _) (by simp) ?_;(case hd=>rfl);(case hg=>rfl);(case hr=>first|(go_simp;done)|(go_simp;rfl));(case hp=>exact(Reps.none _ _));intro v9002 w25 ho26 hb hg_ hnew_;clear hg_ hnew_;(first|rw[← Ny9001.out] at ho26|(simp only[Int.reduceToNat] at ho26;rw[← Ny9001.out] at ho26));have HO9003:=Za (Kd.R_lower ho26 (Zy (by repeat(first|(with_reducible first|exact HB.out|apply Zn|apply Zm|apply Zo)|exact HB.out))));replace HB:=Za (Zx (by repeat(first|(with_reducible first|exact HB.out|apply Zn|apply Zm|apply Zo)|exact HB.out)) hb);clear hb ho26)|((with_reducible refine ZG (f:=34) rfl ?_);refine ZX (some 9) rfl rfl Tryd.func34 (by kernel_rfl) rfl #[.slice A0 l0.length c0] rfl (by(try simp only[List.map_toArray,List.map_cons,List.map_nil]);first|done|rfl|(simp only[Zk,Zj];rfl)) ?_;(with_reducible refine(ZU.calls k _ _ l0 false _ ?side1 ?side2 A2.out).mono ?_);(case side1=>repeat(first|exact(Zb HR0.out HB.out)|(with_reducible refine Kd.C_alloc ?_ _)|(with_reducible refine Kd.C_drewN ?_ _)|(with_reducible refine Kd.C_drew ?_)));(case side2=>exact HC0.out);rintro e w' ⟨rfl,⟨nd,rfl⟩⟩;refine⟨_,rfl,?_⟩))
  go_ret
  exact⟨by first|rfl|(simp[ZA,Zz] <;> rfl)|(simp[*,ZA,Zz] <;> rfl),by repeat(first|(with_reducible first|exact HB.out|apply Zn|apply Zm|apply Zo)|exact HB.out)⟩
mutual
def ZK.l0:Nat→ByteArray→List (S73)→Int→Int→List (S73)→List (S66)→Int→Option (ByteArray)
 | 0,_,_,_,_,_,_,_=>none
 | k+1,x3,x17,x18,x19,x20002000,x20002001,x20002002=>if x19<x18 then(if 0≤x19 then(if x19<(x17.length:Int) then(if x3.size+5≤9223372036854775807 then(if (x3 ++ (⟨#[110,111,100,101,32]⟩:ByteArray)).size+((Zp x17 x19).f0).size≤9223372036854775807 then(if ((x3 ++ (⟨#[110,111,100,101,32]⟩:ByteArray)) ++ ((Zp x17 x19).f0)).size+1≤9223372036854775807 then((ZZ.f k ((Zp x17 x19).f1)).bind fun t20006=>(if (((x3 ++ (⟨#[110,111,100,101,32]⟩:ByteArray)) ++ ((Zp x17 x19).f0)) ++ (⟨#[32]⟩:ByteArray)).size+t20006.size≤9223372036854775807 then(if ((Zp x17 x19).f2)=0 then(if ((((x3 ++ (⟨#[110,111,100,101,32]⟩:ByteArray)) ++ ((Zp x17 x19).f0)) ++ (⟨#[32]⟩:ByteArray)) ++ t20006).size+1≤9223372036854775807 then(ZK.l0 k (((((x3 ++ (⟨#[110,111,100,101,32]⟩:ByteArray)) ++ ((Zp x17 x19).f0)) ++ (⟨#[32]⟩:ByteArray)) ++ t20006) ++ (⟨#[10]⟩:ByteArray)) x17 x18 (wrap64 (x19+1)) x20002000 x20002001 x20002002) else(none)) else(if ((((x3 ++ (⟨#[110,111,100,101,32]⟩:ByteArray)) ++ ((Zp x17 x19).f0)) ++ (⟨#[32]⟩:ByteArray)) ++ t20006).size+7≤9223372036854775807 then((ZF.f k ((Zp x17 x19).f2)).bind fun t20007=>(if (((((x3 ++ (⟨#[110,111,100,101,32]⟩:ByteArray)) ++ ((Zp x17 x19).f0)) ++ (⟨#[32]⟩:ByteArray)) ++ t20006) ++ (⟨#[32,119,97,116,99,104,32]⟩:ByteArray)).size+t20007.size≤9223372036854775807 then(if ((((((x3 ++ (⟨#[110,111,100,101,32]⟩:ByteArray)) ++ ((Zp x17 x19).f0)) ++ (⟨#[32]⟩:ByteArray)) ++ t20006) ++ (⟨#[32,119,97,116,99,104,32]⟩:ByteArray)) ++ t20007).size+1≤9223372036854775807 then(ZK.l0 k (((((((x3 ++ (⟨#[110,111,100,101,32]⟩:ByteArray)) ++ ((Zp x17 x19).f0)) ++ (⟨#[32]⟩:ByteArray)) ++ t20006) ++ (⟨#[32,119,97,116,99,104,32]⟩:ByteArray)) ++ t20007) ++ (⟨#[10]⟩:ByteArray)) x17 x18 (wrap64 (x19+1)) x20002000 x20002001 x20002002) else(none)) else(none))) else(none))) else(none))) else(none)) else(none)) else(none)) else(none)) else(none)) else(ZK.l1 k x3 x20002001 (x20002001.length:Int) 0 x20002000 x20002001 x20002002)
def ZK.l1:Nat→ByteArray→List (S66)→Int→Int→List (S73)→List (S66)→Int→Option (ByteArray)
 | 0,_,_,_,_,_,_,_=>none
 | k+1,x3,x46,x47,x48,x20002000,x20002001,x20002002=>if x48<x47 then(if 0≤x48 then(if x48<(x46.length:Int) then((Zaj.f k x20002000 x20002001 x20002002 ((Zw x46 x48).f0) ((Zw x46 x48).f1) ((Zw x46 x48).f2) ((Zw x46 x48).f3) ((Zw x46 x48).f4)).bind fun t20010=>(if x3.size+t20010.size≤9223372036854775807 then(if (x3 ++ t20010).size+1≤9223372036854775807 then(ZK.l1 k ((x3 ++ t20010) ++ (⟨#[10]⟩:ByteArray)) x46 x47 (wrap64 (x48+1)) x20002000 x20002001 x20002002) else(none)) else(none))) else(none)) else(none)) else(some x3)
end
def ZK.f (k:Nat) (l0_0:List (S73)) (l0_1:List (S66)) (a0_2:Int):Option (ByteArray):=(ZT.f k l0_0 l0_1 a0_2).bind fun t20002=>(if t20002=true then((ZF.f k a0_2).bind fun t20003=>(if 8+t20003.size≤9223372036854775807 then(if ((⟨#[104,111,114,105,122,111,110,32]⟩:ByteArray) ++ t20003).size+1≤9223372036854775807 then(ZK.l0 k (((⟨#[104,111,114,105,122,111,110,32]⟩:ByteArray) ++ t20003) ++ (⟨#[10]⟩:ByteArray)) l0_0 (l0_0.length:Int) 0 l0_0 l0_1 a0_2) else(none)) else(none))) else(some (⟨#[]⟩:ByteArray)))
def ZK.T7:Bool×List (List Nat×List Nat):=(true,[([],[]),([0],[0]),([],[]),([2],[2]),([1,3],[1,3]),([4],[4]),([],[]),([6],[6]),([7],[7]),([5,8],[5,8]),([9,8,0,1,2,3,4,5,6,7,8,9],[0,9])])
def ZK.B7:List Nat:=[0,1,0,4,15,31,0,64,192,511,1023]
theorem ZK.tab7:rtab .any (opsOf Tryd.f20 7)=ZK.T7:=by kernel_rfl
theorem ZK.bits7:Zbz ZK.T7.2 ZK.B7=true:=by kernel_rfl
set_option maxHeartbeats 8000000 in
set_option maxRecDepth 100000 in
theorem ZK.calls (k:Nat) (A0_0:Option Addr) (c0_0:Nat) (l0_0:List (S73)) (A0_1:Option Addr) (c0_1:Nat) (l0_1:List (S66)) (a0_2:Int) (r:ByteArray) (w:World) (hr0_0:Kd.C k73 w A0_0 l0_0.length l0_0) (hc0_0:l0_0.length≤c0_0) (hr0_1:Kd.C k66 w A0_1 l0_1.length l0_1) (hc0_1:l0_1.length≤c0_1) (h:ZK.f k l0_0 l0_1 a0_2=some r) :
  Calls Tryd.prog 20 #[.agg #[.slice A0_0 l0_0.length c0_0,.slice A0_1 l0_1.length c0_1,.int .i64 a0_2]] w fun e w'=>e=.returned (.string r)∧Below w.heap.size w w':=by
 have hu36:=Tryd.underlying36
 have hu73:=Tryd.underlying73
 have hu66:=Tryd.underlying66
 have HR0_0:=Za hr0_0;have HC0_0:=Za hc0_0;clear hr0_0 hc0_0;have HR0_1:=Za hr0_1;have HC0_1:=Za hc0_1;clear hr0_1 hc0_1
 have HB:=Za (Below.refl w.heap.size w)
 have H:((ZT.f k l0_0 l0_1 a0_2).bind fun t20002=>(if t20002=true then((ZF.f k a0_2).bind fun t20003=>(if 8+t20003.size≤9223372036854775807 then(if ((⟨#[104,111,114,105,122,111,110,32]⟩:ByteArray) ++ t20003).size+1≤9223372036854775807 then(ZK.l0 k (((⟨#[104,111,114,105,122,111,110,32]⟩:ByteArray) ++ t20003) ++ (⟨#[10]⟩:ByteArray)) l0_0 (l0_0.length:Int) 0 l0_0 l0_1 a0_2) else(none)) else(none))) else(some (⟨#[]⟩:ByteArray))))=some r:=h
 clear h
 replace H:=Zh H
 obtain⟨t20002,A20,H⟩:=H
 replace H:(if t20002=true then((ZF.f k a0_2).bind fun t20003=>(if 8+t20003.size≤9223372036854775807 then(if ((⟨#[104,111,114,105,122,111,110,32]⟩:ByteArray) ++ t20003).size+1≤9223372036854775807 then(ZK.l0 k (((⟨#[104,111,114,105,122,111,110,32]⟩:ByteArray) ++ t20003) ++ (⟨#[10]⟩:ByteArray)) l0_0 (l0_0.length:Int) 0 l0_0 l0_1 a0_2) else(none)) else(none))) else(some (⟨#[]⟩:ByteArray)))=some r:=H
 have A2:=Za A20;clear A20
 by_cases c3:t20002=true
 ·subst c3
  have H1:((ZF.f k a0_2).bind fun t20003=>(if 8+t20003.size≤9223372036854775807 then(if ((⟨#[104,111,114,105,122,111,110,32]⟩:ByteArray) ++ t20003).size+1≤9223372036854775807 then(ZK.l0 k (((⟨#[104,111,114,105,122,111,110,32]⟩:ByteArray) ++ t20003) ++ (⟨#[10]⟩:ByteArray)) l0_0 (l0_0.length:Int) 0 l0_0 l0_1 a0_2) else(none)) else(none)))=some r:=by rw[if_pos rfl] at H;exact H
  clear H
  have H:=H1
  clear H1
  replace H:=Zh H
  obtain⟨t20003,A40,H⟩:=H
  replace H:(if 8+t20003.size≤9223372036854775807 then(if ((⟨#[104,111,114,105,122,111,110,32]⟩:ByteArray) ++ t20003).size+1≤9223372036854775807 then(ZK.l0 k (((⟨#[104,111,114,105,122,111,110,32]⟩:ByteArray) ++ t20003) ++ (⟨#[10]⟩:ByteArray)) l0_0 (l0_0.length:Int) 0 l0_0 l0_1 a0_2) else(none)) else(none))=some r:=H
  have A4:=Za A40;clear A40
  by_cases c5:8+t20003.size≤9223372036854775807
  ·rw[if_pos c5] at H
   have c5b0:=eq_true c5
   have c5b1:decide (8+t20003.size≤9223372036854775807)=true:=Ze c5
   try have c5b2:(9223372036854775807<8+t20003.size)=False:=eq_false (Nat.not_lt.2 c5)
   by_cases c6:((⟨#[104,111,114,105,122,111,110,32]⟩:ByteArray) ++ t20003).size+1≤9223372036854775807
   ·rw[if_pos c6] at H
    have c6b0:=eq_true c6
    have c6b1:decide (((⟨#[104,111,114,105,122,111,110,32]⟩:ByteArray) ++ t20003).size+1≤9223372036854775807)=true:=Ze c6
    try have c6b2:(9223372036854775807<((⟨#[104,111,114,105,122,111,110,32]⟩:ByteArray) ++ t20003).size+1)=False:=eq_false (Nat.not_lt.2 c6)
    try have c6b4:(9223372036854775807<(8+t20003.size)+1)=False:=eq_false (Nat.not_lt.2 (by have h_:=c6;simp only[ByteArray.size_append] at h_;exact h_))
    have H':=Za H
    clear H
    go_enter Tryd.func20,Tryd.ntmps20
    go_wp2_with (first|((with_reducible refine ZN (N:=1) rfl ?_);refine ZP ?hg (N:=1) ?hd (cs:=#[.slice A0_0 l0_0.length c0_0,.slice A0_1 l0_1.length c0_1,.int .i64 a0_2]) (t:=36) ?hr ?_;(case hd=>rfl);(case hg=>rfl);(case hr=>first|(go_simp;done)|(go_simp;rfl));intro gb20001 hg w7 hbox hb;have BK20001:=Za (hbox);have GW20001:=Za ((by rw[hg];exact(Zy (by repeat(first|(with_reducible first|exact HB.out|apply Zn|apply Zm|apply Zo)|exact HB.out))):w.heap.size≤gb20001));have GE20001:=Za ((by rw[hg];exact(Zy (by repeat(first|(with_reducible first|exact HB.out|apply Zn|apply Zm|apply Zo)|exact HB.out))):w.heap.size≤gb20001));replace HB:=Za (Zx (by repeat(first|(with_reducible first|exact HB.out|apply Zn|apply Zm|apply Zo)|exact HB.out)) hb);clear hb hbox hg;have hcz8_0:w7.cell? ⟨gb20001,0,none⟩=some (.slice A0_0 l0_0.length c0_0):=(Zq BK20001.out 0).trans rfl;have hcz8_1:w7.cell? ⟨gb20001,1,none⟩=some (.slice A0_1 l0_1.length c0_1):=(Zq BK20001.out 1).trans rfl;have hcz8_2:w7.cell? ⟨gb20001,2,none⟩=some (.int .i64 a0_2):=(Zq BK20001.out 2).trans rfl;have hfz8_0:=Zt BK20001.out 0;have hfz8_1:=Zt BK20001.out 1;have hfz8_2:=Zt BK20001.out 2)|((with_reducible refine ZG (f:=43) rfl ?_);refine ZX (some 9) rfl rfl Tryd.func43 (by kernel_rfl) rfl #[.agg #[.slice A0_0 l0_0.length c0_0,.slice A0_1 l0_1.length c0_1,.int .i64 a0_2]] rfl (by(try simp only[List.map_toArray,List.map_cons,List.map_nil]);first|done|rfl|(simp only[Zk,Zj];rfl)) ?_;(with_reducible refine(ZT.calls k _ _ l0_0 _ _ l0_1 a0_2 true _ ?side1 ?side2 ?side3 ?side4 A2.out).mono ?_);(case side1=>repeat(first|exact(Zb HR0_0.out HB.out)|(with_reducible refine Kd.C_alloc ?_ _)|(with_reducible refine Kd.C_drewN ?_ _)|(with_reducible refine Kd.C_drew ?_)));(case side2=>exact HC0_0.out);(case side3=>repeat(first|exact(Zb HR0_1.out HB.out)|(with_reducible refine Kd.C_alloc ?_ _)|(with_reducible refine Kd.C_drewN ?_ _)|(with_reducible refine Kd.C_drew ?_)));(case side4=>exact HC0_1.out);rintro e w9 ⟨rfl,hb⟩;refine⟨_,rfl,?_⟩;replace BK20001:=Za (ZB (g:=gb20001) (o:=.cells #[.slice A0_0 l0_0.length c0_0,.slice A0_1 l0_1.length c0_1,.int .i64 a0_2] 36 (0,0)) (by(with_reducible repeat(first|refine Zu ?_ _|refine Zv ?_|refine Zs ?_ _));exact BK20001.out) hb);replace HB:=Za (Zx (by repeat(first|(with_reducible first|exact HB.out|apply Zn|apply Zm|apply Zo|refine Zr ?_ GE20001.out)|exact HB.out)) hb);(try clear hb);(try clear hb2);(try clear hk);(try clear hi);have hcz10_0:w9.cell? ⟨gb20001,0,none⟩=some (.slice A0_0 l0_0.length c0_0):=(Zq BK20001.out 0).trans rfl;have hcz10_1:w9.cell? ⟨gb20001,1,none⟩=some (.slice A0_1 l0_1.length c0_1):=(Zq BK20001.out 1).trans rfl;have hcz10_2:w9.cell? ⟨gb20001,2,none⟩=some (.int .i64 a0_2):=(Zq BK20001.out 2).trans rfl;have hfz10_0:=Zt BK20001.out 0;have hfz10_1:=Zt BK20001.out 1;have hfz10_2:=Zt BK20001.out 2)|((with_reducible refine ZG (f:=35) rfl ?_);refine ZX (some 13) rfl rfl Tryd.func35 (by kernel_rfl) rfl #[.int .i64 a0_2] rfl (by(try simp only[List.map_toArray,List.map_cons,List.map_nil]);first|done|rfl|(simp only[Zk,Zj];rfl)) ?_;(with_reducible refine(ZF.calls k a0_2 t20003 _ A4.out).mono ?_);rintro e w11 ⟨rfl,hb⟩;refine⟨_,rfl,?_⟩;replace BK20001:=Za (ZB (g:=gb20001) (o:=.cells #[.slice A0_0 l0_0.length c0_0,.slice A0_1 l0_1.length c0_1,.int .i64 a0_2] 36 (0,0)) (by(with_reducible repeat(first|refine Zu ?_ _|refine Zv ?_|refine Zs ?_ _));exact BK20001.out) hb);replace HB:=Za (Zx (by repeat(first|(with_reducible first|exact HB.out|apply Zn|apply Zm|apply Zo|refine Zr ?_ GE20001.out)|exact HB.out)) hb);(try clear hb);(try clear hb2);(try clear hk);(try clear hi);have hcz12_0:w11.cell? ⟨gb20001,0,none⟩=some (.slice A0_0 l0_0.length c0_0):=(Zq BK20001.out 0).trans rfl;have hcz12_1:w11.cell? ⟨gb20001,1,none⟩=some (.slice A0_1 l0_1.length c0_1):=(Zq BK20001.out 1).trans rfl;have hcz12_2:w11.cell? ⟨gb20001,2,none⟩=some (.int .i64 a0_2):=(Zq BK20001.out 2).trans rfl;have hfz12_0:=Zt BK20001.out 0;have hfz12_1:=Zt BK20001.out 1;have hfz12_2:=Zt BK20001.out 2))
    go_loopg [3,19] k (fun kq v3 v19 w'=>∃(x3_1:ByteArray) (x19_1:Int),v3=.string x3_1∧v19=.int .i64 x19_1∧Aside0 (ZK.l0 kq x3_1 l0_0 (l0_0.length:Int) x19_1 l0_0 l0_1 a0_2=some r)∧Aside0 (kq≤k)∧Aside0 (w'.heap[gb20001]? = some (.cells #[(.slice A0_0 l0_0.length c0_0),(.slice A0_1 l0_1.length c0_1),.int .i64 a0_2] 36 (0,0)))∧Aside0 (Below w.heap.size w w'))
    case atStart=>exact⟨(((⟨#[104,111,114,105,122,111,110,32]⟩:ByteArray) ++ t20003) ++ (⟨#[10]⟩:ByteArray)),(0),(by first|rfl|(simp;done)|(simp[*];done)),(by first|rfl|(simp;done)|(simp[*];done)),H',⟨Nat.le_refl _⟩,⟨by(with_reducible repeat(first|refine Zu ?_ _|refine Zv ?_|refine Zs ?_ _));exact BK20001.out⟩,⟨by repeat(first|(with_reducible first|exact HB.out|apply Zn|apply Zm|apply Zo|refine Zr ?_ GE20001.out)|exact HB.out)⟩⟩
    case round=>
     clear H'
     try clear c2
     try clear p2
     try clear c3
     try clear c4
     try clear c5
     try clear c5b0
     try clear c5b1
     try clear c5b2
     try clear c6
     try clear c6b0
     try clear c6b1
     try clear c6b2
     try clear hcz10_0
     try clear hcz10_1
     try clear hcz10_2
     try clear hcz12_0
     try clear hcz12_1
     try clear hcz12_2
     try clear hcz8_0
     try clear hcz8_1
     try clear hcz8_2
     try clear hfz10_0
     try clear hfz10_1
     try clear hfz10_2
     try clear hfz12_0
     try clear hfz12_1
     try clear hfz12_2
     try clear hfz8_0
     try clear hfz8_1
     try clear hfz8_2
     obtain⟨x3_1,x19_1,rfl,rfl,HA,HK1,BK20001,HB⟩:=hrel
     cases gk with
     | zero=>exact absurd HA.out (by simp[ZK.l0])
     | succ k1=>
      have H:=HA.out
      clear HA
      simp only[ZK.l0] at H
      by_cases c13:x19_1<(l0_0.length:Int)
      ·rw[if_pos c13] at H
       have c13b0:decide (x19_1<(l0_0.length:Int))=true:=Ze c13
       clear c13
       by_cases c14:0≤x19_1
       ·rw[if_pos c14] at H
        have c14b0:decide (0≤x19_1)=true:=Ze c14
        clear c14
        by_cases c15:x19_1<(l0_0.length:Int)
        ·rw[if_pos c15] at H
         have c15b0:decide (x19_1<(l0_0.length:Int))=true:=Ze c15
         clear c15
         by_cases c16:x3_1.size+5≤9223372036854775807
         ·rw[if_pos c16] at H
          have c16b0:=eq_true c16
          have c16b1:decide (x3_1.size+5≤9223372036854775807)=true:=Ze c16
          try have c16b2:(9223372036854775807<x3_1.size+5)=False:=eq_false (Nat.not_lt.2 c16)
          by_cases c17:(x3_1 ++ (⟨#[110,111,100,101,32]⟩:ByteArray)).size+((Zp l0_0 x19_1).f0).size≤9223372036854775807
          ·rw[if_pos c17] at H
           have c17b0:=eq_true c17
           have c17b1:decide ((x3_1 ++ (⟨#[110,111,100,101,32]⟩:ByteArray)).size+((Zp l0_0 x19_1).f0).size≤9223372036854775807)=true:=Ze c17
           try have c17b2:(9223372036854775807<(x3_1 ++ (⟨#[110,111,100,101,32]⟩:ByteArray)).size+((Zp l0_0 x19_1).f0).size)=False:=eq_false (Nat.not_lt.2 c17)
           try have c17b4:(9223372036854775807<(x3_1.size+5)+((Zp l0_0 x19_1).f0).size)=False:=eq_false (Nat.not_lt.2 (by have h_:=c17;simp only[ByteArray.size_append] at h_;exact h_))
           by_cases c18:((x3_1 ++ (⟨#[110,111,100,101,32]⟩:ByteArray)) ++ ((Zp l0_0 x19_1).f0)).size+1≤9223372036854775807
           ·rw[if_pos c18] at H
            have c18b0:=eq_true c18
            have c18b1:decide (((x3_1 ++ (⟨#[110,111,100,101,32]⟩:ByteArray)) ++ ((Zp l0_0 x19_1).f0)).size+1≤9223372036854775807)=true:=Ze c18
            try have c18b2:(9223372036854775807<((x3_1 ++ (⟨#[110,111,100,101,32]⟩:ByteArray)) ++ ((Zp l0_0 x19_1).f0)).size+1)=False:=eq_false (Nat.not_lt.2 c18)
            try have c18b4:(9223372036854775807<((x3_1.size+5)+((Zp l0_0 x19_1).f0).size)+1)=False:=eq_false (Nat.not_lt.2 (by have h_:=c18;simp only[ByteArray.size_append] at h_;exact h_))
            replace H:=Zh H
            obtain⟨t20006,A190,H⟩:=H
            replace H:(if (((x3_1 ++ (⟨#[110,111,100,101,32]⟩:ByteArray)) ++ ((Zp l0_0 x19_1).f0)) ++ (⟨#[32]⟩:ByteArray)).size+t20006.size≤9223372036854775807 then(if ((Zp l0_0 x19_1).f2)=0 then(if ((((x3_1 ++ (⟨#[110,111,100,101,32]⟩:ByteArray)) ++ ((Zp l0_0 x19_1).f0)) ++ (⟨#[32]⟩:ByteArray)) ++ t20006).size+1≤9223372036854775807 then(ZK.l0 k1 (((((x3_1 ++ (⟨#[110,111,100,101,32]⟩:ByteArray)) ++ ((Zp l0_0 x19_1).f0)) ++ (⟨#[32]⟩:ByteArray)) ++ t20006) ++ (⟨#[10]⟩:ByteArray)) l0_0 (l0_0.length:Int) (wrap64 (x19_1+1)) l0_0 l0_1 a0_2) else(none)) else(if ((((x3_1 ++ (⟨#[110,111,100,101,32]⟩:ByteArray)) ++ ((Zp l0_0 x19_1).f0)) ++ (⟨#[32]⟩:ByteArray)) ++ t20006).size+7≤9223372036854775807 then((ZF.f k1 ((Zp l0_0 x19_1).f2)).bind fun t20007=>(if (((((x3_1 ++ (⟨#[110,111,100,101,32]⟩:ByteArray)) ++ ((Zp l0_0 x19_1).f0)) ++ (⟨#[32]⟩:ByteArray)) ++ t20006) ++ (⟨#[32,119,97,116,99,104,32]⟩:ByteArray)).size+t20007.size≤9223372036854775807 then(if ((((((x3_1 ++ (⟨#[110,111,100,101,32]⟩:ByteArray)) ++ ((Zp l0_0 x19_1).f0)) ++ (⟨#[32]⟩:ByteArray)) ++ t20006) ++ (⟨#[32,119,97,116,99,104,32]⟩:ByteArray)) ++ t20007).size+1≤9223372036854775807 then(ZK.l0 k1 (((((((x3_1 ++ (⟨#[110,111,100,101,32]⟩:ByteArray)) ++ ((Zp l0_0 x19_1).f0)) ++ (⟨#[32]⟩:ByteArray)) ++ t20006) ++ (⟨#[32,119,97,116,99,104,32]⟩:ByteArray)) ++ t20007) ++ (⟨#[10]⟩:ByteArray)) l0_0 (l0_0.length:Int) (wrap64 (x19_1+1)) l0_0 l0_1 a0_2) else(none)) else(none))) else(none))) else(none))=some r:=H
            have A19:=Za A190;clear A190
            by_cases c20:(((x3_1 ++ (⟨#[110,111,100,101,32]⟩:ByteArray)) ++ ((Zp l0_0 x19_1).f0)) ++ (⟨#[32]⟩:ByteArray)).size+t20006.size≤9223372036854775807
            ·rw[if_pos c20] at H
             have c20b0:=eq_true c20
             have c20b1:decide ((((x3_1 ++ (⟨#[110,111,100,101,32]⟩:ByteArray)) ++ ((Zp l0_0 x19_1).f0)) ++ (⟨#[32]⟩:ByteArray)).size+t20006.size≤9223372036854775807)=true:=Ze c20
             try have c20b2:(9223372036854775807<(((x3_1 ++ (⟨#[110,111,100,101,32]⟩:ByteArray)) ++ ((Zp l0_0 x19_1).f0)) ++ (⟨#[32]⟩:ByteArray)).size+t20006.size)=False:=eq_false (Nat.not_lt.2 c20)
             try have c20b4:(9223372036854775807<(((x3_1.size+5)+((Zp l0_0 x19_1).f0).size)+1)+t20006.size)=False:=eq_false (Nat.not_lt.2 (by have h_:=c20;simp only[ByteArray.size_append] at h_;exact h_))
             by_cases c21:((Zp l0_0 x19_1).f2)=0
             ·rw[if_pos c21] at H
              have c21b0:(((Zp l0_0 x19_1).f2) == 0)=true:=beq_iff_eq.mpr c21
              have c21b1:(((Zp l0_0 x19_1).f2) != 0)=false:=bne_eq_false_iff_eq.mpr c21
              clear c21
              by_cases c22:((((x3_1 ++ (⟨#[110,111,100,101,32]⟩:ByteArray)) ++ ((Zp l0_0 x19_1).f0)) ++ (⟨#[32]⟩:ByteArray)) ++ t20006).size+1≤9223372036854775807
              ·rw[if_pos c22] at H
               have c22b0:=eq_true c22
               have c22b1:decide (((((x3_1 ++ (⟨#[110,111,100,101,32]⟩:ByteArray)) ++ ((Zp l0_0 x19_1).f0)) ++ (⟨#[32]⟩:ByteArray)) ++ t20006).size+1≤9223372036854775807)=true:=Ze c22
               try have c22b2:(9223372036854775807<((((x3_1 ++ (⟨#[110,111,100,101,32]⟩:ByteArray)) ++ ((Zp l0_0 x19_1).f0)) ++ (⟨#[32]⟩:ByteArray)) ++ t20006).size+1)=False:=eq_false (Nat.not_lt.2 c22)
               try have c22b4:(9223372036854775807<((((x3_1.size+5)+((Zp l0_0 x19_1).f0).size)+1)+t20006.size)+1)=False:=eq_false (Nat.not_lt.2 (by have h_:=c22;simp only[ByteArray.size_append] at h_;exact h_))
               have H':=Za H
               clear H
               have p20004:0≤(x19_1:Int):=Zd (by first|(with_reducible assumption)|assumption)
               have q20004:x19_1<(l0_0.length:Int):=Zd (by first|(with_reducible assumption)|assumption)
               obtain⟨ad20004,A20004_1,c20004_1,e20004,hx20004_0,hx20004_1,hx20004_2,hl20004_1,hi20004_1⟩:=Zan HR0_0.out x19_1 p20004 q20004
               cases e20004
               replace hx20004_0:=(HB.out.cell (Zc w _ hx20004_0)).trans hx20004_0
               replace hx20004_1:=(HB.out.cell (Zc w _ hx20004_1)).trans hx20004_1
               replace hx20004_2:=(HB.out.cell (Zc w _ hx20004_2)).trans hx20004_2
               have HR20004_1:=Za hi20004_1;have HC20004_1:=Za hl20004_1;clear hi20004_1 hl20004_1
               replace p20004:=eq_true p20004
               replace q20004:=eq_true q20004
               try go_wp2_with (first|((with_reducible refine ZN (N:=5) rfl ?_);refine ZP ?hg (N:=5) ?hd (cs:=#[.string (⟨#[]⟩:ByteArray),.slice none 0 0,.int .i64 0]) (t:=73) ?hr ?_;(case hd=>rfl);(case hg=>rfl);(case hr=>first|(go_simp;done)|(go_simp;rfl));intro gb20005 hg w23 hbox hb;have BK20005:=Za (hbox);have GW20005:=Za ((by rw[hg];exact(Zy (by repeat(first|(with_reducible first|exact HB.out|apply Zn|apply Zm|apply Zo|refine Zr ?_ GE20001.out)|exact HB.out))):w.heap.size≤gb20005));have GE20005:=Za ((by rw[hg];exact(Zy (by repeat(first|(with_reducible first|exact HB.out|apply Zn|apply Zm|apply Zo|refine Zr ?_ GE20001.out)|exact HB.out))):w.heap.size≤gb20005));have NB20001_20005:=Za ((by rw[hg];exact Nat.ne_of_lt (ZY (g:=gb20001) (o:=.cells #[.slice (some ad20004) l0_0.length c0_0,.slice A0_1 l0_1.length c0_1,.int .i64 a0_2] 36 (0,0)) (by(with_reducible repeat(first|refine Zu ?_ _|refine Zv ?_|refine Zs ?_ _));exact BK20001.out)):gb20001≠gb20005));have NB20005_20001:=Za ((by rw[hg];exact Nat.ne_of_gt (ZY (g:=gb20001) (o:=.cells #[.slice (some ad20004) l0_0.length c0_0,.slice A0_1 l0_1.length c0_1,.int .i64 a0_2] 36 (0,0)) (by(with_reducible repeat(first|refine Zu ?_ _|refine Zv ?_|refine Zs ?_ _));exact BK20001.out)):gb20005≠gb20001));replace BK20001:=Za (ZB (g:=gb20001) (o:=.cells #[.slice (some ad20004) l0_0.length c0_0,.slice A0_1 l0_1.length c0_1,.int .i64 a0_2] 36 (0,0)) (by(with_reducible repeat(first|refine Zu ?_ _|refine Zv ?_|refine Zs ?_ _));exact BK20001.out) hb);replace HB:=Za (Zx (by repeat(first|(with_reducible first|exact HB.out|apply Zn|apply Zm|apply Zo|refine Zr ?_ GE20001.out)|exact HB.out)) hb);clear hb hbox hg;have hnb24:=NB20005_20001.out;have hnc24:=NB20001_20005.out;have hcz25_0:w23.cell? ⟨gb20005,0,none⟩=some (.string (⟨#[]⟩:ByteArray)):=(Zq BK20005.out 0).trans rfl;have hcz25_1:w23.cell? ⟨gb20005,1,none⟩=some (.slice none 0 0):=(Zq BK20005.out 1).trans rfl;have hcz25_2:w23.cell? ⟨gb20005,2,none⟩=some (.int .i64 0):=(Zq BK20005.out 2).trans rfl;have hfz25_0:=Zt BK20005.out 0;have hfz25_1:=Zt BK20005.out 1;have hfz25_2:=Zt BK20005.out 2))
               have n0_:Aside0 ((((w23.setCell ⟨gb20005,0,none⟩ (.string ((Zp l0_0 x19_1).f0))).setCell ⟨gb20005,1,none⟩ (.slice A20004_1 ((Zp l0_0 x19_1).f1).length c20004_1)).setCell ⟨gb20005,2,none⟩ (.int .i64 ((Zp l0_0 x19_1).f2))).heap[gb20001]? = some (.cells #[.slice (some ad20004) l0_0.length c0_0,.slice A0_1 l0_1.length c0_1,.int .i64 a0_2] 36 (0,0))):=⟨by(with_reducible repeat(first|refine Zu ?_ _|refine Zv ?_|refine Zs ?_ _));refine ZV ?_ NB20001_20005.out _;(with_reducible repeat(first|refine Zu ?_ _|refine Zv ?_|refine Zs ?_ _));refine ZV ?_ NB20001_20005.out _;(with_reducible repeat(first|refine Zu ?_ _|refine Zv ?_|refine Zs ?_ _));refine ZV ?_ NB20001_20005.out _;(with_reducible repeat(first|refine Zu ?_ _|refine Zv ?_|refine Zs ?_ _));exact BK20001.out⟩
               have n1_:Aside0 ((((w23.setCell ⟨gb20005,0,none⟩ (.string ((Zp l0_0 x19_1).f0))).setCell ⟨gb20005,1,none⟩ (.slice A20004_1 ((Zp l0_0 x19_1).f1).length c20004_1)).setCell ⟨gb20005,2,none⟩ (.int .i64 ((Zp l0_0 x19_1).f2))).heap[gb20005]? = some (.cells #[.string ((Zp l0_0 x19_1).f0),.slice A20004_1 ((Zp l0_0 x19_1).f1).length c20004_1,.int .i64 ((Zp l0_0 x19_1).f2)] 73 (0,0))):=⟨by(with_reducible repeat(first|refine Zu ?_ _|refine Zv ?_|refine Zs ?_ _));refine Z6 (cs:=#[.string ((Zp l0_0 x19_1).f0),.slice A20004_1 ((Zp l0_0 x19_1).f1).length c20004_1,.int .i64 0]) ?_ 2 _ rfl;(with_reducible repeat(first|refine Zu ?_ _|refine Zv ?_|refine Zs ?_ _));refine Z6 (cs:=#[.string ((Zp l0_0 x19_1).f0),.slice none 0 0,.int .i64 0]) ?_ 1 _ rfl;(with_reducible repeat(first|refine Zu ?_ _|refine Zv ?_|refine Zs ?_ _));refine Z6 (cs:=#[.string (⟨#[]⟩:ByteArray),.slice none 0 0,.int .i64 0]) ?_ 0 _ rfl;(with_reducible repeat(first|refine Zu ?_ _|refine Zv ?_|refine Zs ?_ _));exact BK20005.out⟩
               have n2_:Aside0 (Below w.heap.size w (((w23.setCell ⟨gb20005,0,none⟩ (.string ((Zp l0_0 x19_1).f0))).setCell ⟨gb20005,1,none⟩ (.slice A20004_1 ((Zp l0_0 x19_1).f1).length c20004_1)).setCell ⟨gb20005,2,none⟩ (.int .i64 ((Zp l0_0 x19_1).f2)))):=⟨by repeat(first|(with_reducible first|exact HB.out|apply Zn|apply Zm|apply Zo|refine Zr ?_ GE20001.out|refine Zr ?_ GE20005.out)|exact HB.out)⟩
               (try clear BK20001)
               (try clear BK20005)
               (try clear HB)
               generalize (((w23.setCell ⟨gb20005,0,none⟩ (.string ((Zp l0_0 x19_1).f0))).setCell ⟨gb20005,1,none⟩ (.slice A20004_1 ((Zp l0_0 x19_1).f1).length c20004_1)).setCell ⟨gb20005,2,none⟩ (.int .i64 ((Zp l0_0 x19_1).f2)))=w26 at n0_ n1_ n2_ ⊢
               have BK20001:=n0_;have BK20005:=n1_;have HB:=n2_;clear n0_ n1_ n2_
               replace BK20001:=Za (Zv BK20001.out);replace BK20005:=Za (Zv BK20005.out);replace HB:=Za (Zo HB.out)
               refine Zbq (n:=11) (S:=fun w'=>w'.cell? ⟨gb20005,0,none⟩=some (.string ((Zp l0_0 x19_1).f0))∧w'.cell? ⟨gb20005,1,none⟩=some (.slice A20004_1 ((Zp l0_0 x19_1).f1).length c20004_1)∧w'.cell? ⟨gb20005,2,none⟩=some (.int .i64 ((Zp l0_0 x19_1).f2))) (ds:=[]) #[false,false,false,false,false,false,false,false,false,false,false] (by kernel_rfl) rfl rfl ⟨(Zq BK20005.out 0).trans rfl,(Zq BK20005.out 1).trans rfl,(Zq BK20005.out 2).trans rfl⟩ (fun hHeld=>?_);refine Zbe ZK.tab7 ZK.bits7 (fun HT_ HW_=>?_)
               generalize w26.drew=w27 at BK20001 BK20005 HB hHeld ⊢
               refine ZO (i:=0) (N:=some 23) (v:=?_) (a':=?_) #[true,false,false,false,false,false,false,false,false,false,false] rfl rfl (ZJ HT_.out (by kernel_rfl)) (fun _ _ _ h=>h) (Or.inl ⟨by rfl,?_⟩) ?_ ?_
               rotate_left
               ·intro w'
                go_simp
                with_reducible rfl
               rotate_left
               ·simp only[Act.put,List.setIfInBounds_toArray,List.set_cons_zero,List.set_cons_succ,ZC,ZD]
                rfl
               refine ZO (i:=1) (N:=some 24) (v:=?_) (a':=?_) #[true,true,false,false,false,false,false,false,false,false,false] rfl rfl (ZJ HT_.out (by kernel_rfl)) (fun _ _ _ h=>h) (Or.inl ⟨by rfl,?_⟩) ?_ ?_
               rotate_left
               ·intro w'
                go_simp
                with_reducible rfl
               rotate_left
               ·simp only[Act.put,List.setIfInBounds_toArray,List.set_cons_zero,List.set_cons_succ,ZC,ZD]
                rfl
               refine ZO (i:=2) (N:=some 25) (v:=?_) (a':=?_) #[true,true,true,false,false,false,false,false,false,false,false] rfl rfl (ZJ HT_.out (by kernel_rfl)) (fun _ _ _ h=>h) (Or.inl ⟨by rfl,?_⟩) ?_ ?_
               rotate_left
               ·intro w'
                go_simp
                with_reducible rfl
               rotate_left
               ·simp only[Act.put,List.setIfInBounds_toArray,List.set_cons_zero,List.set_cons_succ,ZC,ZD]
                rfl
               refine ZO (i:=6) (N:=some 29) (v:=?_) (a':=?_) #[true,true,true,false,false,false,true,false,false,false,false] rfl rfl (ZJ HT_.out (by kernel_rfl)) (fun _ _ _ h=>h) (Or.inl ⟨by rfl,?_⟩) ?_ ?_
               rotate_left
               ·intro w'
                go_simp
                with_reducible rfl
               rotate_left
               ·simp only[Act.put,List.setIfInBounds_toArray,List.set_cons_zero,List.set_cons_succ,ZC,ZD]
                rfl
               refine take_ (i:=3) (N:=some 26) (v:=?_) (a':=?_) #[true,true,true,true,false,false,true,false,false,false,false] rfl rfl (Z3 HT_.out HW_.out (by kernel_rfl)) (fun _ _ _ h=>h) (Or.inl ⟨by rfl,?_⟩) hHeld ?_ ?_
               rotate_left
               ·rintro w' ⟨s0,s1,s2⟩
                go_simp
                with_reducible rfl
               rotate_left
               ·simp only[Act.put,List.setIfInBounds_toArray,List.set_cons_zero,List.set_cons_succ,ZC,ZD]
                rfl
               refine ZO (i:=4) (N:=some 27) (v:=?_) (a':=?_) #[true,true,true,true,true,false,true,false,false,false,false] rfl rfl (ZJ HT_.out (by kernel_rfl)) (fun _ _ _ h=>h) (Or.inl ⟨by rfl,?_⟩) ?_ ?_
               rotate_left
               ·intro w'
                go_simp
                with_reducible rfl
               rotate_left
               ·simp only[Act.put,List.setIfInBounds_toArray,List.set_cons_zero,List.set_cons_succ,ZC,ZD]
                rfl
               refine ZO (i:=5) (N:=some 28) (v:=?_) (a':=?_) #[true,true,true,true,true,true,true,false,false,false,false] rfl rfl (ZJ HT_.out (by kernel_rfl)) (fun _ _ _ h=>h) (Or.inl ⟨by rfl,?_⟩) ?_ ?_
               rotate_left
               ·intro w'
                go_simp
                with_reducible rfl
               rotate_left
               ·simp only[Act.put,List.setIfInBounds_toArray,List.set_cons_zero,List.set_cons_succ,ZC,ZD]
                rfl
               refine take_ (i:=7) (N:=some 30) (v:=?_) (a':=?_) #[true,true,true,true,true,true,true,true,false,false,false] rfl rfl (Z3 HT_.out HW_.out (by kernel_rfl)) (fun _ _ _ h=>h) (Or.inl ⟨by rfl,?_⟩) hHeld ?_ ?_
               rotate_left
               ·rintro w' ⟨s0,s1,s2⟩
                go_simp
                with_reducible rfl
               rotate_left
               ·simp only[Act.put,List.setIfInBounds_toArray,List.set_cons_zero,List.set_cons_succ,ZC,ZD]
                rfl
               refine one_ (i:=8) (N:=some 31) #[true,true,true,true,true,true,true,true,true,false,false] rfl rfl (ZaR HT_.out (by kernel_rfl)) (by decide) (fun K hK=>?_)
               refine ZaX Tryd.func9 (by kernel_rfl) rfl #[.slice A20004_1 ((Zp l0_0 x19_1).f1).length c20004_1] (by rfl) rfl rfl (by(try simp only[List.map_toArray,List.map_cons,List.map_nil]);first|done|rfl|(simp only[Zk,Zj];rfl)) ?_
               with_reducible refine(ZZ.calls k1 _ _ ((Zp l0_0 x19_1).f1) t20006 _ ?side1 ?side2 A19.out).mono ?_
               (case side1=>repeat(first|exact(Zb HR20004_1.out HB.out)|(with_reducible refine Kd.C_alloc ?_ _)|(with_reducible refine Kd.C_drewN ?_ _)|(with_reducible refine Kd.C_drew ?_)))
               (case side2=>exact HC20004_1.out)
               rintro e w28 ⟨rfl,hb⟩
               refine⟨_,rfl,?_⟩
               replace BK20001:=Za (ZB (g:=gb20001) (o:=.cells #[.slice (some ad20004) l0_0.length c0_0,.slice A0_1 l0_1.length c0_1,.int .i64 a0_2] 36 (0,0)) (by(with_reducible repeat(first|refine Zu ?_ _|refine Zv ?_|refine Zs ?_ _));exact BK20001.out) hb);replace BK20005:=Za (ZB (g:=gb20005) (o:=.cells #[.string ((Zp l0_0 x19_1).f0),.slice A20004_1 ((Zp l0_0 x19_1).f1).length c20004_1,.int .i64 ((Zp l0_0 x19_1).f2)] 73 (0,0)) (by(with_reducible repeat(first|refine Zu ?_ _|refine Zv ?_|refine Zs ?_ _));exact BK20005.out) hb);replace HB:=Za (Zx (by repeat(first|(with_reducible first|exact HB.out|apply Zn|apply Zm|apply Zo|refine Zr ?_ GE20001.out|refine Zr ?_ GE20005.out)|exact HB.out)) hb)
               (try clear hb)
               (try clear hb2)
               (try clear hk)
               (try clear hi)
               refine hK.out _ _ ⟨(Zq BK20005.out 0).trans rfl,(Zq BK20005.out 1).trans rfl,(Zq BK20005.out 2).trans rfl⟩ (fun hHeld=>?_)
               clear hK K
               refine ZaE (a':=?_) ?_ ?_
               rotate_left
               ·show Act.put _ (some 31) _=_
                simp only[Act.put,List.setIfInBounds_toArray,List.set_cons_zero,List.set_cons_succ,ZC,ZD]
                rfl
               refine ZO (i:=9) (N:=some 32) (v:=?_) (a':=?_) #[true,true,true,true,true,true,true,true,true,true,false] rfl rfl (ZJ HT_.out (by kernel_rfl)) (fun _ _ _ h=>h) (Or.inl ⟨by rfl,?_⟩) ?_ ?_
               rotate_left
               ·intro w'
                go_simp
                with_reducible rfl
               rotate_left
               ·simp only[Act.put,List.setIfInBounds_toArray,List.set_cons_zero,List.set_cons_succ,ZC,ZD]
                rfl
               refine ZO (i:=10) (N:=some 3) (v:=?_) (a':=?_) #[true,true,true,true,true,true,true,true,true,true,true] rfl rfl (ZJ HT_.out (by kernel_rfl)) (fun _ _ _ h=>h) (Or.inl ⟨by rfl,?_⟩) ?_ ?_
               rotate_left
               ·intro w'
                go_simp
                with_reducible rfl
               rotate_left
               ·simp only[Act.put,List.setIfInBounds_toArray,List.set_cons_zero,List.set_cons_succ,ZC,ZD]
                rfl
               refine ZbJ (ZbA HT_.out (by kernel_rfl)) ?_
               have hcz29_0:w28.cell? ⟨gb20005,0,none⟩=some (.string ((Zp l0_0 x19_1).f0)):=(Zq BK20005.out 0).trans rfl
               have hcz29_1:w28.cell? ⟨gb20005,1,none⟩=some (.slice A20004_1 ((Zp l0_0 x19_1).f1).length c20004_1):=(Zq BK20005.out 1).trans rfl
               have hcz29_2:w28.cell? ⟨gb20005,2,none⟩=some (.int .i64 ((Zp l0_0 x19_1).f2)):=(Zq BK20005.out 2).trans rfl
               have hfz29_0:=Zt BK20005.out 0
               have hfz29_1:=Zt BK20005.out 1
               have hfz29_2:=Zt BK20005.out 2
               try go_wp2
               go_roundg k1
               case measure=>have:=HK1.out;omega
               case rel=>exact⟨(((((x3_1 ++ (⟨#[110,111,100,101,32]⟩:ByteArray)) ++ ((Zp l0_0 x19_1).f0)) ++ (⟨#[32]⟩:ByteArray)) ++ t20006) ++ (⟨#[10]⟩:ByteArray)),(wrap64 (x19_1+1)),(by first|rfl|(simp;done)|(simp[*];done)),(by first|rfl|(simp;done)|(simp[*];done)),H',⟨by have:=HK1.out;omega⟩,⟨by(with_reducible repeat(first|refine Zu ?_ _|refine Zv ?_|refine Zs ?_ _));exact BK20001.out⟩,⟨by repeat(first|(with_reducible first|exact HB.out|apply Zn|apply Zm|apply Zo|refine Zr ?_ GE20001.out|refine Zr ?_ GE20005.out)|exact HB.out)⟩⟩
              ·rw[if_neg c22] at H
               exact absurd H (by simp)
             ·rw[if_neg c21] at H
              have c21b0:(((Zp l0_0 x19_1).f2) == 0)=false:=beq_eq_false_iff_ne.mpr c21
              have c21b1:(((Zp l0_0 x19_1).f2) != 0)=true:=bne_iff_ne.mpr c21
              by_cases c30:((((x3_1 ++ (⟨#[110,111,100,101,32]⟩:ByteArray)) ++ ((Zp l0_0 x19_1).f0)) ++ (⟨#[32]⟩:ByteArray)) ++ t20006).size+7≤9223372036854775807
              ·rw[if_pos c30] at H
               have c30b0:=eq_true c30
               have c30b1:decide (((((x3_1 ++ (⟨#[110,111,100,101,32]⟩:ByteArray)) ++ ((Zp l0_0 x19_1).f0)) ++ (⟨#[32]⟩:ByteArray)) ++ t20006).size+7≤9223372036854775807)=true:=Ze c30
               try have c30b2:(9223372036854775807<((((x3_1 ++ (⟨#[110,111,100,101,32]⟩:ByteArray)) ++ ((Zp l0_0 x19_1).f0)) ++ (⟨#[32]⟩:ByteArray)) ++ t20006).size+7)=False:=eq_false (Nat.not_lt.2 c30)
               try have c30b4:(9223372036854775807<((((x3_1.size+5)+((Zp l0_0 x19_1).f0).size)+1)+t20006.size)+7)=False:=eq_false (Nat.not_lt.2 (by have h_:=c30;simp only[ByteArray.size_append] at h_;exact h_))
               replace H:=Zh H
               obtain⟨t20007,A310,H⟩:=H
               replace H:(if (((((x3_1 ++ (⟨#[110,111,100,101,32]⟩:ByteArray)) ++ ((Zp l0_0 x19_1).f0)) ++ (⟨#[32]⟩:ByteArray)) ++ t20006) ++ (⟨#[32,119,97,116,99,104,32]⟩:ByteArray)).size+t20007.size≤9223372036854775807 then(if ((((((x3_1 ++ (⟨#[110,111,100,101,32]⟩:ByteArray)) ++ ((Zp l0_0 x19_1).f0)) ++ (⟨#[32]⟩:ByteArray)) ++ t20006) ++ (⟨#[32,119,97,116,99,104,32]⟩:ByteArray)) ++ t20007).size+1≤9223372036854775807 then(ZK.l0 k1 (((((((x3_1 ++ (⟨#[110,111,100,101,32]⟩:ByteArray)) ++ ((Zp l0_0 x19_1).f0)) ++ (⟨#[32]⟩:ByteArray)) ++ t20006) ++ (⟨#[32,119,97,116,99,104,32]⟩:ByteArray)) ++ t20007) ++ (⟨#[10]⟩:ByteArray)) l0_0 (l0_0.length:Int) (wrap64 (x19_1+1)) l0_0 l0_1 a0_2) else(none)) else(none))=some r:=H
               have A31:=Za A310;clear A310
               by_cases c32:(((((x3_1 ++ (⟨#[110,111,100,101,32]⟩:ByteArray)) ++ ((Zp l0_0 x19_1).f0)) ++ (⟨#[32]⟩:ByteArray)) ++ t20006) ++ (⟨#[32,119,97,116,99,104,32]⟩:ByteArray)).size+t20007.size≤9223372036854775807
               ·rw[if_pos c32] at H
                have c32b0:=eq_true c32
                have c32b1:decide ((((((x3_1 ++ (⟨#[110,111,100,101,32]⟩:ByteArray)) ++ ((Zp l0_0 x19_1).f0)) ++ (⟨#[32]⟩:ByteArray)) ++ t20006) ++ (⟨#[32,119,97,116,99,104,32]⟩:ByteArray)).size+t20007.size≤9223372036854775807)=true:=Ze c32
                try have c32b2:(9223372036854775807<(((((x3_1 ++ (⟨#[110,111,100,101,32]⟩:ByteArray)) ++ ((Zp l0_0 x19_1).f0)) ++ (⟨#[32]⟩:ByteArray)) ++ t20006) ++ (⟨#[32,119,97,116,99,104,32]⟩:ByteArray)).size+t20007.size)=False:=eq_false (Nat.not_lt.2 c32)
                try have c32b4:(9223372036854775807<(((((x3_1.size+5)+((Zp l0_0 x19_1).f0).size)+1)+t20006.size)+7)+t20007.size)=False:=eq_false (Nat.not_lt.2 (by have h_:=c32;simp only[ByteArray.size_append] at h_;exact h_))
                by_cases c33:((((((x3_1 ++ (⟨#[110,111,100,101,32]⟩:ByteArray)) ++ ((Zp l0_0 x19_1).f0)) ++ (⟨#[32]⟩:ByteArray)) ++ t20006) ++ (⟨#[32,119,97,116,99,104,32]⟩:ByteArray)) ++ t20007).size+1≤9223372036854775807
                ·rw[if_pos c33] at H
                 have c33b0:=eq_true c33
                 have c33b1:decide (((((((x3_1 ++ (⟨#[110,111,100,101,32]⟩:ByteArray)) ++ ((Zp l0_0 x19_1).f0)) ++ (⟨#[32]⟩:ByteArray)) ++ t20006) ++ (⟨#[32,119,97,116,99,104,32]⟩:ByteArray)) ++ t20007).size+1≤9223372036854775807)=true:=Ze c33
                 try have c33b2:(9223372036854775807<((((((x3_1 ++ (⟨#[110,111,100,101,32]⟩:ByteArray)) ++ ((Zp l0_0 x19_1).f0)) ++ (⟨#[32]⟩:ByteArray)) ++ t20006) ++ (⟨#[32,119,97,116,99,104,32]⟩:ByteArray)) ++ t20007).size+1)=False:=eq_false (Nat.not_lt.2 c33)
                 try have c33b4:(9223372036854775807<((((((x3_1.size+5)+((Zp l0_0 x19_1).f0).size)+1)+t20006.size)+7)+t20007.size)+1)=False:=eq_false (Nat.not_lt.2 (by have h_:=c33;simp only[ByteArray.size_append] at h_;exact h_))
                 have H':=Za H
                 clear H
                 have p20004:0≤(x19_1:Int):=Zd (by first|(with_reducible assumption)|assumption)
                 have q20004:x19_1<(l0_0.length:Int):=Zd (by first|(with_reducible assumption)|assumption)
                 obtain⟨ad20004,A20004_1,c20004_1,e20004,hx20004_0,hx20004_1,hx20004_2,hl20004_1,hi20004_1⟩:=Zan HR0_0.out x19_1 p20004 q20004
                 cases e20004
                 replace hx20004_0:=(HB.out.cell (Zc w _ hx20004_0)).trans hx20004_0
                 replace hx20004_1:=(HB.out.cell (Zc w _ hx20004_1)).trans hx20004_1
                 replace hx20004_2:=(HB.out.cell (Zc w _ hx20004_2)).trans hx20004_2
                 have HR20004_1:=Za hi20004_1;have HC20004_1:=Za hl20004_1;clear hi20004_1 hl20004_1
                 replace p20004:=eq_true p20004
                 replace q20004:=eq_true q20004
                 try go_wp2_with (first|((with_reducible refine ZN (N:=5) rfl ?_);refine ZP ?hg (N:=5) ?hd (cs:=#[.string (⟨#[]⟩:ByteArray),.slice none 0 0,.int .i64 0]) (t:=73) ?hr ?_;(case hd=>rfl);(case hg=>rfl);(case hr=>first|(go_simp;done)|(go_simp;rfl));intro gb20005 hg w34 hbox hb;have BK20005:=Za (hbox);have GW20005:=Za ((by rw[hg];exact(Zy (by repeat(first|(with_reducible first|exact HB.out|apply Zn|apply Zm|apply Zo|refine Zr ?_ GE20001.out)|exact HB.out))):w.heap.size≤gb20005));have GE20005:=Za ((by rw[hg];exact(Zy (by repeat(first|(with_reducible first|exact HB.out|apply Zn|apply Zm|apply Zo|refine Zr ?_ GE20001.out)|exact HB.out))):w.heap.size≤gb20005));have NB20001_20005:=Za ((by rw[hg];exact Nat.ne_of_lt (ZY (g:=gb20001) (o:=.cells #[.slice (some ad20004) l0_0.length c0_0,.slice A0_1 l0_1.length c0_1,.int .i64 a0_2] 36 (0,0)) (by(with_reducible repeat(first|refine Zu ?_ _|refine Zv ?_|refine Zs ?_ _));exact BK20001.out)):gb20001≠gb20005));have NB20005_20001:=Za ((by rw[hg];exact Nat.ne_of_gt (ZY (g:=gb20001) (o:=.cells #[.slice (some ad20004) l0_0.length c0_0,.slice A0_1 l0_1.length c0_1,.int .i64 a0_2] 36 (0,0)) (by(with_reducible repeat(first|refine Zu ?_ _|refine Zv ?_|refine Zs ?_ _));exact BK20001.out)):gb20005≠gb20001));replace BK20001:=Za (ZB (g:=gb20001) (o:=.cells #[.slice (some ad20004) l0_0.length c0_0,.slice A0_1 l0_1.length c0_1,.int .i64 a0_2] 36 (0,0)) (by(with_reducible repeat(first|refine Zu ?_ _|refine Zv ?_|refine Zs ?_ _));exact BK20001.out) hb);replace HB:=Za (Zx (by repeat(first|(with_reducible first|exact HB.out|apply Zn|apply Zm|apply Zo|refine Zr ?_ GE20001.out)|exact HB.out)) hb);clear hb hbox hg;have hnb35:=NB20005_20001.out;have hnc35:=NB20001_20005.out;have hcz36_0:w34.cell? ⟨gb20005,0,none⟩=some (.string (⟨#[]⟩:ByteArray)):=(Zq BK20005.out 0).trans rfl;have hcz36_1:w34.cell? ⟨gb20005,1,none⟩=some (.slice none 0 0):=(Zq BK20005.out 1).trans rfl;have hcz36_2:w34.cell? ⟨gb20005,2,none⟩=some (.int .i64 0):=(Zq BK20005.out 2).trans rfl;have hfz36_0:=Zt BK20005.out 0;have hfz36_1:=Zt BK20005.out 1;have hfz36_2:=Zt BK20005.out 2))
                 have n0_:Aside0 ((((w34.setCell ⟨gb20005,0,none⟩ (.string ((Zp l0_0 x19_1).f0))).setCell ⟨gb20005,1,none⟩ (.slice A20004_1 ((Zp l0_0 x19_1).f1).length c20004_1)).setCell ⟨gb20005,2,none⟩ (.int .i64 ((Zp l0_0 x19_1).f2))).heap[gb20001]? = some (.cells #[.slice (some ad20004) l0_0.length c0_0,.slice A0_1 l0_1.length c0_1,.int .i64 a0_2] 36 (0,0))):=⟨by(with_reducible repeat(first|refine Zu ?_ _|refine Zv ?_|refine Zs ?_ _));refine ZV ?_ NB20001_20005.out _;(with_reducible repeat(first|refine Zu ?_ _|refine Zv ?_|refine Zs ?_ _));refine ZV ?_ NB20001_20005.out _;(with_reducible repeat(first|refine Zu ?_ _|refine Zv ?_|refine Zs ?_ _));refine ZV ?_ NB20001_20005.out _;(with_reducible repeat(first|refine Zu ?_ _|refine Zv ?_|refine Zs ?_ _));exact BK20001.out⟩
                 have n1_:Aside0 ((((w34.setCell ⟨gb20005,0,none⟩ (.string ((Zp l0_0 x19_1).f0))).setCell ⟨gb20005,1,none⟩ (.slice A20004_1 ((Zp l0_0 x19_1).f1).length c20004_1)).setCell ⟨gb20005,2,none⟩ (.int .i64 ((Zp l0_0 x19_1).f2))).heap[gb20005]? = some (.cells #[.string ((Zp l0_0 x19_1).f0),.slice A20004_1 ((Zp l0_0 x19_1).f1).length c20004_1,.int .i64 ((Zp l0_0 x19_1).f2)] 73 (0,0))):=⟨by(with_reducible repeat(first|refine Zu ?_ _|refine Zv ?_|refine Zs ?_ _));refine Z6 (cs:=#[.string ((Zp l0_0 x19_1).f0),.slice A20004_1 ((Zp l0_0 x19_1).f1).length c20004_1,.int .i64 0]) ?_ 2 _ rfl;(with_reducible repeat(first|refine Zu ?_ _|refine Zv ?_|refine Zs ?_ _));refine Z6 (cs:=#[.string ((Zp l0_0 x19_1).f0),.slice none 0 0,.int .i64 0]) ?_ 1 _ rfl;(with_reducible repeat(first|refine Zu ?_ _|refine Zv ?_|refine Zs ?_ _));refine Z6 (cs:=#[.string (⟨#[]⟩:ByteArray),.slice none 0 0,.int .i64 0]) ?_ 0 _ rfl;(with_reducible repeat(first|refine Zu ?_ _|refine Zv ?_|refine Zs ?_ _));exact BK20005.out⟩
                 have n2_:Aside0 (Below w.heap.size w (((w34.setCell ⟨gb20005,0,none⟩ (.string ((Zp l0_0 x19_1).f0))).setCell ⟨gb20005,1,none⟩ (.slice A20004_1 ((Zp l0_0 x19_1).f1).length c20004_1)).setCell ⟨gb20005,2,none⟩ (.int .i64 ((Zp l0_0 x19_1).f2)))):=⟨by repeat(first|(with_reducible first|exact HB.out|apply Zn|apply Zm|apply Zo|refine Zr ?_ GE20001.out|refine Zr ?_ GE20005.out)|exact HB.out)⟩
                 (try clear BK20001)
                 (try clear BK20005)
                 (try clear HB)
                 generalize (((w34.setCell ⟨gb20005,0,none⟩ (.string ((Zp l0_0 x19_1).f0))).setCell ⟨gb20005,1,none⟩ (.slice A20004_1 ((Zp l0_0 x19_1).f1).length c20004_1)).setCell ⟨gb20005,2,none⟩ (.int .i64 ((Zp l0_0 x19_1).f2)))=w37 at n0_ n1_ n2_ ⊢
                 have BK20001:=n0_;have BK20005:=n1_;have HB:=n2_;clear n0_ n1_ n2_
                 replace BK20001:=Za (Zv BK20001.out);replace BK20005:=Za (Zv BK20005.out);replace HB:=Za (Zo HB.out)
                 refine Zbq (n:=11) (S:=fun w'=>w'.cell? ⟨gb20005,0,none⟩=some (.string ((Zp l0_0 x19_1).f0))∧w'.cell? ⟨gb20005,1,none⟩=some (.slice A20004_1 ((Zp l0_0 x19_1).f1).length c20004_1)∧w'.cell? ⟨gb20005,2,none⟩=some (.int .i64 ((Zp l0_0 x19_1).f2))) (ds:=[]) #[false,false,false,false,false,false,false,false,false,false,false] (by kernel_rfl) rfl rfl ⟨(Zq BK20005.out 0).trans rfl,(Zq BK20005.out 1).trans rfl,(Zq BK20005.out 2).trans rfl⟩ (fun hHeld=>?_);refine Zbe ZK.tab7 ZK.bits7 (fun HT_ HW_=>?_)
                 generalize w37.drew=w38 at BK20001 BK20005 HB hHeld ⊢
                 refine ZO (i:=0) (N:=some 23) (v:=?_) (a':=?_) #[true,false,false,false,false,false,false,false,false,false,false] rfl rfl (ZJ HT_.out (by kernel_rfl)) (fun _ _ _ h=>h) (Or.inl ⟨by rfl,?_⟩) ?_ ?_
                 rotate_left
                 ·intro w'
                  go_simp
                  with_reducible rfl
                 rotate_left
                 ·simp only[Act.put,List.setIfInBounds_toArray,List.set_cons_zero,List.set_cons_succ,ZC,ZD]
                  rfl
                 refine ZO (i:=1) (N:=some 24) (v:=?_) (a':=?_) #[true,true,false,false,false,false,false,false,false,false,false] rfl rfl (ZJ HT_.out (by kernel_rfl)) (fun _ _ _ h=>h) (Or.inl ⟨by rfl,?_⟩) ?_ ?_
                 rotate_left
                 ·intro w'
                  go_simp
                  with_reducible rfl
                 rotate_left
                 ·simp only[Act.put,List.setIfInBounds_toArray,List.set_cons_zero,List.set_cons_succ,ZC,ZD]
                  rfl
                 refine ZO (i:=2) (N:=some 25) (v:=?_) (a':=?_) #[true,true,true,false,false,false,false,false,false,false,false] rfl rfl (ZJ HT_.out (by kernel_rfl)) (fun _ _ _ h=>h) (Or.inl ⟨by rfl,?_⟩) ?_ ?_
                 rotate_left
                 ·intro w'
                  go_simp
                  with_reducible rfl
                 rotate_left
                 ·simp only[Act.put,List.setIfInBounds_toArray,List.set_cons_zero,List.set_cons_succ,ZC,ZD]
                  rfl
                 refine ZO (i:=6) (N:=some 29) (v:=?_) (a':=?_) #[true,true,true,false,false,false,true,false,false,false,false] rfl rfl (ZJ HT_.out (by kernel_rfl)) (fun _ _ _ h=>h) (Or.inl ⟨by rfl,?_⟩) ?_ ?_
                 rotate_left
                 ·intro w'
                  go_simp
                  with_reducible rfl
                 rotate_left
                 ·simp only[Act.put,List.setIfInBounds_toArray,List.set_cons_zero,List.set_cons_succ,ZC,ZD]
                  rfl
                 refine take_ (i:=3) (N:=some 26) (v:=?_) (a':=?_) #[true,true,true,true,false,false,true,false,false,false,false] rfl rfl (Z3 HT_.out HW_.out (by kernel_rfl)) (fun _ _ _ h=>h) (Or.inl ⟨by rfl,?_⟩) hHeld ?_ ?_
                 rotate_left
                 ·rintro w' ⟨s0,s1,s2⟩
                  go_simp
                  with_reducible rfl
                 rotate_left
                 ·simp only[Act.put,List.setIfInBounds_toArray,List.set_cons_zero,List.set_cons_succ,ZC,ZD]
                  rfl
                 refine ZO (i:=4) (N:=some 27) (v:=?_) (a':=?_) #[true,true,true,true,true,false,true,false,false,false,false] rfl rfl (ZJ HT_.out (by kernel_rfl)) (fun _ _ _ h=>h) (Or.inl ⟨by rfl,?_⟩) ?_ ?_
                 rotate_left
                 ·intro w'
                  go_simp
                  with_reducible rfl
                 rotate_left
                 ·simp only[Act.put,List.setIfInBounds_toArray,List.set_cons_zero,List.set_cons_succ,ZC,ZD]
                  rfl
                 refine ZO (i:=5) (N:=some 28) (v:=?_) (a':=?_) #[true,true,true,true,true,true,true,false,false,false,false] rfl rfl (ZJ HT_.out (by kernel_rfl)) (fun _ _ _ h=>h) (Or.inl ⟨by rfl,?_⟩) ?_ ?_
                 rotate_left
                 ·intro w'
                  go_simp
                  with_reducible rfl
                 rotate_left
                 ·simp only[Act.put,List.setIfInBounds_toArray,List.set_cons_zero,List.set_cons_succ,ZC,ZD]
                  rfl
                 refine take_ (i:=7) (N:=some 30) (v:=?_) (a':=?_) #[true,true,true,true,true,true,true,true,false,false,false] rfl rfl (Z3 HT_.out HW_.out (by kernel_rfl)) (fun _ _ _ h=>h) (Or.inl ⟨by rfl,?_⟩) hHeld ?_ ?_
                 rotate_left
                 ·rintro w' ⟨s0,s1,s2⟩
                  go_simp
                  with_reducible rfl
                 rotate_left
                 ·simp only[Act.put,List.setIfInBounds_toArray,List.set_cons_zero,List.set_cons_succ,ZC,ZD]
                  rfl
                 refine one_ (i:=8) (N:=some 31) #[true,true,true,true,true,true,true,true,true,false,false] rfl rfl (ZaR HT_.out (by kernel_rfl)) (by decide) (fun K hK=>?_)
                 refine ZaX Tryd.func9 (by kernel_rfl) rfl #[.slice A20004_1 ((Zp l0_0 x19_1).f1).length c20004_1] (by rfl) rfl rfl (by(try simp only[List.map_toArray,List.map_cons,List.map_nil]);first|done|rfl|(simp only[Zk,Zj];rfl)) ?_
                 with_reducible refine(ZZ.calls k1 _ _ ((Zp l0_0 x19_1).f1) t20006 _ ?side1 ?side2 A19.out).mono ?_
                 (case side1=>repeat(first|exact(Zb HR20004_1.out HB.out)|(with_reducible refine Kd.C_alloc ?_ _)|(with_reducible refine Kd.C_drewN ?_ _)|(with_reducible refine Kd.C_drew ?_)))
                 (case side2=>exact HC20004_1.out)
                 rintro e w39 ⟨rfl,hb⟩
                 refine⟨_,rfl,?_⟩
                 replace BK20001:=Za (ZB (g:=gb20001) (o:=.cells #[.slice (some ad20004) l0_0.length c0_0,.slice A0_1 l0_1.length c0_1,.int .i64 a0_2] 36 (0,0)) (by(with_reducible repeat(first|refine Zu ?_ _|refine Zv ?_|refine Zs ?_ _));exact BK20001.out) hb);replace BK20005:=Za (ZB (g:=gb20005) (o:=.cells #[.string ((Zp l0_0 x19_1).f0),.slice A20004_1 ((Zp l0_0 x19_1).f1).length c20004_1,.int .i64 ((Zp l0_0 x19_1).f2)] 73 (0,0)) (by(with_reducible repeat(first|refine Zu ?_ _|refine Zv ?_|refine Zs ?_ _));exact BK20005.out) hb);replace HB:=Za (Zx (by repeat(first|(with_reducible first|exact HB.out|apply Zn|apply Zm|apply Zo|refine Zr ?_ GE20001.out|refine Zr ?_ GE20005.out)|exact HB.out)) hb)
                 (try clear hb)
                 (try clear hb2)
                 (try clear hk)
                 (try clear hi)
                 refine hK.out _ _ ⟨(Zq BK20005.out 0).trans rfl,(Zq BK20005.out 1).trans rfl,(Zq BK20005.out 2).trans rfl⟩ (fun hHeld=>?_)
                 clear hK K
                 refine ZaE (a':=?_) ?_ ?_
                 rotate_left
                 ·show Act.put _ (some 31) _=_
                  simp only[Act.put,List.setIfInBounds_toArray,List.set_cons_zero,List.set_cons_succ,ZC,ZD]
                  rfl
                 refine ZO (i:=9) (N:=some 32) (v:=?_) (a':=?_) #[true,true,true,true,true,true,true,true,true,true,false] rfl rfl (ZJ HT_.out (by kernel_rfl)) (fun _ _ _ h=>h) (Or.inl ⟨by rfl,?_⟩) ?_ ?_
                 rotate_left
                 ·intro w'
                  go_simp
                  with_reducible rfl
                 rotate_left
                 ·simp only[Act.put,List.setIfInBounds_toArray,List.set_cons_zero,List.set_cons_succ,ZC,ZD]
                  rfl
                 refine ZO (i:=10) (N:=some 3) (v:=?_) (a':=?_) #[true,true,true,true,true,true,true,true,true,true,true] rfl rfl (ZJ HT_.out (by kernel_rfl)) (fun _ _ _ h=>h) (Or.inl ⟨by rfl,?_⟩) ?_ ?_
                 rotate_left
                 ·intro w'
                  go_simp
                  with_reducible rfl
                 rotate_left
                 ·simp only[Act.put,List.setIfInBounds_toArray,List.set_cons_zero,List.set_cons_succ,ZC,ZD]
                  rfl
                 refine ZbJ (ZbA HT_.out (by kernel_rfl)) ?_
                 have hcz40_0:w39.cell? ⟨gb20005,0,none⟩=some (.string ((Zp l0_0 x19_1).f0)):=(Zq BK20005.out 0).trans rfl
                 have hcz40_1:w39.cell? ⟨gb20005,1,none⟩=some (.slice A20004_1 ((Zp l0_0 x19_1).f1).length c20004_1):=(Zq BK20005.out 1).trans rfl
                 have hcz40_2:w39.cell? ⟨gb20005,2,none⟩=some (.int .i64 ((Zp l0_0 x19_1).f2)):=(Zq BK20005.out 2).trans rfl
                 have hfz40_0:=Zt BK20005.out 0
                 have hfz40_1:=Zt BK20005.out 1
                 have hfz40_2:=Zt BK20005.out 2
                 try go_wp2_with (first|((with_reducible refine ZG (f:=35) rfl ?_);refine ZX (some 40) rfl rfl Tryd.func35 (by kernel_rfl) rfl #[.int .i64 ((Zp l0_0 x19_1).f2)] rfl (by(try simp only[List.map_toArray,List.map_cons,List.map_nil]);first|done|rfl|(simp only[Zk,Zj];rfl)) ?_;(with_reducible refine(ZF.calls k1 ((Zp l0_0 x19_1).f2) t20007 _ A31.out).mono ?_);rintro e w41 ⟨rfl,hb⟩;refine⟨_,rfl,?_⟩;replace BK20001:=Za (ZB (g:=gb20001) (o:=.cells #[.slice (some ad20004) l0_0.length c0_0,.slice A0_1 l0_1.length c0_1,.int .i64 a0_2] 36 (0,0)) (by(with_reducible repeat(first|refine Zu ?_ _|refine Zv ?_|refine Zs ?_ _));exact BK20001.out) hb);replace BK20005:=Za (ZB (g:=gb20005) (o:=.cells #[.string ((Zp l0_0 x19_1).f0),.slice A20004_1 ((Zp l0_0 x19_1).f1).length c20004_1,.int .i64 ((Zp l0_0 x19_1).f2)] 73 (0,0)) (by(with_reducible repeat(first|refine Zu ?_ _|refine Zv ?_|refine Zs ?_ _));exact BK20005.out) hb);replace HB:=Za (Zx (by repeat(first|(with_reducible first|exact HB.out|apply Zn|apply Zm|apply Zo|refine Zr ?_ GE20001.out|refine Zr ?_ GE20005.out)|exact HB.out)) hb);(try clear hb);(try clear hb2);(try clear hk);(try clear hi)))
                 go_roundg k1
                 case measure=>have:=HK1.out;omega
                 case rel=>exact⟨(((((((x3_1 ++ (⟨#[110,111,100,101,32]⟩:ByteArray)) ++ ((Zp l0_0 x19_1).f0)) ++ (⟨#[32]⟩:ByteArray)) ++ t20006) ++ (⟨#[32,119,97,116,99,104,32]⟩:ByteArray)) ++ t20007) ++ (⟨#[10]⟩:ByteArray)),(wrap64 (x19_1+1)),(by first|rfl|(simp;done)|(simp[*];done)),(by first|rfl|(simp;done)|(simp[*];done)),H',⟨by have:=HK1.out;omega⟩,⟨by(with_reducible repeat(first|refine Zu ?_ _|refine Zv ?_|refine Zs ?_ _));exact BK20001.out⟩,⟨by repeat(first|(with_reducible first|exact HB.out|apply Zn|apply Zm|apply Zo|refine Zr ?_ GE20001.out|refine Zr ?_ GE20005.out)|exact HB.out)⟩⟩
                ·rw[if_neg c33] at H
                 exact absurd H (by simp)
               ·rw[if_neg c32] at H
                exact absurd H (by simp)
              ·rw[if_neg c30] at H
               exact absurd H (by simp)
            ·rw[if_neg c20] at H
             exact absurd H (by simp)
           ·rw[if_neg c18] at H
            exact absurd H (by simp)
          ·rw[if_neg c17] at H
           exact absurd H (by simp)
         ·rw[if_neg c16] at H
          exact absurd H (by simp)
        ·rw[if_neg c15] at H
         exact absurd H (by simp)
       ·rw[if_neg c14] at H
        exact absurd H (by simp)
      ·rw[if_neg c13] at H
       have c13b0:decide (x19_1<(l0_0.length:Int))=false:=Zf c13
       clear c13
       have H':=Za H
       clear H
       have hcz42_0:wr.cell? ⟨gb20001,0,none⟩=some (.slice A0_0 l0_0.length c0_0):=(Zq BK20001.out 0).trans rfl
       have hcz42_1:wr.cell? ⟨gb20001,1,none⟩=some (.slice A0_1 l0_1.length c0_1):=(Zq BK20001.out 1).trans rfl
       have hcz42_2:wr.cell? ⟨gb20001,2,none⟩=some (.int .i64 a0_2):=(Zq BK20001.out 2).trans rfl
       have hfz42_0:=Zt BK20001.out 0
       have hfz42_1:=Zt BK20001.out 1
       have hfz42_2:=Zt BK20001.out 2
       go_wp2
       go_loopg [3,48] k1 (fun kq v3 v48 w'=>∃(x3_2:ByteArray) (x48_2:Int),v3=.string x3_2∧v48=.int .i64 x48_2∧Aside0 (ZK.l1 kq x3_2 l0_1 (l0_1.length:Int) x48_2 l0_0 l0_1 a0_2=some r)∧Aside0 (kq≤k1)∧Aside0 (w'.heap[gb20001]? = some (.cells #[(.slice A0_0 l0_0.length c0_0),(.slice A0_1 l0_1.length c0_1),.int .i64 a0_2] 36 (0,0)))∧Aside0 (Below w.heap.size w w'))
       case atStart=>exact⟨(x3_1),(0),(by first|rfl|(simp;done)|(simp[*];done)),(by first|rfl|(simp;done)|(simp[*];done)),H',⟨Nat.le_refl _⟩,⟨by(with_reducible repeat(first|refine Zu ?_ _|refine Zv ?_|refine Zs ?_ _));exact BK20001.out⟩,⟨by repeat(first|(with_reducible first|exact HB.out|apply Zn|apply Zm|apply Zo|refine Zr ?_ GE20001.out)|exact HB.out)⟩⟩
       case round=>
        clear H'
        try clear c1
        try clear c2
        try clear p2
        try clear q2
        try clear hx2
        try clear c3
        try clear c4
        try clear c5
        try clear c5b0
        try clear c5b1
        try clear c5b2
        try clear c6
        try clear c6b0
        try clear c6b1
        try clear c6b2
        try clear p6
        try clear c9
        try clear c13
        try clear c13b0
        try clear c14
        try clear c14b0
        try clear c15
        try clear c15b0
        try clear c16
        try clear c16b0
        try clear c16b1
        try clear c16b2
        try clear c17
        try clear c17b0
        try clear c17b1
        try clear c17b2
        try clear c18
        try clear c18b0
        try clear c18b1
        try clear c18b2
        try clear c20
        try clear c20b0
        try clear c20b1
        try clear c20b2
        try clear p20
        try clear q20
        try clear hx20
        try clear c21
        try clear c21b0
        try clear c21b1
        try clear c22
        try clear c22b0
        try clear c22b1
        try clear c22b2
        try clear c24
        try clear c30
        try clear c30b0
        try clear c30b1
        try clear c30b2
        try clear c32
        try clear c32b0
        try clear c32b1
        try clear c32b2
        try clear c33
        try clear c33b0
        try clear c33b1
        try clear c33b2
        try clear c35
        try clear hcz10_0
        try clear hcz10_1
        try clear hcz10_2
        try clear hcz12_0
        try clear hcz12_1
        try clear hcz12_2
        try clear hcz25_0
        try clear hcz25_1
        try clear hcz25_2
        try clear hcz29_0
        try clear hcz29_1
        try clear hcz29_2
        try clear hcz36_0
        try clear hcz36_1
        try clear hcz36_2
        try clear hcz40_0
        try clear hcz40_1
        try clear hcz40_2
        try clear hcz42_0
        try clear hcz42_1
        try clear hcz42_2
        try clear hcz8_0
        try clear hcz8_1
        try clear hcz8_2
        try clear hfz10_0
        try clear hfz10_1
        try clear hfz10_2
        try clear hfz12_0
        try clear hfz12_1
        try clear hfz12_2
        try clear hfz25_0
        try clear hfz25_1
        try clear hfz25_2
        try clear hfz29_0
        try clear hfz29_1
        try clear hfz29_2
        try clear hfz36_0
        try clear hfz36_1
        try clear hfz36_2
        try clear hfz40_0
        try clear hfz40_1
        try clear hfz40_2
        try clear hfz42_0
        try clear hfz42_1
        try clear hfz42_2
        try clear hfz8_0
        try clear hfz8_1
        try clear hfz8_2
        try clear hx20004_0
        try clear hx20004_1
        try clear hx20004_2
        try clear p2
        try clear p20004
        try clear q20004
        obtain⟨x3_2,x48_2,rfl,rfl,HA,HK2,BK20001,HB⟩:=hrel
        cases gk with
        | zero=>exact absurd HA.out (by simp[ZK.l1])
        | succ k2=>
         have H:=HA.out
         clear HA
         simp only[ZK.l1] at H
         by_cases c43:x48_2<(l0_1.length:Int)
         ·rw[if_pos c43] at H
          have c43b0:decide (x48_2<(l0_1.length:Int))=true:=Ze c43
          clear c43
          by_cases c44:0≤x48_2
          ·rw[if_pos c44] at H
           have c44b0:decide (0≤x48_2)=true:=Ze c44
           clear c44
           by_cases c45:x48_2<(l0_1.length:Int)
           ·rw[if_pos c45] at H
            have c45b0:decide (x48_2<(l0_1.length:Int))=true:=Ze c45
            clear c45
            replace H:=Zh H
            obtain⟨t20010,A460,H⟩:=H
            replace H:(if x3_2.size+t20010.size≤9223372036854775807 then(if (x3_2 ++ t20010).size+1≤9223372036854775807 then(ZK.l1 k2 ((x3_2 ++ t20010) ++ (⟨#[10]⟩:ByteArray)) l0_1 (l0_1.length:Int) (wrap64 (x48_2+1)) l0_0 l0_1 a0_2) else(none)) else(none))=some r:=H
            have A46:=Za A460;clear A460
            by_cases c47:x3_2.size+t20010.size≤9223372036854775807
            ·rw[if_pos c47] at H
             have c47b0:=eq_true c47
             have c47b1:decide (x3_2.size+t20010.size≤9223372036854775807)=true:=Ze c47
             try have c47b2:(9223372036854775807<x3_2.size+t20010.size)=False:=eq_false (Nat.not_lt.2 c47)
             by_cases c48:(x3_2 ++ t20010).size+1≤9223372036854775807
             ·rw[if_pos c48] at H
              have c48b0:=eq_true c48
              have c48b1:decide ((x3_2 ++ t20010).size+1≤9223372036854775807)=true:=Ze c48
              try have c48b2:(9223372036854775807<(x3_2 ++ t20010).size+1)=False:=eq_false (Nat.not_lt.2 c48)
              try have c48b4:(9223372036854775807<(x3_2.size+t20010.size)+1)=False:=eq_false (Nat.not_lt.2 (by have h_:=c48;simp only[ByteArray.size_append] at h_;exact h_))
              have H':=Za H
              clear H
              have p20008:0≤(x48_2:Int):=Zd (by first|(with_reducible assumption)|assumption)
              have q20008:x48_2<(l0_1.length:Int):=Zd (by first|(with_reducible assumption)|assumption)
              obtain⟨ad20008,e20008,hx20008_0,hx20008_1,hx20008_2,hx20008_3,hx20008_4⟩:=ZbT HR0_1.out x48_2 p20008 q20008
              cases e20008
              replace hx20008_0:=(HB.out.cell (Zc w _ hx20008_0)).trans hx20008_0
              replace hx20008_1:=(HB.out.cell (Zc w _ hx20008_1)).trans hx20008_1
              replace hx20008_2:=(HB.out.cell (Zc w _ hx20008_2)).trans hx20008_2
              replace hx20008_3:=(HB.out.cell (Zc w _ hx20008_3)).trans hx20008_3
              replace hx20008_4:=(HB.out.cell (Zc w _ hx20008_4)).trans hx20008_4
              replace p20008:=eq_true p20008
              replace q20008:=eq_true q20008
              go_wp2_with (first|((with_reducible refine ZN (N:=7) rfl ?_);refine ZP ?hg (N:=7) ?hd (cs:=#[.int .i64 0,.int .i64 0,.int .i64 0,.int .i64 0,.bool false]) (t:=66) ?hr ?_;(case hd=>rfl);(case hg=>rfl);(case hr=>first|(go_simp;done)|(go_simp;rfl));intro gb20009 hg w49 hbox hb;have BK20009:=Za (hbox);have GW20009:=Za ((by rw[hg];exact(Zy (by repeat(first|(with_reducible first|exact HB.out|apply Zn|apply Zm|apply Zo|refine Zr ?_ GE20001.out)|exact HB.out))):w.heap.size≤gb20009));have GE20009:=Za ((by rw[hg];exact(Zy (by repeat(first|(with_reducible first|exact HB.out|apply Zn|apply Zm|apply Zo|refine Zr ?_ GE20001.out)|exact HB.out))):w.heap.size≤gb20009));have NB20001_20009:=Za ((by rw[hg];exact Nat.ne_of_lt (ZY (g:=gb20001) (o:=.cells #[.slice A0_0 l0_0.length c0_0,.slice (some ad20008) l0_1.length c0_1,.int .i64 a0_2] 36 (0,0)) (by(with_reducible repeat(first|refine Zu ?_ _|refine Zv ?_|refine Zs ?_ _));exact BK20001.out)):gb20001≠gb20009));have NB20009_20001:=Za ((by rw[hg];exact Nat.ne_of_gt (ZY (g:=gb20001) (o:=.cells #[.slice A0_0 l0_0.length c0_0,.slice (some ad20008) l0_1.length c0_1,.int .i64 a0_2] 36 (0,0)) (by(with_reducible repeat(first|refine Zu ?_ _|refine Zv ?_|refine Zs ?_ _));exact BK20001.out)):gb20009≠gb20001));replace BK20001:=Za (ZB (g:=gb20001) (o:=.cells #[.slice A0_0 l0_0.length c0_0,.slice (some ad20008) l0_1.length c0_1,.int .i64 a0_2] 36 (0,0)) (by(with_reducible repeat(first|refine Zu ?_ _|refine Zv ?_|refine Zs ?_ _));exact BK20001.out) hb);replace HB:=Za (Zx (by repeat(first|(with_reducible first|exact HB.out|apply Zn|apply Zm|apply Zo|refine Zr ?_ GE20001.out)|exact HB.out)) hb);clear hb hbox hg;have hnb50:=NB20009_20001.out;have hnc50:=NB20001_20009.out;have hcz51_0:w49.cell? ⟨gb20009,0,none⟩=some (.int .i64 0):=(Zq BK20009.out 0).trans rfl;have hcz51_1:w49.cell? ⟨gb20009,1,none⟩=some (.int .i64 0):=(Zq BK20009.out 1).trans rfl;have hcz51_2:w49.cell? ⟨gb20009,2,none⟩=some (.int .i64 0):=(Zq BK20009.out 2).trans rfl;have hcz51_3:w49.cell? ⟨gb20009,3,none⟩=some (.int .i64 0):=(Zq BK20009.out 3).trans rfl;have hcz51_4:w49.cell? ⟨gb20009,4,none⟩=some (.bool false):=(Zq BK20009.out 4).trans rfl;have hfz51_0:=Zt BK20009.out 0;have hfz51_1:=Zt BK20009.out 1;have hfz51_2:=Zt BK20009.out 2;have hfz51_3:=Zt BK20009.out 3;have hfz51_4:=Zt BK20009.out 4;have hcz52_0:w49.cell? ⟨gb20001,0,none⟩=some (.slice A0_0 l0_0.length c0_0):=(Zq BK20001.out 0).trans rfl;have hcz52_1:w49.cell? ⟨gb20001,1,none⟩=some (.slice (some ad20008) l0_1.length c0_1):=(Zq BK20001.out 1).trans rfl;have hcz52_2:w49.cell? ⟨gb20001,2,none⟩=some (.int .i64 a0_2):=(Zq BK20001.out 2).trans rfl;have hfz52_0:=Zt BK20001.out 0;have hfz52_1:=Zt BK20001.out 1;have hfz52_2:=Zt BK20001.out 2)|((with_reducible refine ZG (f:=45) rfl ?_);refine ZX (some 55) rfl rfl Tryd.func45 (by kernel_rfl) rfl #[.agg #[.slice A0_0 l0_0.length c0_0,.slice (some ad20008) l0_1.length c0_1,.int .i64 a0_2],.agg #[.int .i64 ((Zw l0_1 x48_2).f0),.int .i64 ((Zw l0_1 x48_2).f1),.int .i64 ((Zw l0_1 x48_2).f2),.int .i64 ((Zw l0_1 x48_2).f3),.bool ((Zw l0_1 x48_2).f4)]] rfl (by(try simp only[List.map_toArray,List.map_cons,List.map_nil]);first|done|rfl|(simp only[Zk,Zj];rfl)) ?_;(with_reducible refine(Zaj.calls k2 _ _ l0_0 _ _ l0_1 a0_2 ((Zw l0_1 x48_2).f0) ((Zw l0_1 x48_2).f1) ((Zw l0_1 x48_2).f2) ((Zw l0_1 x48_2).f3) ((Zw l0_1 x48_2).f4) t20010 _ ?side1 ?side2 ?side3 ?side4 A46.out).mono ?_);(case side1=>exact Zb HR0_0.out (by repeat(first|(with_reducible first|exact HB.out|apply Zn|apply Zm|apply Zo|refine Zr ?_ GE20001.out|refine Zr ?_ GE20009.out)|exact HB.out)));(case side2=>exact HC0_0.out);(case side3=>exact Zb HR0_1.out (by repeat(first|(with_reducible first|exact HB.out|apply Zn|apply Zm|apply Zo|refine Zr ?_ GE20001.out|refine Zr ?_ GE20009.out)|exact HB.out)));(case side4=>exact HC0_1.out);rintro e w53 ⟨rfl,hb⟩;refine⟨_,rfl,?_⟩;replace BK20001:=Za (ZB (g:=gb20001) (o:=.cells #[.slice A0_0 l0_0.length c0_0,.slice (some ad20008) l0_1.length c0_1,.int .i64 a0_2] 36 (0,0)) (by(with_reducible repeat(first|refine Zu ?_ _|refine Zv ?_|refine Zs ?_ _));refine ZV ?_ NB20001_20009.out _;(with_reducible repeat(first|refine Zu ?_ _|refine Zv ?_|refine Zs ?_ _));refine ZV ?_ NB20001_20009.out _;(with_reducible repeat(first|refine Zu ?_ _|refine Zv ?_|refine Zs ?_ _));refine ZV ?_ NB20001_20009.out _;(with_reducible repeat(first|refine Zu ?_ _|refine Zv ?_|refine Zs ?_ _));refine ZV ?_ NB20001_20009.out _;(with_reducible repeat(first|refine Zu ?_ _|refine Zv ?_|refine Zs ?_ _));refine ZV ?_ NB20001_20009.out _;(with_reducible repeat(first|refine Zu ?_ _|refine Zv ?_|refine Zs ?_ _));exact BK20001.out) hb);replace BK20009:=Za (ZB (g:=gb20009) (o:=.cells #[.int .i64 ((Zw l0_1 x48_2).f0),.int .i64 ((Zw l0_1 x48_2).f1),.int .i64 ((Zw l0_1 x48_2).f2),.int .i64 ((Zw l0_1 x48_2).f3),.bool ((Zw l0_1 x48_2).f4)] 66 (0,0)) (by(with_reducible repeat(first|refine Zu ?_ _|refine Zv ?_|refine Zs ?_ _));refine Z6 (cs:=#[.int .i64 ((Zw l0_1 x48_2).f0),.int .i64 ((Zw l0_1 x48_2).f1),.int .i64 ((Zw l0_1 x48_2).f2),.int .i64 ((Zw l0_1 x48_2).f3),.bool false]) ?_ 4 _ rfl;(with_reducible repeat(first|refine Zu ?_ _|refine Zv ?_|refine Zs ?_ _));refine Z6 (cs:=#[.int .i64 ((Zw l0_1 x48_2).f0),.int .i64 ((Zw l0_1 x48_2).f1),.int .i64 ((Zw l0_1 x48_2).f2),.int .i64 0,.bool false]) ?_ 3 _ rfl;(with_reducible repeat(first|refine Zu ?_ _|refine Zv ?_|refine Zs ?_ _));refine Z6 (cs:=#[.int .i64 ((Zw l0_1 x48_2).f0),.int .i64 ((Zw l0_1 x48_2).f1),.int .i64 0,.int .i64 0,.bool false]) ?_ 2 _ rfl;(with_reducible repeat(first|refine Zu ?_ _|refine Zv ?_|refine Zs ?_ _));refine Z6 (cs:=#[.int .i64 ((Zw l0_1 x48_2).f0),.int .i64 0,.int .i64 0,.int .i64 0,.bool false]) ?_ 1 _ rfl;(with_reducible repeat(first|refine Zu ?_ _|refine Zv ?_|refine Zs ?_ _));refine Z6 (cs:=#[.int .i64 0,.int .i64 0,.int .i64 0,.int .i64 0,.bool false]) ?_ 0 _ rfl;(with_reducible repeat(first|refine Zu ?_ _|refine Zv ?_|refine Zs ?_ _));exact BK20009.out) hb);replace HB:=Za (Zx (by repeat(first|(with_reducible first|exact HB.out|apply Zn|apply Zm|apply Zo|refine Zr ?_ GE20001.out|refine Zr ?_ GE20009.out)|exact HB.out)) hb);(try clear hb);(try clear hb2);(try clear hk);(try clear hi)))
              go_roundg k2
              case measure=>have:=HK1.out;have:=HK2.out;omega
              case rel=>exact⟨((x3_2 ++ t20010) ++ (⟨#[10]⟩:ByteArray)),(wrap64 (x48_2+1)),(by first|rfl|(simp;done)|(simp[*];done)),(by first|rfl|(simp;done)|(simp[*];done)),H',⟨by have:=HK1.out;have:=HK2.out;omega⟩,⟨by(with_reducible repeat(first|refine Zu ?_ _|refine Zv ?_|refine Zs ?_ _));exact BK20001.out⟩,⟨by repeat(first|(with_reducible first|exact HB.out|apply Zn|apply Zm|apply Zo|refine Zr ?_ GE20001.out|refine Zr ?_ GE20009.out)|exact HB.out)⟩⟩
             ·rw[if_neg c48] at H
              exact absurd H (by simp)
            ·rw[if_neg c47] at H
             exact absurd H (by simp)
           ·rw[if_neg c45] at H
            exact absurd H (by simp)
          ·rw[if_neg c44] at H
           exact absurd H (by simp)
         ·rw[if_neg c43] at H
          have c43b0:decide (x48_2<(l0_1.length:Int))=false:=Zf c43
          clear c43
          obtain rfl:=Zg H
          go_wp2
          go_ret
          exact⟨by first|rfl|(simp[ZA,Zz] <;> rfl)|(simp[*,ZA,Zz] <;> rfl),by repeat(first|(with_reducible first|exact HB.out|apply Zn|apply Zm|apply Zo|refine Zr ?_ GE20001.out)|exact HB.out)⟩
   ·rw[if_neg c6] at H
    exact absurd H (by simp)
  ·rw[if_neg c5] at H
   exact absurd H (by simp)
 ·replace c3:=Bool.eq_false_iff.mpr c3
  subst c3
  have H1:(some (⟨#[]⟩:ByteArray))=some r:=by rw[if_neg (show ¬(false=true) by decide)] at H;exact H
  clear H
  have H:=H1
  clear H1
  obtain rfl:=Zg H
  go_enter Tryd.func20,Tryd.ntmps20
  go_wp2_with (first|((with_reducible refine ZN (N:=1) rfl ?_);refine ZP ?hg (N:=1) ?hd (cs:=#[.slice A0_0 l0_0.length c0_0,.slice A0_1 l0_1.length c0_1,.int .i64 a0_2]) (t:=36) ?hr ?_;(case hd=>rfl);(case hg=>rfl);(case hr=>first|(go_simp;done)|(go_simp;rfl));intro gb20001 hg w54 hbox hb;have BK20001:=Za (hbox);have GW20001:=Za ((by rw[hg];exact(Zy (by repeat(first|(with_reducible first|exact HB.out|apply Zn|apply Zm|apply Zo)|exact HB.out))):w.heap.size≤gb20001));have GE20001:=Za ((by rw[hg];exact(Zy (by repeat(first|(with_reducible first|exact HB.out|apply Zn|apply Zm|apply Zo)|exact HB.out))):w.heap.size≤gb20001));replace HB:=Za (Zx (by repeat(first|(with_reducible first|exact HB.out|apply Zn|apply Zm|apply Zo)|exact HB.out)) hb);clear hb hbox hg;have hcz55_0:w54.cell? ⟨gb20001,0,none⟩=some (.slice A0_0 l0_0.length c0_0):=(Zq BK20001.out 0).trans rfl;have hcz55_1:w54.cell? ⟨gb20001,1,none⟩=some (.slice A0_1 l0_1.length c0_1):=(Zq BK20001.out 1).trans rfl;have hcz55_2:w54.cell? ⟨gb20001,2,none⟩=some (.int .i64 a0_2):=(Zq BK20001.out 2).trans rfl;have hfz55_0:=Zt BK20001.out 0;have hfz55_1:=Zt BK20001.out 1;have hfz55_2:=Zt BK20001.out 2)|((with_reducible refine ZG (f:=43) rfl ?_);refine ZX (some 9) rfl rfl Tryd.func43 (by kernel_rfl) rfl #[.agg #[.slice A0_0 l0_0.length c0_0,.slice A0_1 l0_1.length c0_1,.int .i64 a0_2]] rfl (by(try simp only[List.map_toArray,List.map_cons,List.map_nil]);first|done|rfl|(simp only[Zk,Zj];rfl)) ?_;(with_reducible refine(ZT.calls k _ _ l0_0 _ _ l0_1 a0_2 false _ ?side1 ?side2 ?side3 ?side4 A2.out).mono ?_);(case side1=>repeat(first|exact(Zb HR0_0.out HB.out)|(with_reducible refine Kd.C_alloc ?_ _)|(with_reducible refine Kd.C_drewN ?_ _)|(with_reducible refine Kd.C_drew ?_)));(case side2=>exact HC0_0.out);(case side3=>repeat(first|exact(Zb HR0_1.out HB.out)|(with_reducible refine Kd.C_alloc ?_ _)|(with_reducible refine Kd.C_drewN ?_ _)|(with_reducible refine Kd.C_drew ?_)));(case side4=>exact HC0_1.out);rintro e w56 ⟨rfl,hb⟩;refine⟨_,rfl,?_⟩;replace BK20001:=Za (ZB (g:=gb20001) (o:=.cells #[.slice A0_0 l0_0.length c0_0,.slice A0_1 l0_1.length c0_1,.int .i64 a0_2] 36 (0,0)) (by(with_reducible repeat(first|refine Zu ?_ _|refine Zv ?_|refine Zs ?_ _));exact BK20001.out) hb);replace HB:=Za (Zx (by repeat(first|(with_reducible first|exact HB.out|apply Zn|apply Zm|apply Zo|refine Zr ?_ GE20001.out)|exact HB.out)) hb);(try clear hb);(try clear hb2);(try clear hk);(try clear hi)))
  go_ret
  exact⟨by first|rfl|(simp[ZA,Zz] <;> rfl)|(simp[*,ZA,Zz] <;> rfl),by repeat(first|(with_reducible first|exact HB.out|apply Zn|apply Zm|apply Zo|refine Zr ?_ GE20001.out)|exact HB.out)⟩
def Z0.l0:Nat→List ByteArray→List Int→Int→Int→Option (ByteArray)
 | 0,_,_,_,_=>none
 | k+1,x3,x13,x14,x15=>if x15<x14 then(if 0≤x15 then(if x15<(x13.length:Int) then((Zaq.f (rd x13 x15)).bind fun t11004=>((ZR.f t11004).bind fun t11005=>(if 1+t11005.size≤9223372036854775807 then(if (rd x13 x15)<0 then(if 1+((⟨#[112]⟩:ByteArray) ++ t11005).size≤9223372036854775807 then(if x3.length<8796093022208 then(Z0.l0 k (x3 ++ [(⟨#[33]⟩:ByteArray) ++ ((⟨#[112]⟩:ByteArray) ++ t11005)]) x13 x14 (wrap64 (x15+1))) else(none)) else(none)) else(if x3.length<8796093022208 then(Z0.l0 k (x3 ++ [(⟨#[112]⟩:ByteArray) ++ t11005]) x13 x14 (wrap64 (x15+1))) else(none))) else(none)))) else(none)) else(none)) else((Zai.f x3 (⟨#[38]⟩:ByteArray)).bind fun t11002=>(some t11002))
def Z0.f (k:Nat) (l0:List Int):Option (ByteArray):=(Z1.f k l0).bind fun t11001=>(if t11001=true then(if (l0.length:Int)=0 then(some (⟨#[45]⟩:ByteArray)) else(Z0.l0 k ([]:List ByteArray) l0 (l0.length:Int) 0)) else(some (⟨#[]⟩:ByteArray)))
set_option maxHeartbeats 8000000 in
set_option maxRecDepth 100000 in
theorem Z0.calls (k:Nat) (A0:Option Addr) (c0:Nat) (l0:List Int) (r:ByteArray) (w:World) (hr0:Kd.C (Kd.int .i64) w A0 l0.length l0) (hc0:l0.length≤c0) (ht:TW w) (h:Z0.f k l0=some r) :
  Calls Tryd.prog 11 #[.slice A0 l0.length c0] w fun e w'=>e=.returned (.string r)∧Below w.heap.size w w':=by
 have HTW:=Za ht;clear ht;have HR0:=Za hr0;have HC0:=Za hc0;clear hr0 hc0
 have HB:=Za (Below.refl w.heap.size w)
 have H:((Z1.f k l0).bind fun t11001=>(if t11001=true then(if (l0.length:Int)=0 then(some (⟨#[45]⟩:ByteArray)) else(Z0.l0 k ([]:List ByteArray) l0 (l0.length:Int) 0)) else(some (⟨#[]⟩:ByteArray))))=some r:=h
 clear h
 replace H:=Zh H
 obtain⟨t11001,A20,H⟩:=H
 replace H:(if t11001=true then(if (l0.length:Int)=0 then(some (⟨#[45]⟩:ByteArray)) else(Z0.l0 k ([]:List ByteArray) l0 (l0.length:Int) 0)) else(some (⟨#[]⟩:ByteArray)))=some r:=H
 have A2:=Za A20;clear A20
 by_cases c3:t11001=true
 ·subst c3
  have H1:(if (l0.length:Int)=0 then(some (⟨#[45]⟩:ByteArray)) else(Z0.l0 k ([]:List ByteArray) l0 (l0.length:Int) 0))=some r:=by rw[if_pos rfl] at H;exact H
  clear H
  have H:=H1
  clear H1
  by_cases c4:(l0.length:Int)=0
  ·rw[if_pos c4] at H
   have c4b0:((l0.length:Int) == 0)=true:=beq_iff_eq.mpr c4
   have c4b1:((l0.length:Int) != 0)=false:=bne_eq_false_iff_eq.mpr c4
   clear c4
   obtain rfl:=Zg H
   go_enter Tryd.func11,Tryd.ntmps11
   go_wp2_with (first|((with_reducible refine ZG (f:=27) rfl ?_);refine ZX (some 8) rfl rfl Tryd.func27 (by kernel_rfl) rfl #[.slice A0 l0.length c0] rfl (by(try simp only[List.map_toArray,List.map_cons,List.map_nil]);first|done|rfl|(simp only[Zk,Zj];rfl)) ?_;(with_reducible refine(Z1.calls k _ _ l0 true _ ?side1 ?side2 A2.out).mono ?_);(case side1=>repeat(first|exact HR0.out|(with_reducible refine Kd.C_alloc ?_ _)|(with_reducible refine Kd.C_drewN ?_ _)|(with_reducible refine Kd.C_drew ?_)));(case side2=>exact HC0.out);rintro e w5 ⟨rfl,hb⟩;refine⟨_,rfl,?_⟩;replace HB:=Za (Zx (by repeat(first|(with_reducible first|exact HB.out|apply Zn|apply Zm|apply Zo)|exact HB.out)) hb);(try clear hb);(try clear hb2);(try clear hk);(try clear hi)))
   go_ret
   exact⟨by first|rfl|(simp[ZA,Zz] <;> rfl)|(simp[*,ZA,Zz] <;> rfl),by repeat(first|(with_reducible first|exact HB.out|apply Zn|apply Zm|apply Zo)|exact HB.out)⟩
  ·rw[if_neg c4] at H
   have c4b0:((l0.length:Int) == 0)=false:=beq_eq_false_iff_ne.mpr c4
   have c4b1:((l0.length:Int) != 0)=true:=bne_iff_ne.mpr c4
   have c4b2:¬(l0=[]):=fun h_=>c4 (by rw[h_];rfl)
   have H':=Za H
   clear H
   go_enter Tryd.func11,Tryd.ntmps11
   go_wp2_with (first|((with_reducible refine ZG (f:=27) rfl ?_);refine ZX (some 8) rfl rfl Tryd.func27 (by kernel_rfl) rfl #[.slice A0 l0.length c0] rfl (by(try simp only[List.map_toArray,List.map_cons,List.map_nil]);first|done|rfl|(simp only[Zk,Zj];rfl)) ?_;(with_reducible refine(Z1.calls k _ _ l0 true _ ?side1 ?side2 A2.out).mono ?_);(case side1=>repeat(first|exact HR0.out|(with_reducible refine Kd.C_alloc ?_ _)|(with_reducible refine Kd.C_drewN ?_ _)|(with_reducible refine Kd.C_drew ?_)));(case side2=>exact HC0.out);rintro e w6 ⟨rfl,hb⟩;refine⟨_,rfl,?_⟩;replace HB:=Za (Zx (by repeat(first|(with_reducible first|exact HB.out|apply Zn|apply Zm|apply Zo)|exact HB.out)) hb);(try clear hb);(try clear hb2);(try clear hk);(try clear hi)))
   go_loopg [3,15] k (fun kq v3 v15 w'=>∃(x3_1:List ByteArray) (x15_1:Int),v15=.int .i64 x15_1∧Aside0 (Z0.l0 kq x3_1 l0 (l0.length:Int) x15_1=some r)∧Aside0 (kq≤k)∧Aside0 (Kd.R Kd.string 9 w' w.heap.size (fun _=>True) v3 x3_1)∧Aside0 (Below w.heap.size w w'))
   case atStart=>exact⟨(([]:List ByteArray)),(0),(by first|rfl|(simp;done)|(simp[*];done)),H',⟨Nat.le_refl _⟩,⟨by first|exact Kd.R_nil _ _ _ _ _|exact Kd.N_nil _ _ _ _ _|exact Kd.V_nil _ _ _ _ _|exact Kd.Q_nil _ _ _ _ _|exact Kd.S_nil _ _ _ _ _⟩,⟨by repeat(first|(with_reducible first|exact HB.out|apply Zn|apply Zm|apply Zo)|exact HB.out)⟩⟩
   case round=>
    clear H'
    try clear c1
    try clear c2
    try clear p2
    try clear c3
    try clear c4
    try clear c4b0
    try clear c4b1
    try clear c4b2
    obtain⟨x3_1,x15_1,rfl,HA,HK1,HO_3,HB⟩:=hrel
    cases gk with
    | zero=>exact absurd HA.out (by simp[Z0.l0])
    | succ k1=>
     have H:=HA.out
     clear HA
     simp only[Z0.l0] at H
     by_cases c7:x15_1<(l0.length:Int)
     ·rw[if_pos c7] at H
      have c7b0:decide (x15_1<(l0.length:Int))=true:=Ze c7
      clear c7
      by_cases c8:0≤x15_1
      ·rw[if_pos c8] at H
       have c8b0:decide (0≤x15_1)=true:=Ze c8
       clear c8
       by_cases c9:x15_1<(l0.length:Int)
       ·rw[if_pos c9] at H
        have c9b0:decide (x15_1<(l0.length:Int))=true:=Ze c9
        clear c9
        replace H:=Zh H
        obtain⟨t11004,A100,H⟩:=H
        replace H:((ZR.f t11004).bind fun t11005=>(if 1+t11005.size≤9223372036854775807 then(if (rd l0 x15_1)<0 then(if 1+((⟨#[112]⟩:ByteArray) ++ t11005).size≤9223372036854775807 then(if x3_1.length<8796093022208 then(Z0.l0 k1 (x3_1 ++ [(⟨#[33]⟩:ByteArray) ++ ((⟨#[112]⟩:ByteArray) ++ t11005)]) l0 (l0.length:Int) (wrap64 (x15_1+1))) else(none)) else(none)) else(if x3_1.length<8796093022208 then(Z0.l0 k1 (x3_1 ++ [(⟨#[112]⟩:ByteArray) ++ t11005]) l0 (l0.length:Int) (wrap64 (x15_1+1))) else(none))) else(none)))=some r:=H
        have A10:=Za A100;clear A100
        replace H:=Zh H
        obtain⟨t11005,A110,H⟩:=H
        replace H:(if 1+t11005.size≤9223372036854775807 then(if (rd l0 x15_1)<0 then(if 1+((⟨#[112]⟩:ByteArray) ++ t11005).size≤9223372036854775807 then(if x3_1.length<8796093022208 then(Z0.l0 k1 (x3_1 ++ [(⟨#[33]⟩:ByteArray) ++ ((⟨#[112]⟩:ByteArray) ++ t11005)]) l0 (l0.length:Int) (wrap64 (x15_1+1))) else(none)) else(none)) else(if x3_1.length<8796093022208 then(Z0.l0 k1 (x3_1 ++ [(⟨#[112]⟩:ByteArray) ++ t11005]) l0 (l0.length:Int) (wrap64 (x15_1+1))) else(none))) else(none))=some r:=H
        have A11:=Za A110;clear A110
        by_cases c12:1+t11005.size≤9223372036854775807
        ·rw[if_pos c12] at H
         have c12b0:=eq_true c12
         have c12b1:decide (1+t11005.size≤9223372036854775807)=true:=Ze c12
         try have c12b2:(9223372036854775807<1+t11005.size)=False:=eq_false (Nat.not_lt.2 c12)
         by_cases c13:(rd l0 x15_1)<0
         ·rw[if_pos c13] at H
          have c13b0:decide ((rd l0 x15_1)<0)=true:=Ze c13
          clear c13
          by_cases c14:1+((⟨#[112]⟩:ByteArray) ++ t11005).size≤9223372036854775807
          ·rw[if_pos c14] at H
           have c14b0:=eq_true c14
           have c14b1:decide (1+((⟨#[112]⟩:ByteArray) ++ t11005).size≤9223372036854775807)=true:=Ze c14
           try have c14b2:(9223372036854775807<1+((⟨#[112]⟩:ByteArray) ++ t11005).size)=False:=eq_false (Nat.not_lt.2 c14)
           try have c14b4:(9223372036854775807<1+(1+t11005.size))=False:=eq_false (Nat.not_lt.2 (by have h_:=c14;simp only[ByteArray.size_append] at h_;exact h_))
           by_cases c15:x3_1.length<8796093022208
           ·rw[if_pos c15] at H
            have LMc15:=Za c15;clear c15
            obtain⟨y11006,hy11006⟩:∃y_:List ByteArray,y_=(x3_1 ++ [(⟨#[33]⟩:ByteArray) ++ ((⟨#[112]⟩:ByteArray) ++ t11005)]):=⟨_,rfl⟩
            replace H:(Z0.l0 k1 y11006 l0 (l0.length:Int) (wrap64 (x15_1+1)))=some r:=by first|(rw[hy11006];with_reducible exact H)|(have H2_:=(Zi _ _).symm.trans H;rw[hy11006];with_reducible exact H2_)|(have H2_:=(Zi _ _).symm.trans H;with_reducible exact H2_)|with_reducible exact H|(rw[hy11006];exact H)|exact H
            have Ny11006:=Za hy11006;clear hy11006
            have H':=Za H
            clear H
            have p11003:0≤(x15_1:Int):=Zd (by first|(with_reducible assumption)|assumption)
            have q11003:x15_1<(l0.length:Int):=Zd (by first|(with_reducible assumption)|assumption)
            obtain⟨ad11003,e11003,hx11003_0⟩:=Kd.at_int HR0.out x15_1 p11003 q11003
            cases e11003
            replace hx11003_0:=(HB.out.cell (Zc w _ hx11003_0)).trans hx11003_0
            replace p11003:=eq_true p11003
            replace q11003:=eq_true q11003
            go_wp2_with (first|((with_reducible refine ZG (f:=39) rfl ?_);refine ZX (some 20) rfl rfl Tryd.func39 (by kernel_rfl) rfl #[.int .i64 (rd l0 x15_1)] rfl (by(try simp only[List.map_toArray,List.map_cons,List.map_nil]);first|done|rfl|(simp only[Zk,Zj];rfl)) ?_;(with_reducible refine(Zaq.calls (rd l0 x15_1) t11004 _ A10.out).mono ?_);rintro e w16 ⟨rfl,hb⟩;refine⟨_,rfl,?_⟩;replace HO_3:=Za (Kd.R_below (by(with_reducible repeat(first|apply Kd.R_alloc|apply Kd.R_drewN|apply Kd.R_drew));exact HO_3.out) hb);replace HB:=Za (Zx (by repeat(first|(with_reducible first|exact HB.out|apply Zn|apply Zm|apply Zo)|exact HB.out)) hb);(try clear hb);(try clear hb2);(try clear hk);(try clear hi))|((with_reducible refine ZG (f:=38) rfl ?_);refine ZX (some 21) rfl rfl Tryd.func38 (by kernel_rfl) rfl #[.int .i64 t11004] rfl (by(try simp only[List.map_toArray,List.map_cons,List.map_nil]);first|done|rfl|(simp only[Zk,Zj];rfl)) ?_;(with_reducible refine(ZR.calls t11004 t11005 _ ?sideT A11.out).mono ?_);(case sideT=>exact TW.below HTW.out (by repeat(first|(with_reducible first|exact HB.out|apply Zn|apply Zm|apply Zo)|exact HB.out)));rintro e w17 ⟨rfl,hb⟩;refine⟨_,rfl,?_⟩;replace HO_3:=Za (Kd.R_below (by(with_reducible repeat(first|apply Kd.R_alloc|apply Kd.R_drewN|apply Kd.R_drew));exact HO_3.out) hb);replace HB:=Za (Zx (by repeat(first|(with_reducible first|exact HB.out|apply Zn|apply Zm|apply Zo)|exact HB.out)) hb);(try clear hb);(try clear hb2);(try clear hk);(try clear hi))|((with_reducible refine Zbx (b:=.append) (xs:=#[.tmp 27,.tmp 29]) rfl ?_);at_builtin;refine Kd.R_append Kd.string (w0:=w) w.heap.size rfl (.tmp 27) (.tmp 29) 56 9 (.string ⟨#[]⟩) 16 rfl Tryd.underlying56 Zcw rfl (by decide) (by omega) u3 x3_1 ((⟨#[33]⟩:ByteArray) ++ ((⟨#[112]⟩:ByteArray) ++ t11005)) [.string ((⟨#[33]⟩:ByteArray) ++ ((⟨#[112]⟩:ByteArray) ++ t11005))] (fun _=>True) (fun _=>False) rfl rfl ?aP (fun _ hk=>hk.elim) ?aF ?aO ?aB ?aS ?aL ?_;(case aP=>exact rfl);(case aB=>exact(by repeat(first|(with_reducible first|exact HB.out|apply Zn|apply Zm|apply Zo)|exact HB.out)));(case aF=>exact(fun _ _=>trivial));(case aO=>exact(by(with_reducible repeat(first|apply Kd.R_alloc|apply Kd.R_drewN|apply Kd.R_drew));exact HO_3.out));(case aS=>exact(Zy (by repeat(first|(with_reducible first|exact HB.out|apply Zn|apply Zm|apply Zo)|exact HB.out))));(case aL=>have:=LMc15.out;omega);intro v11007 w18 ho hb hg hat;rw[← Ny11006.out] at ho;have HO11008:=Za (ho);replace HB:=Za (hb);clear HO_3;clear ho hb hg hat))
            go_roundg k1
            case measure=>have:=HK1.out;omega
            case rel=>exact⟨(y11006),(wrap64 (x15_1+1)),(by first|rfl|(simp;done)|(simp[*];done)),H',⟨by have:=HK1.out;omega⟩,⟨by(with_reducible repeat(first|apply Kd.R_alloc|apply Kd.R_drewN|apply Kd.R_drew));exact HO11008.out⟩,⟨by repeat(first|(with_reducible first|exact HB.out|apply Zn|apply Zm|apply Zo)|exact HB.out)⟩⟩
           ·rw[if_neg c15] at H
            exact absurd H (by simp)
          ·rw[if_neg c14] at H
           exact absurd H (by simp)
         ·rw[if_neg c13] at H
          have c13b0:decide ((rd l0 x15_1)<0)=false:=Zf c13
          clear c13
          by_cases c19:x3_1.length<8796093022208
          ·rw[if_pos c19] at H
           have LMc19:=Za c19;clear c19
           obtain⟨y11009,hy11009⟩:∃y_:List ByteArray,y_=(x3_1 ++ [(⟨#[112]⟩:ByteArray) ++ t11005]):=⟨_,rfl⟩
           replace H:(Z0.l0 k1 y11009 l0 (l0.length:Int) (wrap64 (x15_1+1)))=some r:=by first|(rw[hy11009];with_reducible exact H)|(have H2_:=(Zi _ _).symm.trans H;rw[hy11009];with_reducible exact H2_)|(have H2_:=(Zi _ _).symm.trans H;with_reducible exact H2_)|with_reducible exact H|(rw[hy11009];exact H)|exact H
           have Ny11009:=Za hy11009;clear hy11009
           have H':=Za H
           clear H
           have p11003:0≤(x15_1:Int):=Zd (by first|(with_reducible assumption)|assumption)
           have q11003:x15_1<(l0.length:Int):=Zd (by first|(with_reducible assumption)|assumption)
           obtain⟨ad11003,e11003,hx11003_0⟩:=Kd.at_int HR0.out x15_1 p11003 q11003
           cases e11003
           replace hx11003_0:=(HB.out.cell (Zc w _ hx11003_0)).trans hx11003_0
           replace p11003:=eq_true p11003
           replace q11003:=eq_true q11003
           go_wp2_with (first|((with_reducible refine ZG (f:=39) rfl ?_);refine ZX (some 20) rfl rfl Tryd.func39 (by kernel_rfl) rfl #[.int .i64 (rd l0 x15_1)] rfl (by(try simp only[List.map_toArray,List.map_cons,List.map_nil]);first|done|rfl|(simp only[Zk,Zj];rfl)) ?_;(with_reducible refine(Zaq.calls (rd l0 x15_1) t11004 _ A10.out).mono ?_);rintro e w20 ⟨rfl,hb⟩;refine⟨_,rfl,?_⟩;replace HO_3:=Za (Kd.R_below (by(with_reducible repeat(first|apply Kd.R_alloc|apply Kd.R_drewN|apply Kd.R_drew));exact HO_3.out) hb);replace HB:=Za (Zx (by repeat(first|(with_reducible first|exact HB.out|apply Zn|apply Zm|apply Zo)|exact HB.out)) hb);(try clear hb);(try clear hb2);(try clear hk);(try clear hi))|((with_reducible refine ZG (f:=38) rfl ?_);refine ZX (some 21) rfl rfl Tryd.func38 (by kernel_rfl) rfl #[.int .i64 t11004] rfl (by(try simp only[List.map_toArray,List.map_cons,List.map_nil]);first|done|rfl|(simp only[Zk,Zj];rfl)) ?_;(with_reducible refine(ZR.calls t11004 t11005 _ ?sideT A11.out).mono ?_);(case sideT=>exact TW.below HTW.out (by repeat(first|(with_reducible first|exact HB.out|apply Zn|apply Zm|apply Zo)|exact HB.out)));rintro e w21 ⟨rfl,hb⟩;refine⟨_,rfl,?_⟩;replace HO_3:=Za (Kd.R_below (by(with_reducible repeat(first|apply Kd.R_alloc|apply Kd.R_drewN|apply Kd.R_drew));exact HO_3.out) hb);replace HB:=Za (Zx (by repeat(first|(with_reducible first|exact HB.out|apply Zn|apply Zm|apply Zo)|exact HB.out)) hb);(try clear hb);(try clear hb2);(try clear hk);(try clear hi))|((with_reducible refine Zbx (b:=.append) (xs:=#[.tmp 27,.tmp 29]) rfl ?_);at_builtin;refine Kd.R_append Kd.string (w0:=w) w.heap.size rfl (.tmp 27) (.tmp 29) 56 9 (.string ⟨#[]⟩) 16 rfl Tryd.underlying56 Zcw rfl (by decide) (by omega) u3 x3_1 ((⟨#[112]⟩:ByteArray) ++ t11005) [.string ((⟨#[112]⟩:ByteArray) ++ t11005)] (fun _=>True) (fun _=>False) rfl rfl ?aP (fun _ hk=>hk.elim) ?aF ?aO ?aB ?aS ?aL ?_;(case aP=>exact rfl);(case aB=>exact(by repeat(first|(with_reducible first|exact HB.out|apply Zn|apply Zm|apply Zo)|exact HB.out)));(case aF=>exact(fun _ _=>trivial));(case aO=>exact(by(with_reducible repeat(first|apply Kd.R_alloc|apply Kd.R_drewN|apply Kd.R_drew));exact HO_3.out));(case aS=>exact(Zy (by repeat(first|(with_reducible first|exact HB.out|apply Zn|apply Zm|apply Zo)|exact HB.out))));(case aL=>have:=LMc19.out;omega);intro v11010 w22 ho hb hg hat;rw[← Ny11009.out] at ho;have HO11011:=Za (ho);replace HB:=Za (hb);clear HO_3;clear ho hb hg hat))
           go_roundg k1
           case measure=>have:=HK1.out;omega
           case rel=>exact⟨(y11009),(wrap64 (x15_1+1)),(by first|rfl|(simp;done)|(simp[*];done)),H',⟨by have:=HK1.out;omega⟩,⟨by(with_reducible repeat(first|apply Kd.R_alloc|apply Kd.R_drewN|apply Kd.R_drew));exact HO11011.out⟩,⟨by repeat(first|(with_reducible first|exact HB.out|apply Zn|apply Zm|apply Zo)|exact HB.out)⟩⟩
          ·rw[if_neg c19] at H
           exact absurd H (by simp)
        ·rw[if_neg c12] at H
         exact absurd H (by simp)
       ·rw[if_neg c9] at H
        exact absurd H (by simp)
      ·rw[if_neg c8] at H
       exact absurd H (by simp)
     ·rw[if_neg c7] at H
      have c7b0:decide (x15_1<(l0.length:Int))=false:=Zf c7
      clear c7
      replace H:=Zh H
      obtain⟨t11002,A230,H⟩:=H
      replace H:(some t11002)=some r:=H
      have A23:=Za A230;clear A230
      obtain rfl:=Zg H
      obtain⟨Ao24,co24,eo24⟩:=Kd.R_slice HO_3.out
      subst eo24
      go_wp2_with (first|((with_reducible refine ZG (f:=40) rfl ?_);refine ZX (some 33) rfl rfl Tryd.func40 (by kernel_rfl) rfl #[.slice Ao24 x3_1.length co24,.string (⟨#[38]⟩:ByteArray)] rfl (by(try simp only[List.map_toArray,List.map_cons,List.map_nil]);first|done|rfl|(simp only[Zk,Zj];rfl)) ?_;(with_reducible refine(Zai.calls _ _ x3_1 (⟨#[38]⟩:ByteArray) t11002 _ ?side1 ?side2 ?sideS A23.out).mono ?_);(case sideS=>exact R_spot HO_3.out);(case side1=>repeat(first|exact(Kd.R_reads' HO_3.out).2.2|(with_reducible refine Kd.C_alloc ?_ _)|(with_reducible refine Kd.C_drewN ?_ _)|(with_reducible refine Kd.C_drew ?_)));(case side2=>exact(Kd.R_reads' HO_3.out).2.1);rintro e w25 ⟨rfl,hb⟩;refine⟨_,rfl,?_⟩;replace HO_3:=Za (Kd.R_below (by(with_reducible repeat(first|apply Kd.R_alloc|apply Kd.R_drewN|apply Kd.R_drew));exact HO_3.out) hb);replace HB:=Za (Zx (by repeat(first|(with_reducible first|exact HB.out|apply Zn|apply Zm|apply Zo)|exact HB.out)) hb);(try clear hb);(try clear hb2);(try clear hk);(try clear hi)))
      go_ret
      exact⟨by first|rfl|(simp[ZA,Zz] <;> rfl)|(simp[*,ZA,Zz] <;> rfl),by repeat(first|(with_reducible first|exact HB.out|apply Zn|apply Zm|apply Zo)|exact HB.out)⟩
 ·replace c3:=Bool.eq_false_iff.mpr c3
  subst c3
  have H1:(some (⟨#[]⟩:ByteArray))=some r:=by rw[if_neg (show ¬(false=true) by decide)] at H;exact H
  clear H
  have H:=H1
  clear H1
  obtain rfl:=Zg H
  go_enter Tryd.func11,Tryd.ntmps11
  go_wp2_with (first|((with_reducible refine ZG (f:=27) rfl ?_);refine ZX (some 8) rfl rfl Tryd.func27 (by kernel_rfl) rfl #[.slice A0 l0.length c0] rfl (by(try simp only[List.map_toArray,List.map_cons,List.map_nil]);first|done|rfl|(simp only[Zk,Zj];rfl)) ?_;(with_reducible refine(Z1.calls k _ _ l0 false _ ?side1 ?side2 A2.out).mono ?_);(case side1=>repeat(first|exact HR0.out|(with_reducible refine Kd.C_alloc ?_ _)|(with_reducible refine Kd.C_drewN ?_ _)|(with_reducible refine Kd.C_drew ?_)));(case side2=>exact HC0.out);rintro e w26 ⟨rfl,hb⟩;refine⟨_,rfl,?_⟩;replace HB:=Za (Zx (by repeat(first|(with_reducible first|exact HB.out|apply Zn|apply Zm|apply Zo)|exact HB.out)) hb);(try clear hb);(try clear hb2);(try clear hk);(try clear hi)))
  go_ret
  exact⟨by first|rfl|(simp[ZA,Zz] <;> rfl)|(simp[*,ZA,Zz] <;> rfl),by repeat(first|(with_reducible first|exact HB.out|apply Zn|apply Zm|apply Zo)|exact HB.out)⟩
end Go.Proofs.YthphnhmabieflaaDoor.Pr
