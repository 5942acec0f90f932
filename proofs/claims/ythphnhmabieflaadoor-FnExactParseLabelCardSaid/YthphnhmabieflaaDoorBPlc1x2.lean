/- The texts of one claim, put together by a program of this session. -/
import Derived.Lib.AppendIntMem
import Derived.Shelf.Strings.OnBuilder
import Derived.Shelf.Small.Strs
import Derived.Shelf.LaysM
import Derived.Shelf.Strconv.Itoa3
import Derived.Test.YthphnhmabieflaaDoorProg
import Derived.Shelf.LaysC
import Derived.Shelf.Strconv.AtoiAll
import Derived.Shelf.Strconv.ErrVarAll
import Derived.Test.YthphnhmabieflaaDoorBPlc1x1
namespace Go.Proofs.YthphnhmabieflaaDoor.Pr
open Go.RowKit Go.Proofs.YthphnhmabieflaaDoorW.PrintWords Go.Proofs.YthphnhmabieflaaDoorW.PrintLast Go.Proofs.YthphnhmabieflaaDoorW.PrintMore
attribute [local go_sem] Zal Zaj Zas Zar Zaf Zae Zak Zai
set_option linter.unusedVariables false
set_option linter.unusedSimpArgs false
def Zv.l0:Nat→List ByteArray→List Int→Int→Int→Option (ByteArray)
 | 0,_,_,_,_=>none
 | k+1,x3,x14,x15,x16=>if x16<x15 then(if 0≤x16 then(if x16<(x14.length:Int) then((ZL.f (rd x14 x16)).bind fun t9007=>((Zt.f k t9007).bind fun t9008=>(if 1+t9008.size≤9223372036854775807 then(if (rd x14 x16)<0 then(if 1+((⟨#[112]⟩:ByteArray) ++ t9008).size≤9223372036854775807 then(if x3.length<8796093022208 then(Zv.l0 k (x3 ++ [(⟨#[33]⟩:ByteArray) ++ ((⟨#[112]⟩:ByteArray) ++ t9008)]) x14 x15 (wrap64 (x16+1))) else(none)) else(none)) else(if x3.length<8796093022208 then(Zv.l0 k (x3 ++ [(⟨#[112]⟩:ByteArray) ++ t9008]) x14 x15 (wrap64 (x16+1))) else(none))) else(none)))) else(none)) else(none)) else((Z1.f k x3 (⟨#[38]⟩:ByteArray)).bind fun t9005=>(some t9005))
def Zv.f (k:Nat) (l0:List Int):Option (ByteArray):=(Zz.f k l0).bind fun t9004=>(if t9004=true then(if (l0.length:Int)=0 then(some (⟨#[45]⟩:ByteArray)) else(Zv.l0 k (([]:List ByteArray)) l0 (l0.length:Int) 0)) else(some (⟨#[]⟩:ByteArray)))
set_option maxHeartbeats 8000000 in
set_option maxRecDepth 100000 in
theorem Zv.calls (k:Nat) (A0:Option Addr) (c0:Nat) (l0:List Int) (r:ByteArray) (w:World) (hr0:Kd.C (Kd.int .i64) w A0 l0.length l0) (hc0:l0.length≤c0) (h:Zv.f k l0=some r) :
  Calls Tryd.prog 9 #[.slice A0 l0.length c0] w fun e w'=>e=.returned (.string r)∧Below w.heap.size w w':=by
 have HR0:=Za hr0;have HC0:=Za hc0;clear hr0 hc0
 have HB:=Za (Below.refl w.heap.size w)
 have H:((Zz.f k l0).bind fun t9004=>(if t9004=true then(if (l0.length:Int)=0 then(some (⟨#[45]⟩:ByteArray)) else(Zv.l0 k (([]:List ByteArray)) l0 (l0.length:Int) 0)) else(some (⟨#[]⟩:ByteArray))))=some r:=h
 clear h
 obtain⟨y9001,hy9001⟩:∃y_:List ByteArray,y_=(([]:List ByteArray)):=⟨_,rfl⟩
 replace H:((Zz.f k l0).bind fun t9004=>(if t9004=true then(if (l0.length:Int)=0 then(some (⟨#[45]⟩:ByteArray)) else(Zv.l0 k y9001 l0 (l0.length:Int) 0)) else(some (⟨#[]⟩:ByteArray))))=some r:=by first|(rw[hy9001];with_reducible exact H)|(have H2_:=(Zh _ _).symm.trans H;rw[hy9001];with_reducible exact H2_)|(have H2_:=(Zh _ _).symm.trans H;with_reducible exact H2_)|with_reducible exact H|(rw[hy9001];exact H)|exact H
 have Ny9001:=Za hy9001;clear hy9001
 replace H:=Zg H
 obtain⟨t9004,A20,H⟩:=H
 replace H:(if t9004=true then(if (l0.length:Int)=0 then(some (⟨#[45]⟩:ByteArray)) else(Zv.l0 k y9001 l0 (l0.length:Int) 0)) else(some (⟨#[]⟩:ByteArray)))=some r:=H
 have A2:=Za A20;clear A20
 by_cases c3:t9004=true
 ·subst c3
  have H1:(if (l0.length:Int)=0 then(some (⟨#[45]⟩:ByteArray)) else(Zv.l0 k y9001 l0 (l0.length:Int) 0))=some r:=by rw[if_pos rfl] at H;exact H
  clear H
  have H:=H1
  clear H1
  by_cases c4:(l0.length:Int)=0
  ·rw[if_pos c4] at H
   have c4b0:((l0.length:Int) == 0)=true:=beq_iff_eq.mpr c4
   have c4b1:((l0.length:Int) != 0)=false:=bne_eq_false_iff_eq.mpr c4
   clear c4
   obtain rfl:=Zf H
   go_enter Tryd.func9,Tryd.ntmps9
   go_wp2_with (first|((with_reducible refine Z5 (N:=7) rfl ?_);refine Kd.R_lit Kd.string _ 9 ?hg (N:=7) ?hd (xs:=([]:List ByteArray)) (inner:=[]) (ok:=fun _=>True) (okp:=fun _=>True) ?hr ?hp (fun _ hk=>hk) trivial (Below.refl _ _) (Nat.le_refl _) (by simp) ?_;(case hd=>rfl);(case hg=>rfl);(case hr=>first|(go_simp;done)|(go_simp;rfl));(case hp=>exact(Reps.none _ _));intro v9002 w5 ho6 hb hg_ hnew_;clear hg_ hnew_;(first|rw[← Ny9001.out] at ho6|(simp only[Int.reduceToNat] at ho6;rw[← Ny9001.out] at ho6));have HO9003:=Za (Kd.R_lower ho6 (Zy (by repeat(first|(with_reducible first|exact HB.out|apply Zm|apply Zl|apply Zn)|exact HB.out))));replace HB:=Za (Zu (by repeat(first|(with_reducible first|exact HB.out|apply Zm|apply Zl|apply Zn)|exact HB.out)) hb);clear hb ho6)|((with_reducible refine ZA (f:=34) rfl ?_);refine ZT (some 9) rfl rfl Tryd.func34 (by kernel_rfl) rfl #[.slice A0 l0.length c0] rfl (by(try simp only[List.map_toArray,List.map_cons,List.map_nil]);first|done|rfl|(simp only[Zj,Zi];rfl)) ?_;(with_reducible refine(Zz.calls k _ _ l0 true _ ?side1 ?side2 A2.out).mono ?_);(case side1=>repeat(first|exact(Kd.C_below HR0.out HB.out)|(with_reducible refine Kd.C_alloc ?_ _)|(with_reducible refine Kd.C_drewN ?_ _)|(with_reducible refine Kd.C_drew ?_)));(case side2=>exact HC0.out);rintro e w' ⟨rfl,⟨nd,rfl⟩⟩;refine⟨_,rfl,?_⟩))
   go_ret
   exact⟨by first|rfl|(simp[Zr,Zq] <;> rfl)|(simp[*,Zr,Zq] <;> rfl),by repeat(first|(with_reducible first|exact HB.out|apply Zm|apply Zl|apply Zn)|exact HB.out)⟩
  ·rw[if_neg c4] at H
   have c4b0:((l0.length:Int) == 0)=false:=beq_eq_false_iff_ne.mpr c4
   have c4b1:((l0.length:Int) != 0)=true:=bne_iff_ne.mpr c4
   have c4b2:¬(l0=[]):=fun h_=>c4 (by rw[h_];rfl)
   have H':=Za H
   clear H
   go_enter Tryd.func9,Tryd.ntmps9
   go_wp2_with (first|((with_reducible refine Z5 (N:=7) rfl ?_);refine Kd.R_lit Kd.string _ 9 ?hg (N:=7) ?hd (xs:=([]:List ByteArray)) (inner:=[]) (ok:=fun _=>True) (okp:=fun _=>True) ?hr ?hp (fun _ hk=>hk) trivial (Below.refl _ _) (Nat.le_refl _) (by simp) ?_;(case hd=>rfl);(case hg=>rfl);(case hr=>first|(go_simp;done)|(go_simp;rfl));(case hp=>exact(Reps.none _ _));intro v9002 w7 ho8 hb hg_ hnew_;clear hg_ hnew_;(first|rw[← Ny9001.out] at ho8|(simp only[Int.reduceToNat] at ho8;rw[← Ny9001.out] at ho8));have HO9003:=Za (Kd.R_lower ho8 (Zy (by repeat(first|(with_reducible first|exact HB.out|apply Zm|apply Zl|apply Zn)|exact HB.out))));replace HB:=Za (Zu (by repeat(first|(with_reducible first|exact HB.out|apply Zm|apply Zl|apply Zn)|exact HB.out)) hb);clear hb ho8)|((with_reducible refine ZA (f:=34) rfl ?_);refine ZT (some 9) rfl rfl Tryd.func34 (by kernel_rfl) rfl #[.slice A0 l0.length c0] rfl (by(try simp only[List.map_toArray,List.map_cons,List.map_nil]);first|done|rfl|(simp only[Zj,Zi];rfl)) ?_;(with_reducible refine(Zz.calls k _ _ l0 true _ ?side1 ?side2 A2.out).mono ?_);(case side1=>repeat(first|exact(Kd.C_below HR0.out HB.out)|(with_reducible refine Kd.C_alloc ?_ _)|(with_reducible refine Kd.C_drewN ?_ _)|(with_reducible refine Kd.C_drew ?_)));(case side2=>exact HC0.out);rintro e w' ⟨rfl,⟨nd,rfl⟩⟩;refine⟨_,rfl,?_⟩))
   go_loopg [3,16] k (fun kq v3 v16 w'=>∃(x3_1:List ByteArray) (x16_1:Int),v16=.int .i64 x16_1∧Aside0 (Zv.l0 kq x3_1 l0 (l0.length:Int) x16_1=some r)∧Aside0 (kq≤k)∧Aside0 (Kd.R Kd.string 9 w' w.heap.size (fun _=>True) v3 x3_1)∧Aside0 (Below w.heap.size w w'))
   case atStart=>exact⟨(y9001),(0),(by first|rfl|(simp;done)|(simp[*];done)),H',⟨Nat.le_refl _⟩,⟨by(with_reducible repeat(first|apply Kd.R_alloc|apply Kd.R_drewN|apply Kd.R_drew));exact HO9003.out⟩,⟨by repeat(first|(with_reducible first|exact HB.out|apply Zm|apply Zl|apply Zn)|exact HB.out)⟩⟩
   case round=>
    clear H'
    try clear p2
    try clear c3
    try clear c4
    try clear c4b0
    try clear c4b1
    try clear c4b2
    obtain⟨x3_1,x16_1,rfl,HA,HK1,HO_3,HB⟩:=hrel
    cases gk with
    | zero=>exact absurd HA.out (by simp[Zv.l0])
    | succ k1=>
     have H:=HA.out
     clear HA
     simp only[Zv.l0] at H
     by_cases c9:x16_1<(l0.length:Int)
     ·rw[if_pos c9] at H
      have c9b0:decide (x16_1<(l0.length:Int))=true:=Zd c9
      clear c9
      by_cases c10:0≤x16_1
      ·rw[if_pos c10] at H
       have c10b0:decide (0≤x16_1)=true:=Zd c10
       clear c10
       by_cases c11:x16_1<(l0.length:Int)
       ·rw[if_pos c11] at H
        have c11b0:decide (x16_1<(l0.length:Int))=true:=Zd c11
        clear c11
        replace H:=Zg H
        obtain⟨t9007,A120,H⟩:=H
        replace H:((Zt.f k1 t9007).bind fun t9008=>(if 1+t9008.size≤9223372036854775807 then(if (rd l0 x16_1)<0 then(if 1+((⟨#[112]⟩:ByteArray) ++ t9008).size≤9223372036854775807 then(if x3_1.length<8796093022208 then(Zv.l0 k1 (x3_1 ++ [(⟨#[33]⟩:ByteArray) ++ ((⟨#[112]⟩:ByteArray) ++ t9008)]) l0 (l0.length:Int) (wrap64 (x16_1+1))) else(none)) else(none)) else(if x3_1.length<8796093022208 then(Zv.l0 k1 (x3_1 ++ [(⟨#[112]⟩:ByteArray) ++ t9008]) l0 (l0.length:Int) (wrap64 (x16_1+1))) else(none))) else(none)))=some r:=H
        have A12:=Za A120;clear A120
        replace H:=Zg H
        obtain⟨t9008,A130,H⟩:=H
        replace H:(if 1+t9008.size≤9223372036854775807 then(if (rd l0 x16_1)<0 then(if 1+((⟨#[112]⟩:ByteArray) ++ t9008).size≤9223372036854775807 then(if x3_1.length<8796093022208 then(Zv.l0 k1 (x3_1 ++ [(⟨#[33]⟩:ByteArray) ++ ((⟨#[112]⟩:ByteArray) ++ t9008)]) l0 (l0.length:Int) (wrap64 (x16_1+1))) else(none)) else(none)) else(if x3_1.length<8796093022208 then(Zv.l0 k1 (x3_1 ++ [(⟨#[112]⟩:ByteArray) ++ t9008]) l0 (l0.length:Int) (wrap64 (x16_1+1))) else(none))) else(none))=some r:=H
        have A13:=Za A130;clear A130
        by_cases c14:1+t9008.size≤9223372036854775807
        ·rw[if_pos c14] at H
         have c14b0:=eq_true c14
         have c14b1:decide (1+t9008.size≤9223372036854775807)=true:=Zd c14
         try have c14b2:(9223372036854775807<1+t9008.size)=False:=eq_false (Nat.not_lt.2 c14)
         by_cases c15:(rd l0 x16_1)<0
         ·rw[if_pos c15] at H
          have c15b0:decide ((rd l0 x16_1)<0)=true:=Zd c15
          clear c15
          by_cases c16:1+((⟨#[112]⟩:ByteArray) ++ t9008).size≤9223372036854775807
          ·rw[if_pos c16] at H
           have c16b0:=eq_true c16
           have c16b1:decide (1+((⟨#[112]⟩:ByteArray) ++ t9008).size≤9223372036854775807)=true:=Zd c16
           try have c16b2:(9223372036854775807<1+((⟨#[112]⟩:ByteArray) ++ t9008).size)=False:=eq_false (Nat.not_lt.2 c16)
           try have c16b4:(9223372036854775807<1+(1+t9008.size))=False:=eq_false (Nat.not_lt.2 (by have h_:=c16;simp only[ByteArray.size_append] at h_;exact h_))
           by_cases c17:x3_1.length<8796093022208
           ·rw[if_pos c17] at H
            have LMc17:=Za c17;clear c17
            obtain⟨y9009,hy9009⟩:∃y_:List ByteArray,y_=(x3_1 ++ [(⟨#[33]⟩:ByteArray) ++ ((⟨#[112]⟩:ByteArray) ++ t9008)]):=⟨_,rfl⟩
            replace H:(Zv.l0 k1 y9009 l0 (l0.length:Int) (wrap64 (x16_1+1)))=some r:=by first|(rw[hy9009];with_reducible exact H)|(have H2_:=(Zh _ _).symm.trans H;rw[hy9009];with_reducible exact H2_)|(have H2_:=(Zh _ _).symm.trans H;with_reducible exact H2_)|with_reducible exact H|(rw[hy9009];exact H)|exact H
            have Ny9009:=Za hy9009;clear hy9009
            have H':=Za H
            clear H
            have p9006:0≤(x16_1:Int):=Zc (by first|(with_reducible assumption)|assumption)
            have q9006:x16_1<(l0.length:Int):=Zc (by first|(with_reducible assumption)|assumption)
            obtain⟨ad9006,e9006,hx9006_0⟩:=Kd.at_int HR0.out x16_1 p9006 q9006
            cases e9006
            replace hx9006_0:=(HB.out.cell (Zb w _ hx9006_0)).trans hx9006_0
            replace p9006:=eq_true p9006
            replace q9006:=eq_true q9006
            go_wp2_with (first|((with_reducible refine ZA (f:=36) rfl ?_);refine ZT (some 21) rfl rfl Tryd.func36 (by kernel_rfl) rfl #[.int .i64 (rd l0 x16_1)] rfl (by(try simp only[List.map_toArray,List.map_cons,List.map_nil]);first|done|rfl|(simp only[Zj,Zi];rfl)) ?_;(with_reducible refine(ZL.calls (rd l0 x16_1) t9007 _ A12.out).mono ?_);rintro e w' ⟨rfl,⟨nd,rfl⟩⟩;refine⟨_,rfl,?_⟩)|((with_reducible refine ZA (f:=35) rfl ?_);refine ZT (some 22) rfl rfl Tryd.func35 (by kernel_rfl) rfl #[.int .i64 t9007] rfl (by(try simp only[List.map_toArray,List.map_cons,List.map_nil]);first|done|rfl|(simp only[Zj,Zi];rfl)) ?_;(with_reducible refine(Zt.calls k1 t9007 t9008 _ A13.out).mono ?_);rintro e w18 ⟨rfl,hb⟩;refine⟨_,rfl,?_⟩;replace HO_3:=Za (Kd.R_below (by(with_reducible repeat(first|apply Kd.R_alloc|apply Kd.R_drewN|apply Kd.R_drew));exact HO_3.out) hb);replace HB:=Za (Zu (by repeat(first|(with_reducible first|exact HB.out|apply Zm|apply Zl|apply Zn)|exact HB.out)) hb);(try clear hb);(try clear hb2);(try clear hk);(try clear hi))|((with_reducible refine ZW (b:=.append) (xs:=#[.tmp 28,.tmp 30]) rfl ?_);at_builtin;refine Kd.R_append Kd.string (w0:=w) w.heap.size rfl (.tmp 28) (.tmp 30) 56 9 (.string ⟨#[]⟩) 16 rfl Tryd.underlying56 ZaM rfl (by decide) (by omega) u3 x3_1 ((⟨#[33]⟩:ByteArray) ++ ((⟨#[112]⟩:ByteArray) ++ t9008)) [.string ((⟨#[33]⟩:ByteArray) ++ ((⟨#[112]⟩:ByteArray) ++ t9008))] (fun _=>True) (fun _=>False) rfl rfl ?aP (fun _ hk=>hk.elim) ?aF ?aO ?aB ?aS ?aL ?_;(case aP=>exact rfl);(case aB=>exact(by repeat(first|(with_reducible first|exact HB.out|apply Zm|apply Zl|apply Zn)|exact HB.out)));(case aF=>exact(fun _ _=>trivial));(case aO=>exact(by(with_reducible repeat(first|apply Kd.R_alloc|apply Kd.R_drewN|apply Kd.R_drew));exact HO_3.out));(case aS=>exact(Zy (by repeat(first|(with_reducible first|exact HB.out|apply Zm|apply Zl|apply Zn)|exact HB.out))));(case aL=>have:=LMc17.out;omega);intro v9010 w19 ho hb hg hat;rw[← Ny9009.out] at ho;have HO9011:=Za (ho);replace HB:=Za (hb);clear HO_3;clear ho hb hg hat))
            go_roundg k1
            case measure=>have:=HK1.out;omega
            case rel=>exact⟨(y9009),(wrap64 (x16_1+1)),(by first|rfl|(simp;done)|(simp[*];done)),H',⟨by have:=HK1.out;omega⟩,⟨by(with_reducible repeat(first|apply Kd.R_alloc|apply Kd.R_drewN|apply Kd.R_drew));exact HO9011.out⟩,⟨by repeat(first|(with_reducible first|exact HB.out|apply Zm|apply Zl|apply Zn)|exact HB.out)⟩⟩
           ·rw[if_neg c17] at H
            exact absurd H (by simp)
          ·rw[if_neg c16] at H
           exact absurd H (by simp)
         ·rw[if_neg c15] at H
          have c15b0:decide ((rd l0 x16_1)<0)=false:=Ze c15
          clear c15
          by_cases c20:x3_1.length<8796093022208
          ·rw[if_pos c20] at H
           have LMc20:=Za c20;clear c20
           obtain⟨y9012,hy9012⟩:∃y_:List ByteArray,y_=(x3_1 ++ [(⟨#[112]⟩:ByteArray) ++ t9008]):=⟨_,rfl⟩
           replace H:(Zv.l0 k1 y9012 l0 (l0.length:Int) (wrap64 (x16_1+1)))=some r:=by first|(rw[hy9012];with_reducible exact H)|(have H2_:=(Zh _ _).symm.trans H;rw[hy9012];with_reducible exact H2_)|(have H2_:=(Zh _ _).symm.trans H;with_reducible exact H2_)|with_reducible exact H|(rw[hy9012];exact H)|exact H
           have Ny9012:=Za hy9012;clear hy9012
           have H':=Za H
           clear H
           have p9006:0≤(x16_1:Int):=Zc (by first|(with_reducible assumption)|assumption)
           have q9006:x16_1<(l0.length:Int):=Zc (by first|(with_reducible assumption)|assumption)
           obtain⟨ad9006,e9006,hx9006_0⟩:=Kd.at_int HR0.out x16_1 p9006 q9006
           cases e9006
           replace hx9006_0:=(HB.out.cell (Zb w _ hx9006_0)).trans hx9006_0
           replace p9006:=eq_true p9006
           replace q9006:=eq_true q9006
           go_wp2_with (first|((with_reducible refine ZA (f:=36) rfl ?_);refine ZT (some 21) rfl rfl Tryd.func36 (by kernel_rfl) rfl #[.int .i64 (rd l0 x16_1)] rfl (by(try simp only[List.map_toArray,List.map_cons,List.map_nil]);first|done|rfl|(simp only[Zj,Zi];rfl)) ?_;(with_reducible refine(ZL.calls (rd l0 x16_1) t9007 _ A12.out).mono ?_);rintro e w' ⟨rfl,⟨nd,rfl⟩⟩;refine⟨_,rfl,?_⟩)|((with_reducible refine ZA (f:=35) rfl ?_);refine ZT (some 22) rfl rfl Tryd.func35 (by kernel_rfl) rfl #[.int .i64 t9007] rfl (by(try simp only[List.map_toArray,List.map_cons,List.map_nil]);first|done|rfl|(simp only[Zj,Zi];rfl)) ?_;(with_reducible refine(Zt.calls k1 t9007 t9008 _ A13.out).mono ?_);rintro e w21 ⟨rfl,hb⟩;refine⟨_,rfl,?_⟩;replace HO_3:=Za (Kd.R_below (by(with_reducible repeat(first|apply Kd.R_alloc|apply Kd.R_drewN|apply Kd.R_drew));exact HO_3.out) hb);replace HB:=Za (Zu (by repeat(first|(with_reducible first|exact HB.out|apply Zm|apply Zl|apply Zn)|exact HB.out)) hb);(try clear hb);(try clear hb2);(try clear hk);(try clear hi))|((with_reducible refine ZW (b:=.append) (xs:=#[.tmp 28,.tmp 30]) rfl ?_);at_builtin;refine Kd.R_append Kd.string (w0:=w) w.heap.size rfl (.tmp 28) (.tmp 30) 56 9 (.string ⟨#[]⟩) 16 rfl Tryd.underlying56 ZaM rfl (by decide) (by omega) u3 x3_1 ((⟨#[112]⟩:ByteArray) ++ t9008) [.string ((⟨#[112]⟩:ByteArray) ++ t9008)] (fun _=>True) (fun _=>False) rfl rfl ?aP (fun _ hk=>hk.elim) ?aF ?aO ?aB ?aS ?aL ?_;(case aP=>exact rfl);(case aB=>exact(by repeat(first|(with_reducible first|exact HB.out|apply Zm|apply Zl|apply Zn)|exact HB.out)));(case aF=>exact(fun _ _=>trivial));(case aO=>exact(by(with_reducible repeat(first|apply Kd.R_alloc|apply Kd.R_drewN|apply Kd.R_drew));exact HO_3.out));(case aS=>exact(Zy (by repeat(first|(with_reducible first|exact HB.out|apply Zm|apply Zl|apply Zn)|exact HB.out))));(case aL=>have:=LMc20.out;omega);intro v9013 w22 ho hb hg hat;rw[← Ny9012.out] at ho;have HO9014:=Za (ho);replace HB:=Za (hb);clear HO_3;clear ho hb hg hat))
           go_roundg k1
           case measure=>have:=HK1.out;omega
           case rel=>exact⟨(y9012),(wrap64 (x16_1+1)),(by first|rfl|(simp;done)|(simp[*];done)),H',⟨by have:=HK1.out;omega⟩,⟨by(with_reducible repeat(first|apply Kd.R_alloc|apply Kd.R_drewN|apply Kd.R_drew));exact HO9014.out⟩,⟨by repeat(first|(with_reducible first|exact HB.out|apply Zm|apply Zl|apply Zn)|exact HB.out)⟩⟩
          ·rw[if_neg c20] at H
           exact absurd H (by simp)
        ·rw[if_neg c14] at H
         exact absurd H (by simp)
       ·rw[if_neg c11] at H
        exact absurd H (by simp)
      ·rw[if_neg c10] at H
       exact absurd H (by simp)
     ·rw[if_neg c9] at H
      have c9b0:decide (x16_1<(l0.length:Int))=false:=Ze c9
      clear c9
      replace H:=Zg H
      obtain⟨t9005,A230,H⟩:=H
      replace H:(some t9005)=some r:=H
      have A23:=Za A230;clear A230
      obtain rfl:=Zf H
      obtain⟨Ao24,co24,eo24⟩:=Kd.R_slice HO_3.out
      subst eo24
      go_wp2_with (first|((with_reducible refine ZA (f:=37) rfl ?_);refine ZT (some 34) rfl rfl Tryd.func37 (by kernel_rfl) rfl #[.slice Ao24 x3_1.length co24,.string (⟨#[38]⟩:ByteArray)] rfl (by(try simp only[List.map_toArray,List.map_cons,List.map_nil]);first|done|rfl|(simp only[Zj,Zi];rfl)) ?_;(with_reducible refine(Z1.calls k1 _ _ x3_1 (⟨#[38]⟩:ByteArray) t9005 _ ?side1 ?side2 A23.out).mono ?_);(case side1=>repeat(first|exact(Kd.R_reads' HO_3.out).2.2|(with_reducible refine Kd.C_alloc ?_ _)|(with_reducible refine Kd.C_drewN ?_ _)|(with_reducible refine Kd.C_drew ?_)));(case side2=>exact(Kd.R_reads' HO_3.out).2.1);rintro e w' ⟨rfl,⟨nd,rfl⟩⟩;refine⟨_,rfl,?_⟩))
      go_ret
      exact⟨by first|rfl|(simp[Zr,Zq] <;> rfl)|(simp[*,Zr,Zq] <;> rfl),by repeat(first|(with_reducible first|exact HB.out|apply Zm|apply Zl|apply Zn)|exact HB.out)⟩
 ·replace c3:=Bool.eq_false_iff.mpr c3
  subst c3
  have H1:(some (⟨#[]⟩:ByteArray))=some r:=by rw[if_neg (show ¬(false=true) by decide)] at H;exact H
  clear H
  have H:=H1
  clear H1
  obtain rfl:=Zf H
  go_enter Tryd.func9,Tryd.ntmps9
  go_wp2_with (first|((with_reducible refine Z5 (N:=7) rfl ?_);refine Kd.R_lit Kd.string _ 9 ?hg (N:=7) ?hd (xs:=([]:List ByteArray)) (inner:=[]) (ok:=fun _=>True) (okp:=fun _=>True) ?hr ?hp (fun _ hk=>hk) trivial (Below.refl _ _) (Nat.le_refl _) (by simp) ?_;(case hd=>rfl);(case hg=>rfl);(case hr=>first|(go_simp;done)|(go_simp;rfl));(case hp=>exact(Reps.none _ _));intro v9002 w25 ho26 hb hg_ hnew_;clear hg_ hnew_;(first|rw[← Ny9001.out] at ho26|(simp only[Int.reduceToNat] at ho26;rw[← Ny9001.out] at ho26));have HO9003:=Za (Kd.R_lower ho26 (Zy (by repeat(first|(with_reducible first|exact HB.out|apply Zm|apply Zl|apply Zn)|exact HB.out))));replace HB:=Za (Zu (by repeat(first|(with_reducible first|exact HB.out|apply Zm|apply Zl|apply Zn)|exact HB.out)) hb);clear hb ho26)|((with_reducible refine ZA (f:=34) rfl ?_);refine ZT (some 9) rfl rfl Tryd.func34 (by kernel_rfl) rfl #[.slice A0 l0.length c0] rfl (by(try simp only[List.map_toArray,List.map_cons,List.map_nil]);first|done|rfl|(simp only[Zj,Zi];rfl)) ?_;(with_reducible refine(Zz.calls k _ _ l0 false _ ?side1 ?side2 A2.out).mono ?_);(case side1=>repeat(first|exact(Kd.C_below HR0.out HB.out)|(with_reducible refine Kd.C_alloc ?_ _)|(with_reducible refine Kd.C_drewN ?_ _)|(with_reducible refine Kd.C_drew ?_)));(case side2=>exact HC0.out);rintro e w' ⟨rfl,⟨nd,rfl⟩⟩;refine⟨_,rfl,?_⟩))
  go_ret
  exact⟨by first|rfl|(simp[Zr,Zq] <;> rfl)|(simp[*,Zr,Zq] <;> rfl),by repeat(first|(with_reducible first|exact HB.out|apply Zm|apply Zl|apply Zn)|exact HB.out)⟩
mutual
def Zp.l0:Nat→ByteArray→List Int→List ByteArray→Int→Int→Option (List Int×Bool)
 | 0,_,_,_,_,_=>none
 | k+1,x0,x4,x15,x16,x17=>if x17<x16 then(if 0≤x17 then(if x17<(x15.length:Int) then(if ((rdOf ByteArray.empty x15 x17).size:Int) > 0 then(if 0<((rdOf ByteArray.empty x15 x17).size:Int) then(Zp.j1 k x0 x4 (rdOf ByteArray.empty x15 x17) 1 x15 x16 x17 ((bt (rdOf ByteArray.empty x15 x17) 0) == 33)) else(none)) else(Zp.j1 k x0 x4 (rdOf ByteArray.empty x15 x17) 1 x15 x16 x17 false)) else(none)) else(none)) else((Zz.f k x4).bind fun t22014=>(if t22014=true then((Zv.f k x4).bind fun t22015=>(if t22015.toList=x0.toList then(some (x4,true)) else(some (([]:List Int),false)))) else(some (([]:List Int),false))))
def Zp.j1:Nat→ByteArray→List Int→ByteArray→Int→List ByteArray→Int→Int→Bool→Option (List Int×Bool)
 | 0,_,_,_,_,_,_,_,_=>none
 | k+1,x0,x4,x6,x7,x15,x16,x17,x28=>if x28=true then(if 1≤(x6.size:Int) then(Zp.j2 k x0 x4 (x6.extract 1 x6.size) (-1) x15 x16 x17) else(none)) else(Zp.j2 k x0 x4 x6 x7 x15 x16 x17)
def Zp.j2:Nat→ByteArray→List Int→ByteArray→Int→List ByteArray→Int→Int→Option (List Int×Bool)
 | 0,_,_,_,_,_,_,_=>none
 | k+1,x0,x4,x6,x7,x15,x16,x17=>if (x6.size:Int)<2 then(Zp.j3 k x0 x4 x6 x7 x15 x16 x17 true) else(if 0<(x6.size:Int) then(Zp.j3 k x0 x4 x6 x7 x15 x16 x17 ((bt x6 0) != 112)) else(none))
def Zp.j3:Nat→ByteArray→List Int→ByteArray→Int→List ByteArray→Int→Int→Bool→Option (List Int×Bool)
 | 0,_,_,_,_,_,_,_,_=>none
 | k+1,x0,x4,x6,x7,x15,x16,x17,x38=>if x38=true then(some (([]:List Int),false)) else(if 1≤(x6.size:Int) then((Zs.f k (x6.extract 1 x6.size)).bind fun bt22008=>(if bt22008.2=true then((Z3.f bt22008.1 1 3).bind fun t22010=>(if t22010=true then(if x4.length<17592186044416 then(Zp.l0 k x0 (x4 ++ [wrap64 (x7 * bt22008.1)]) x15 x16 (wrap64 (x17+1))) else(none)) else(some (([]:List Int),false)))) else(some (([]:List Int),false)))) else(none))
end
def Zp.f (k:Nat) (a0:ByteArray):Option (List Int×Bool):=(some (([]:List Int):List Int)).bind fun y22001=>(if a0.toList=([45]:List UInt8) then(some (y22001,true)) else((ZB.f k a0 (⟨#[38]⟩:ByteArray)).bind fun t22004=>(Zp.l0 k a0 y22001 t22004 (t22004.length:Int) 0)))
set_option maxHeartbeats 8000000 in
set_option maxRecDepth 100000 in
theorem Zp.calls (k:Nat) (a0:ByteArray) (r1:List Int) (r2:Bool) (w:World) (h:Zp.f k a0=some (r1,r2)) :
  Calls Tryd.prog 22 #[.string a0] w fun e w'=>∃v0_:Value,e=.returned (.tuple #[v0_,.bool r2])∧Kd.R (Kd.int .i64) 3 w' w.heap.size (fun _=>True) v0_ r1∧Below w.heap.size w w':=by
 have HB:=Za (Below.refl w.heap.size w)
 have H:((some (([]:List Int):List Int)).bind fun y22001=>(if a0.toList=([45]:List UInt8) then(some (y22001,true)) else((ZB.f k a0 (⟨#[38]⟩:ByteArray)).bind fun t22004=>(Zp.l0 k a0 y22001 t22004 (t22004.length:Int) 0))))=some (r1,r2):=h
 clear h
 obtain⟨y22001,hy22001⟩:∃y_:List Int,y_=(([]:List Int)):=⟨_,rfl⟩
 replace H:(if a0.toList=([45]:List UInt8) then(some (y22001,true)) else((ZB.f k a0 (⟨#[38]⟩:ByteArray)).bind fun t22004=>(Zp.l0 k a0 y22001 t22004 (t22004.length:Int) 0)))=some (r1,r2):=by first|(rw[hy22001];with_reducible exact H)|(have H2_:=(Zh _ _).symm.trans H;rw[hy22001];with_reducible exact H2_)|(have H2_:=(Zh _ _).symm.trans H;with_reducible exact H2_)|with_reducible exact H|(rw[hy22001];exact H)|exact H
 have Ny22001:=Za hy22001;clear hy22001
 by_cases c2:a0.toList=([45]:List UInt8)
 ·rw[if_pos c2] at H
  have c2b0:(a0.toList == ([45]:List UInt8))=true:=beq_iff_eq.mpr c2
  have c2b1:(a0.toList != ([45]:List UInt8))=false:=bne_eq_false_iff_eq.mpr c2
  clear c2
  simp only[Option.some.injEq,Prod.mk.injEq] at H
  obtain⟨rfl,rfl⟩:=H
  go_enter Tryd.func22,Tryd.ntmps22
  go_wp2_with (first|((with_reducible refine Z5 (N:=10) rfl ?_);refine Kd.R_lit (Kd.int .i64) _ 3 ?hg (N:=10) ?hd (xs:=([]:List Int)) (inner:=[]) (ok:=fun _=>True) (okp:=fun _=>True) ?hr ?hp (fun _ hk=>hk) trivial (Below.refl _ _) (Nat.le_refl _) (by simp) ?_;(case hd=>rfl);(case hg=>rfl);(case hr=>first|(go_simp;done)|(go_simp;rfl));(case hp=>exact(Reps.none _ _));intro v22002 w3 ho4 hb hg_ hnew_;clear hg_ hnew_;(first|rw[← Ny22001.out] at ho4|(simp only[Int.reduceToNat] at ho4;rw[← Ny22001.out] at ho4));have HO22003:=Za (Kd.R_lower ho4 (Zy (by repeat(first|(with_reducible first|exact HB.out|apply Zm|apply Zl|apply Zn)|exact HB.out))));replace HB:=Za (Zu (by repeat(first|(with_reducible first|exact HB.out|apply Zm|apply Zl|apply Zn)|exact HB.out)) hb);clear hb ho4))
  go_ret2
  exact⟨_,by first|rfl|(simp[Zr,Zq] <;> rfl)|(simp[*,Zr,Zq] <;> rfl),by(with_reducible repeat(first|apply Kd.R_alloc|apply Kd.R_drewN|apply Kd.R_drew));exact HO22003.out,by repeat(first|(with_reducible first|exact HB.out|apply Zm|apply Zl|apply Zn)|exact HB.out)⟩
 ·rw[if_neg c2] at H
  have c2b0:(a0.toList == ([45]:List UInt8))=false:=beq_eq_false_iff_ne.mpr c2
  have c2b1:(a0.toList != ([45]:List UInt8))=true:=bne_iff_ne.mpr c2
  replace H:=Zg H
  obtain⟨t22004,A50,H⟩:=H
  replace H:(Zp.l0 k a0 y22001 t22004 (t22004.length:Int) 0)=some (r1,r2):=H
  have A5:=Za A50;clear A50
  have H':=Za H
  clear H
  go_enter Tryd.func22,Tryd.ntmps22
  go_wp2_with (first|((with_reducible refine Z5 (N:=10) rfl ?_);refine Kd.R_lit (Kd.int .i64) _ 3 ?hg (N:=10) ?hd (xs:=([]:List Int)) (inner:=[]) (ok:=fun _=>True) (okp:=fun _=>True) ?hr ?hp (fun _ hk=>hk) trivial (Below.refl _ _) (Nat.le_refl _) (by simp) ?_;(case hd=>rfl);(case hg=>rfl);(case hr=>first|(go_simp;done)|(go_simp;rfl));(case hp=>exact(Reps.none _ _));intro v22002 w6 ho7 hb hg_ hnew_;clear hg_ hnew_;(first|rw[← Ny22001.out] at ho7|(simp only[Int.reduceToNat] at ho7;rw[← Ny22001.out] at ho7));have HO22003:=Za (Kd.R_lower ho7 (Zy (by repeat(first|(with_reducible first|exact HB.out|apply Zm|apply Zl|apply Zn)|exact HB.out))));replace HB:=Za (Zu (by repeat(first|(with_reducible first|exact HB.out|apply Zm|apply Zl|apply Zn)|exact HB.out)) hb);clear hb ho7)|((with_reducible refine ZA (f:=54) rfl ?_);refine ZT (some 15) rfl rfl Tryd.func54 (by kernel_rfl) rfl #[.string a0,.string (⟨#[38]⟩:ByteArray)] rfl (by(try simp only[List.map_toArray,List.map_cons,List.map_nil]);first|done|rfl|(simp only[Zj,Zi];rfl)) ?_;(with_reducible refine(ZB.calls k a0 (⟨#[38]⟩:ByteArray) t22004 _ A5.out).mono ?_);rintro e w8 ⟨v22005,rfl,ho0,hb⟩;refine⟨_,rfl,?_⟩;have HO22006:=Za (Kd.R_lower ho0 (Zy (by repeat(first|(with_reducible first|exact HB.out|apply Zm|apply Zl|apply Zn)|exact HB.out))));replace HO22003:=Za (Kd.R_below (by(with_reducible repeat(first|apply Kd.R_alloc|apply Kd.R_drewN|apply Kd.R_drew));exact HO22003.out) hb);replace HB:=Za (Zu (by repeat(first|(with_reducible first|exact HB.out|apply Zm|apply Zl|apply Zn)|exact HB.out)) hb);(try clear hb);(try clear hb2);(try clear hk);(try clear hi);(try clear ho0);obtain⟨Ao9,co9,eo9⟩:=Kd.R_slice HO22006.out;subst eo9))
  go_loopg [4,17] k (fun kq v4 v17 w'=>∃(x4_1:List Int) (x17_1:Int),v17=.int .i64 x17_1∧Aside0 (Zp.l0 kq a0 x4_1 t22004 (t22004.length:Int) x17_1=some (r1,r2))∧Aside0 (kq≤k)∧Aside0 (Kd.R (Kd.int .i64) 3 w' w.heap.size (fun _=>True) v4 x4_1)∧Aside0 (Kd.R Kd.string 9 w' w.heap.size (fun _=>True) (.slice Ao9 t22004.length co9) t22004)∧Aside0 (Below w.heap.size w w'))
  case atStart=>exact⟨(y22001),(0),(by first|rfl|(simp;done)|(simp[*];done)),H',⟨Nat.le_refl _⟩,⟨by(with_reducible repeat(first|apply Kd.R_alloc|apply Kd.R_drewN|apply Kd.R_drew));exact HO22003.out⟩,⟨by(with_reducible repeat(first|apply Kd.R_alloc|apply Kd.R_drewN|apply Kd.R_drew));exact HO22006.out⟩,⟨by repeat(first|(with_reducible first|exact HB.out|apply Zm|apply Zl|apply Zn)|exact HB.out)⟩⟩
  case round=>
   clear H'
   try clear c2
   try clear c2b0
   try clear c2b1
   try clear p2
   try clear c5
   obtain⟨x4_1,x17_1,rfl,HA,HK1,HO_4,HO_15,HB⟩:=hrel
   cases gk with
   | zero=>exact absurd HA.out (by simp[Zp.l0])
   | succ k1=>
    have H:=HA.out
    clear HA
    simp only[Zp.l0] at H
    by_cases c10:x17_1<(t22004.length:Int)
    ·rw[if_pos c10] at H
     have c10b0:decide (x17_1<(t22004.length:Int))=true:=Zd c10
     clear c10
     by_cases c11:0≤x17_1
     ·rw[if_pos c11] at H
      have c11b0:decide (0≤x17_1)=true:=Zd c11
      clear c11
      by_cases c12:x17_1<(t22004.length:Int)
      ·rw[if_pos c12] at H
       have c12b0:decide (x17_1<(t22004.length:Int))=true:=Zd c12
       clear c12;have HC13:=Za H;clear H
       have p22007:0≤(x17_1:Int):=Zc (by first|(with_reducible assumption)|assumption)
       have q22007:x17_1<(t22004.length:Int):=Zc (by first|(with_reducible assumption)|assumption)
       obtain⟨ad22007,e22007,hx22007_0⟩:=Kd.at_string (Kd.R_reads' HO_15.out).2.2 x17_1 p22007 q22007
       cases e22007
       replace p22007:=eq_true p22007
       replace q22007:=eq_true q22007
       go_upto_region 8 with (fail)
       go_cut [28] (fun v28 wc=>∃(kq:Nat) (x28_12:Bool),v28=.bool x28_12∧Aside0 (Zp.j1 kq a0 x4_1 (rdOf ByteArray.empty t22004 x17_1) 1 t22004 (t22004.length:Int) x17_1 x28_12=some (r1,r2))∧Aside0 (kq≤k1)∧Aside0 (Kd.R (Kd.int .i64) 3 wc w.heap.size (fun _=>True) u4 x4_1)∧Aside0 (Kd.R Kd.string 9 wc w.heap.size (fun _=>True) (.slice (some ad22007) t22004.length co9) t22004)∧Aside0 (Below w.heap.size w wc))
       case first=>
        have H:=HC13.out
        clear HC13
        by_cases c14:((rdOf ByteArray.empty t22004 x17_1).size:Int) > 0
        ·rw[if_pos c14] at H
         have c14b0:decide (0<((rdOf ByteArray.empty t22004 x17_1).size:Int))=true:=Zd c14
         have c14b1:decide (0<(rdOf ByteArray.empty t22004 x17_1).size)=true:=Zd (by omega)
         clear c14
         (first|rw[c14b0]|(simp only[Z6,Z8];rw[c14b0])|skip)
         by_cases c15:0<((rdOf ByteArray.empty t22004 x17_1).size:Int)
         ·rw[if_pos c15] at H
          have c15b0:decide (0<((rdOf ByteArray.empty t22004 x17_1).size:Int))=true:=Zd c15
          have c15b1:decide (0<(rdOf ByteArray.empty t22004 x17_1).size)=true:=Zd (by omega)
          clear c15
          have H':=Za H
          clear H
          have p16:0≤(0:Int):=(by omega)
          have q16:0<(rdOf ByteArray.empty t22004 x17_1).size:=(by have:(0:Int)<((rdOf ByteArray.empty t22004 x17_1).size:Int):=Zc (by first|(with_reducible assumption)|assumption);omega)
          have hx16:∀h:0<(rdOf ByteArray.empty t22004 x17_1).size,(((rdOf ByteArray.empty t22004 x17_1)[0]'h).toNat:Int)=bt (rdOf ByteArray.empty t22004 x17_1) 0:=Zaw (rdOf ByteArray.empty t22004 x17_1) 0
          clear p16
          have qi16:(0<((rdOf ByteArray.empty t22004 x17_1).size:Int))=True:=eq_true (Zc (by first|(with_reducible assumption)|assumption))
          replace q16:=eq_true q16
          go_wp2
          go_meet
          case rel=>exact⟨_,(((bt (rdOf ByteArray.empty t22004 x17_1) 0) == 33)),(by first|rfl|(simp;done)|(simp[*];done)),H',⟨by have:=HK1.out;first|omega|exact Nat.le_refl _⟩,⟨by(with_reducible repeat(first|apply Kd.R_alloc|apply Kd.R_drewN|apply Kd.R_drew));exact HO_4.out⟩,⟨by(with_reducible repeat(first|apply Kd.R_alloc|apply Kd.R_drewN|apply Kd.R_drew));exact HO_15.out⟩,⟨by repeat(first|(with_reducible first|exact HB.out|apply Zm|apply Zl|apply Zn)|exact HB.out)⟩⟩
         ·rw[if_neg c15] at H
          exact absurd H (by simp)
        ·rw[if_neg c14] at H
         have c14b0:decide (0<((rdOf ByteArray.empty t22004 x17_1).size:Int))=false:=Ze c14
         have c14b1:decide (0<(rdOf ByteArray.empty t22004 x17_1).size)=false:=Ze (by omega)
         clear c14
         (first|rw[c14b0]|(simp only[Z6,Z8];rw[c14b0])|skip)
         have H':=Za H
         clear H
         go_wp2
         go_meet
         case rel=>exact⟨_,(false),(by first|rfl|(simp;done)|(simp[*];done)),H',⟨by have:=HK1.out;first|omega|exact Nat.le_refl _⟩,⟨by(with_reducible repeat(first|apply Kd.R_alloc|apply Kd.R_drewN|apply Kd.R_drew));exact HO_4.out⟩,⟨by(with_reducible repeat(first|apply Kd.R_alloc|apply Kd.R_drewN|apply Kd.R_drew));exact HO_15.out⟩,⟨by repeat(first|(with_reducible first|exact HB.out|apply Zm|apply Zl|apply Zn)|exact HB.out)⟩⟩
       case rest=>
        clear HC13
        try clear c1
        try clear p1
        try clear q1
        try clear hx1
        try clear qi1
        try clear c2
        try clear c2b0
        try clear c2b1
        try clear p2
        try clear q2
        try clear hx2
        try clear c5
        try clear c10
        try clear c10b0
        try clear c11
        try clear c11b0
        try clear c12
        try clear c12b0
        try clear c14
        try clear c14b0
        try clear c14b1
        try clear c15
        try clear c15b0
        try clear c15b1
        try clear p16
        try clear q16
        try clear hx16
        try clear qi16
        try clear hx22007_0
        try clear p16
        try clear p2
        try clear p22007
        try clear q16
        try clear q22007
        obtain⟨kq,x28_12,rfl,HA,HJ12,HO_4,HO_15,HB⟩:=hcut
        cases kq with
        | zero=>exact absurd HA.out (by simp[Zp.j1])
        | succ kj12=>
         have H:=HA.out
         clear HA
         simp only[Zp.j1] at H
         have HC17:=Za H;clear H
         go_upto_if 28 with (fail)
         go_cut [6,7] (fun v6 v7 wc=>∃(kq:Nat) (x6_16:ByteArray) (x7_16:Int),v6=.string x6_16∧v7=.int .i64 x7_16∧Aside0 (Zp.j2 kq a0 x4_1 x6_16 x7_16 t22004 (t22004.length:Int) x17_1=some (r1,r2))∧Aside0 (kq≤kj12)∧Aside0 (Kd.R (Kd.int .i64) 3 wc w.heap.size (fun _=>True) u4 x4_1)∧Aside0 (Kd.R Kd.string 9 wc w.heap.size (fun _=>True) (.slice (some ad22007) t22004.length co9) t22004)∧Aside0 (Below w.heap.size w wc))
         case first=>
          have H:=HC17.out
          clear HC17
          by_cases c18:x28_12=true
          ·subst c18
           have H1:(if 1≤((rdOf ByteArray.empty t22004 x17_1).size:Int) then(Zp.j2 kj12 a0 x4_1 ((rdOf ByteArray.empty t22004 x17_1).extract 1 (rdOf ByteArray.empty t22004 x17_1).size) (-1) t22004 (t22004.length:Int) x17_1) else(none))=some (r1,r2):=by rw[if_pos rfl] at H;exact H
           clear H
           have H:=H1
           clear H1
           by_cases c19:1≤((rdOf ByteArray.empty t22004 x17_1).size:Int)
           ·rw[if_pos c19] at H
            have c19b0:=eq_true c19
            have c19b1:decide (1≤((rdOf ByteArray.empty t22004 x17_1).size:Int))=true:=Zd c19
            clear c19
            have H':=Za H
            clear H
            go_wp2
            go_meet
            case rel=>exact⟨_,((rdOf ByteArray.empty t22004 x17_1).extract 1 (rdOf ByteArray.empty t22004 x17_1).size),((-1)),(by first|rfl|(simp;done)|(simp[*];done)),(by first|rfl|(simp;done)|(simp[*];done)),H',⟨by have:=HK1.out;have:=HJ12.out;first|omega|exact Nat.le_refl _⟩,⟨by(with_reducible repeat(first|apply Kd.R_alloc|apply Kd.R_drewN|apply Kd.R_drew));exact HO_4.out⟩,⟨by(with_reducible repeat(first|apply Kd.R_alloc|apply Kd.R_drewN|apply Kd.R_drew));exact HO_15.out⟩,⟨by repeat(first|(with_reducible first|exact HB.out|apply Zm|apply Zl|apply Zn)|exact HB.out)⟩⟩
           ·rw[if_neg c19] at H
            exact absurd H (by simp)
          ·replace c18:=Bool.eq_false_iff.mpr c18
           subst c18
           have H1:(Zp.j2 kj12 a0 x4_1 (rdOf ByteArray.empty t22004 x17_1) 1 t22004 (t22004.length:Int) x17_1)=some (r1,r2):=by rw[if_neg (show ¬(false=true) by decide)] at H;exact H
           clear H
           have H:=H1
           clear H1
           have H':=Za H
           clear H
           go_wp2
           go_meet
           case rel=>exact⟨_,((rdOf ByteArray.empty t22004 x17_1)),(1),(by first|rfl|(simp;done)|(simp[*];done)),(by first|rfl|(simp;done)|(simp[*];done)),H',⟨by have:=HK1.out;have:=HJ12.out;first|omega|exact Nat.le_refl _⟩,⟨by(with_reducible repeat(first|apply Kd.R_alloc|apply Kd.R_drewN|apply Kd.R_drew));exact HO_4.out⟩,⟨by(with_reducible repeat(first|apply Kd.R_alloc|apply Kd.R_drewN|apply Kd.R_drew));exact HO_15.out⟩,⟨by repeat(first|(with_reducible first|exact HB.out|apply Zm|apply Zl|apply Zn)|exact HB.out)⟩⟩
         case rest=>
          clear HC17
          try clear c1
          try clear p1
          try clear q1
          try clear hx1
          try clear qi1
          try clear c2
          try clear c2b0
          try clear c2b1
          try clear p2
          try clear q2
          try clear hx2
          try clear c5
          try clear c10
          try clear c10b0
          try clear c11
          try clear c11b0
          try clear c12
          try clear c12b0
          try clear c14
          try clear c14b0
          try clear c14b1
          try clear c15
          try clear c15b0
          try clear c15b1
          try clear p16
          try clear q16
          try clear hx16
          try clear qi16
          try clear c18
          try clear c19
          try clear c19b0
          try clear c19b1
          try clear hx22007_0
          try clear p1
          try clear p16
          try clear p2
          try clear p22007
          try clear q1
          try clear q16
          try clear q2
          try clear q22007
          obtain⟨kq,x6_16,x7_16,rfl,rfl,HA,HJ16,HO_4,HO_15,HB⟩:=hcut
          cases kq with
          | zero=>exact absurd HA.out (by simp[Zp.j2])
          | succ kj16=>
           have H:=HA.out
           clear HA
           simp only[Zp.j2] at H
           have HC20:=Za H;clear H
           go_upto_region 11 with (fail)
           go_cut [38] (fun v38 wc=>∃(kq:Nat) (x38_19:Bool),v38=.bool x38_19∧Aside0 (Zp.j3 kq a0 x4_1 x6_16 x7_16 t22004 (t22004.length:Int) x17_1 x38_19=some (r1,r2))∧Aside0 (kq≤kj16)∧Aside0 (Kd.R (Kd.int .i64) 3 wc w.heap.size (fun _=>True) u4 x4_1)∧Aside0 (Kd.R Kd.string 9 wc w.heap.size (fun _=>True) (.slice (some ad22007) t22004.length co9) t22004)∧Aside0 (Below w.heap.size w wc))
           case first=>
            have H:=HC20.out
            clear HC20
            by_cases c21:(x6_16.size:Int)<2
            ·rw[if_pos c21] at H
             have c21b0:decide ((x6_16.size:Int)<2)=true:=Zd c21
             have c21b1:decide (x6_16.size<2)=true:=Zd (by omega)
             clear c21
             (first|rw[c21b0]|(simp only[Z6,Z8];rw[c21b0])|skip)
             have H':=Za H
             clear H
             go_wp2
             go_meet
             case rel=>exact⟨_,(true),(by first|rfl|(simp;done)|(simp[*];done)),H',⟨by have:=HK1.out;have:=HJ12.out;have:=HJ16.out;first|omega|exact Nat.le_refl _⟩,⟨by(with_reducible repeat(first|apply Kd.R_alloc|apply Kd.R_drewN|apply Kd.R_drew));exact HO_4.out⟩,⟨by(with_reducible repeat(first|apply Kd.R_alloc|apply Kd.R_drewN|apply Kd.R_drew));exact HO_15.out⟩,⟨by repeat(first|(with_reducible first|exact HB.out|apply Zm|apply Zl|apply Zn)|exact HB.out)⟩⟩
            ·rw[if_neg c21] at H
             have c21b0:decide ((x6_16.size:Int)<2)=false:=Ze c21
             have c21b1:decide (x6_16.size<2)=false:=Ze (by omega)
             clear c21
             (first|rw[c21b0]|(simp only[Z6,Z8];rw[c21b0])|skip)
             by_cases c22:0<(x6_16.size:Int)
             ·rw[if_pos c22] at H
              have c22b0:decide (0<(x6_16.size:Int))=true:=Zd c22
              have c22b1:decide (0<x6_16.size)=true:=Zd (by omega)
              clear c22
              have H':=Za H
              clear H
              have p23:0≤(0:Int):=(by omega)
              have q23:0<x6_16.size:=(by have:(0:Int)<(x6_16.size:Int):=Zc (by first|(with_reducible assumption)|assumption);omega)
              have hx23:∀h:0<x6_16.size,((x6_16[0]'h).toNat:Int)=bt x6_16 0:=Zaw x6_16 0
              clear p23
              have qi23:(0<(x6_16.size:Int))=True:=eq_true (Zc (by first|(with_reducible assumption)|assumption))
              replace q23:=eq_true q23
              go_wp2
              go_meet
              case rel=>exact⟨_,(((bt x6_16 0) != 112)),(by first|rfl|(simp;done)|(simp[*];done)),H',⟨by have:=HK1.out;have:=HJ12.out;have:=HJ16.out;first|omega|exact Nat.le_refl _⟩,⟨by(with_reducible repeat(first|apply Kd.R_alloc|apply Kd.R_drewN|apply Kd.R_drew));exact HO_4.out⟩,⟨by(with_reducible repeat(first|apply Kd.R_alloc|apply Kd.R_drewN|apply Kd.R_drew));exact HO_15.out⟩,⟨by repeat(first|(with_reducible first|exact HB.out|apply Zm|apply Zl|apply Zn)|exact HB.out)⟩⟩
             ·rw[if_neg c22] at H
              exact absurd H (by simp)
           case rest=>
            clear HC20
            try clear c1
            try clear p1
            try clear q1
            try clear hx1
            try clear qi1
            try clear c2
            try clear c2b0
            try clear c2b1
            try clear p2
            try clear q2
            try clear hx2
            try clear qi2
            try clear c5
            try clear c10
            try clear c10b0
            try clear c11
            try clear c11b0
            try clear c12
            try clear c12b0
            try clear c14
            try clear c14b0
            try clear c14b1
            try clear c15
            try clear c15b0
            try clear c15b1
            try clear p16
            try clear q16
            try clear hx16
            try clear qi16
            try clear c18
            try clear c19
            try clear c19b0
            try clear c19b1
            try clear c21
            try clear c21b0
            try clear c21b1
            try clear c22
            try clear c22b0
            try clear c22b1
            try clear p22
            try clear q22
            try clear hx22
            try clear p23
            try clear q23
            try clear hx23
            try clear qi23
            try clear hx22007_0
            try clear p1
            try clear p16
            try clear p2
            try clear p22007
            try clear p23
            try clear q1
            try clear q16
            try clear q2
            try clear q22007
            try clear q23
            obtain⟨kq,x38_19,rfl,HA,HJ19,HO_4,HO_15,HB⟩:=hcut
            cases kq with
            | zero=>exact absurd HA.out (by simp[Zp.j3])
            | succ kj19=>
             have H:=HA.out
             clear HA
             simp only[Zp.j3] at H
             by_cases c24:x38_19=true
             ·subst c24
              have H1:(some (([]:List Int),false))=some (r1,r2):=by rw[if_pos rfl] at H;exact H
              clear H
              have H:=H1
              clear H1
              simp only[Option.some.injEq,Prod.mk.injEq] at H
              obtain⟨rfl,rfl⟩:=H
              go_wp2
              go_ret2
              exact⟨_,by first|rfl|(simp[Zr,Zq] <;> rfl)|(simp[*,Zr,Zq] <;> rfl),by first|exact Kd.R_nil _ _ _ _ _|exact Kd.N_nil _ _ _ _ _|exact Kd.V_nil _ _ _ _ _|exact Kd.Q_nil _ _ _ _ _|exact Kd.S_nil _ _ _ _ _,by repeat(first|(with_reducible first|exact HB.out|apply Zm|apply Zl|apply Zn)|exact HB.out)⟩
             ·replace c24:=Bool.eq_false_iff.mpr c24
              subst c24
              have H1:(if 1≤(x6_16.size:Int) then((Zs.f kj19 (x6_16.extract 1 x6_16.size)).bind fun bt22008=>(if bt22008.2=true then((Z3.f bt22008.1 1 3).bind fun t22010=>(if t22010=true then(if x4_1.length<17592186044416 then(Zp.l0 kj19 a0 (x4_1 ++ [wrap64 (x7_16 * bt22008.1)]) t22004 (t22004.length:Int) (wrap64 (x17_1+1))) else(none)) else(some (([]:List Int),false)))) else(some (([]:List Int),false)))) else(none))=some (r1,r2):=by rw[if_neg (show ¬(false=true) by decide)] at H;exact H
              clear H
              have H:=H1
              clear H1
              by_cases c25:1≤(x6_16.size:Int)
              ·rw[if_pos c25] at H
               have c25b0:=eq_true c25
               have c25b1:decide (1≤(x6_16.size:Int))=true:=Zd c25
               clear c25
               replace H:=Zg H
               obtain⟨⟨t22008,t22009⟩,A260,H⟩:=H
               replace H:(if t22009=true then((Z3.f t22008 1 3).bind fun t22010=>(if t22010=true then(if x4_1.length<17592186044416 then(Zp.l0 kj19 a0 (x4_1 ++ [wrap64 (x7_16 * t22008)]) t22004 (t22004.length:Int) (wrap64 (x17_1+1))) else(none)) else(some (([]:List Int),false)))) else(some (([]:List Int),false)))=some (r1,r2):=H
               have A26:=Za A260;clear A260
               by_cases c27:t22009=true
               ·subst c27
                have H1:((Z3.f t22008 1 3).bind fun t22010=>(if t22010=true then(if x4_1.length<17592186044416 then(Zp.l0 kj19 a0 (x4_1 ++ [wrap64 (x7_16 * t22008)]) t22004 (t22004.length:Int) (wrap64 (x17_1+1))) else(none)) else(some (([]:List Int),false))))=some (r1,r2):=by rw[if_pos rfl] at H;exact H
                clear H
                have H:=H1
                clear H1
                replace H:=Zg H
                obtain⟨t22010,A280,H⟩:=H
                replace H:(if t22010=true then(if x4_1.length<17592186044416 then(Zp.l0 kj19 a0 (x4_1 ++ [wrap64 (x7_16 * t22008)]) t22004 (t22004.length:Int) (wrap64 (x17_1+1))) else(none)) else(some (([]:List Int),false)))=some (r1,r2):=H
                have A28:=Za A280;clear A280
                by_cases c29:t22010=true
                ·subst c29
                 have H1:(if x4_1.length<17592186044416 then(Zp.l0 kj19 a0 (x4_1 ++ [wrap64 (x7_16 * t22008)]) t22004 (t22004.length:Int) (wrap64 (x17_1+1))) else(none))=some (r1,r2):=by rw[if_pos rfl] at H;exact H
                 clear H
                 have H:=H1
                 clear H1
                 by_cases c30:x4_1.length<17592186044416
                 ·rw[if_pos c30] at H
                  have LMc30:=Za c30;clear c30
                  obtain⟨y22011,hy22011⟩:∃y_:List Int,y_=(x4_1 ++ [wrap64 (x7_16 * t22008)]):=⟨_,rfl⟩
                  replace H:(Zp.l0 kj19 a0 y22011 t22004 (t22004.length:Int) (wrap64 (x17_1+1)))=some (r1,r2):=by first|(rw[hy22011];with_reducible exact H)|(have H2_:=(Zh _ _).symm.trans H;rw[hy22011];with_reducible exact H2_)|(have H2_:=(Zh _ _).symm.trans H;with_reducible exact H2_)|with_reducible exact H|(rw[hy22011];exact H)|exact H
                  have Ny22011:=Za hy22011;clear hy22011
                  have H':=Za H
                  clear H
                  go_wp2_with (first|((with_reducible refine ZA (f:=55) rfl ?_);refine ZT (some 42) rfl rfl Tryd.func55 (by kernel_rfl) rfl #[.string (x6_16.extract 1 x6_16.size)] rfl (by(try simp only[List.map_toArray,List.map_cons,List.map_nil]);first|done|rfl|(simp only[Zj,Zi];rfl)) ?_;(with_reducible refine(Zs.calls kj19 (x6_16.extract 1 x6_16.size) t22008 true _ A26.out).mono ?_);rintro e w31 ⟨rfl,hb⟩;refine⟨_,rfl,?_⟩;replace HO_4:=Za (Kd.R_below (by(with_reducible repeat(first|apply Kd.R_alloc|apply Kd.R_drewN|apply Kd.R_drew));exact HO_4.out) hb);replace HO_15:=Za (Kd.R_below (by(with_reducible repeat(first|apply Kd.R_alloc|apply Kd.R_drewN|apply Kd.R_drew));exact HO_15.out) hb);replace HB:=Za (Zu (by repeat(first|(with_reducible first|exact HB.out|apply Zm|apply Zl|apply Zn)|exact HB.out)) hb);(try clear hb);(try clear hb2);(try clear hk);(try clear hi))|(go_at_call 44;(with_reducible refine(Z3.calls t22008 1 3 true _ A28.out).mono ?_);rintro e w' ⟨rfl,⟨nd,rfl⟩⟩)|((with_reducible refine ZW (b:=.append) (xs:=#[.tmp 52,.tmp 56]) rfl ?_);at_builtin;refine Kd.R_append (Kd.int .i64) (w0:=w) w.heap.size rfl (.tmp 52) (.tmp 56) 22 3 (.int .i64 0) 8 rfl Tryd.underlying22 info3 rfl (by decide) (by omega) u4 x4_1 (wrap64 (x7_16 * t22008)) [.int .i64 (wrap64 (x7_16 * t22008))] (fun _=>True) (fun _=>False) rfl rfl ?aP (fun _ hk=>hk.elim) ?aF ?aO ?aB ?aS ?aL ?_;(case aP=>exact rfl);(case aB=>exact(by repeat(first|(with_reducible first|exact HB.out|apply Zm|apply Zl|apply Zn)|exact HB.out)));(case aF=>exact(fun _ _=>trivial));(case aO=>exact(by(with_reducible repeat(first|apply Kd.R_alloc|apply Kd.R_drewN|apply Kd.R_drew));exact HO_4.out));(case aS=>exact(Zy (by repeat(first|(with_reducible first|exact HB.out|apply Zm|apply Zl|apply Zn)|exact HB.out))));(case aL=>have:=LMc30.out;omega);intro v22012 w32 ho hb hg hat;rw[← Ny22011.out] at ho;have HO22013:=Za (ho);replace HO_15:=Za (Kd.R_over' (by(with_reducible repeat(first|apply Kd.R_alloc|apply Kd.R_drewN|apply Kd.R_drew));exact HO_15.out) (Kd.R_typed (by(with_reducible repeat(first|apply Kd.R_alloc|apply Kd.R_drewN|apply Kd.R_drew));exact HO_4.out)) (by decide) hg);replace HB:=Za (hb);clear HO_4;clear ho hb hg hat))
                  go_roundg kj19
                  case measure=>have:=HK1.out;have:=HJ12.out;have:=HJ16.out;have:=HJ19.out;omega
                  case rel=>exact⟨(y22011),(wrap64 (x17_1+1)),(by first|rfl|(simp;done)|(simp[*];done)),H',⟨by have:=HK1.out;have:=HJ12.out;have:=HJ16.out;have:=HJ19.out;omega⟩,⟨by(with_reducible repeat(first|apply Kd.R_alloc|apply Kd.R_drewN|apply Kd.R_drew));exact HO22013.out⟩,⟨by(with_reducible repeat(first|apply Kd.R_alloc|apply Kd.R_drewN|apply Kd.R_drew));exact HO_15.out⟩,⟨by repeat(first|(with_reducible first|exact HB.out|apply Zm|apply Zl|apply Zn)|exact HB.out)⟩⟩
                 ·rw[if_neg c30] at H
                  exact absurd H (by simp)
                ·replace c29:=Bool.eq_false_iff.mpr c29
                 subst c29
                 have H1:(some (([]:List Int),false))=some (r1,r2):=by rw[if_neg (show ¬(false=true) by decide)] at H;exact H
                 clear H
                 have H:=H1
                 clear H1
                 simp only[Option.some.injEq,Prod.mk.injEq] at H
                 obtain⟨rfl,rfl⟩:=H
                 go_wp2_with (first|((with_reducible refine ZA (f:=55) rfl ?_);refine ZT (some 42) rfl rfl Tryd.func55 (by kernel_rfl) rfl #[.string (x6_16.extract 1 x6_16.size)] rfl (by(try simp only[List.map_toArray,List.map_cons,List.map_nil]);first|done|rfl|(simp only[Zj,Zi];rfl)) ?_;(with_reducible refine(Zs.calls kj19 (x6_16.extract 1 x6_16.size) t22008 true _ A26.out).mono ?_);rintro e w33 ⟨rfl,hb⟩;refine⟨_,rfl,?_⟩;replace HO_4:=Za (Kd.R_below (by(with_reducible repeat(first|apply Kd.R_alloc|apply Kd.R_drewN|apply Kd.R_drew));exact HO_4.out) hb);replace HO_15:=Za (Kd.R_below (by(with_reducible repeat(first|apply Kd.R_alloc|apply Kd.R_drewN|apply Kd.R_drew));exact HO_15.out) hb);replace HB:=Za (Zu (by repeat(first|(with_reducible first|exact HB.out|apply Zm|apply Zl|apply Zn)|exact HB.out)) hb);(try clear hb);(try clear hb2);(try clear hk);(try clear hi))|(go_at_call 44;(with_reducible refine(Z3.calls t22008 1 3 false _ A28.out).mono ?_);rintro e w' ⟨rfl,⟨nd,rfl⟩⟩))
                 go_ret2
                 exact⟨_,by first|rfl|(simp[Zr,Zq] <;> rfl)|(simp[*,Zr,Zq] <;> rfl),by first|exact Kd.R_nil _ _ _ _ _|exact Kd.N_nil _ _ _ _ _|exact Kd.V_nil _ _ _ _ _|exact Kd.Q_nil _ _ _ _ _|exact Kd.S_nil _ _ _ _ _,by repeat(first|(with_reducible first|exact HB.out|apply Zm|apply Zl|apply Zn)|exact HB.out)⟩
               ·replace c27:=Bool.eq_false_iff.mpr c27
                subst c27
                have H1:(some (([]:List Int),false))=some (r1,r2):=by rw[if_neg (show ¬(false=true) by decide)] at H;exact H
                clear H
                have H:=H1
                clear H1
                simp only[Option.some.injEq,Prod.mk.injEq] at H
                obtain⟨rfl,rfl⟩:=H
                go_wp2_with (first|((with_reducible refine ZA (f:=55) rfl ?_);refine ZT (some 42) rfl rfl Tryd.func55 (by kernel_rfl) rfl #[.string (x6_16.extract 1 x6_16.size)] rfl (by(try simp only[List.map_toArray,List.map_cons,List.map_nil]);first|done|rfl|(simp only[Zj,Zi];rfl)) ?_;(with_reducible refine(Zs.calls kj19 (x6_16.extract 1 x6_16.size) t22008 false _ A26.out).mono ?_);rintro e w34 ⟨rfl,hb⟩;refine⟨_,rfl,?_⟩;replace HO_4:=Za (Kd.R_below (by(with_reducible repeat(first|apply Kd.R_alloc|apply Kd.R_drewN|apply Kd.R_drew));exact HO_4.out) hb);replace HO_15:=Za (Kd.R_below (by(with_reducible repeat(first|apply Kd.R_alloc|apply Kd.R_drewN|apply Kd.R_drew));exact HO_15.out) hb);replace HB:=Za (Zu (by repeat(first|(with_reducible first|exact HB.out|apply Zm|apply Zl|apply Zn)|exact HB.out)) hb);(try clear hb);(try clear hb2);(try clear hk);(try clear hi)))
                go_ret2
                exact⟨_,by first|rfl|(simp[Zr,Zq] <;> rfl)|(simp[*,Zr,Zq] <;> rfl),by first|exact Kd.R_nil _ _ _ _ _|exact Kd.N_nil _ _ _ _ _|exact Kd.V_nil _ _ _ _ _|exact Kd.Q_nil _ _ _ _ _|exact Kd.S_nil _ _ _ _ _,by repeat(first|(with_reducible first|exact HB.out|apply Zm|apply Zl|apply Zn)|exact HB.out)⟩
              ·rw[if_neg c25] at H
               exact absurd H (by simp)
      ·rw[if_neg c12] at H
       exact absurd H (by simp)
     ·rw[if_neg c11] at H
      exact absurd H (by simp)
    ·rw[if_neg c10] at H
     have c10b0:decide (x17_1<(t22004.length:Int))=false:=Ze c10
     clear c10
     replace H:=Zg H
     obtain⟨t22014,A350,H⟩:=H
     replace H:(if t22014=true then((Zv.f k1 x4_1).bind fun t22015=>(if t22015.toList=a0.toList then(some (x4_1,true)) else(some (([]:List Int),false)))) else(some (([]:List Int),false)))=some (r1,r2):=H
     have A35:=Za A350;clear A350
     by_cases c36:t22014=true
     ·subst c36
      have H1:((Zv.f k1 x4_1).bind fun t22015=>(if t22015.toList=a0.toList then(some (x4_1,true)) else(some (([]:List Int),false))))=some (r1,r2):=by rw[if_pos rfl] at H;exact H
      clear H
      have H:=H1
      clear H1
      replace H:=Zg H
      obtain⟨t22015,A370,H⟩:=H
      replace H:(if t22015.toList=a0.toList then(some (x4_1,true)) else(some (([]:List Int),false)))=some (r1,r2):=H
      have A37:=Za A370;clear A370
      by_cases c38:t22015.toList=a0.toList
      ·rw[if_pos c38] at H
       have c38b0:(t22015.toList == a0.toList)=true:=beq_iff_eq.mpr c38
       have c38b1:(t22015.toList != a0.toList)=false:=bne_eq_false_iff_eq.mpr c38
       clear c38
       simp only[Option.some.injEq,Prod.mk.injEq] at H
       obtain⟨rfl,rfl⟩:=H
       obtain⟨Ao39,co39,eo39⟩:=Kd.R_slice HO_4.out
       subst eo39
       go_wp2_with (first|((with_reducible refine ZA (f:=34) rfl ?_);refine ZT (some 60) rfl rfl Tryd.func34 (by kernel_rfl) rfl #[.slice Ao39 x4_1.length co39] rfl (by(try simp only[List.map_toArray,List.map_cons,List.map_nil]);first|done|rfl|(simp only[Zj,Zi];rfl)) ?_;(with_reducible refine(Zz.calls k1 _ _ x4_1 true _ ?side1 ?side2 A35.out).mono ?_);(case side1=>repeat(first|exact(Kd.R_reads' HO_4.out).2.2|(with_reducible refine Kd.C_alloc ?_ _)|(with_reducible refine Kd.C_drewN ?_ _)|(with_reducible refine Kd.C_drew ?_)));(case side2=>exact(Kd.R_reads' HO_4.out).2.1);rintro e w' ⟨rfl,⟨nd,rfl⟩⟩;refine⟨_,rfl,?_⟩)|(go_at_call 9;(with_reducible refine(Zv.calls k1 _ _ x4_1 t22015 _ ?side1 ?side2 A37.out).mono ?_);(case side1=>repeat(first|exact(Kd.R_reads' HO_4.out).2.2|(with_reducible refine Kd.C_alloc ?_ _)|(with_reducible refine Kd.C_drewN ?_ _)|(with_reducible refine Kd.C_drew ?_)));(case side2=>exact(Kd.R_reads' HO_4.out).2.1);rintro e w40 ⟨rfl,hb⟩;replace HO_4:=Za (Kd.R_below (by(with_reducible repeat(first|apply Kd.R_alloc|apply Kd.R_drewN|apply Kd.R_drew));exact HO_4.out) hb);replace HO_15:=Za (Kd.R_below (by(with_reducible repeat(first|apply Kd.R_alloc|apply Kd.R_drewN|apply Kd.R_drew));exact HO_15.out) hb);replace HB:=Za (Zu (by repeat(first|(with_reducible first|exact HB.out|apply Zm|apply Zl|apply Zn)|exact HB.out)) hb);(try clear hb);(try clear hb2);(try clear hk);(try clear hi)))
       go_ret2
       exact⟨_,by first|rfl|(simp[Zr,Zq] <;> rfl)|(simp[*,Zr,Zq] <;> rfl),by(with_reducible repeat(first|apply Kd.R_alloc|apply Kd.R_drewN|apply Kd.R_drew));exact HO_4.out,by repeat(first|(with_reducible first|exact HB.out|apply Zm|apply Zl|apply Zn)|exact HB.out)⟩
      ·rw[if_neg c38] at H
       have c38b0:(t22015.toList == a0.toList)=false:=beq_eq_false_iff_ne.mpr c38
       have c38b1:(t22015.toList != a0.toList)=true:=bne_iff_ne.mpr c38
       simp only[Option.some.injEq,Prod.mk.injEq] at H
       obtain⟨rfl,rfl⟩:=H
       obtain⟨Ao41,co41,eo41⟩:=Kd.R_slice HO_4.out
       subst eo41
       go_wp2_with (first|((with_reducible refine ZA (f:=34) rfl ?_);refine ZT (some 60) rfl rfl Tryd.func34 (by kernel_rfl) rfl #[.slice Ao41 x4_1.length co41] rfl (by(try simp only[List.map_toArray,List.map_cons,List.map_nil]);first|done|rfl|(simp only[Zj,Zi];rfl)) ?_;(with_reducible refine(Zz.calls k1 _ _ x4_1 true _ ?side1 ?side2 A35.out).mono ?_);(case side1=>repeat(first|exact(Kd.R_reads' HO_4.out).2.2|(with_reducible refine Kd.C_alloc ?_ _)|(with_reducible refine Kd.C_drewN ?_ _)|(with_reducible refine Kd.C_drew ?_)));(case side2=>exact(Kd.R_reads' HO_4.out).2.1);rintro e w' ⟨rfl,⟨nd,rfl⟩⟩;refine⟨_,rfl,?_⟩)|(go_at_call 9;(with_reducible refine(Zv.calls k1 _ _ x4_1 t22015 _ ?side1 ?side2 A37.out).mono ?_);(case side1=>repeat(first|exact(Kd.R_reads' HO_4.out).2.2|(with_reducible refine Kd.C_alloc ?_ _)|(with_reducible refine Kd.C_drewN ?_ _)|(with_reducible refine Kd.C_drew ?_)));(case side2=>exact(Kd.R_reads' HO_4.out).2.1);rintro e w42 ⟨rfl,hb⟩;replace HO_4:=Za (Kd.R_below (by(with_reducible repeat(first|apply Kd.R_alloc|apply Kd.R_drewN|apply Kd.R_drew));exact HO_4.out) hb);replace HO_15:=Za (Kd.R_below (by(with_reducible repeat(first|apply Kd.R_alloc|apply Kd.R_drewN|apply Kd.R_drew));exact HO_15.out) hb);replace HB:=Za (Zu (by repeat(first|(with_reducible first|exact HB.out|apply Zm|apply Zl|apply Zn)|exact HB.out)) hb);(try clear hb);(try clear hb2);(try clear hk);(try clear hi)))
       go_ret2
       exact⟨_,by first|rfl|(simp[Zr,Zq] <;> rfl)|(simp[*,Zr,Zq] <;> rfl),by first|exact Kd.R_nil _ _ _ _ _|exact Kd.N_nil _ _ _ _ _|exact Kd.V_nil _ _ _ _ _|exact Kd.Q_nil _ _ _ _ _|exact Kd.S_nil _ _ _ _ _,by repeat(first|(with_reducible first|exact HB.out|apply Zm|apply Zl|apply Zn)|exact HB.out)⟩
     ·replace c36:=Bool.eq_false_iff.mpr c36
      subst c36
      have H1:(some (([]:List Int),false))=some (r1,r2):=by rw[if_neg (show ¬(false=true) by decide)] at H;exact H
      clear H
      have H:=H1
      clear H1
      simp only[Option.some.injEq,Prod.mk.injEq] at H
      obtain⟨rfl,rfl⟩:=H
      obtain⟨Ao43,co43,eo43⟩:=Kd.R_slice HO_4.out
      subst eo43
      go_wp2_with (first|((with_reducible refine ZA (f:=34) rfl ?_);refine ZT (some 60) rfl rfl Tryd.func34 (by kernel_rfl) rfl #[.slice Ao43 x4_1.length co43] rfl (by(try simp only[List.map_toArray,List.map_cons,List.map_nil]);first|done|rfl|(simp only[Zj,Zi];rfl)) ?_;(with_reducible refine(Zz.calls k1 _ _ x4_1 false _ ?side1 ?side2 A35.out).mono ?_);(case side1=>repeat(first|exact(Kd.R_reads' HO_4.out).2.2|(with_reducible refine Kd.C_alloc ?_ _)|(with_reducible refine Kd.C_drewN ?_ _)|(with_reducible refine Kd.C_drew ?_)));(case side2=>exact(Kd.R_reads' HO_4.out).2.1);rintro e w' ⟨rfl,⟨nd,rfl⟩⟩;refine⟨_,rfl,?_⟩))
      go_ret2
      exact⟨_,by first|rfl|(simp[Zr,Zq] <;> rfl)|(simp[*,Zr,Zq] <;> rfl),by first|exact Kd.R_nil _ _ _ _ _|exact Kd.N_nil _ _ _ _ _|exact Kd.V_nil _ _ _ _ _|exact Kd.Q_nil _ _ _ _ _|exact Kd.S_nil _ _ _ _ _,by repeat(first|(with_reducible first|exact HB.out|apply Zm|apply Zl|apply Zn)|exact HB.out)⟩
theorem Zp.c (k:Nat) (a0:ByteArray) (r1:List Int) (r2:Bool) (w:World) (h:Zp.f k a0=some (r1,r2)) :
  Calls Tryd.prog 22 #[.string a0] w fun e w'=>∃A0_ c0_,e=.returned (.tuple #[.slice A0_ r1.length c0_,.bool r2])∧Aside0 (r1.length≤c0_∧Kd.C (Kd.int .i64) w' A0_ r1.length r1)∧Below w.heap.size w w':=
 (Zp.calls k a0 r1 r2 w h).mono fun e w' ⟨v0_,he,q0_,hb⟩=>by
  obtain⟨A0_,c0_,rfl,g0_⟩:=Kd.R_reads q0_
  exact⟨A0_,c0_,he,⟨g0_⟩,hb⟩
end Go.Proofs.YthphnhmabieflaaDoor.Pr
namespace Go.Proofs.YthphnhmabieflaaDoor.Pr
open Go.RowKit Go.Proofs.YthphnhmabieflaaDoorW.PrintWords
def TW (w : World) : Prop := Lib.TabBelow Tryd.prog w.heap.size w "internal/strconv.uint64pow10" .u64 Lib.pow10Tab
theorem TW.below {w w':World} (h:TW w) (hb:Below w.heap.size w w'):TW w':=fun w2 h2=>h w2 (hb.trans (h2.mono hb.size))
theorem var_below {P:Program} {w:World} {name:String} {cs:Array Value} (h:w.var? P name=some cs):∀w',Below w.heap.size w w'→w'.var? P name=some cs:=fun w' hb=>by
 unfold World.var? at *
 cases hg:P.globalNamed name with
 | none=>simp[hg] at h
 | some g=>
  simp only[hg,Zh] at h ⊢
  have hlt:g<w.heap.size:=by
   rcases Nat.lt_or_ge g w.heap.size with h'|h'
   ·exact h'
   ·rw[Array.getElem?_eq_none h'] at h;simp at h
  rw[hb.block g hlt]
  exact h
def EW (w : World) : Prop := (∃ tp p, ∀ w', Below w.heap.size w w' → w'.var? Tryd.prog "strconv.ErrSyntax" = some #[.iface tp p]) ∧ ∃ tp p, ∀ w', Below w.heap.size w w' → w'.var? Tryd.prog "strconv.ErrRange" = some #[.iface tp p]
theorem EW.below {w w':World} (h:EW w) (hb:Below w.heap.size w w'):EW w':=by
 obtain⟨⟨t1,p1,h1⟩,t2,p2,h2⟩:=h
 exact⟨⟨t1,p1,fun w2 h=>h1 w2 (hb.trans (h.mono hb.size))⟩,t2,p2,fun w2 h=>h2 w2 (hb.trans (h.mono hb.size))⟩
theorem EW.of {w : World} {t1 t2 : TypeId} {p1 p2 : Value} (h1 : w.var? Tryd.prog "strconv.ErrSyntax" = some #[.iface t1 p1]) (h2 : w.var? Tryd.prog "strconv.ErrRange" = some #[.iface t2 p2]) : EW w := ⟨⟨t1, p1, var_below h1⟩, t2, p2, var_below h2⟩
theorem R_spot {α:Type} {d:Kd α} {e n c:Nat} {w:World} {base:Nat} {ok:Nat→Prop} {A:Option Addr} {xs:List α} (h:d.R e w base ok (.slice A n c) xs):∀ad,A=some ad→ad.spot=none:=by
 intro ad hA
 obtain⟨_,inner,ho,_⟩:=h
 obtain⟨_,h2⟩:=ho
 rcases h2 with ⟨h3,_⟩|⟨g,c,cur,h3,_⟩
 ·injection h3 with h4;rw[hA] at h4;cases h4
 ·injection h3 with h4;rw[hA] at h4;cases h4;rfl
theorem add_spot (b o j:Nat):(⟨b,o,none⟩:Addr).add j=⟨b,o+j,none⟩:=by
 unfold Addr.add
 split
 ·rename_i h;subst h;rfl
 ·rfl
end Go.Proofs.YthphnhmabieflaaDoor.Pr
namespace Go.Proofs.YthphnhmabieflaaDoor.Pr
open Go.RowKit Go.Proofs.YthphnhmabieflaaDoorW.PrintWords Go.Proofs.YthphnhmabieflaaDoorW.PrintLast Go.Proofs.YthphnhmabieflaaDoorW.PrintMore
attribute [local go_sem] Zal Zaj Zas Zar Zaf Zae Zak Zai
set_option linter.unusedVariables false
set_option linter.unusedSimpArgs false
def ZZ.f (a0:Int):Option (Int):=some (mx a0 (wrap64 (-a0)))
set_option maxHeartbeats 8000000 in
set_option maxRecDepth 100000 in
theorem ZZ.calls (a0:Int) (r:Int) (w:World) (h:ZZ.f a0=some r) :
  Calls Tryd.prog 39 #[.int .i64 a0] w fun e w'=>e=.returned (.int .i64 r)∧Below w.heap.size w w':=by
 have HB:=Za (Below.refl w.heap.size w)
 have H:(some (mx a0 (wrap64 (-a0))))=some r:=h
 clear h
 obtain⟨ji2,hji2⟩:∃j_:Int,(mx a0 (wrap64 (-a0)))=j_:=⟨_,rfl⟩
 replace H:(some ji2)=some r:=by first|(rw[hji2] at H;exact H)|(simp only[hji2] at H ⊢;exact H)
 have hji2_:(if a0<(wrap64 (-a0)) then(wrap64 (-a0)) else a0)=ji2:=hji2
 obtain rfl:=Zf H
 go_enter Tryd.func39,Tryd.ntmps39
 go_wp2
 go_ret
 exact⟨by first|rfl|(simp[Zr,Zq] <;> rfl)|(simp only[← hji2];first|rfl|(simp[Zr,Zq] <;> rfl))|(simp[*,Zr,Zq] <;> rfl),by repeat(first|(with_reducible first|exact HB.out|apply Zm|apply Zl|apply Zn)|exact HB.out)⟩
def ZG.l0:Nat→List Int→List Int→Int→Int→Option (Bool)
 | 0,_,_,_,_=>none
 | k+1,x0,x5,x6,x7=>if x7<x6 then(if 0≤x7 then(if x7<(x5.length:Int) then(if (rd x5 x7)=0 then(some false) else(if (rd x5 x7)<(-3) then(some false) else(if (rd x5 x7) > 3 then(some false) else(if x7 > 0 then(if 0≤(wrap64 (x7 - 1)) then(if (wrap64 (x7 - 1))<(x0.length:Int) then((ZZ.f (rd x0 (wrap64 (x7 - 1)))).bind fun t27003=>((ZZ.f (rd x5 x7)).bind fun t27004=>(if t27003≥t27004 then(some false) else(ZG.l0 k x0 x5 x6 (wrap64 (x7+1)))))) else(none)) else(none)) else(ZG.l0 k x0 x5 x6 (wrap64 (x7+1))))))) else(none)) else(none)) else(some true)
def ZG.f (k:Nat) (l0:List Int):Option (Bool):=ZG.l0 k l0 l0 (l0.length:Int) 0
set_option maxHeartbeats 8000000 in
set_option maxRecDepth 100000 in
theorem ZG.calls (k:Nat) (A0:Option Addr) (c0:Nat) (l0:List Int) (r:Bool) (w:World) (hr0:Kd.C (Kd.int .i64) w A0 l0.length l0) (hc0:l0.length≤c0) (h:ZG.f k l0=some r) :
  Calls Tryd.prog 27 #[.slice A0 l0.length c0] w fun e w'=>e=.returned (.bool r)∧Below w.heap.size w w':=by
 have HR0:=Za hr0;have HC0:=Za hc0;clear hr0 hc0
 have HB:=Za (Below.refl w.heap.size w)
 have H:(ZG.l0 k l0 l0 (l0.length:Int) 0)=some r:=h
 clear h
 have H':=Za H
 clear H
 go_enter Tryd.func27,Tryd.ntmps27
 go_wp2
 go_loopg [7] k (fun kq v7 w'=>∃(x7_1:Int),v7=.int .i64 x7_1∧Aside0 (ZG.l0 kq l0 l0 (l0.length:Int) x7_1=some r)∧Aside0 (kq≤k)∧Aside0 (Below w.heap.size w w'))
 case atStart=>exact⟨(0),(by first|rfl|(simp;done)|(simp[*];done)),H',⟨Nat.le_refl _⟩,⟨by repeat(first|(with_reducible first|exact HB.out|apply Zm|apply Zl|apply Zn)|exact HB.out)⟩⟩
 case round=>
  clear H'
  obtain⟨x7_1,rfl,HA,HK1,HB⟩:=hrel
  cases gk with
  | zero=>exact absurd HA.out (by simp[ZG.l0])
  | succ k1=>
   have H:=HA.out
   clear HA
   simp only[ZG.l0] at H
   by_cases c2:x7_1<(l0.length:Int)
   ·rw[if_pos c2] at H
    have c2b0:decide (x7_1<(l0.length:Int))=true:=Zd c2
    clear c2
    by_cases c3:0≤x7_1
    ·rw[if_pos c3] at H
     have c3b0:decide (0≤x7_1)=true:=Zd c3
     clear c3
     by_cases c4:x7_1<(l0.length:Int)
     ·rw[if_pos c4] at H
      have c4b0:decide (x7_1<(l0.length:Int))=true:=Zd c4
      clear c4
      by_cases c5:(rd l0 x7_1)=0
      ·rw[if_pos c5] at H
       have c5b0:((rd l0 x7_1) == 0)=true:=beq_iff_eq.mpr c5
       have c5b1:((rd l0 x7_1) != 0)=false:=bne_eq_false_iff_eq.mpr c5
       clear c5
       obtain rfl:=Zf H
       have p27001:0≤(x7_1:Int):=Zc (by first|(with_reducible assumption)|assumption)
       have q27001:x7_1<(l0.length:Int):=Zc (by first|(with_reducible assumption)|assumption)
       obtain⟨ad27001,e27001,hx27001_0⟩:=Kd.at_int HR0.out x7_1 p27001 q27001
       cases e27001
       replace hx27001_0:=(HB.out.cell (Zb w _ hx27001_0)).trans hx27001_0
       replace p27001:=eq_true p27001
       replace q27001:=eq_true q27001
       go_wp2
       go_ret
       exact⟨by first|rfl|(simp[Zr,Zq] <;> rfl)|(simp[*,Zr,Zq] <;> rfl),by repeat(first|(with_reducible first|exact HB.out|apply Zm|apply Zl|apply Zn)|exact HB.out)⟩
      ·rw[if_neg c5] at H
       have c5b0:((rd l0 x7_1) == 0)=false:=beq_eq_false_iff_ne.mpr c5
       have c5b1:((rd l0 x7_1) != 0)=true:=bne_iff_ne.mpr c5
       by_cases c6:(rd l0 x7_1)<(-3)
       ·rw[if_pos c6] at H
        have c6b0:decide ((rd l0 x7_1)<(-3))=true:=Zd c6
        clear c6
        obtain rfl:=Zf H
        have p27001:0≤(x7_1:Int):=Zc (by first|(with_reducible assumption)|assumption)
        have q27001:x7_1<(l0.length:Int):=Zc (by first|(with_reducible assumption)|assumption)
        obtain⟨ad27001,e27001,hx27001_0⟩:=Kd.at_int HR0.out x7_1 p27001 q27001
        cases e27001
        replace hx27001_0:=(HB.out.cell (Zb w _ hx27001_0)).trans hx27001_0
        replace p27001:=eq_true p27001
        replace q27001:=eq_true q27001
        go_wp2
        go_ret
        exact⟨by first|rfl|(simp[Zr,Zq] <;> rfl)|(simp[*,Zr,Zq] <;> rfl),by repeat(first|(with_reducible first|exact HB.out|apply Zm|apply Zl|apply Zn)|exact HB.out)⟩
       ·rw[if_neg c6] at H
        have c6b0:decide ((rd l0 x7_1)<(-3))=false:=Ze c6
        clear c6
        by_cases c7:(rd l0 x7_1) > 3
        ·rw[if_pos c7] at H
         have c7b0:decide (3<(rd l0 x7_1))=true:=Zd c7
         clear c7
         obtain rfl:=Zf H
         have p27001:0≤(x7_1:Int):=Zc (by first|(with_reducible assumption)|assumption)
         have q27001:x7_1<(l0.length:Int):=Zc (by first|(with_reducible assumption)|assumption)
         obtain⟨ad27001,e27001,hx27001_0⟩:=Kd.at_int HR0.out x7_1 p27001 q27001
         cases e27001
         replace hx27001_0:=(HB.out.cell (Zb w _ hx27001_0)).trans hx27001_0
         replace p27001:=eq_true p27001
         replace q27001:=eq_true q27001
         go_wp2
         go_ret
         exact⟨by first|rfl|(simp[Zr,Zq] <;> rfl)|(simp[*,Zr,Zq] <;> rfl),by repeat(first|(with_reducible first|exact HB.out|apply Zm|apply Zl|apply Zn)|exact HB.out)⟩
        ·rw[if_neg c7] at H
         have c7b0:decide (3<(rd l0 x7_1))=false:=Ze c7
         clear c7
         by_cases c8:x7_1 > 0
         ·rw[if_pos c8] at H
          have c8b0:decide (0<x7_1)=true:=Zd c8
          clear c8
          obtain⟨ji9,hji9⟩:∃j_:Int,(wrap64 (x7_1 - 1))=j_:=⟨_,rfl⟩
          replace H:(if 0≤(ji9) then(if (ji9)<(l0.length:Int) then((ZZ.f (rd l0 (ji9))).bind fun t27003=>((ZZ.f (rd l0 x7_1)).bind fun t27004=>(if t27003≥t27004 then(some false) else(ZG.l0 k1 l0 l0 (l0.length:Int) (wrap64 (x7_1+1)))))) else(none)) else(none))=some r:=by first|(rw[hji9] at H;exact H)|(simp only[hji9] at H ⊢;exact H)
          have hji9w:(IntKind.i64.wrap (x7_1 - 1))=ji9:=(Z6 _).trans hji9
          by_cases c10:0≤(ji9)
          ·rw[if_pos c10] at H
           have c10b0:decide (0≤(ji9))=true:=Zd c10
           clear c10
           by_cases c11:(ji9)<(l0.length:Int)
           ·rw[if_pos c11] at H
            have c11b0:decide ((ji9)<(l0.length:Int))=true:=Zd c11
            clear c11
            replace H:=Zg H
            obtain⟨t27003,A120,H⟩:=H
            replace H:((ZZ.f (rd l0 x7_1)).bind fun t27004=>(if t27003≥t27004 then(some false) else(ZG.l0 k1 l0 l0 (l0.length:Int) (wrap64 (x7_1+1)))))=some r:=H
            have A12:=Za A120;clear A120
            replace H:=Zg H
            obtain⟨t27004,A130,H⟩:=H
            replace H:(if t27003≥t27004 then(some false) else(ZG.l0 k1 l0 l0 (l0.length:Int) (wrap64 (x7_1+1))))=some r:=H
            have A13:=Za A130;clear A130
            by_cases c14:t27003≥t27004
            ·rw[if_pos c14] at H
             have c14b0:decide (t27004≤t27003)=true:=Zd c14
             clear c14
             obtain rfl:=Zf H
             have p27001:0≤(x7_1:Int):=Zc (by first|(with_reducible assumption)|assumption)
             have q27001:x7_1<(l0.length:Int):=Zc (by first|(with_reducible assumption)|assumption)
             obtain⟨ad27001,e27001,hx27001_0⟩:=Kd.at_int HR0.out x7_1 p27001 q27001
             cases e27001
             replace hx27001_0:=(HB.out.cell (Zb w _ hx27001_0)).trans hx27001_0
             replace p27001:=eq_true p27001
             replace q27001:=eq_true q27001
             have p27002:0≤((ji9):Int):=Zc (by first|(with_reducible assumption)|assumption)
             have q27002:(ji9)<(l0.length:Int):=Zc (by first|(with_reducible assumption)|assumption)
             obtain⟨ad27002,e27002,hx27002_0⟩:=Kd.at_int HR0.out (ji9) p27002 q27002
             obtain rfl:ad27001=ad27002:=(by injection e27002)
             replace hx27002_0:=(HB.out.cell (Zb w _ hx27002_0)).trans hx27002_0
             replace p27002:=eq_true p27002
             replace q27002:=eq_true q27002
             go_wp2_with (first|(go_at_call 39;(with_reducible refine(ZZ.calls (rd l0 (ji9)) t27003 _ A12.out).mono ?_);rintro e w15 ⟨rfl,hb⟩;replace HB:=Za (Zu (by repeat(first|(with_reducible first|exact HB.out|apply Zm|apply Zl|apply Zn)|exact HB.out)) hb);(try clear hb);(try clear hb2);(try clear hk);(try clear hi))|(go_at_call 39;(with_reducible refine(ZZ.calls (rd l0 x7_1) t27004 _ A13.out).mono ?_);rintro e w16 ⟨rfl,hb⟩;replace HB:=Za (Zu (by repeat(first|(with_reducible first|exact HB.out|apply Zm|apply Zl|apply Zn)|exact HB.out)) hb);(try clear hb);(try clear hb2);(try clear hk);(try clear hi)))
             go_ret
             exact⟨by first|rfl|(simp[Zr,Zq] <;> rfl)|(simp only[← hji9];first|rfl|(simp[Zr,Zq] <;> rfl))|(simp[*,Zr,Zq] <;> rfl),by repeat(first|(with_reducible first|exact HB.out|apply Zm|apply Zl|apply Zn)|exact HB.out)⟩
            ·rw[if_neg c14] at H
             have c14b0:decide (t27004≤t27003)=false:=Ze c14
             clear c14
             have H':=Za H
             clear H
             have p27001:0≤(x7_1:Int):=Zc (by first|(with_reducible assumption)|assumption)
             have q27001:x7_1<(l0.length:Int):=Zc (by first|(with_reducible assumption)|assumption)
             obtain⟨ad27001,e27001,hx27001_0⟩:=Kd.at_int HR0.out x7_1 p27001 q27001
             cases e27001
             replace hx27001_0:=(HB.out.cell (Zb w _ hx27001_0)).trans hx27001_0
             replace p27001:=eq_true p27001
             replace q27001:=eq_true q27001
             have p27002:0≤((ji9):Int):=Zc (by first|(with_reducible assumption)|assumption)
             have q27002:(ji9)<(l0.length:Int):=Zc (by first|(with_reducible assumption)|assumption)
             obtain⟨ad27002,e27002,hx27002_0⟩:=Kd.at_int HR0.out (ji9) p27002 q27002
             obtain rfl:ad27001=ad27002:=(by injection e27002)
             replace hx27002_0:=(HB.out.cell (Zb w _ hx27002_0)).trans hx27002_0
             replace p27002:=eq_true p27002
             replace q27002:=eq_true q27002
             go_wp2_with (first|(go_at_call 39;(with_reducible refine(ZZ.calls (rd l0 (ji9)) t27003 _ A12.out).mono ?_);rintro e w17 ⟨rfl,hb⟩;replace HB:=Za (Zu (by repeat(first|(with_reducible first|exact HB.out|apply Zm|apply Zl|apply Zn)|exact HB.out)) hb);(try clear hb);(try clear hb2);(try clear hk);(try clear hi))|(go_at_call 39;(with_reducible refine(ZZ.calls (rd l0 x7_1) t27004 _ A13.out).mono ?_);rintro e w18 ⟨rfl,hb⟩;replace HB:=Za (Zu (by repeat(first|(with_reducible first|exact HB.out|apply Zm|apply Zl|apply Zn)|exact HB.out)) hb);(try clear hb);(try clear hb2);(try clear hk);(try clear hi)))
             go_roundg k1
             case measure=>have:=HK1.out;omega
             case rel=>exact⟨(wrap64 (x7_1+1)),(by first|rfl|(simp;done)|(simp[*];done)),H',⟨by have:=HK1.out;omega⟩,⟨by repeat(first|(with_reducible first|exact HB.out|apply Zm|apply Zl|apply Zn)|exact HB.out)⟩⟩
           ·rw[if_neg c11] at H
            exact absurd H (by simp)
          ·rw[if_neg c10] at H
           exact absurd H (by simp)
         ·rw[if_neg c8] at H
          have c8b0:decide (0<x7_1)=false:=Ze c8
          clear c8
          have H':=Za H
          clear H
          have p27001:0≤(x7_1:Int):=Zc (by first|(with_reducible assumption)|assumption)
          have q27001:x7_1<(l0.length:Int):=Zc (by first|(with_reducible assumption)|assumption)
          obtain⟨ad27001,e27001,hx27001_0⟩:=Kd.at_int HR0.out x7_1 p27001 q27001
          cases e27001
          replace hx27001_0:=(HB.out.cell (Zb w _ hx27001_0)).trans hx27001_0
          replace p27001:=eq_true p27001
          replace q27001:=eq_true q27001
          go_wp2
          go_roundg k1
          case measure=>have:=HK1.out;omega
          case rel=>exact⟨(wrap64 (x7_1+1)),(by first|rfl|(simp;done)|(simp[*];done)),H',⟨by have:=HK1.out;omega⟩,⟨by repeat(first|(with_reducible first|exact HB.out|apply Zm|apply Zl|apply Zn)|exact HB.out)⟩⟩
     ·rw[if_neg c4] at H
      exact absurd H (by simp)
    ·rw[if_neg c3] at H
     exact absurd H (by simp)
   ·rw[if_neg c2] at H
    have c2b0:decide (x7_1<(l0.length:Int))=false:=Ze c2
    clear c2
    obtain rfl:=Zf H
    go_wp2
    go_ret
    exact⟨by first|rfl|(simp[Zr,Zq] <;> rfl)|(simp[*,Zr,Zq] <;> rfl),by repeat(first|(with_reducible first|exact HB.out|apply Zm|apply Zl|apply Zn)|exact HB.out)⟩
end Go.Proofs.YthphnhmabieflaaDoor.Pr
namespace Go.Proofs
open Go.Shelf
def Tryd.laysM171_ren:Go.Shelf.Ren:=⟨fun|171=>73|243=>98|246=>129|283=>148|284=>149|285=>150|286=>151|129=>128|317=>158|318=>159|319=>160|320=>161|337=>164|338=>165|n=>n,fun|3=>3|9=>9|2=>2|4=>4|171=>149|0=>0|53=>132|37=>48|5=>5|173=>151|212=>166|51=>130|20=>20|213=>167|46=>51|232=>172|233=>173|n=>n,fun|17=>3|18=>4|19=>5|n=>n⟩
theorem Tryd.laysM171:Go.Proofs.LaysM.n171 Tryd.prog Tryd.laysM171_ren:={
 mixed:=by kernel_rfl
 f129:=Tryd.func128.trans (congrArg some (by kernel_rfl))
 f171:=Tryd.func73.trans (congrArg some (by kernel_rfl))
 f243:=Tryd.func98.trans (congrArg some (by kernel_rfl))
 f246:=Tryd.func129.trans (congrArg some (by kernel_rfl))
 f283:=Tryd.func148.trans (congrArg some (by kernel_rfl))
 f284:=Tryd.func149.trans (congrArg some (by kernel_rfl))
 f285:=Tryd.func150.trans (congrArg some (by kernel_rfl))
 f286:=Tryd.func151.trans (congrArg some (by kernel_rfl))
 f317:=Tryd.func158.trans (congrArg some (by kernel_rfl))
 f318:=Tryd.func159.trans (congrArg some (by kernel_rfl))
 f319:=Tryd.func160.trans (congrArg some (by kernel_rfl))
 f320:=Tryd.func161.trans (congrArg some (by kernel_rfl))
 f337:=Tryd.func164.trans (congrArg some (by kernel_rfl))
 f338:=Tryd.func165.trans (congrArg some (by kernel_rfl))
 t0:=Tryd.underlying0
 a0:=Tryd.isAgg0
 z0:=Tryd.sizeOf0
 v0:=Tryd.zeroValue0
 t2:=Tryd.underlying2
 a2:=Tryd.isAgg2
 z2:=Tryd.sizeOf2
 v2:=Tryd.zeroValue2
 t3:=Tryd.underlying3
 a3:=Tryd.isAgg3
 z3:=Tryd.sizeOf3
 v3:=Tryd.zeroValue3
 t4:=Tryd.underlying4
 a4:=Tryd.isAgg4
 z4:=Tryd.sizeOf4
 v4:=Tryd.zeroValue4
 t5:=Tryd.underlying5
 a5:=Tryd.isAgg5
 z5:=Tryd.sizeOf5
 v5:=Tryd.zeroValue5
 t9:=Tryd.underlying9
 a9:=Tryd.isAgg9
 z9:=Tryd.sizeOf9
 v9:=Tryd.zeroValue9
 t20:=Tryd.underlying20
 a20:=Tryd.isAgg20
 z20:=Tryd.sizeOf20
 v20:=Tryd.zeroValue20
 t37:=Tryd.underlying48
 a37:=Tryd.isAgg48
 z37:=Tryd.sizeOf48
 v37:=Tryd.zeroValue48
 t46:=Tryd.underlying51
 a46:=Tryd.isAgg51
 z46:=Tryd.sizeOf51
 v46:=Tryd.zeroValue51
 t51:=Tryd.underlying130
 a51:=Tryd.isAgg130
 z51:=Tryd.sizeOf130
 v51:=Tryd.zeroValue130
 t53:=Tryd.underlying132
 a53:=Tryd.isAgg132
 z53:=Tryd.sizeOf132
 v53:=Tryd.zeroValue132
 t171:=Tryd.underlying149
 a171:=Tryd.isAgg149
 z171:=Tryd.sizeOf149
 v171:=Tryd.zeroValue149
 t173:=Tryd.underlying151
 a173:=Tryd.isAgg151
 z173:=Tryd.sizeOf151
 v173:=Tryd.zeroValue151
 t212:=Tryd.underlying166
 a212:=Tryd.isAgg166
 z212:=Tryd.sizeOf166
 v212:=Tryd.zeroValue166
 t213:=Tryd.underlying167
 a213:=Tryd.isAgg167
 z213:=Tryd.sizeOf167
 t232:=Tryd.underlying172
 a232:=Tryd.isAgg172
 z232:=Tryd.sizeOf172
 v232:=Tryd.zeroValue172
 t233:=Tryd.underlying173
 a233:=Tryd.isAgg173
 z233:=Tryd.sizeOf173
 v233:=Tryd.zeroValue173
 g17:=by kernel_rfl
 g18:=by kernel_rfl
 g19:=by kernel_rfl
 i0:=by kernel_rfl
 i2:=by kernel_rfl
 i3:=by kernel_rfl
 i4:=by kernel_rfl
 i5:=by kernel_rfl
 i9:=by kernel_rfl
 i20:=by kernel_rfl
 i37:=by kernel_rfl
 i46:=by kernel_rfl
 i51:=by kernel_rfl
 i53:=by kernel_rfl
 i171:=by kernel_rfl
 i173:=by kernel_rfl
 i212:=by kernel_rfl
 i232:=by kernel_rfl
 i233:=by kernel_rfl
 m17:=by kernel_rfl
 m18:=by kernel_rfl
 m19:=by kernel_rfl }
open Go.RowKit Go.Sort Go.Lib in
theorem Tryd.strconv_Itoa (n : Int) (h0 : -9223372036854775808 ≤ n) (h1 : n ≤ 9223372036854775807) (w : World) (htab : Lib.TabIs Tryd.prog w "internal/strconv.uint64pow10" .u64 Lib.pow10Tab) :
  Calls Tryd.prog 73 #[.int .i64 n] w fun e w'=>e=.returned (.string ⟨(Lib.itoa n).toArray⟩)∧∃k os,w'=grow (w.drewN k) os:=Any.strconv_Itoa Tryd.laysM171 n h0 h1 w htab
def Tryd.lays156_ren:Go.Shelf.Ren:=⟨fun|156=>74|165=>99|166=>100|169=>101|240=>130|241=>131|276=>152|277=>153|n=>n,fun|31=>56|9=>9|3=>3|4=>4|0=>0|20=>20|72=>111|76=>100|70=>109|37=>48|75=>99|127=>134|164=>153|5=>5|80=>113|n=>n,fun|n=>n⟩
theorem Tryd.lays156:Go.Proofs.Lays.n156 Tryd.prog Tryd.lays156_ren:={
 mixed:=by kernel_rfl
 f156:=Tryd.func74.trans (congrArg some (by kernel_rfl))
 f165:=Tryd.func99.trans (congrArg some (by kernel_rfl))
 f166:=Tryd.func100.trans (congrArg some (by kernel_rfl))
 f169:=Tryd.func101.trans (congrArg some (by kernel_rfl))
 f240:=Tryd.func130.trans (congrArg some (by kernel_rfl))
 f241:=Tryd.func131.trans (congrArg some (by kernel_rfl))
 f276:=Tryd.func152.trans (congrArg some (by kernel_rfl))
 f277:=Tryd.func153.trans (congrArg some (by kernel_rfl))
 t0:=Tryd.underlying0
 a0:=Tryd.isAgg0
 z0:=Tryd.sizeOf0
 v0:=Tryd.zeroValue0
 t3:=Tryd.underlying3
 a3:=Tryd.isAgg3
 z3:=Tryd.sizeOf3
 v3:=Tryd.zeroValue3
 t4:=Tryd.underlying4
 a4:=Tryd.isAgg4
 z4:=Tryd.sizeOf4
 v4:=Tryd.zeroValue4
 t9:=Tryd.underlying9
 a9:=Tryd.isAgg9
 z9:=Tryd.sizeOf9
 v9:=Tryd.zeroValue9
 t20:=Tryd.underlying20
 a20:=Tryd.isAgg20
 z20:=Tryd.sizeOf20
 v20:=Tryd.zeroValue20
 t31:=Tryd.underlying56
 a31:=Tryd.isAgg56
 z31:=Tryd.sizeOf56
 v31:=Tryd.zeroValue56
 t37:=Tryd.underlying48
 a37:=Tryd.isAgg48
 z37:=Tryd.sizeOf48
 v37:=Tryd.zeroValue48
 t70:=Tryd.underlying109
 a70:=Tryd.isAgg109
 z70:=Tryd.sizeOf109
 v70:=Tryd.zeroValue109
 t72:=Tryd.underlying111
 a72:=Tryd.isAgg111
 z72:=Tryd.sizeOf111
 v72:=Tryd.zeroValue111
 t75:=Tryd.underlying99
 a75:=Tryd.isAgg99
 z75:=Tryd.sizeOf99
 v75:=Tryd.zeroValue99
 t76:=Tryd.underlying100
 a76:=Tryd.isAgg100
 z76:=Tryd.sizeOf100
 v76:=Tryd.zeroValue100
 t127:=Tryd.underlying134
 a127:=Tryd.isAgg134
 z127:=Tryd.sizeOf134
 v127:=Tryd.zeroValue134
 t164:=Tryd.underlying153
 a164:=Tryd.isAgg153
 z164:=Tryd.sizeOf153
 v164:=Tryd.zeroValue153 }
theorem Tryd.Builder_Extra_156:Builder.Extra Tryd.prog Tryd.lays156_ren:={
 sizeBuilder:=by kernel_rfl
 liesBuilder:=by kernel_rfl
 t5:=Tryd.underlying5
 a5:=Tryd.isAgg5
 z5:=Tryd.sizeOf5
 v5:=Tryd.zeroValue5
 infoByte:=by kernel_rfl
 cellsByte:=by kernel_rfl
 sizeByte:=by kernel_rfl
 neB5:=by decide }
open Go.RowKit in
theorem Tryd.strings_Join (bk o c:Nat) (xs:List ByteArray) (sep:ByteArray) (w:World) (hcells:∀(j:Nat) x,xs[j]? = some x→w.cell? ⟨bk,o+j,none⟩=some (.string x)) (hbk:bk<w.heap.size) (hN:xs.length≤140737488355328) (hcap:xs.length≤c) (hlen:(Lib.join (xs.map (·.data.toList)) sep.data.toList).length≤140737488355328) :
  Calls Tryd.prog 74 #[.slice (some ⟨bk,o,none⟩) xs.length c,.string sep] w fun e w'=>e=.returned (.string ⟨(Lib.join (xs.map (·.data.toList)) sep.data.toList).toArray⟩)∧Below w.heap.size w w':=Any.strings_Join Tryd.lays156 Tryd.Builder_Extra_156 bk o c xs sep w hcells hbk hN hcap hlen
open Go.RowKit in
theorem Tryd.strings_Join_none (a:Option Addr) (c:Nat) (sep:ByteArray) (w:World) :
  Calls Tryd.prog 74 #[.slice a 0 c,.string sep] w fun e w'=>e=.returned (.string ⟨#[]⟩)∧w'=w:=Any.strings_Join_none Tryd.lays156 Tryd.Builder_Extra_156 a c sep w
def Tryd.lays137_ren:Go.Shelf.Ren:=⟨fun|137=>87|217=>116|266=>137|n=>n,fun|9=>9|5=>5|3=>3|n=>n,fun|n=>n⟩
theorem Tryd.lays137:Go.Proofs.Lays.n137 Tryd.prog Tryd.lays137_ren:={
 mixed:=by kernel_rfl
 f137:=Tryd.func87.trans (congrArg some (by kernel_rfl))
 f217:=Tryd.func116.trans (congrArg some (by kernel_rfl))
 f266:=Tryd.func137.trans (congrArg some (by kernel_rfl))
 t3:=Tryd.underlying3
 a3:=Tryd.isAgg3
 z3:=Tryd.sizeOf3
 v3:=Tryd.zeroValue3
 t5:=Tryd.underlying5
 a5:=Tryd.isAgg5
 z5:=Tryd.sizeOf5
 v5:=Tryd.zeroValue5
 t9:=Tryd.underlying9
 a9:=Tryd.isAgg9
 z9:=Tryd.sizeOf9
 v9:=Tryd.zeroValue9 }
open Go.RowKit in
theorem Tryd.strings_IndexByte (s:ByteArray) (c:Int) (w:World) :
  Calls Tryd.prog 87 #[.string s,.int .u8 c] w fun e w'=>e=.returned (.int .i64 (Lib.indexByte s.data.toList c.toNat.toUInt8))∧w'=w:=Any.strings_IndexByte Tryd.lays137 s c w
end Go.Proofs
namespace Go.Proofs.YthphnhmabieflaaDoor.Pr
open Go.RowKit Go.Proofs.YthphnhmabieflaaDoorW.PrintWords Go.Proofs.YthphnhmabieflaaDoorW.PrintLast Go.Proofs.YthphnhmabieflaaDoorW.PrintMore
attribute [local go_sem] Zal Zaj Zas Zar Zaf Zae Zak Zai
set_option linter.unusedVariables false
set_option linter.unusedSimpArgs false
def Z7.f (a0:Int):Option (ByteArray):=if -9223372036854775808≤a0∧a0≤9223372036854775807 then some ⟨(Lib.itoa a0).toArray⟩ else none
set_option maxHeartbeats 4000000 in
theorem Z7.calls (a0:Int) (r:ByteArray) (w:World) (ht:TW w) (h:Z7.f a0=some r) :
  Calls Tryd.prog 38 #[.int .i64 a0] w fun e w'=>e=.returned (.string r)∧Below w.heap.size w w':=by
 unfold Z7.f at h
 by_cases hb : -9223372036854775808≤a0∧a0≤9223372036854775807
 case neg=>rw[if_neg hb] at h;exact absurd h (by simp)
 rw[if_pos hb] at h
 obtain rfl:=Zf h
 have HC:=Za (Tryd.strconv_Itoa a0 hb.1 hb.2 w (Lib.TabBelow.here ht))
 clear h ht hb
 go_enter Tryd.func38,Tryd.ntmps38
 go_wp2_with (go_at_call 73;refine HC.out.mono ?_;rintro e w' ⟨rfl,k,os,hw⟩;have hB:=Lib.below_grow w.heap.size w (Nat.le_refl _) k os;rw[← hw] at hB;clear hw)
 go_ret
 exact⟨rfl,hB⟩
def ZaA.f (l0:List ByteArray) (a1:ByteArray):Option (ByteArray):=if l0.length≤1048576∧(Lib.join (l0.map (·.data.toList)) a1.data.toList).length≤140737488355328 then some ⟨(Lib.join (l0.map (·.data.toList)) a1.data.toList).toArray⟩ else none
set_option maxHeartbeats 4000000 in
theorem ZaA.lib (A0:Option Addr) (c0:Nat) (l0:List ByteArray) (a1:ByteArray) (w:World) (hr0:Kd.C Kd.string w A0 l0.length l0) (hc0:l0.length≤c0) (hs0:∀ad,A0=some ad→ad.spot=none) (h1:l0.length≤1048576) (h2:(Lib.join (l0.map (·.data.toList)) a1.data.toList).length≤140737488355328) :
  Calls Tryd.prog 74 #[.slice A0 l0.length c0,.string a1] w fun e w'=>e=.returned (.string ⟨(Lib.join (l0.map (·.data.toList)) a1.data.toList).toArray⟩)∧Below w.heap.size w w':=by
 cases l0 with
 | nil=>exact(Tryd.strings_Join_none A0 c0 a1 w).mono fun e w' ⟨he,hw⟩=>⟨he,hw ▸ Below.refl _ _⟩
 | cons x t=>
  obtain⟨ad,hA,_⟩:=hr0.2.2 (by simp)
  have hsp:=hs0 ad hA
  obtain⟨b,o,sp⟩:=ad
  simp only at hsp
  subst hsp;subst hA
  have hcells:∀(j:Nat) y,(x :: t)[j]? = some y→w.cell? ⟨b,o+j,none⟩=some (.string y):=fun j y hy=>by
   have hj:=(List.getElem?_eq_some_iff.1 hy).1
   obtain⟨ad,he,hc⟩:=Kd.at_string hr0 (j:Int) (by omega) (by omega)
   cases he
   rw[Int.toNat_natCast,add_spot] at hc
   rw[hc]
   unfold rdOf
   rw[Int.toNat_natCast,List.getD_eq_getElem?_getD,hy];rfl
  have hbk:b<w.heap.size:=Zb w _ (hcells 0 x rfl)
  exact Tryd.strings_Join b o c0 (x :: t) a1 w hcells hbk (by omega) hc0 h2
set_option maxHeartbeats 4000000 in
theorem ZaA.calls (A0:Option Addr) (c0:Nat) (l0:List ByteArray) (a1:ByteArray) (r:ByteArray) (w:World) (hr0:Kd.C Kd.string w A0 l0.length l0) (hc0:l0.length≤c0) (hs0:∀ad,A0=some ad→ad.spot=none) (h:ZaA.f l0 a1=some r) :
  Calls Tryd.prog 40 #[.slice A0 l0.length c0,.string a1] w fun e w'=>e=.returned (.string r)∧Below w.heap.size w w':=by
 unfold ZaA.f at h
 by_cases hb:l0.length≤1048576∧(Lib.join (l0.map (·.data.toList)) a1.data.toList).length≤140737488355328
 case neg=>rw[if_neg hb] at h;exact absurd h (by simp)
 rw[if_pos hb] at h
 obtain rfl:=Zf h
 have HC:=Za (ZaA.lib A0 c0 l0 a1 w hr0 hc0 hs0 hb.1 hb.2)
 clear h hr0 hc0 hs0 hb
 go_enter Tryd.func40,Tryd.ntmps40
 go_wp2_with (go_at_call 74;refine HC.out.mono ?_;rintro e w' ⟨rfl,hb⟩)
 go_ret
 exact⟨rfl,hb⟩
def Zx.l0:Nat→List ByteArray→List Int→Int→Int→Option (ByteArray)
 | 0,_,_,_,_=>none
 | k+1,x3,x13,x14,x15=>if x15<x14 then(if 0≤x15 then(if x15<(x13.length:Int) then((ZZ.f (rd x13 x15)).bind fun t11004=>((Z7.f t11004).bind fun t11005=>(if 1+t11005.size≤9223372036854775807 then(if (rd x13 x15)<0 then(if 1+((⟨#[112]⟩:ByteArray) ++ t11005).size≤9223372036854775807 then(if x3.length<8796093022208 then(Zx.l0 k (x3 ++ [(⟨#[33]⟩:ByteArray) ++ ((⟨#[112]⟩:ByteArray) ++ t11005)]) x13 x14 (wrap64 (x15+1))) else(none)) else(none)) else(if x3.length<8796093022208 then(Zx.l0 k (x3 ++ [(⟨#[112]⟩:ByteArray) ++ t11005]) x13 x14 (wrap64 (x15+1))) else(none))) else(none)))) else(none)) else(none)) else((ZaA.f x3 (⟨#[38]⟩:ByteArray)).bind fun t11002=>(some t11002))
def Zx.f (k:Nat) (l0:List Int):Option (ByteArray):=(ZG.f k l0).bind fun t11001=>(if t11001=true then(if (l0.length:Int)=0 then(some (⟨#[45]⟩:ByteArray)) else(Zx.l0 k ([]:List ByteArray) l0 (l0.length:Int) 0)) else(some (⟨#[]⟩:ByteArray)))
set_option maxHeartbeats 8000000 in
set_option maxRecDepth 100000 in
theorem Zx.calls (k:Nat) (A0:Option Addr) (c0:Nat) (l0:List Int) (r:ByteArray) (w:World) (hr0:Kd.C (Kd.int .i64) w A0 l0.length l0) (hc0:l0.length≤c0) (ht:TW w) (h:Zx.f k l0=some r) :
  Calls Tryd.prog 11 #[.slice A0 l0.length c0] w fun e w'=>e=.returned (.string r)∧Below w.heap.size w w':=by
 have HTW:=Za ht;clear ht;have HR0:=Za hr0;have HC0:=Za hc0;clear hr0 hc0
 have HB:=Za (Below.refl w.heap.size w)
 have H:((ZG.f k l0).bind fun t11001=>(if t11001=true then(if (l0.length:Int)=0 then(some (⟨#[45]⟩:ByteArray)) else(Zx.l0 k ([]:List ByteArray) l0 (l0.length:Int) 0)) else(some (⟨#[]⟩:ByteArray))))=some r:=h
 clear h
 replace H:=Zg H
 obtain⟨t11001,A20,H⟩:=H
 replace H:(if t11001=true then(if (l0.length:Int)=0 then(some (⟨#[45]⟩:ByteArray)) else(Zx.l0 k ([]:List ByteArray) l0 (l0.length:Int) 0)) else(some (⟨#[]⟩:ByteArray)))=some r:=H
 have A2:=Za A20;clear A20
 by_cases c3:t11001=true
 ·subst c3
  have H1:(if (l0.length:Int)=0 then(some (⟨#[45]⟩:ByteArray)) else(Zx.l0 k ([]:List ByteArray) l0 (l0.length:Int) 0))=some r:=by rw[if_pos rfl] at H;exact H
  clear H
  have H:=H1
  clear H1
  by_cases c4:(l0.length:Int)=0
  ·rw[if_pos c4] at H
   have c4b0:((l0.length:Int) == 0)=true:=beq_iff_eq.mpr c4
   have c4b1:((l0.length:Int) != 0)=false:=bne_eq_false_iff_eq.mpr c4
   clear c4
   obtain rfl:=Zf H
   go_enter Tryd.func11,Tryd.ntmps11
   go_wp2_with (first|((with_reducible refine ZA (f:=27) rfl ?_);refine ZT (some 8) rfl rfl Tryd.func27 (by kernel_rfl) rfl #[.slice A0 l0.length c0] rfl (by(try simp only[List.map_toArray,List.map_cons,List.map_nil]);first|done|rfl|(simp only[Zj,Zi];rfl)) ?_;(with_reducible refine(ZG.calls k _ _ l0 true _ ?side1 ?side2 A2.out).mono ?_);(case side1=>repeat(first|exact HR0.out|(with_reducible refine Kd.C_alloc ?_ _)|(with_reducible refine Kd.C_drewN ?_ _)|(with_reducible refine Kd.C_drew ?_)));(case side2=>exact HC0.out);rintro e w5 ⟨rfl,hb⟩;refine⟨_,rfl,?_⟩;replace HB:=Za (Zu (by repeat(first|(with_reducible first|exact HB.out|apply Zm|apply Zl|apply Zn)|exact HB.out)) hb);(try clear hb);(try clear hb2);(try clear hk);(try clear hi)))
   go_ret
   exact⟨by first|rfl|(simp[Zr,Zq] <;> rfl)|(simp[*,Zr,Zq] <;> rfl),by repeat(first|(with_reducible first|exact HB.out|apply Zm|apply Zl|apply Zn)|exact HB.out)⟩
  ·rw[if_neg c4] at H
   have c4b0:((l0.length:Int) == 0)=false:=beq_eq_false_iff_ne.mpr c4
   have c4b1:((l0.length:Int) != 0)=true:=bne_iff_ne.mpr c4
   have c4b2:¬(l0=[]):=fun h_=>c4 (by rw[h_];rfl)
   have H':=Za H
   clear H
   go_enter Tryd.func11,Tryd.ntmps11
   go_wp2_with (first|((with_reducible refine ZA (f:=27) rfl ?_);refine ZT (some 8) rfl rfl Tryd.func27 (by kernel_rfl) rfl #[.slice A0 l0.length c0] rfl (by(try simp only[List.map_toArray,List.map_cons,List.map_nil]);first|done|rfl|(simp only[Zj,Zi];rfl)) ?_;(with_reducible refine(ZG.calls k _ _ l0 true _ ?side1 ?side2 A2.out).mono ?_);(case side1=>repeat(first|exact HR0.out|(with_reducible refine Kd.C_alloc ?_ _)|(with_reducible refine Kd.C_drewN ?_ _)|(with_reducible refine Kd.C_drew ?_)));(case side2=>exact HC0.out);rintro e w6 ⟨rfl,hb⟩;refine⟨_,rfl,?_⟩;replace HB:=Za (Zu (by repeat(first|(with_reducible first|exact HB.out|apply Zm|apply Zl|apply Zn)|exact HB.out)) hb);(try clear hb);(try clear hb2);(try clear hk);(try clear hi)))
   go_loopg [3,15] k (fun kq v3 v15 w'=>∃(x3_1:List ByteArray) (x15_1:Int),v15=.int .i64 x15_1∧Aside0 (Zx.l0 kq x3_1 l0 (l0.length:Int) x15_1=some r)∧Aside0 (kq≤k)∧Aside0 (Kd.R Kd.string 9 w' w.heap.size (fun _=>True) v3 x3_1)∧Aside0 (Below w.heap.size w w'))
   case atStart=>exact⟨(([]:List ByteArray)),(0),(by first|rfl|(simp;done)|(simp[*];done)),H',⟨Nat.le_refl _⟩,⟨by first|exact Kd.R_nil _ _ _ _ _|exact Kd.N_nil _ _ _ _ _|exact Kd.V_nil _ _ _ _ _|exact Kd.Q_nil _ _ _ _ _|exact Kd.S_nil _ _ _ _ _⟩,⟨by repeat(first|(with_reducible first|exact HB.out|apply Zm|apply Zl|apply Zn)|exact HB.out)⟩⟩
   case round=>
    clear H'
    try clear c1
    try clear c2
    try clear p2
    try clear c3
    try clear c4
    try clear c4b0
    try clear c4b1
    try clear c4b2
    obtain⟨x3_1,x15_1,rfl,HA,HK1,HO_3,HB⟩:=hrel
    cases gk with
    | zero=>exact absurd HA.out (by simp[Zx.l0])
    | succ k1=>
     have H:=HA.out
     clear HA
     simp only[Zx.l0] at H
     by_cases c7:x15_1<(l0.length:Int)
     ·rw[if_pos c7] at H
      have c7b0:decide (x15_1<(l0.length:Int))=true:=Zd c7
      clear c7
      by_cases c8:0≤x15_1
      ·rw[if_pos c8] at H
       have c8b0:decide (0≤x15_1)=true:=Zd c8
       clear c8
       by_cases c9:x15_1<(l0.length:Int)
       ·rw[if_pos c9] at H
        have c9b0:decide (x15_1<(l0.length:Int))=true:=Zd c9
        clear c9
        replace H:=Zg H
        obtain⟨t11004,A100,H⟩:=H
        replace H:((Z7.f t11004).bind fun t11005=>(if 1+t11005.size≤9223372036854775807 then(if (rd l0 x15_1)<0 then(if 1+((⟨#[112]⟩:ByteArray) ++ t11005).size≤9223372036854775807 then(if x3_1.length<8796093022208 then(Zx.l0 k1 (x3_1 ++ [(⟨#[33]⟩:ByteArray) ++ ((⟨#[112]⟩:ByteArray) ++ t11005)]) l0 (l0.length:Int) (wrap64 (x15_1+1))) else(none)) else(none)) else(if x3_1.length<8796093022208 then(Zx.l0 k1 (x3_1 ++ [(⟨#[112]⟩:ByteArray) ++ t11005]) l0 (l0.length:Int) (wrap64 (x15_1+1))) else(none))) else(none)))=some r:=H
        have A10:=Za A100;clear A100
        replace H:=Zg H
        obtain⟨t11005,A110,H⟩:=H
        replace H:(if 1+t11005.size≤9223372036854775807 then(if (rd l0 x15_1)<0 then(if 1+((⟨#[112]⟩:ByteArray) ++ t11005).size≤9223372036854775807 then(if x3_1.length<8796093022208 then(Zx.l0 k1 (x3_1 ++ [(⟨#[33]⟩:ByteArray) ++ ((⟨#[112]⟩:ByteArray) ++ t11005)]) l0 (l0.length:Int) (wrap64 (x15_1+1))) else(none)) else(none)) else(if x3_1.length<8796093022208 then(Zx.l0 k1 (x3_1 ++ [(⟨#[112]⟩:ByteArray) ++ t11005]) l0 (l0.length:Int) (wrap64 (x15_1+1))) else(none))) else(none))=some r:=H
        have A11:=Za A110;clear A110
        by_cases c12:1+t11005.size≤9223372036854775807
        ·rw[if_pos c12] at H
         have c12b0:=eq_true c12
         have c12b1:decide (1+t11005.size≤9223372036854775807)=true:=Zd c12
         try have c12b2:(9223372036854775807<1+t11005.size)=False:=eq_false (Nat.not_lt.2 c12)
         by_cases c13:(rd l0 x15_1)<0
         ·rw[if_pos c13] at H
          have c13b0:decide ((rd l0 x15_1)<0)=true:=Zd c13
          clear c13
          by_cases c14:1+((⟨#[112]⟩:ByteArray) ++ t11005).size≤9223372036854775807
          ·rw[if_pos c14] at H
           have c14b0:=eq_true c14
           have c14b1:decide (1+((⟨#[112]⟩:ByteArray) ++ t11005).size≤9223372036854775807)=true:=Zd c14
           try have c14b2:(9223372036854775807<1+((⟨#[112]⟩:ByteArray) ++ t11005).size)=False:=eq_false (Nat.not_lt.2 c14)
           try have c14b4:(9223372036854775807<1+(1+t11005.size))=False:=eq_false (Nat.not_lt.2 (by have h_:=c14;simp only[ByteArray.size_append] at h_;exact h_))
           by_cases c15:x3_1.length<8796093022208
           ·rw[if_pos c15] at H
            have LMc15:=Za c15;clear c15
            obtain⟨y11006,hy11006⟩:∃y_:List ByteArray,y_=(x3_1 ++ [(⟨#[33]⟩:ByteArray) ++ ((⟨#[112]⟩:ByteArray) ++ t11005)]):=⟨_,rfl⟩
            replace H:(Zx.l0 k1 y11006 l0 (l0.length:Int) (wrap64 (x15_1+1)))=some r:=by first|(rw[hy11006];with_reducible exact H)|(have H2_:=(Zh _ _).symm.trans H;rw[hy11006];with_reducible exact H2_)|(have H2_:=(Zh _ _).symm.trans H;with_reducible exact H2_)|with_reducible exact H|(rw[hy11006];exact H)|exact H
            have Ny11006:=Za hy11006;clear hy11006
            have H':=Za H
            clear H
            have p11003:0≤(x15_1:Int):=Zc (by first|(with_reducible assumption)|assumption)
            have q11003:x15_1<(l0.length:Int):=Zc (by first|(with_reducible assumption)|assumption)
            obtain⟨ad11003,e11003,hx11003_0⟩:=Kd.at_int HR0.out x15_1 p11003 q11003
            cases e11003
            replace hx11003_0:=(HB.out.cell (Zb w _ hx11003_0)).trans hx11003_0
            replace p11003:=eq_true p11003
            replace q11003:=eq_true q11003
            go_wp2_with (first|((with_reducible refine ZA (f:=39) rfl ?_);refine ZT (some 20) rfl rfl Tryd.func39 (by kernel_rfl) rfl #[.int .i64 (rd l0 x15_1)] rfl (by(try simp only[List.map_toArray,List.map_cons,List.map_nil]);first|done|rfl|(simp only[Zj,Zi];rfl)) ?_;(with_reducible refine(ZZ.calls (rd l0 x15_1) t11004 _ A10.out).mono ?_);rintro e w16 ⟨rfl,hb⟩;refine⟨_,rfl,?_⟩;replace HO_3:=Za (Kd.R_below (by(with_reducible repeat(first|apply Kd.R_alloc|apply Kd.R_drewN|apply Kd.R_drew));exact HO_3.out) hb);replace HB:=Za (Zu (by repeat(first|(with_reducible first|exact HB.out|apply Zm|apply Zl|apply Zn)|exact HB.out)) hb);(try clear hb);(try clear hb2);(try clear hk);(try clear hi))|((with_reducible refine ZA (f:=38) rfl ?_);refine ZT (some 21) rfl rfl Tryd.func38 (by kernel_rfl) rfl #[.int .i64 t11004] rfl (by(try simp only[List.map_toArray,List.map_cons,List.map_nil]);first|done|rfl|(simp only[Zj,Zi];rfl)) ?_;(with_reducible refine(Z7.calls t11004 t11005 _ ?sideT A11.out).mono ?_);(case sideT=>exact TW.below HTW.out (by repeat(first|(with_reducible first|exact HB.out|apply Zm|apply Zl|apply Zn)|exact HB.out)));rintro e w17 ⟨rfl,hb⟩;refine⟨_,rfl,?_⟩;replace HO_3:=Za (Kd.R_below (by(with_reducible repeat(first|apply Kd.R_alloc|apply Kd.R_drewN|apply Kd.R_drew));exact HO_3.out) hb);replace HB:=Za (Zu (by repeat(first|(with_reducible first|exact HB.out|apply Zm|apply Zl|apply Zn)|exact HB.out)) hb);(try clear hb);(try clear hb2);(try clear hk);(try clear hi))|((with_reducible refine ZW (b:=.append) (xs:=#[.tmp 27,.tmp 29]) rfl ?_);at_builtin;refine Kd.R_append Kd.string (w0:=w) w.heap.size rfl (.tmp 27) (.tmp 29) 56 9 (.string ⟨#[]⟩) 16 rfl Tryd.underlying56 ZaM rfl (by decide) (by omega) u3 x3_1 ((⟨#[33]⟩:ByteArray) ++ ((⟨#[112]⟩:ByteArray) ++ t11005)) [.string ((⟨#[33]⟩:ByteArray) ++ ((⟨#[112]⟩:ByteArray) ++ t11005))] (fun _=>True) (fun _=>False) rfl rfl ?aP (fun _ hk=>hk.elim) ?aF ?aO ?aB ?aS ?aL ?_;(case aP=>exact rfl);(case aB=>exact(by repeat(first|(with_reducible first|exact HB.out|apply Zm|apply Zl|apply Zn)|exact HB.out)));(case aF=>exact(fun _ _=>trivial));(case aO=>exact(by(with_reducible repeat(first|apply Kd.R_alloc|apply Kd.R_drewN|apply Kd.R_drew));exact HO_3.out));(case aS=>exact(Zy (by repeat(first|(with_reducible first|exact HB.out|apply Zm|apply Zl|apply Zn)|exact HB.out))));(case aL=>have:=LMc15.out;omega);intro v11007 w18 ho hb hg hat;rw[← Ny11006.out] at ho;have HO11008:=Za (ho);replace HB:=Za (hb);clear HO_3;clear ho hb hg hat))
            go_roundg k1
            case measure=>have:=HK1.out;omega
            case rel=>exact⟨(y11006),(wrap64 (x15_1+1)),(by first|rfl|(simp;done)|(simp[*];done)),H',⟨by have:=HK1.out;omega⟩,⟨by(with_reducible repeat(first|apply Kd.R_alloc|apply Kd.R_drewN|apply Kd.R_drew));exact HO11008.out⟩,⟨by repeat(first|(with_reducible first|exact HB.out|apply Zm|apply Zl|apply Zn)|exact HB.out)⟩⟩
           ·rw[if_neg c15] at H
            exact absurd H (by simp)
          ·rw[if_neg c14] at H
           exact absurd H (by simp)
         ·rw[if_neg c13] at H
          have c13b0:decide ((rd l0 x15_1)<0)=false:=Ze c13
          clear c13
          by_cases c19:x3_1.length<8796093022208
          ·rw[if_pos c19] at H
           have LMc19:=Za c19;clear c19
           obtain⟨y11009,hy11009⟩:∃y_:List ByteArray,y_=(x3_1 ++ [(⟨#[112]⟩:ByteArray) ++ t11005]):=⟨_,rfl⟩
           replace H:(Zx.l0 k1 y11009 l0 (l0.length:Int) (wrap64 (x15_1+1)))=some r:=by first|(rw[hy11009];with_reducible exact H)|(have H2_:=(Zh _ _).symm.trans H;rw[hy11009];with_reducible exact H2_)|(have H2_:=(Zh _ _).symm.trans H;with_reducible exact H2_)|with_reducible exact H|(rw[hy11009];exact H)|exact H
           have Ny11009:=Za hy11009;clear hy11009
           have H':=Za H
           clear H
           have p11003:0≤(x15_1:Int):=Zc (by first|(with_reducible assumption)|assumption)
           have q11003:x15_1<(l0.length:Int):=Zc (by first|(with_reducible assumption)|assumption)
           obtain⟨ad11003,e11003,hx11003_0⟩:=Kd.at_int HR0.out x15_1 p11003 q11003
           cases e11003
           replace hx11003_0:=(HB.out.cell (Zb w _ hx11003_0)).trans hx11003_0
           replace p11003:=eq_true p11003
           replace q11003:=eq_true q11003
           go_wp2_with (first|((with_reducible refine ZA (f:=39) rfl ?_);refine ZT (some 20) rfl rfl Tryd.func39 (by kernel_rfl) rfl #[.int .i64 (rd l0 x15_1)] rfl (by(try simp only[List.map_toArray,List.map_cons,List.map_nil]);first|done|rfl|(simp only[Zj,Zi];rfl)) ?_;(with_reducible refine(ZZ.calls (rd l0 x15_1) t11004 _ A10.out).mono ?_);rintro e w20 ⟨rfl,hb⟩;refine⟨_,rfl,?_⟩;replace HO_3:=Za (Kd.R_below (by(with_reducible repeat(first|apply Kd.R_alloc|apply Kd.R_drewN|apply Kd.R_drew));exact HO_3.out) hb);replace HB:=Za (Zu (by repeat(first|(with_reducible first|exact HB.out|apply Zm|apply Zl|apply Zn)|exact HB.out)) hb);(try clear hb);(try clear hb2);(try clear hk);(try clear hi))|((with_reducible refine ZA (f:=38) rfl ?_);refine ZT (some 21) rfl rfl Tryd.func38 (by kernel_rfl) rfl #[.int .i64 t11004] rfl (by(try simp only[List.map_toArray,List.map_cons,List.map_nil]);first|done|rfl|(simp only[Zj,Zi];rfl)) ?_;(with_reducible refine(Z7.calls t11004 t11005 _ ?sideT A11.out).mono ?_);(case sideT=>exact TW.below HTW.out (by repeat(first|(with_reducible first|exact HB.out|apply Zm|apply Zl|apply Zn)|exact HB.out)));rintro e w21 ⟨rfl,hb⟩;refine⟨_,rfl,?_⟩;replace HO_3:=Za (Kd.R_below (by(with_reducible repeat(first|apply Kd.R_alloc|apply Kd.R_drewN|apply Kd.R_drew));exact HO_3.out) hb);replace HB:=Za (Zu (by repeat(first|(with_reducible first|exact HB.out|apply Zm|apply Zl|apply Zn)|exact HB.out)) hb);(try clear hb);(try clear hb2);(try clear hk);(try clear hi))|((with_reducible refine ZW (b:=.append) (xs:=#[.tmp 27,.tmp 29]) rfl ?_);at_builtin;refine Kd.R_append Kd.string (w0:=w) w.heap.size rfl (.tmp 27) (.tmp 29) 56 9 (.string ⟨#[]⟩) 16 rfl Tryd.underlying56 ZaM rfl (by decide) (by omega) u3 x3_1 ((⟨#[112]⟩:ByteArray) ++ t11005) [.string ((⟨#[112]⟩:ByteArray) ++ t11005)] (fun _=>True) (fun _=>False) rfl rfl ?aP (fun _ hk=>hk.elim) ?aF ?aO ?aB ?aS ?aL ?_;(case aP=>exact rfl);(case aB=>exact(by repeat(first|(with_reducible first|exact HB.out|apply Zm|apply Zl|apply Zn)|exact HB.out)));(case aF=>exact(fun _ _=>trivial));(case aO=>exact(by(with_reducible repeat(first|apply Kd.R_alloc|apply Kd.R_drewN|apply Kd.R_drew));exact HO_3.out));(case aS=>exact(Zy (by repeat(first|(with_reducible first|exact HB.out|apply Zm|apply Zl|apply Zn)|exact HB.out))));(case aL=>have:=LMc19.out;omega);intro v11010 w22 ho hb hg hat;rw[← Ny11009.out] at ho;have HO11011:=Za (ho);replace HB:=Za (hb);clear HO_3;clear ho hb hg hat))
           go_roundg k1
           case measure=>have:=HK1.out;omega
           case rel=>exact⟨(y11009),(wrap64 (x15_1+1)),(by first|rfl|(simp;done)|(simp[*];done)),H',⟨by have:=HK1.out;omega⟩,⟨by(with_reducible repeat(first|apply Kd.R_alloc|apply Kd.R_drewN|apply Kd.R_drew));exact HO11011.out⟩,⟨by repeat(first|(with_reducible first|exact HB.out|apply Zm|apply Zl|apply Zn)|exact HB.out)⟩⟩
          ·rw[if_neg c19] at H
           exact absurd H (by simp)
        ·rw[if_neg c12] at H
         exact absurd H (by simp)
       ·rw[if_neg c9] at H
        exact absurd H (by simp)
      ·rw[if_neg c8] at H
       exact absurd H (by simp)
     ·rw[if_neg c7] at H
      have c7b0:decide (x15_1<(l0.length:Int))=false:=Ze c7
      clear c7
      replace H:=Zg H
      obtain⟨t11002,A230,H⟩:=H
      replace H:(some t11002)=some r:=H
      have A23:=Za A230;clear A230
      obtain rfl:=Zf H
      obtain⟨Ao24,co24,eo24⟩:=Kd.R_slice HO_3.out
      subst eo24
      go_wp2_with (first|((with_reducible refine ZA (f:=40) rfl ?_);refine ZT (some 33) rfl rfl Tryd.func40 (by kernel_rfl) rfl #[.slice Ao24 x3_1.length co24,.string (⟨#[38]⟩:ByteArray)] rfl (by(try simp only[List.map_toArray,List.map_cons,List.map_nil]);first|done|rfl|(simp only[Zj,Zi];rfl)) ?_;(with_reducible refine(ZaA.calls _ _ x3_1 (⟨#[38]⟩:ByteArray) t11002 _ ?side1 ?side2 ?sideS A23.out).mono ?_);(case sideS=>exact R_spot HO_3.out);(case side1=>repeat(first|exact(Kd.R_reads' HO_3.out).2.2|(with_reducible refine Kd.C_alloc ?_ _)|(with_reducible refine Kd.C_drewN ?_ _)|(with_reducible refine Kd.C_drew ?_)));(case side2=>exact(Kd.R_reads' HO_3.out).2.1);rintro e w25 ⟨rfl,hb⟩;refine⟨_,rfl,?_⟩;replace HO_3:=Za (Kd.R_below (by(with_reducible repeat(first|apply Kd.R_alloc|apply Kd.R_drewN|apply Kd.R_drew));exact HO_3.out) hb);replace HB:=Za (Zu (by repeat(first|(with_reducible first|exact HB.out|apply Zm|apply Zl|apply Zn)|exact HB.out)) hb);(try clear hb);(try clear hb2);(try clear hk);(try clear hi)))
      go_ret
      exact⟨by first|rfl|(simp[Zr,Zq] <;> rfl)|(simp[*,Zr,Zq] <;> rfl),by repeat(first|(with_reducible first|exact HB.out|apply Zm|apply Zl|apply Zn)|exact HB.out)⟩
 ·replace c3:=Bool.eq_false_iff.mpr c3
  subst c3
  have H1:(some (⟨#[]⟩:ByteArray))=some r:=by rw[if_neg (show ¬(false=true) by decide)] at H;exact H
  clear H
  have H:=H1
  clear H1
  obtain rfl:=Zf H
  go_enter Tryd.func11,Tryd.ntmps11
  go_wp2_with (first|((with_reducible refine ZA (f:=27) rfl ?_);refine ZT (some 8) rfl rfl Tryd.func27 (by kernel_rfl) rfl #[.slice A0 l0.length c0] rfl (by(try simp only[List.map_toArray,List.map_cons,List.map_nil]);first|done|rfl|(simp only[Zj,Zi];rfl)) ?_;(with_reducible refine(ZG.calls k _ _ l0 false _ ?side1 ?side2 A2.out).mono ?_);(case side1=>repeat(first|exact HR0.out|(with_reducible refine Kd.C_alloc ?_ _)|(with_reducible refine Kd.C_drewN ?_ _)|(with_reducible refine Kd.C_drew ?_)));(case side2=>exact HC0.out);rintro e w26 ⟨rfl,hb⟩;refine⟨_,rfl,?_⟩;replace HB:=Za (Zu (by repeat(first|(with_reducible first|exact HB.out|apply Zm|apply Zl|apply Zn)|exact HB.out)) hb);(try clear hb);(try clear hb2);(try clear hk);(try clear hi)))
  go_ret
  exact⟨by first|rfl|(simp[Zr,Zq] <;> rfl)|(simp[*,Zr,Zq] <;> rfl),by repeat(first|(with_reducible first|exact HB.out|apply Zm|apply Zl|apply Zn)|exact HB.out)⟩
def strings_IndexByte.f (a0:ByteArray) (a1:Int):Option Int:=some (Lib.indexByte a0.data.toList a1.toNat.toUInt8)
theorem strings_IndexByte.calls (a0:ByteArray) (a1:Int) (r:Int) (w:World) (h:strings_IndexByte.f a0 a1=some r) :
  Calls Tryd.prog 87 #[.string a0,.int .u8 a1] w fun e w'=>e=.returned (.int .i64 r)∧Below w.heap.size w w':=by
 obtain rfl:=Zf h
 exact(Tryd.strings_IndexByte a0 a1 w).mono fun e w' ⟨he,hw⟩=>⟨he,hw ▸ Below.refl _ _⟩
def ZI.l0:Nat→ByteArray→ByteArray→List ByteArray→Int→Int→Option (List ByteArray)
 | 0,_,_,_,_,_=>none
 | k+1,x0,x1,x5,x6,x7=>if x7<(x0.size:Int) then(if 0≤x7 then((strings_IndexByte.f x1 (bt x0 x7)).bind fun t56001=>(if t56001≥0 then(if 0≤x6 then(if x6≤x7 then(if x7≤(x0.size:Int) then(if x5.length<8796093022208 then(ZI.l0 k x0 x1 (x5 ++ [x0.extract (x6:Int).toNat (x7:Int).toNat]) (wrap64 (x7+1)) (wrap64 (x7+1))) else(none)) else(none)) else(none)) else(none)) else(ZI.l0 k x0 x1 x5 x6 (wrap64 (x7+1))))) else(none)) else(if 0≤x6 then(if x6≤(x0.size:Int) then(if x5.length<8796093022208 then(some (x5 ++ [x0.extract (x6:Int).toNat x0.size])) else(none)) else(none)) else(none))
def ZI.f (k:Nat) (a0:ByteArray) (a1:ByteArray):Option (List ByteArray):=ZI.l0 k a0 a1 ([]:List ByteArray) 0 0
set_option maxHeartbeats 8000000 in
set_option maxRecDepth 100000 in
theorem ZI.calls (k:Nat) (a0:ByteArray) (a1:ByteArray) (r:List ByteArray) (w:World) (h:ZI.f k a0 a1=some r) :
  Calls Tryd.prog 56 #[.string a0,.string a1] w fun e w'=>∃v0_:Value,e=.returned (v0_)∧Kd.R Kd.string 9 w' w.heap.size (fun _=>True) v0_ r∧Below w.heap.size w w':=by
 have HB:=Za (Below.refl w.heap.size w)
 have H:(ZI.l0 k a0 a1 ([]:List ByteArray) 0 0)=some r:=h
 clear h
 have H':=Za H
 clear H
 go_enter Tryd.func56,Tryd.ntmps56
 go_wp2
 go_loopg [5,6,7] k (fun kq v5 v6 v7 w'=>∃(x5_1:List ByteArray) (x6_1:Int) (x7_1:Int),v6=.int .i64 x6_1∧v7=.int .i64 x7_1∧Aside0 (ZI.l0 kq a0 a1 x5_1 x6_1 x7_1=some r)∧Aside0 (kq≤k)∧Aside0 (Kd.R Kd.string 9 w' w.heap.size (fun _=>True) v5 x5_1)∧Aside0 (Below w.heap.size w w'))
 case atStart=>exact⟨(([]:List ByteArray)),(0),(0),(by first|rfl|(simp;done)|(simp[*];done)),(by first|rfl|(simp;done)|(simp[*];done)),H',⟨Nat.le_refl _⟩,⟨by first|exact Kd.R_nil _ _ _ _ _|exact Kd.N_nil _ _ _ _ _|exact Kd.V_nil _ _ _ _ _|exact Kd.Q_nil _ _ _ _ _|exact Kd.S_nil _ _ _ _ _⟩,⟨by repeat(first|(with_reducible first|exact HB.out|apply Zm|apply Zl|apply Zn)|exact HB.out)⟩⟩
 case round=>
  clear H'
  try clear p2
  obtain⟨x5_1,x6_1,x7_1,rfl,rfl,HA,HK1,HO_5,HB⟩:=hrel
  cases gk with
  | zero=>exact absurd HA.out (by simp[ZI.l0])
  | succ k1=>
   have H:=HA.out
   clear HA
   simp only[ZI.l0] at H
   by_cases c3:x7_1<(a0.size:Int)
   ·rw[if_pos c3] at H
    have c3b0:decide (x7_1<(a0.size:Int))=true:=Zd c3
    clear c3
    by_cases c4:0≤x7_1
    ·rw[if_pos c4] at H
     have c4b0:decide (0≤x7_1)=true:=Zd c4
     clear c4
     replace H:=Zg H
     obtain⟨t56001,A60,H⟩:=H
     replace H:(if t56001≥0 then(if 0≤x6_1 then(if x6_1≤x7_1 then(if x7_1≤(a0.size:Int) then(if x5_1.length<8796093022208 then(ZI.l0 k1 a0 a1 (x5_1 ++ [a0.extract (x6_1:Int).toNat (x7_1:Int).toNat]) (wrap64 (x7_1+1)) (wrap64 (x7_1+1))) else(none)) else(none)) else(none)) else(none)) else(ZI.l0 k1 a0 a1 x5_1 x6_1 (wrap64 (x7_1+1))))=some r:=H
     have A6:=Za A60;clear A60
     by_cases c7:t56001≥0
     ·rw[if_pos c7] at H
      have c7b0:decide (0≤t56001)=true:=Zd c7
      clear c7
      by_cases c8:0≤x6_1
      ·rw[if_pos c8] at H
       have c8b0:=eq_true c8
       have c8b1:decide (0≤x6_1)=true:=Zd c8
       clear c8
       by_cases c9:x6_1≤x7_1
       ·rw[if_pos c9] at H
        have c9b0:=eq_true c9
        have c9b1:decide (x6_1≤x7_1)=true:=Zd c9
        clear c9
        by_cases c10:x7_1≤(a0.size:Int)
        ·rw[if_pos c10] at H
         have c10b0:=eq_true c10
         have c10b1:decide (x7_1≤(a0.size:Int))=true:=Zd c10
         clear c10
         by_cases c11:x5_1.length<8796093022208
         ·rw[if_pos c11] at H
          have LMc11:=Za c11;clear c11
          obtain⟨y56002,hy56002⟩:∃y_:List ByteArray,y_=(x5_1 ++ [a0.extract (x6_1:Int).toNat (x7_1:Int).toNat]):=⟨_,rfl⟩
          replace H:(ZI.l0 k1 a0 a1 y56002 (wrap64 (x7_1+1)) (wrap64 (x7_1+1)))=some r:=by first|(rw[hy56002];with_reducible exact H)|(have H2_:=(Zh _ _).symm.trans H;rw[hy56002];with_reducible exact H2_)|(have H2_:=(Zh _ _).symm.trans H;with_reducible exact H2_)|with_reducible exact H|(rw[hy56002];exact H)|exact H
          have Ny56002:=Za hy56002;clear hy56002
          have H':=Za H
          clear H
          have p5:0≤(x7_1:Int):=Zc (by first|(with_reducible assumption)|assumption)
          have q5:x7_1<(a0.size:Int):=Zc (by first|(with_reducible assumption)|assumption)
          have hx5:=Zaw a0 x7_1
          replace p5:=eq_true p5
          replace q5:=eq_true q5
          go_wp2_with (first|((with_reducible refine ZA (f:=87) rfl ?_);refine ZT (some 18) rfl rfl Tryd.func87 (by kernel_rfl) rfl #[.string a1,.int .u8 (bt a0 x7_1)] rfl (by(try simp only[List.map_toArray,List.map_cons,List.map_nil]);first|done|rfl|(simp only[Zj,Zi];rfl)) ?_;(with_reducible refine(strings_IndexByte.calls a1 (bt a0 x7_1) t56001 _ A6.out).mono ?_);rintro e w12 ⟨rfl,hb⟩;refine⟨_,rfl,?_⟩;replace HO_5:=Za (Kd.R_below (by(with_reducible repeat(first|apply Kd.R_alloc|apply Kd.R_drewN|apply Kd.R_drew));exact HO_5.out) hb);replace HB:=Za (Zu (by repeat(first|(with_reducible first|exact HB.out|apply Zm|apply Zl|apply Zn)|exact HB.out)) hb);(try clear hb);(try clear hb2);(try clear hk);(try clear hi))|((with_reducible refine ZW (b:=.append) (xs:=#[.tmp 20,.tmp 25]) rfl ?_);at_builtin;refine Kd.R_append Kd.string (w0:=w) w.heap.size rfl (.tmp 20) (.tmp 25) 56 9 (.string ⟨#[]⟩) 16 rfl Tryd.underlying56 ZaM rfl (by decide) (by omega) u5 x5_1 (a0.extract (x6_1:Int).toNat (x7_1:Int).toNat) [.string (a0.extract (x6_1:Int).toNat (x7_1:Int).toNat)] (fun _=>True) (fun _=>False) rfl rfl ?aP (fun _ hk=>hk.elim) ?aF ?aO ?aB ?aS ?aL ?_;(case aP=>exact rfl);(case aB=>exact(by repeat(first|(with_reducible first|exact HB.out|apply Zm|apply Zl|apply Zn)|exact HB.out)));(case aF=>exact(fun _ _=>trivial));(case aO=>exact(by(with_reducible repeat(first|apply Kd.R_alloc|apply Kd.R_drewN|apply Kd.R_drew));exact HO_5.out));(case aS=>exact(Zy (by repeat(first|(with_reducible first|exact HB.out|apply Zm|apply Zl|apply Zn)|exact HB.out))));(case aL=>have:=LMc11.out;omega);intro v56003 w13 ho hb hg hat;rw[← Ny56002.out] at ho;have HO56004:=Za (ho);replace HB:=Za (hb);clear HO_5;clear ho hb hg hat))
          go_roundg k1
          case measure=>have:=HK1.out;omega
          case rel=>exact⟨(y56002),(wrap64 (x7_1+1)),(wrap64 (x7_1+1)),(by first|rfl|(simp;done)|(simp[*];done)),(by first|rfl|(simp;done)|(simp[*];done)),H',⟨by have:=HK1.out;omega⟩,⟨by(with_reducible repeat(first|apply Kd.R_alloc|apply Kd.R_drewN|apply Kd.R_drew));exact HO56004.out⟩,⟨by repeat(first|(with_reducible first|exact HB.out|apply Zm|apply Zl|apply Zn)|exact HB.out)⟩⟩
         ·rw[if_neg c11] at H
          exact absurd H (by simp)
        ·rw[if_neg c10] at H
         exact absurd H (by simp)
       ·rw[if_neg c9] at H
        exact absurd H (by simp)
      ·rw[if_neg c8] at H
       exact absurd H (by simp)
     ·rw[if_neg c7] at H
      have c7b0:decide (0≤t56001)=false:=Ze c7
      clear c7
      have H':=Za H
      clear H
      have p5:0≤(x7_1:Int):=Zc (by first|(with_reducible assumption)|assumption)
      have q5:x7_1<(a0.size:Int):=Zc (by first|(with_reducible assumption)|assumption)
      have hx5:=Zaw a0 x7_1
      replace p5:=eq_true p5
      replace q5:=eq_true q5
      go_wp2_with (first|((with_reducible refine ZA (f:=87) rfl ?_);refine ZT (some 18) rfl rfl Tryd.func87 (by kernel_rfl) rfl #[.string a1,.int .u8 (bt a0 x7_1)] rfl (by(try simp only[List.map_toArray,List.map_cons,List.map_nil]);first|done|rfl|(simp only[Zj,Zi];rfl)) ?_;(with_reducible refine(strings_IndexByte.calls a1 (bt a0 x7_1) t56001 _ A6.out).mono ?_);rintro e w14 ⟨rfl,hb⟩;refine⟨_,rfl,?_⟩;replace HO_5:=Za (Kd.R_below (by(with_reducible repeat(first|apply Kd.R_alloc|apply Kd.R_drewN|apply Kd.R_drew));exact HO_5.out) hb);replace HB:=Za (Zu (by repeat(first|(with_reducible first|exact HB.out|apply Zm|apply Zl|apply Zn)|exact HB.out)) hb);(try clear hb);(try clear hb2);(try clear hk);(try clear hi)))
      go_roundg k1
      case measure=>have:=HK1.out;omega
      case rel=>exact⟨(x5_1),(x6_1),(wrap64 (x7_1+1)),(by first|rfl|(simp;done)|(simp[*];done)),(by first|rfl|(simp;done)|(simp[*];done)),H',⟨by have:=HK1.out;omega⟩,⟨by(with_reducible repeat(first|apply Kd.R_alloc|apply Kd.R_drewN|apply Kd.R_drew));exact HO_5.out⟩,⟨by repeat(first|(with_reducible first|exact HB.out|apply Zm|apply Zl|apply Zn)|exact HB.out)⟩⟩
    ·rw[if_neg c4] at H
     exact absurd H (by simp)
   ·rw[if_neg c3] at H
    have c3b0:decide (x7_1<(a0.size:Int))=false:=Ze c3
    clear c3
    by_cases c15:0≤x6_1
    ·rw[if_pos c15] at H
     have c15b0:=eq_true c15
     have c15b1:decide (0≤x6_1)=true:=Zd c15
     clear c15
     by_cases c16:x6_1≤(a0.size:Int)
     ·rw[if_pos c16] at H
      have c16b0:=eq_true c16
      have c16b1:decide (x6_1≤(a0.size:Int))=true:=Zd c16
      clear c16
      by_cases c17:x5_1.length<8796093022208
      ·rw[if_pos c17] at H
       have LMc17:=Za c17;clear c17
       obtain⟨y56005,hy56005⟩:∃y_:List ByteArray,y_=(x5_1 ++ [a0.extract (x6_1:Int).toNat a0.size]):=⟨_,rfl⟩
       replace H:(some y56005)=some r:=by first|(rw[hy56005];with_reducible exact H)|(have H2_:=(Zh _ _).symm.trans H;rw[hy56005];with_reducible exact H2_)|(have H2_:=(Zh _ _).symm.trans H;with_reducible exact H2_)|with_reducible exact H|(rw[hy56005];exact H)|exact H
       have Ny56005:=Za hy56005;clear hy56005
       obtain rfl:=Zf H
       go_wp2_with (first|((with_reducible refine ZW (b:=.append) (xs:=#[.tmp 29,.tmp 33]) rfl ?_);at_builtin;refine Kd.R_append Kd.string (w0:=w) w.heap.size rfl (.tmp 29) (.tmp 33) 56 9 (.string ⟨#[]⟩) 16 rfl Tryd.underlying56 ZaM rfl (by decide) (by omega) u5 x5_1 (a0.extract (x6_1:Int).toNat a0.size) [.string (a0.extract (x6_1:Int).toNat a0.size)] (fun _=>True) (fun _=>False) rfl rfl ?aP (fun _ hk=>hk.elim) ?aF ?aO ?aB ?aS ?aL ?_;(case aP=>exact rfl);(case aB=>exact(by repeat(first|(with_reducible first|exact HB.out|apply Zm|apply Zl|apply Zn)|exact HB.out)));(case aF=>exact(fun _ _=>trivial));(case aO=>exact(by(with_reducible repeat(first|apply Kd.R_alloc|apply Kd.R_drewN|apply Kd.R_drew));exact HO_5.out));(case aS=>exact(Zy (by repeat(first|(with_reducible first|exact HB.out|apply Zm|apply Zl|apply Zn)|exact HB.out))));(case aL=>have:=LMc17.out;omega);intro v56006 w18 ho hb hg hat;rw[← Ny56005.out] at ho;have HO56007:=Za (ho);replace HB:=Za (hb);clear HO_5;clear ho hb hg hat))
       go_ret
       exact⟨_,by first|rfl|(simp[Zr,Zq] <;> rfl)|(simp[*,Zr,Zq] <;> rfl),by(with_reducible repeat(first|apply Kd.R_alloc|apply Kd.R_drewN|apply Kd.R_drew));exact HO56007.out,by repeat(first|(with_reducible first|exact HB.out|apply Zm|apply Zl|apply Zn)|exact HB.out)⟩
      ·rw[if_neg c17] at H
       exact absurd H (by simp)
     ·rw[if_neg c16] at H
      exact absurd H (by simp)
    ·rw[if_neg c15] at H
     exact absurd H (by simp)
end Go.Proofs.YthphnhmabieflaaDoor.Pr
namespace Go.Proofs
open Go.Shelf
def Tryd.laysC172_ren:Go.Shelf.Ren:=⟨fun|172=>88|244=>117|245=>118|247=>138|279=>139|280=>140|281=>141|282=>142|287=>154|316=>155|171=>73|205=>156|321=>162|322=>163|243=>98|246=>129|283=>148|284=>149|285=>150|286=>151|129=>128|317=>158|318=>159|319=>160|320=>161|337=>164|338=>165|n=>n,fun|9=>9|3=>3|75=>99|76=>100|4=>4|5=>5|167=>137|37=>48|0=>0|85=>138|2=>2|168=>140|53=>132|175=>156|46=>51|210=>160|127=>134|145=>171|143=>169|21=>21|171=>149|173=>151|212=>166|51=>130|20=>20|213=>167|232=>172|233=>173|80=>113|n=>n,fun|15=>1|16=>2|17=>3|18=>4|19=>5|n=>n⟩
theorem Tryd.laysC172:Go.Proofs.LaysC.n172 Tryd.prog Tryd.laysC172_ren:={
 mixed:=by kernel_rfl
 f129:=Tryd.func128.trans (congrArg some (by kernel_rfl))
 f171:=Tryd.func73.trans (congrArg some (by kernel_rfl))
 f172:=Tryd.func88.trans (congrArg some (by kernel_rfl))
 f205:=Tryd.func156.trans (congrArg some (by kernel_rfl))
 f243:=Tryd.func98.trans (congrArg some (by kernel_rfl))
 f244:=Tryd.func117.trans (congrArg some (by kernel_rfl))
 f245:=Tryd.func118.trans (congrArg some (by kernel_rfl))
 f246:=Tryd.func129.trans (congrArg some (by kernel_rfl))
 f247:=Tryd.func138.trans (congrArg some (by kernel_rfl))
 f279:=Tryd.func139.trans (congrArg some (by kernel_rfl))
 f280:=Tryd.func140.trans (congrArg some (by kernel_rfl))
 f281:=Tryd.func141.trans (congrArg some (by kernel_rfl))
 f282:=Tryd.func142.trans (congrArg some (by kernel_rfl))
 f283:=Tryd.func148.trans (congrArg some (by kernel_rfl))
 f284:=Tryd.func149.trans (congrArg some (by kernel_rfl))
 f285:=Tryd.func150.trans (congrArg some (by kernel_rfl))
 f286:=Tryd.func151.trans (congrArg some (by kernel_rfl))
 f287:=Tryd.func154.trans (congrArg some (by kernel_rfl))
 f316:=Tryd.func155.trans (congrArg some (by kernel_rfl))
 f317:=Tryd.func158.trans (congrArg some (by kernel_rfl))
 f318:=Tryd.func159.trans (congrArg some (by kernel_rfl))
 f319:=Tryd.func160.trans (congrArg some (by kernel_rfl))
 f320:=Tryd.func161.trans (congrArg some (by kernel_rfl))
 f321:=Tryd.func162.trans (congrArg some (by kernel_rfl))
 f322:=Tryd.func163.trans (congrArg some (by kernel_rfl))
 f337:=Tryd.func164.trans (congrArg some (by kernel_rfl))
 f338:=Tryd.func165.trans (congrArg some (by kernel_rfl))
 t0:=Tryd.underlying0
 a0:=Tryd.isAgg0
 z0:=Tryd.sizeOf0
 v0:=Tryd.zeroValue0
 t2:=Tryd.underlying2
 a2:=Tryd.isAgg2
 z2:=Tryd.sizeOf2
 v2:=Tryd.zeroValue2
 t3:=Tryd.underlying3
 a3:=Tryd.isAgg3
 z3:=Tryd.sizeOf3
 v3:=Tryd.zeroValue3
 t4:=Tryd.underlying4
 a4:=Tryd.isAgg4
 z4:=Tryd.sizeOf4
 v4:=Tryd.zeroValue4
 t5:=Tryd.underlying5
 a5:=Tryd.isAgg5
 z5:=Tryd.sizeOf5
 v5:=Tryd.zeroValue5
 t9:=Tryd.underlying9
 a9:=Tryd.isAgg9
 z9:=Tryd.sizeOf9
 v9:=Tryd.zeroValue9
 t20:=Tryd.underlying20
 a20:=Tryd.isAgg20
 z20:=Tryd.sizeOf20
 v20:=Tryd.zeroValue20
 t21:=Tryd.underlying21
 a21:=Tryd.isAgg21
 z21:=Tryd.sizeOf21
 v21:=Tryd.zeroValue21
 t37:=Tryd.underlying48
 a37:=Tryd.isAgg48
 z37:=Tryd.sizeOf48
 v37:=Tryd.zeroValue48
 t46:=Tryd.underlying51
 a46:=Tryd.isAgg51
 z46:=Tryd.sizeOf51
 v46:=Tryd.zeroValue51
 t51:=Tryd.underlying130
 a51:=Tryd.isAgg130
 z51:=Tryd.sizeOf130
 v51:=Tryd.zeroValue130
 t53:=Tryd.underlying132
 a53:=Tryd.isAgg132
 z53:=Tryd.sizeOf132
 v53:=Tryd.zeroValue132
 t75:=Tryd.underlying99
 a75:=Tryd.isAgg99
 z75:=Tryd.sizeOf99
 v75:=Tryd.zeroValue99
 t76:=Tryd.underlying100
 a76:=Tryd.isAgg100
 z76:=Tryd.sizeOf100
 v76:=Tryd.zeroValue100
 t85:=Tryd.underlying138
 a85:=Tryd.isAgg138
 z85:=Tryd.sizeOf138
 v85:=Tryd.zeroValue138
 t127:=Tryd.underlying134
 a127:=Tryd.isAgg134
 z127:=Tryd.sizeOf134
 v127:=Tryd.zeroValue134
 t143:=Tryd.underlying169
 a143:=Tryd.isAgg169
 z143:=Tryd.sizeOf169
 v143:=Tryd.zeroValue169
 t145:=Tryd.underlying171
 a145:=Tryd.isAgg171
 z145:=Tryd.sizeOf171
 v145:=Tryd.zeroValue171
 t167:=Tryd.underlying137
 a167:=Tryd.isAgg137
 z167:=Tryd.sizeOf137
 v167:=Tryd.zeroValue137
 t168:=Tryd.underlying140
 a168:=Tryd.isAgg140
 z168:=Tryd.sizeOf140
 v168:=Tryd.zeroValue140
 t171:=Tryd.underlying149
 a171:=Tryd.isAgg149
 z171:=Tryd.sizeOf149
 v171:=Tryd.zeroValue149
 t173:=Tryd.underlying151
 a173:=Tryd.isAgg151
 z173:=Tryd.sizeOf151
 v173:=Tryd.zeroValue151
 t175:=Tryd.underlying156
 a175:=Tryd.isAgg156
 z175:=Tryd.sizeOf156
 v175:=Tryd.zeroValue156
 t210:=Tryd.underlying160
 a210:=Tryd.isAgg160
 z210:=Tryd.sizeOf160
 v210:=Tryd.zeroValue160
 t212:=Tryd.underlying166
 a212:=Tryd.isAgg166
 z212:=Tryd.sizeOf166
 v212:=Tryd.zeroValue166
 t213:=Tryd.underlying167
 a213:=Tryd.isAgg167
 z213:=Tryd.sizeOf167
 t232:=Tryd.underlying172
 a232:=Tryd.isAgg172
 z232:=Tryd.sizeOf172
 v232:=Tryd.zeroValue172
 t233:=Tryd.underlying173
 a233:=Tryd.isAgg173
 z233:=Tryd.sizeOf173
 v233:=Tryd.zeroValue173
 g15:=by kernel_rfl
 g16:=by kernel_rfl
 g17:=by kernel_rfl
 g18:=by kernel_rfl
 g19:=by kernel_rfl
 t80:=Tryd.underlying113
 a80:=Tryd.isAgg113
 z80:=Tryd.sizeOf113
 v80:=Tryd.zeroValue113
 i0:=by kernel_rfl
 i2:=by kernel_rfl
 i3:=by kernel_rfl
 i4:=by kernel_rfl
 i5:=by kernel_rfl
 i9:=by kernel_rfl
 i20:=by kernel_rfl
 i21:=by kernel_rfl
 i37:=by kernel_rfl
 i46:=by kernel_rfl
 i51:=by kernel_rfl
 i53:=by kernel_rfl
 i75:=by kernel_rfl
 i76:=by kernel_rfl
 i80:=by kernel_rfl
 i85:=by kernel_rfl
 i127:=by kernel_rfl
 i143:=by kernel_rfl
 i145:=by kernel_rfl
 i167:=by kernel_rfl
 i168:=by kernel_rfl
 i171:=by kernel_rfl
 i173:=by kernel_rfl
 i175:=by kernel_rfl
 i210:=by kernel_rfl
 i212:=by kernel_rfl
 i232:=by kernel_rfl
 i233:=by kernel_rfl
 m15:=by kernel_rfl
 m16:=by kernel_rfl
 m17:=by kernel_rfl
 m18:=by kernel_rfl
 m19:=by kernel_rfl
 c0:=by kernel_rfl
 c2:=by kernel_rfl
 c3:=by kernel_rfl
 c4:=by kernel_rfl
 c5:=by kernel_rfl
 c9:=by kernel_rfl
 c20:=by kernel_rfl
 c21:=by kernel_rfl
 c37:=by kernel_rfl
 c46:=by kernel_rfl
 c51:=by kernel_rfl
 c53:=by kernel_rfl
 c75:=by kernel_rfl
 c76:=by kernel_rfl
 c80:=by kernel_rfl
 c85:=by kernel_rfl
 c127:=by kernel_rfl
 c143:=by kernel_rfl
 c145:=by kernel_rfl
 c167:=by kernel_rfl
 c168:=by kernel_rfl
 c171:=by kernel_rfl
 c173:=by kernel_rfl
 c175:=by kernel_rfl
 c210:=by kernel_rfl
 c212:=by kernel_rfl
 c213:=by kernel_rfl
 c232:=by kernel_rfl
 c233:=by kernel_rfl }
open Go.RowKit in
theorem Tryd.strconv_Atoi_ok (s:ByteArray) (hmax:s.size≤9223372036854775806) (v:Int) (h:Lib.atoiAll s.data.toList=.ok v) (w:World) :
  Calls Tryd.prog 88 #[.string s] w fun e w'=>e=.returned (.tuple #[.int .i64 v,.nilIface])∧(w'=w∨∃t,w'=Lib.bytesWorld w 5 t):=Any.strconv_Atoi_ok Tryd.laysC172 s hmax v h w
open Go.RowKit in
theorem Tryd.strconv_Atoi_syntax_var (s : ByteArray) (hlim : s.size ≤ 281474976710656) (h : (∀ v, Lib.atoiAll s.data.toList ≠ .ok v) ∧ Lib.atoiAll s.data.toList ≠ .range) (tp : TypeId) (p : Value) (w : World) (hvar : w.var? Tryd.prog "strconv.ErrSyntax" = some #[.iface tp p]) :
  Calls Tryd.prog 88 #[.string s] w fun e w'=>∃N,e=.returned (.tuple #[.int .i64 0,.iface 140 (.pointer (some ⟨N,0,none⟩))])∧w.heap.size≤N∧w'.heap[N]? = some (.cells #[.string ⟨#[65,116,111,105]⟩,.string s,.iface tp p] 160 (0,0))∧Below w.heap.size w w':=Any.strconv_Atoi_syntax_var Tryd.laysC172 s hlim (by generalize Lib.atoiAll s.data.toList=e at h;cases e with|ok v=>exact absurd rfl (h.1 v)|range=>exact absurd rfl h.2|_=>rfl) tp p w hvar
open Go.RowKit in
theorem Tryd.strconv_Atoi_range_var (s : ByteArray) (hlim : s.size ≤ 281474976710656) (h : Lib.atoiAll s.data.toList = .range) (tp : TypeId) (p : Value) (w : World) (hvar : w.var? Tryd.prog "strconv.ErrRange" = some #[.iface tp p]) :
  Calls Tryd.prog 88 #[.string s] w fun e w'=>∃N,e=.returned (.tuple #[.int .i64 (Lib.atoiSat s.data.toList),.iface 140 (.pointer (some ⟨N,0,none⟩))])∧w.heap.size≤N∧w'.heap[N]? = some (.cells #[.string ⟨#[65,116,111,105]⟩,.string s,.iface tp p] 160 (0,0))∧Below w.heap.size w w':=Any.strconv_Atoi_range_var Tryd.laysC172 s hlim h tp p w hvar
end Go.Proofs
namespace Go.Proofs.YthphnhmabieflaaDoor.Pr
open Go.RowKit Go.Proofs.YthphnhmabieflaaDoorW.PrintWords Go.Proofs.YthphnhmabieflaaDoorW.PrintLast Go.Proofs.YthphnhmabieflaaDoorW.PrintMore
attribute [local go_sem] Zal Zaj Zas Zar Zaf Zae Zak Zai
set_option linter.unusedVariables false
set_option linter.unusedSimpArgs false
def ZO.g (s:ByteArray):Int×Bool:=match Lib.atoiAll s.data.toList with
 | .ok v=>if (Lib.itoa v == s.toList)=true then(v,true) else(0,false)
 | _=>(0,false)
def ZO.f (a0:ByteArray):Option (Int×Bool):=if a0.size≤1048576 then some (ZO.g a0) else none
theorem ZO.lib (s:ByteArray) (w:World) (hb:s.size≤1048576) (hev:EW w) :
  Calls Tryd.prog 88 #[.string s] w fun e w'=>((∃v,Lib.atoiAll s.data.toList=.ok v∧e=.returned (.tuple #[.int .i64 v,.nilIface]))∨((∀v,Lib.atoiAll s.data.toList≠.ok v)∧∃n tp p,e=.returned (.tuple #[.int .i64 n,.iface tp p])))∧Below w.heap.size w w':=by
 obtain⟨⟨t1,p1,h1⟩,t2,p2,h2⟩:=hev
 by_cases hk:∃v,Lib.atoiAll s.data.toList=.ok v
 ·obtain⟨v,hc⟩:=hk
  refine(Tryd.strconv_Atoi_ok s (by omega) v hc w).mono fun e w' ⟨he,hw⟩=>⟨.inl ⟨v,hc,he⟩,?_⟩
  rcases hw with rfl|⟨t,rfl⟩
  ·exact Below.refl _ _
  ·exact Lib.bytesWorld_below _ _ _
 ·have hn:∀v,Lib.atoiAll s.data.toList≠.ok v:=fun v h=>hk ⟨v,h⟩
  by_cases hr:Lib.atoiAll s.data.toList=.range
  ·exact(Tryd.strconv_Atoi_range_var s (by omega) hr t2 p2 w (h2 w (Below.refl _ _))).mono fun e w' ⟨N,he,_,_,hb⟩=>⟨.inr ⟨hn,_,_,_,he⟩,hb⟩
  ·exact(Tryd.strconv_Atoi_syntax_var s (by omega) ⟨hn,hr⟩ t1 p1 w (h1 w (Below.refl _ _))).mono fun e w' ⟨N,he,_,_,hb⟩=>⟨.inr ⟨hn,_,_,_,he⟩,hb⟩
set_option maxHeartbeats 4000000 in
theorem ZO.calls (a0:ByteArray) (r0:Int) (r1:Bool) (w:World) (ht:TW w) (hev:EW w) (h:ZO.f a0=some (r0,r1)) :
  Calls Tryd.prog 57 #[.string a0] w fun e w'=>e=.returned (.tuple #[.int .i64 r0,.bool r1])∧Below w.heap.size w w':=by
 unfold ZO.f at h
 by_cases hb:a0.size≤1048576
 case neg=>rw[if_neg hb] at h;exact absurd h (by simp)
 rw[if_pos hb] at h
 have HG:=Za (Zf h)
 have HC:=Za (ZO.lib a0 w hb hev)
 have HTW:=Za ht;clear h ht hev hb
 go_enter Tryd.func57,Tryd.ntmps57
 go_wp2_with (first|(go_at_call 88;refine HC.out.mono ?_;rintro e w1 ⟨hcs,hb1⟩;have HB1:=Za hb1;clear hb1;rcases hcs with ⟨v,hv,rfl⟩|⟨hv,n,tp,p,rfl⟩)|(go_at_call 38;refine(Z7.calls v ⟨(Lib.itoa v).toArray⟩ w1 (TW.below HTW.out HB1.out) (if_pos (Lib.atoiAll_bounds hv))).mono ?_;rintro e w2 ⟨rfl,hb2⟩;have HB2:=Za (HB1.out.trans (hb2.mono HB1.out.size));clear hb2))
 all_goals go_ret2
 ·rename_i hc
  have hg:=HG.out
  unfold ZO.g at hg
  rw[hv] at hg
  simp only[Bool.not_eq_true',Bool.not_eq_eq_eq_not,Bool.not_true] at hc
  simp only[hc,Bool.false_eq_true,if_false] at hg
  cases hg
  exact⟨rfl,HB2.out⟩
 ·rename_i hc
  have hg:=HG.out
  unfold ZO.g at hg
  rw[hv] at hg
  simp only[Bool.not_eq_true',Bool.not_eq_eq_eq_not,Bool.not_true,Bool.not_eq_false] at hc
  simp only[hc,if_true] at hg
  cases hg
  exact⟨rfl,HB2.out⟩
 ·have hg:=HG.out
  unfold ZO.g at hg
  split at hg
  ·rename_i v he;exact absurd he (hv v)
  ·cases hg
   exact⟨rfl,HB1.out⟩
end Go.Proofs.YthphnhmabieflaaDoor.Pr
