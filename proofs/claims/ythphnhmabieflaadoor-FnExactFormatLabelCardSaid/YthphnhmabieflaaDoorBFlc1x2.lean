/- The texts of one claim, put together by a program of this session. -/
import Derived.Lib.ItoaNum
import Derived.Lib.Join
import Derived.Test.YthphnhmabieflaaDoorBFlc1x1
namespace Go.Proofs.YthphnhmabieflaaDoor.Pr
open Go.RowKit Go.Proofs.YthphnhmabieflaaDoorW.PrintWords Go.Proofs.YthphnhmabieflaaDoorW.PrintLast Go.Proofs.YthphnhmabieflaaDoorW.PrintMore
attribute [local go_sem] Z2 Z0 Zaa Z9 ZU ZT Z1 ZZ
set_option linter.unusedVariables false
set_option linter.unusedSimpArgs false
def Zo.l0:Nat→List ByteArray→List Int→Int→Int→Option (ByteArray)
 | 0,_,_,_,_=>none
 | k+1,x3,x14,x15,x16=>if x16<x15 then(if 0≤x16 then(if x16<(x14.length:Int) then((Zy.f (rd x14 x16)).bind fun t9007=>((Zn.f k t9007).bind fun t9008=>(if 1+t9008.size≤9223372036854775807 then(if (rd x14 x16)<0 then(if 1+((⟨#[112]⟩:ByteArray) ++ t9008).size≤9223372036854775807 then(if x3.length<8796093022208 then(Zo.l0 k (x3 ++ [(⟨#[33]⟩:ByteArray) ++ ((⟨#[112]⟩:ByteArray) ++ t9008)]) x14 x15 (wrap64 (x16+1))) else(none)) else(none)) else(if x3.length<8796093022208 then(Zo.l0 k (x3 ++ [(⟨#[112]⟩:ByteArray) ++ t9008]) x14 x15 (wrap64 (x16+1))) else(none))) else(none)))) else(none)) else(none)) else((ZF.f k x3 (⟨#[38]⟩:ByteArray)).bind fun t9005=>(some t9005))
def Zo.f (k:Nat) (l0:List Int):Option (ByteArray):=(Zr.f k l0).bind fun t9004=>(if t9004=true then(if (l0.length:Int)=0 then(some (⟨#[45]⟩:ByteArray)) else(Zo.l0 k (([]:List ByteArray)) l0 (l0.length:Int) 0)) else(some (⟨#[]⟩:ByteArray)))
set_option maxHeartbeats 8000000 in
set_option maxRecDepth 100000 in
theorem Zo.calls (k:Nat) (A0:Option Addr) (c0:Nat) (l0:List Int) (r:ByteArray) (w:World) (hr0:Kd.C (Kd.int .i64) w A0 l0.length l0) (hc0:l0.length≤c0) (h:Zo.f k l0=some r) :
  Calls Tryd.prog 9 #[.slice A0 l0.length c0] w fun e w'=>e=.returned (.string r)∧Below w.heap.size w w':=by
 have HR0:=Za hr0;have HC0:=Za hc0;clear hr0 hc0
 have HB:=Za (Below.refl w.heap.size w)
 have H:((Zr.f k l0).bind fun t9004=>(if t9004=true then(if (l0.length:Int)=0 then(some (⟨#[45]⟩:ByteArray)) else(Zo.l0 k (([]:List ByteArray)) l0 (l0.length:Int) 0)) else(some (⟨#[]⟩:ByteArray))))=some r:=h
 clear h
 obtain⟨y9001,hy9001⟩:∃y_:List ByteArray,y_=(([]:List ByteArray)):=⟨_,rfl⟩
 replace H:((Zr.f k l0).bind fun t9004=>(if t9004=true then(if (l0.length:Int)=0 then(some (⟨#[45]⟩:ByteArray)) else(Zo.l0 k y9001 l0 (l0.length:Int) 0)) else(some (⟨#[]⟩:ByteArray))))=some r:=by first|(rw[hy9001];with_reducible exact H)|(have H2_:=(Zg _ _).symm.trans H;rw[hy9001];with_reducible exact H2_)|(have H2_:=(Zg _ _).symm.trans H;with_reducible exact H2_)|with_reducible exact H|(rw[hy9001];exact H)|exact H
 have Ny9001:=Za hy9001;clear hy9001
 replace H:=Zf H
 obtain⟨t9004,A20,H⟩:=H
 replace H:(if t9004=true then(if (l0.length:Int)=0 then(some (⟨#[45]⟩:ByteArray)) else(Zo.l0 k y9001 l0 (l0.length:Int) 0)) else(some (⟨#[]⟩:ByteArray)))=some r:=H
 have A2:=Za A20;clear A20
 by_cases c3:t9004=true
 ·subst c3
  have H1:(if (l0.length:Int)=0 then(some (⟨#[45]⟩:ByteArray)) else(Zo.l0 k y9001 l0 (l0.length:Int) 0))=some r:=by rw[if_pos rfl] at H;exact H
  clear H
  have H:=H1
  clear H1
  by_cases c4:(l0.length:Int)=0
  ·rw[if_pos c4] at H
   have c4b0:((l0.length:Int) == 0)=true:=beq_iff_eq.mpr c4
   have c4b1:((l0.length:Int) != 0)=false:=bne_eq_false_iff_eq.mpr c4
   clear c4
   obtain rfl:=Ze H
   go_enter Tryd.func9,Tryd.ntmps9
   go_wp2_with (first|((with_reducible refine Zad (N:=7) rfl ?_);refine Kd.R_lit Kd.string _ 9 ?hg (N:=7) ?hd (xs:=([]:List ByteArray)) (inner:=[]) (ok:=fun _=>True) (okp:=fun _=>True) ?hr ?hp (fun _ hk=>hk) trivial (Below.refl _ _) (Nat.le_refl _) (by simp) ?_;(case hd=>rfl);(case hg=>rfl);(case hr=>first|(go_simp;done)|(go_simp;rfl));(case hp=>exact(Reps.none _ _));intro v9002 w5 ho6 hb hg_ hnew_;clear hg_ hnew_;(first|rw[← Ny9001.out] at ho6|(simp only[Int.reduceToNat] at ho6;rw[← Ny9001.out] at ho6));have HO9003:=Za (Kd.R_lower ho6 (ZK (by repeat(first|(with_reducible first|exact HB.out|apply Zl|apply Zk|apply Zm)|exact HB.out))));replace HB:=Za (Zw (by repeat(first|(with_reducible first|exact HB.out|apply Zl|apply Zk|apply Zm)|exact HB.out)) hb);clear hb ho6)|((with_reducible refine ZD (f:=34) rfl ?_);refine ZN (some 9) rfl rfl Tryd.func34 (by kernel_rfl) rfl #[.slice A0 l0.length c0] rfl (by(try simp only[List.map_toArray,List.map_cons,List.map_nil]);first|done|rfl|(simp only[Zi,Zh];rfl)) ?_;(with_reducible refine(Zr.calls k _ _ l0 true _ ?side1 ?side2 A2.out).mono ?_);(case side1=>repeat(first|exact(Kd.C_below HR0.out HB.out)|(with_reducible refine Kd.C_alloc ?_ _)|(with_reducible refine Kd.C_drewN ?_ _)|(with_reducible refine Kd.C_drew ?_)));(case side2=>exact HC0.out);rintro e w' ⟨rfl,⟨nd,rfl⟩⟩;refine⟨_,rfl,?_⟩))
   go_ret
   exact⟨by first|rfl|(simp[Zu,Zt] <;> rfl)|(simp[*,Zu,Zt] <;> rfl),by repeat(first|(with_reducible first|exact HB.out|apply Zl|apply Zk|apply Zm)|exact HB.out)⟩
  ·rw[if_neg c4] at H
   have c4b0:((l0.length:Int) == 0)=false:=beq_eq_false_iff_ne.mpr c4
   have c4b1:((l0.length:Int) != 0)=true:=bne_iff_ne.mpr c4
   have c4b2:¬(l0=[]):=fun h_=>c4 (by rw[h_];rfl)
   have H':=Za H
   clear H
   go_enter Tryd.func9,Tryd.ntmps9
   go_wp2_with (first|((with_reducible refine Zad (N:=7) rfl ?_);refine Kd.R_lit Kd.string _ 9 ?hg (N:=7) ?hd (xs:=([]:List ByteArray)) (inner:=[]) (ok:=fun _=>True) (okp:=fun _=>True) ?hr ?hp (fun _ hk=>hk) trivial (Below.refl _ _) (Nat.le_refl _) (by simp) ?_;(case hd=>rfl);(case hg=>rfl);(case hr=>first|(go_simp;done)|(go_simp;rfl));(case hp=>exact(Reps.none _ _));intro v9002 w7 ho8 hb hg_ hnew_;clear hg_ hnew_;(first|rw[← Ny9001.out] at ho8|(simp only[Int.reduceToNat] at ho8;rw[← Ny9001.out] at ho8));have HO9003:=Za (Kd.R_lower ho8 (ZK (by repeat(first|(with_reducible first|exact HB.out|apply Zl|apply Zk|apply Zm)|exact HB.out))));replace HB:=Za (Zw (by repeat(first|(with_reducible first|exact HB.out|apply Zl|apply Zk|apply Zm)|exact HB.out)) hb);clear hb ho8)|((with_reducible refine ZD (f:=34) rfl ?_);refine ZN (some 9) rfl rfl Tryd.func34 (by kernel_rfl) rfl #[.slice A0 l0.length c0] rfl (by(try simp only[List.map_toArray,List.map_cons,List.map_nil]);first|done|rfl|(simp only[Zi,Zh];rfl)) ?_;(with_reducible refine(Zr.calls k _ _ l0 true _ ?side1 ?side2 A2.out).mono ?_);(case side1=>repeat(first|exact(Kd.C_below HR0.out HB.out)|(with_reducible refine Kd.C_alloc ?_ _)|(with_reducible refine Kd.C_drewN ?_ _)|(with_reducible refine Kd.C_drew ?_)));(case side2=>exact HC0.out);rintro e w' ⟨rfl,⟨nd,rfl⟩⟩;refine⟨_,rfl,?_⟩))
   go_loopg [3,16] k (fun kq v3 v16 w'=>∃(x3_1:List ByteArray) (x16_1:Int),v16=.int .i64 x16_1∧Aside0 (Zo.l0 kq x3_1 l0 (l0.length:Int) x16_1=some r)∧Aside0 (kq≤k)∧Aside0 (Kd.R Kd.string 9 w' w.heap.size (fun _=>True) v3 x3_1)∧Aside0 (Below w.heap.size w w'))
   case atStart=>exact⟨(y9001),(0),(by first|rfl|(simp;done)|(simp[*];done)),H',⟨Nat.le_refl _⟩,⟨by(with_reducible repeat(first|apply Kd.R_alloc|apply Kd.R_drewN|apply Kd.R_drew));exact HO9003.out⟩,⟨by repeat(first|(with_reducible first|exact HB.out|apply Zl|apply Zk|apply Zm)|exact HB.out)⟩⟩
   case round=>
    clear H'
    try clear p2
    try clear c3
    try clear c4
    try clear c4b0
    try clear c4b1
    try clear c4b2
    obtain⟨x3_1,x16_1,rfl,HA,HK1,HO_3,HB⟩:=hrel
    cases gk with
    | zero=>exact absurd HA.out (by simp[Zo.l0])
    | succ k1=>
     have H:=HA.out
     clear HA
     simp only[Zo.l0] at H
     by_cases c9:x16_1<(l0.length:Int)
     ·rw[if_pos c9] at H
      have c9b0:decide (x16_1<(l0.length:Int))=true:=Zd c9
      clear c9
      by_cases c10:0≤x16_1
      ·rw[if_pos c10] at H
       have c10b0:decide (0≤x16_1)=true:=Zd c10
       clear c10
       by_cases c11:x16_1<(l0.length:Int)
       ·rw[if_pos c11] at H
        have c11b0:decide (x16_1<(l0.length:Int))=true:=Zd c11
        clear c11
        replace H:=Zf H
        obtain⟨t9007,A120,H⟩:=H
        replace H:((Zn.f k1 t9007).bind fun t9008=>(if 1+t9008.size≤9223372036854775807 then(if (rd l0 x16_1)<0 then(if 1+((⟨#[112]⟩:ByteArray) ++ t9008).size≤9223372036854775807 then(if x3_1.length<8796093022208 then(Zo.l0 k1 (x3_1 ++ [(⟨#[33]⟩:ByteArray) ++ ((⟨#[112]⟩:ByteArray) ++ t9008)]) l0 (l0.length:Int) (wrap64 (x16_1+1))) else(none)) else(none)) else(if x3_1.length<8796093022208 then(Zo.l0 k1 (x3_1 ++ [(⟨#[112]⟩:ByteArray) ++ t9008]) l0 (l0.length:Int) (wrap64 (x16_1+1))) else(none))) else(none)))=some r:=H
        have A12:=Za A120;clear A120
        replace H:=Zf H
        obtain⟨t9008,A130,H⟩:=H
        replace H:(if 1+t9008.size≤9223372036854775807 then(if (rd l0 x16_1)<0 then(if 1+((⟨#[112]⟩:ByteArray) ++ t9008).size≤9223372036854775807 then(if x3_1.length<8796093022208 then(Zo.l0 k1 (x3_1 ++ [(⟨#[33]⟩:ByteArray) ++ ((⟨#[112]⟩:ByteArray) ++ t9008)]) l0 (l0.length:Int) (wrap64 (x16_1+1))) else(none)) else(none)) else(if x3_1.length<8796093022208 then(Zo.l0 k1 (x3_1 ++ [(⟨#[112]⟩:ByteArray) ++ t9008]) l0 (l0.length:Int) (wrap64 (x16_1+1))) else(none))) else(none))=some r:=H
        have A13:=Za A130;clear A130
        by_cases c14:1+t9008.size≤9223372036854775807
        ·rw[if_pos c14] at H
         have c14b0:=eq_true c14
         have c14b1:decide (1+t9008.size≤9223372036854775807)=true:=Zd c14
         try have c14b2:(9223372036854775807<1+t9008.size)=False:=eq_false (Nat.not_lt.2 c14)
         by_cases c15:(rd l0 x16_1)<0
         ·rw[if_pos c15] at H
          have c15b0:decide ((rd l0 x16_1)<0)=true:=Zd c15
          clear c15
          by_cases c16:1+((⟨#[112]⟩:ByteArray) ++ t9008).size≤9223372036854775807
          ·rw[if_pos c16] at H
           have c16b0:=eq_true c16
           have c16b1:decide (1+((⟨#[112]⟩:ByteArray) ++ t9008).size≤9223372036854775807)=true:=Zd c16
           try have c16b2:(9223372036854775807<1+((⟨#[112]⟩:ByteArray) ++ t9008).size)=False:=eq_false (Nat.not_lt.2 c16)
           try have c16b4:(9223372036854775807<1+(1+t9008.size))=False:=eq_false (Nat.not_lt.2 (by have h_:=c16;simp only[ByteArray.size_append] at h_;exact h_))
           by_cases c17:x3_1.length<8796093022208
           ·rw[if_pos c17] at H
            have LMc17:=Za c17;clear c17
            obtain⟨y9009,hy9009⟩:∃y_:List ByteArray,y_=(x3_1 ++ [(⟨#[33]⟩:ByteArray) ++ ((⟨#[112]⟩:ByteArray) ++ t9008)]):=⟨_,rfl⟩
            replace H:(Zo.l0 k1 y9009 l0 (l0.length:Int) (wrap64 (x16_1+1)))=some r:=by first|(rw[hy9009];with_reducible exact H)|(have H2_:=(Zg _ _).symm.trans H;rw[hy9009];with_reducible exact H2_)|(have H2_:=(Zg _ _).symm.trans H;with_reducible exact H2_)|with_reducible exact H|(rw[hy9009];exact H)|exact H
            have Ny9009:=Za hy9009;clear hy9009
            have H':=Za H
            clear H
            have p9006:0≤(x16_1:Int):=Zc (by first|(with_reducible assumption)|assumption)
            have q9006:x16_1<(l0.length:Int):=Zc (by first|(with_reducible assumption)|assumption)
            obtain⟨ad9006,e9006,hx9006_0⟩:=Kd.at_int HR0.out x16_1 p9006 q9006
            cases e9006
            replace hx9006_0:=(HB.out.cell (Zb w _ hx9006_0)).trans hx9006_0
            replace p9006:=eq_true p9006
            replace q9006:=eq_true q9006
            go_wp2_with (first|((with_reducible refine ZD (f:=36) rfl ?_);refine ZN (some 21) rfl rfl Tryd.func36 (by kernel_rfl) rfl #[.int .i64 (rd l0 x16_1)] rfl (by(try simp only[List.map_toArray,List.map_cons,List.map_nil]);first|done|rfl|(simp only[Zi,Zh];rfl)) ?_;(with_reducible refine(Zy.calls (rd l0 x16_1) t9007 _ A12.out).mono ?_);rintro e w' ⟨rfl,⟨nd,rfl⟩⟩;refine⟨_,rfl,?_⟩)|((with_reducible refine ZD (f:=35) rfl ?_);refine ZN (some 22) rfl rfl Tryd.func35 (by kernel_rfl) rfl #[.int .i64 t9007] rfl (by(try simp only[List.map_toArray,List.map_cons,List.map_nil]);first|done|rfl|(simp only[Zi,Zh];rfl)) ?_;(with_reducible refine(Zn.calls k1 t9007 t9008 _ A13.out).mono ?_);rintro e w18 ⟨rfl,hb⟩;refine⟨_,rfl,?_⟩;replace HO_3:=Za (Kd.R_below (by(with_reducible repeat(first|apply Kd.R_alloc|apply Kd.R_drewN|apply Kd.R_drew));exact HO_3.out) hb);replace HB:=Za (Zw (by repeat(first|(with_reducible first|exact HB.out|apply Zl|apply Zk|apply Zm)|exact HB.out)) hb);(try clear hb);(try clear hb2);(try clear hk);(try clear hi))|((with_reducible refine Zai (b:=.append) (xs:=#[.tmp 28,.tmp 30]) rfl ?_);at_builtin;refine Kd.R_append Kd.string (w0:=w) w.heap.size rfl (.tmp 28) (.tmp 30) 56 9 (.string ⟨#[]⟩) 16 rfl Tryd.underlying56 info9 rfl (by decide) (by omega) u3 x3_1 ((⟨#[33]⟩:ByteArray) ++ ((⟨#[112]⟩:ByteArray) ++ t9008)) [.string ((⟨#[33]⟩:ByteArray) ++ ((⟨#[112]⟩:ByteArray) ++ t9008))] (fun _=>True) (fun _=>False) rfl rfl ?aP (fun _ hk=>hk.elim) ?aF ?aO ?aB ?aS ?aL ?_;(case aP=>exact rfl);(case aB=>exact(by repeat(first|(with_reducible first|exact HB.out|apply Zl|apply Zk|apply Zm)|exact HB.out)));(case aF=>exact(fun _ _=>trivial));(case aO=>exact(by(with_reducible repeat(first|apply Kd.R_alloc|apply Kd.R_drewN|apply Kd.R_drew));exact HO_3.out));(case aS=>exact(ZK (by repeat(first|(with_reducible first|exact HB.out|apply Zl|apply Zk|apply Zm)|exact HB.out))));(case aL=>have:=LMc17.out;omega);intro v9010 w19 ho hb hg hat;rw[← Ny9009.out] at ho;have HO9011:=Za (ho);replace HB:=Za (hb);clear HO_3;clear ho hb hg hat))
            go_roundg k1
            case measure=>have:=HK1.out;omega
            case rel=>exact⟨(y9009),(wrap64 (x16_1+1)),(by first|rfl|(simp;done)|(simp[*];done)),H',⟨by have:=HK1.out;omega⟩,⟨by(with_reducible repeat(first|apply Kd.R_alloc|apply Kd.R_drewN|apply Kd.R_drew));exact HO9011.out⟩,⟨by repeat(first|(with_reducible first|exact HB.out|apply Zl|apply Zk|apply Zm)|exact HB.out)⟩⟩
           ·rw[if_neg c17] at H
            exact absurd H (by simp)
          ·rw[if_neg c16] at H
           exact absurd H (by simp)
         ·rw[if_neg c15] at H
          have c15b0:decide ((rd l0 x16_1)<0)=false:=decide_eq_false c15
          clear c15
          by_cases c20:x3_1.length<8796093022208
          ·rw[if_pos c20] at H
           have LMc20:=Za c20;clear c20
           obtain⟨y9012,hy9012⟩:∃y_:List ByteArray,y_=(x3_1 ++ [(⟨#[112]⟩:ByteArray) ++ t9008]):=⟨_,rfl⟩
           replace H:(Zo.l0 k1 y9012 l0 (l0.length:Int) (wrap64 (x16_1+1)))=some r:=by first|(rw[hy9012];with_reducible exact H)|(have H2_:=(Zg _ _).symm.trans H;rw[hy9012];with_reducible exact H2_)|(have H2_:=(Zg _ _).symm.trans H;with_reducible exact H2_)|with_reducible exact H|(rw[hy9012];exact H)|exact H
           have Ny9012:=Za hy9012;clear hy9012
           have H':=Za H
           clear H
           have p9006:0≤(x16_1:Int):=Zc (by first|(with_reducible assumption)|assumption)
           have q9006:x16_1<(l0.length:Int):=Zc (by first|(with_reducible assumption)|assumption)
           obtain⟨ad9006,e9006,hx9006_0⟩:=Kd.at_int HR0.out x16_1 p9006 q9006
           cases e9006
           replace hx9006_0:=(HB.out.cell (Zb w _ hx9006_0)).trans hx9006_0
           replace p9006:=eq_true p9006
           replace q9006:=eq_true q9006
           go_wp2_with (first|((with_reducible refine ZD (f:=36) rfl ?_);refine ZN (some 21) rfl rfl Tryd.func36 (by kernel_rfl) rfl #[.int .i64 (rd l0 x16_1)] rfl (by(try simp only[List.map_toArray,List.map_cons,List.map_nil]);first|done|rfl|(simp only[Zi,Zh];rfl)) ?_;(with_reducible refine(Zy.calls (rd l0 x16_1) t9007 _ A12.out).mono ?_);rintro e w' ⟨rfl,⟨nd,rfl⟩⟩;refine⟨_,rfl,?_⟩)|((with_reducible refine ZD (f:=35) rfl ?_);refine ZN (some 22) rfl rfl Tryd.func35 (by kernel_rfl) rfl #[.int .i64 t9007] rfl (by(try simp only[List.map_toArray,List.map_cons,List.map_nil]);first|done|rfl|(simp only[Zi,Zh];rfl)) ?_;(with_reducible refine(Zn.calls k1 t9007 t9008 _ A13.out).mono ?_);rintro e w21 ⟨rfl,hb⟩;refine⟨_,rfl,?_⟩;replace HO_3:=Za (Kd.R_below (by(with_reducible repeat(first|apply Kd.R_alloc|apply Kd.R_drewN|apply Kd.R_drew));exact HO_3.out) hb);replace HB:=Za (Zw (by repeat(first|(with_reducible first|exact HB.out|apply Zl|apply Zk|apply Zm)|exact HB.out)) hb);(try clear hb);(try clear hb2);(try clear hk);(try clear hi))|((with_reducible refine Zai (b:=.append) (xs:=#[.tmp 28,.tmp 30]) rfl ?_);at_builtin;refine Kd.R_append Kd.string (w0:=w) w.heap.size rfl (.tmp 28) (.tmp 30) 56 9 (.string ⟨#[]⟩) 16 rfl Tryd.underlying56 info9 rfl (by decide) (by omega) u3 x3_1 ((⟨#[112]⟩:ByteArray) ++ t9008) [.string ((⟨#[112]⟩:ByteArray) ++ t9008)] (fun _=>True) (fun _=>False) rfl rfl ?aP (fun _ hk=>hk.elim) ?aF ?aO ?aB ?aS ?aL ?_;(case aP=>exact rfl);(case aB=>exact(by repeat(first|(with_reducible first|exact HB.out|apply Zl|apply Zk|apply Zm)|exact HB.out)));(case aF=>exact(fun _ _=>trivial));(case aO=>exact(by(with_reducible repeat(first|apply Kd.R_alloc|apply Kd.R_drewN|apply Kd.R_drew));exact HO_3.out));(case aS=>exact(ZK (by repeat(first|(with_reducible first|exact HB.out|apply Zl|apply Zk|apply Zm)|exact HB.out))));(case aL=>have:=LMc20.out;omega);intro v9013 w22 ho hb hg hat;rw[← Ny9012.out] at ho;have HO9014:=Za (ho);replace HB:=Za (hb);clear HO_3;clear ho hb hg hat))
           go_roundg k1
           case measure=>have:=HK1.out;omega
           case rel=>exact⟨(y9012),(wrap64 (x16_1+1)),(by first|rfl|(simp;done)|(simp[*];done)),H',⟨by have:=HK1.out;omega⟩,⟨by(with_reducible repeat(first|apply Kd.R_alloc|apply Kd.R_drewN|apply Kd.R_drew));exact HO9014.out⟩,⟨by repeat(first|(with_reducible first|exact HB.out|apply Zl|apply Zk|apply Zm)|exact HB.out)⟩⟩
          ·rw[if_neg c20] at H
           exact absurd H (by simp)
        ·rw[if_neg c14] at H
         exact absurd H (by simp)
       ·rw[if_neg c11] at H
        exact absurd H (by simp)
      ·rw[if_neg c10] at H
       exact absurd H (by simp)
     ·rw[if_neg c9] at H
      have c9b0:decide (x16_1<(l0.length:Int))=false:=decide_eq_false c9
      clear c9
      replace H:=Zf H
      obtain⟨t9005,A230,H⟩:=H
      replace H:(some t9005)=some r:=H
      have A23:=Za A230;clear A230
      obtain rfl:=Ze H
      obtain⟨Ao24,co24,eo24⟩:=Kd.R_slice HO_3.out
      subst eo24
      go_wp2_with (first|((with_reducible refine ZD (f:=37) rfl ?_);refine ZN (some 34) rfl rfl Tryd.func37 (by kernel_rfl) rfl #[.slice Ao24 x3_1.length co24,.string (⟨#[38]⟩:ByteArray)] rfl (by(try simp only[List.map_toArray,List.map_cons,List.map_nil]);first|done|rfl|(simp only[Zi,Zh];rfl)) ?_;(with_reducible refine(ZF.calls k1 _ _ x3_1 (⟨#[38]⟩:ByteArray) t9005 _ ?side1 ?side2 A23.out).mono ?_);(case side1=>repeat(first|exact(Kd.R_reads' HO_3.out).2.2|(with_reducible refine Kd.C_alloc ?_ _)|(with_reducible refine Kd.C_drewN ?_ _)|(with_reducible refine Kd.C_drew ?_)));(case side2=>exact(Kd.R_reads' HO_3.out).2.1);rintro e w' ⟨rfl,⟨nd,rfl⟩⟩;refine⟨_,rfl,?_⟩))
      go_ret
      exact⟨by first|rfl|(simp[Zu,Zt] <;> rfl)|(simp[*,Zu,Zt] <;> rfl),by repeat(first|(with_reducible first|exact HB.out|apply Zl|apply Zk|apply Zm)|exact HB.out)⟩
 ·replace c3:=Bool.eq_false_iff.mpr c3
  subst c3
  have H1:(some (⟨#[]⟩:ByteArray))=some r:=by rw[if_neg (show ¬(false=true) by decide)] at H;exact H
  clear H
  have H:=H1
  clear H1
  obtain rfl:=Ze H
  go_enter Tryd.func9,Tryd.ntmps9
  go_wp2_with (first|((with_reducible refine Zad (N:=7) rfl ?_);refine Kd.R_lit Kd.string _ 9 ?hg (N:=7) ?hd (xs:=([]:List ByteArray)) (inner:=[]) (ok:=fun _=>True) (okp:=fun _=>True) ?hr ?hp (fun _ hk=>hk) trivial (Below.refl _ _) (Nat.le_refl _) (by simp) ?_;(case hd=>rfl);(case hg=>rfl);(case hr=>first|(go_simp;done)|(go_simp;rfl));(case hp=>exact(Reps.none _ _));intro v9002 w25 ho26 hb hg_ hnew_;clear hg_ hnew_;(first|rw[← Ny9001.out] at ho26|(simp only[Int.reduceToNat] at ho26;rw[← Ny9001.out] at ho26));have HO9003:=Za (Kd.R_lower ho26 (ZK (by repeat(first|(with_reducible first|exact HB.out|apply Zl|apply Zk|apply Zm)|exact HB.out))));replace HB:=Za (Zw (by repeat(first|(with_reducible first|exact HB.out|apply Zl|apply Zk|apply Zm)|exact HB.out)) hb);clear hb ho26)|((with_reducible refine ZD (f:=34) rfl ?_);refine ZN (some 9) rfl rfl Tryd.func34 (by kernel_rfl) rfl #[.slice A0 l0.length c0] rfl (by(try simp only[List.map_toArray,List.map_cons,List.map_nil]);first|done|rfl|(simp only[Zi,Zh];rfl)) ?_;(with_reducible refine(Zr.calls k _ _ l0 false _ ?side1 ?side2 A2.out).mono ?_);(case side1=>repeat(first|exact(Kd.C_below HR0.out HB.out)|(with_reducible refine Kd.C_alloc ?_ _)|(with_reducible refine Kd.C_drewN ?_ _)|(with_reducible refine Kd.C_drew ?_)));(case side2=>exact HC0.out);rintro e w' ⟨rfl,⟨nd,rfl⟩⟩;refine⟨_,rfl,?_⟩))
  go_ret
  exact⟨by first|rfl|(simp[Zu,Zt] <;> rfl)|(simp[*,Zu,Zt] <;> rfl),by repeat(first|(with_reducible first|exact HB.out|apply Zl|apply Zk|apply Zm)|exact HB.out)⟩
end Go.Proofs.YthphnhmabieflaaDoor.Pr
set_option linter.unusedSimpArgs false
set_option linter.unusedVariables false
namespace Go.Proofs.YthphnhmabieflaaDoor.Pr
open Go.RowKit Go.Proofs.YthphnhmabieflaaDoorW.PrintWords Go.Proofs.YthphnhmabieflaaDoor.Ni
def bs (l:List UInt8):ByteArray:=⟨l.toArray⟩
theorem bs_of (a:ByteArray):bs a.data.toList=a:=by unfold bs;simp
theorem Zax (l:List UInt8):(bs l).data.toList=l:=by unfold bs;simp
theorem Z6 (a b:List UInt8):bs a ++ bs b=bs (a ++ b):=by
 unfold bs
 ext1
 rw[ByteArray.data_append];simp
theorem ZM (l:List UInt8):(bs l).size=l.length:=by unfold bs;simp[ByteArray.size]
theorem ba_size (a:ByteArray):a.size=a.data.toList.length:=by show a.data.size=_;rw[Array.length_toList]
theorem ZaO (x:Int) (h0:0≤x) (h1:x<256):strOfNums [x]=bs [UInt8.ofNat x.toNat]:=by
 unfold strOfNums bs
 simp
theorem dig_pos {x:Int} (h0:0≤x):wrap64 (48+Int.tmod x 10) % 256=((48+x.toNat % 10:Nat):Int):=by
 rw[Int.tmod_eq_emod_of_nonneg h0,Z7 (by omega) (by omega)];omega
theorem fmt_l0:∀(d:Nat) (x:Int) (s:List UInt8) (k:Nat),0≤x→x≤9223372036854775807→x<(10:Int) ^ (d+1)→s.length+d≤1000→d<k→Zn.l0 k x (bs s)=some (bs (Lib.decDigits x.toNat ++ s))
 | d,x,s,k,h0,h63,hx,hs,hk=>by
  obtain⟨m,rfl⟩:∃m,k=m+1:=⟨k - 1,by omega⟩
  simp only[Zn.l0]
  by_cases c:x > 9
  ·rw[if_pos c]
   cases d with
   | zero=>simp at hx;omega
   | succ d=>
    rw[dig_pos h0,Zg,ZaO _ (by omega) (by omega),ZM,ZM,if_pos (by simp only[List.length_singleton];omega),Int.tdiv_eq_ediv_of_nonneg h0]
    have hx2:x / 10<(10:Int) ^ (d+1):=by
     rw[Int.pow_succ] at hx
     exact Int.ediv_lt_of_lt_mul (by omega) hx
    rw[Z7 (by omega) (by omega),Z6,fmt_l0 d (x / 10) _ m (by omega) (by omega) hx2 (by simp only[List.length_append,List.length_singleton];omega) (by omega)]
    have e:Lib.decDigits x.toNat=Lib.decDigits (x / 10).toNat ++ [UInt8.ofNat (48+x.toNat % 10)]:=by
     rw[Lib.decDigits,dif_neg (by omega),show x.toNat / 10=(x / 10).toNat by omega]
    rw[e,Int.toNat_natCast,List.append_assoc]
  ·rw[if_neg c]
   rw[Z7 (by omega) (by omega),show(48+x) % 256=((48+x.toNat:Nat):Int) by omega,Zg,ZaO _ (by omega) (by omega),ZM,ZM,if_pos (by simp only[List.length_singleton];omega),Z6,Lib.decDigits,dif_pos (by omega),Int.toNat_natCast]
theorem Za2:∀(d m k:Nat),1≤m→m≤9223372036854775808→m<10 ^ (d+1)→d<k→d≤900→Zn.f k (-(m:Int))=some (bs (45 :: Lib.decDigits m))∧(Lib.decDigits m).length≤d+1
 | d,m,k,h1,h63,hm,hk,hd=>by
  obtain⟨k,rfl⟩:∃j,k=j+1:=⟨k - 1,by omega⟩
  have e1:Int.tdiv (-(m:Int)) 10 = -((m / 10:Nat):Int):=by rw[Int.neg_tdiv];rfl
  have e2:Int.tmod (-(m:Int)) 10 = -((m % 10:Nat):Int):=by rw[Int.neg_tmod];rfl
  simp only[Zn.f]
  rw[if_pos (by omega),e1,e2,Z7 (i:=-((m / 10:Nat):Int)) (by omega) (by omega)]
  by_cases c:m<10
  ·rw[if_pos (by omega),Z7 (by omega) (by omega),show(48 - -(m:Int)) % 256=((48+m:Nat):Int) by omega,Zg,ZaO _ (by omega) (by omega),ZM,if_pos (by simp only[List.length_singleton];omega),Lib.decDigits,dif_pos c,Int.toNat_natCast]
   refine⟨?_,by simp only[List.length_singleton];omega⟩
   show some (bs [45] ++ _)=_
   rw[Z6];rfl
  ·rw[if_neg (by omega)]
   cases d with
   | zero=>simp at hm;omega
   | succ d=>
    obtain⟨ih,il⟩:=Za2 d (m / 10) k (by omega) (by omega) (by rw[Nat.pow_succ] at hm;omega) (by omega) (by omega)
    rw[ih,Zg,Z7 (by omega) (by omega),show(48 - -((m % 10:Nat):Int)) % 256=((48+m % 10:Nat):Int) by omega,Zg,ZaO _ (by omega) (by omega),ZM,ZM,if_pos (by simp only[List.length_cons,List.length_nil];omega),Z6,Int.toNat_natCast]
    have e:Lib.decDigits m=Lib.decDigits (m / 10) ++ [UInt8.ofNat (48+m % 10)]:=by rw[Lib.decDigits,dif_neg c]
    rw[e]
    exact⟨rfl,by simp only[List.length_append,List.length_singleton];omega⟩
theorem Za9 (n:Int) (h0 : -9223372036854775808≤n) (h1:n≤9223372036854775807) (k:Nat) (hk:2 ^ 64≤k):Zn.f k n=some (bs (Lib.itoa n)):=by
 by_cases c:n<0
 ·have:=(Za2 18 n.natAbs k (by omega) (by omega) (by omega) (by omega) (by omega)).1
  rw[show -((n.natAbs:Nat):Int)=n by omega] at this
  rw[this,Lib.itoa,if_pos c]
 ·obtain⟨m,rfl⟩:∃m,k=m+1:=⟨k - 1,by omega⟩
  simp only[Zn.f]
  rw[if_neg c,Lib.itoa,if_neg c]
  have:=fmt_l0 18 n [] m (by omega) h1 (by omega) (by simp) (by omega)
  rw[List.append_nil] at this
  exact this
theorem Zbc (n:Int) (h0 : -9223372036854775808≤n) (h1:n≤9223372036854775807):ZJ.f n=some (bs (Lib.itoa n)):=by
 unfold ZJ.f
 rw[if_pos ⟨h0,h1⟩];rfl
theorem Zbb (n:Int) (h0 : -9223372036854775808≤n) (h1:n≤9223372036854775807):(Lib.itoa n).length≤20:=by
 by_cases c:n<0
 ·have:=(Za2 18 n.natAbs 1000 (by omega) (by omega) (by omega) (by omega) (by omega)).2
  rw[Lib.itoa,if_pos c,List.length_cons];omega
 ·rw[Lib.itoa,if_neg c]
  by_cases c0:n=0
  ·subst c0
   rw[show Int.toNat 0=0 from rfl,Lib.decDigits,dif_pos (by omega)];simp only[List.length_singleton];omega
  ·have:=(Za2 18 n.toNat 1000 (by omega) (by omega) (by omega) (by omega) (by omega)).2
   omega
abbrev bl (l:List ByteArray):List (List UInt8):=l.map (·.data.toList)
theorem ZaR (s x:List UInt8) (r:List (List UInt8)):Lib.joinTail s (x :: r)=s ++ x ++ Lib.joinTail s r:=by simp[Lib.joinTail]
theorem rdOf_nat (l:List ByteArray) (i:Nat):rdOf ByteArray.empty l (i:Int)=l.getD i ByteArray.empty:=by unfold rdOf;rw[Int.toNat_natCast]
theorem spec_Join_f (l:List ByteArray) (sep:ByteArray) (hl:l.length≤1048576) (hb:(Lib.join (bl l) sep.data.toList).length≤140737488355328) (k:Nat) (hk:2 ^ 64≤k):ZF.f k l sep=some (bs (Lib.join (bl l) sep.data.toList)):=by
 have key:=Zak l.length (fun k i=>0<i→∀acc:List UInt8,acc.length+(Lib.joinTail sep.data.toList (bl (l.drop i))).length≤140737488355328→ZF.l0 k sep (bs acc) l (l.length:Int) (i:Int)=some (bs (acc ++ Lib.joinTail sep.data.toList (bl (l.drop i))))) 0
  (fun k _ _ acc _=>by
   simp only[ZF.l0]
   rw[if_neg (by omega),List.drop_length]
   simp[Lib.joinTail])
  (fun k i _ hi ih hp acc ha=>by
   simp only[ZF.l0]
   rw[Z5 hi ByteArray.empty] at ha ⊢
   simp only[bl,List.map_cons,ZaR,List.length_append] at ha ⊢
   rw[if_pos (by omega),if_pos (by omega),if_pos (by omega),if_pos (by omega),rdOf_nat]
   generalize l.getD i ByteArray.empty=x at ha ⊢
   have e:bs acc ++ sep=bs (acc ++ sep.data.toList):=by rw[← Z6,bs_of]
   rw[e,ZM,ZM,if_pos (by rw[ba_size];omega),if_pos (by rw[ba_size];simp only[List.length_append];omega),Zac hi (by omega)]
   have e2:bs (acc ++ sep.data.toList) ++ x=bs (acc ++ sep.data.toList ++ x.data.toList):=by rw[← Z6 (acc ++ sep.data.toList),bs_of]
   rw[e2,ih (by omega) _ (by simp only[List.length_append,bl];omega)]
   simp only[List.append_assoc,bl])
 unfold ZF.f
 cases l with
 | nil=>
  obtain⟨m,rfl⟩:∃m,k=m+1:=⟨k - 1,by omega⟩
  simp only[ZF.l0]
  rw[if_neg (by simp)];rfl
 | cons x t=>
  obtain⟨m,rfl⟩:∃m,k=m+1:=⟨k - 1,by omega⟩
  simp only[bl,List.map_cons,Lib.join_cons,List.length_append] at hb ⊢
  simp only[ZF.l0]
  rw[if_pos (by rw[List.length_cons];omega),if_pos (by omega),if_pos (by rw[List.length_cons];omega),if_neg (by omega)]
  have e0:rdOf ByteArray.empty (x :: t) 0=x:=rfl
  rw[e0,show(⟨#[]⟩:ByteArray)=bs [] from rfl,show bs [] ++ x=bs x.data.toList by rw[← bs_of x,Z6,Zax];rfl,ZM,if_pos (by rw[ba_size];simp only[List.length_nil];omega)]
  rw[show wrap64 (0+1)=((1:Nat):Int) by rw[Z7 (by omega) (by omega)];rfl,key 1 m (by rw[List.length_cons];omega) (by omega) (by omega) _ (by simpa [bl] using hb)]
  rfl
theorem impl_Join_f (l:List ByteArray) (sep:ByteArray) (hl:l.length≤1048576) (hb:(Lib.join (bl l) sep.data.toList).length≤140737488355328):ZW.f l sep=some (bs (Lib.join (bl l) sep.data.toList)):=by
 unfold ZW.f
 rw[if_pos ⟨hl,hb⟩];rfl
end Go.Proofs.YthphnhmabieflaaDoor.Pr
namespace Go.Proofs.YthphnhmabieflaaDoor.Pr
open Go.RowKit Go.Proofs.YthphnhmabieflaaDoorW.PrintWords Go.Proofs.YthphnhmabieflaaDoorW.PrintMore Go.Proofs.YthphnhmabieflaaDoor.Ni
theorem ZaY {x:Int} (h:ZO x=true):Zy.f x=some (prp x):=by
 have:=(ZV x).1 h
 unfold Zy.f prp
 split
 ·rw[Z7 (by omega) (by omega)]
 ·rfl
theorem Zba {x:Int} (h:ZO x=true):ZC.f x=some (prp x):=by
 have:=(ZV x).1 h
 unfold ZC.f prp mx
 rw[Z7 (by omega) (by omega)]
 congr 1
 split <;> split <;> omega
theorem Zbr (l:List Int) (hl:l.length≤9223372036854775807) (k:Nat) (hk:2 ^ 64≤k):Zr.f k l=some (labB l):=by
 have key:=Zak l.length (fun k i=>(0<i→ZO (l.getD (i - 1) 0)=true)→Zr.l0 k l l l.length (i:Int)=some (ZR (if i=0 then 0 else prp (l.getD (i - 1) 0)) (l.drop i))) 0
  (fun k _ _=>by simp[Zr.l0,ZR])
  (fun k i _ hi ih hb=>by
   simp only[Zr.l0]
   rw[if_pos (by omega),if_pos (by omega),if_pos (by omega),Zah,Zac hi (by omega),Z5 hi 0]
   unfold ZR
   have ih':=fun h=>ih (fun _=>h)
   simp only[Nat.add_sub_cancel,Nat.add_eq_zero_iff,Nat.one_ne_zero,and_false,if_false] at ih'
   by_cases h0:l.getD i 0=0
   ·rw[if_pos h0,h0];simp[ZO]
   rw[if_neg h0]
   unfold ZS.f
   by_cases h1:l.getD i 0≥-3
   ·rw[if_pos h1,Zg]
    by_cases h2:l.getD i 0≤3
    ·have hok:ZO (l.getD i 0)=true:=(ZV _).2 ⟨h0,h1,h2⟩
     have hp:=Zav hok
     rw[if_pos (by simpa using h2)]
     by_cases hi0:i=0
     ·subst hi0
      rw[if_neg (by omega),ih' hok,hok]
      simp only[Bool.true_and,if_true]
      rw[Zd (show(0:Int)<prp (l.getD 0 0) by omega)]
      rfl
     ·rw[if_pos (by omega),wrap_pred (by omega) (by omega),if_pos (by omega),if_pos (by omega),Zah,ZaY (hb (by omega)),Zg,ZaY hok,Zg,if_neg hi0,hok]
      by_cases hlt:prp (l.getD (i - 1) 0)<prp (l.getD i 0)
      ·rw[if_neg (by omega),ih' hok,Zd hlt];rfl
      ·rw[if_pos (by omega),decide_eq_false hlt];rfl
    ·rw[if_neg (by simpa using h2)]
     rw[show ZO (l.getD i 0)=false from Bool.eq_false_iff.2 fun h=>by have:=(ZV _).1 h;omega];rfl
   ·rw[if_neg h1,Zg,if_neg (by decide)]
    rw[show ZO (l.getD i 0)=false from Bool.eq_false_iff.2 fun h=>by have:=(ZV _).1 h;omega];rfl) 0 k (Nat.zero_le _) (by omega)
 unfold Zr.f labB
 have:=key (fun h=>absurd h (by omega))
 simpa using this
theorem Zbs (l:List Int) (hl:l.length≤9223372036854775807) (k:Nat) (hk:2 ^ 64≤k):Zv.f k l=some (labB l):=by
 have key:=Zak l.length (fun k i=>(0<i→ZO (l.getD (i - 1) 0)=true)→Zv.l0 k l l l.length (i:Int)=some (ZR (if i=0 then 0 else prp (l.getD (i - 1) 0)) (l.drop i))) 0
  (fun k _ _=>by simp[Zv.l0,ZR])
  (fun k i _ hi ih hb=>by
   simp only[Zv.l0]
   rw[if_pos (by omega),if_pos (by omega),if_pos (by omega),Zah,Zac hi (by omega),Z5 hi 0]
   unfold ZR
   have ih':=fun h=>ih (fun _=>h)
   simp only[Nat.add_sub_cancel,Nat.add_eq_zero_iff,Nat.one_ne_zero,and_false,if_false] at ih'
   by_cases h0:l.getD i 0=0
   ·rw[if_pos h0,h0];simp[ZO]
   rw[if_neg h0]
   by_cases h1:l.getD i 0≥-3
   ·rw[if_neg (by omega)]
    by_cases h2:l.getD i 0≤3
    ·have hok:ZO (l.getD i 0)=true:=(ZV _).2 ⟨h0,h1,h2⟩
     have hp:=Zav hok
     rw[if_neg (by omega)]
     by_cases hi0:i=0
     ·subst hi0
      rw[if_neg (by omega),ih' hok,hok]
      simp only[Bool.true_and,if_true]
      rw[Zd (show(0:Int)<prp (l.getD 0 0) by omega)]
      rfl
     ·rw[if_pos (by omega),wrap_pred (by omega) (by omega),if_pos (by omega),if_pos (by omega),Zah,Zba (hb (by omega)),Zg,Zba hok,Zg,if_neg hi0,hok]
      by_cases hlt:prp (l.getD (i - 1) 0)<prp (l.getD i 0)
      ·rw[if_neg (by omega),ih' hok,Zd hlt];rfl
      ·rw[if_pos (by omega),decide_eq_false hlt];rfl
    ·rw[if_pos (by omega)]
     rw[show ZO (l.getD i 0)=false from Bool.eq_false_iff.2 fun h=>by have:=(ZV _).1 h;omega];rfl
   ·rw[if_pos (by omega)]
    rw[show ZO (l.getD i 0)=false from Bool.eq_false_iff.2 fun h=>by have:=(ZV _).1 h;omega];rfl) 0 k (Nat.zero_le _) (by omega)
 unfold Zv.f labB
 have:=key (fun h=>absurd h (by omega))
 simpa using this
end Go.Proofs.YthphnhmabieflaaDoor.Pr
set_option linter.unusedSimpArgs false
set_option linter.unusedVariables false
namespace Go.Proofs.YthphnhmabieflaaDoor.Pr
open Go.RowKit Go.Proofs.YthphnhmabieflaaDoorW.PrintWords Go.Proofs.YthphnhmabieflaaDoor.Ni
def litT (x:Int):List UInt8:=if x<0 then 33 :: 112 :: Lib.itoa (prp x) else 112 :: Lib.itoa (prp x)
def labT (l:List Int):List UInt8:=if labB l=true then(if l=[] then[45] else Lib.join (l.map litT) [38]) else[]
theorem Za7:∀(l:List Int) (p:Int),0≤p→ZR p l=true→(l.length:Int)+p≤3∨l=[]
 | [],_,_,_=>.inr rfl
 | x :: t,p,hp,h=>by
  left
  simp only[ZR,Bool.and_eq_true,decide_eq_true_eq] at h
  have h1:=Zav h.1.1
  rw[List.length_cons]
  rcases Za7 t (prp x) (by omega) h.2 with h2|h2
  ·omega
  ·subst h2;simp only[List.length_nil];omega
theorem labB_len {l:List Int} (h:labB l=true):l.length≤3:=by
 rcases Za7 l 0 (by omega) h with h2|h2
 ·omega
 ·subst h2;simp
theorem litT_len {x:Int} (h:ZO x=true):(litT x).length≤22:=by
 have h1:=Zav h
 have h2:=Zbb (prp x) (by omega) (by omega)
 unfold litT
 split <;> simp only[List.length_cons] <;> omega
theorem joinT_len (s:List UInt8):∀(l:List (List UInt8)),(∀x∈l,x.length≤22)→(Lib.join l s).length≤(22+s.length) * l.length
 | [],_=>by simp[Lib.join]
 | x :: t,h=>by
  have h1:∀l:List (List UInt8),(∀x∈l,x.length≤22)→(Lib.joinTail s l).length≤(22+s.length) * l.length:=by
   intro l
   induction l with
   | nil=>intro _;simp[Lib.joinTail]
   | cons y r ih=>
    intro hy
    have h2:=ih (fun z hz=>hy z (by simp[hz]))
    have h3:=hy y (by simp)
    rw[ZaR,List.length_append,List.length_append,List.length_cons,Nat.mul_succ];omega
  have h2:=h1 t (fun z hz=>h z (by simp[hz]))
  have h3:=h x (by simp)
  rw[Lib.join_cons,List.length_append,List.length_cons,Nat.mul_succ];omega
theorem ZaX:∀(l:List Int) (p:Int),ZR p l=true→∀x∈l,ZO x=true
 | [],_,_,x,hx=>by cases hx
 | y :: t,p,h,x,hx=>by
  simp only[ZR,Bool.and_eq_true] at h
  rcases List.mem_cons.1 hx with rfl|hx
  ·exact h.1.1
  ·exact ZaX t _ h.2 x hx
theorem labB_all' {l:List Int} (h:labB l=true):∀x∈l,ZO x=true:=ZaX l 0 h
theorem bl_bs:∀(l:List (List UInt8)),bl (l.map bs)=l
 | []=>rfl
 | x :: t=>by
  show(bs x).data.toList :: bl (t.map bs)=_
  rw[Zax,bl_bs t]
theorem ZaZ (l:List Int) (hl:l.length≤1048576) (k:Nat) (hk:2 ^ 66≤k):Zp.f k l=some (bs (labT l)):=by
 unfold Zp.f labT
 rw[Zbs l (by omega) k (by omega),Zg]
 cases hb:labB l with
 | false=>rfl
 | true=>
  have hall:=labB_all' hb
  have h3:=labB_len hb
  rw[if_pos rfl,if_pos rfl]
  by_cases h0:l=[]
  ·subst h0;rfl
  ·rw[if_neg (by cases l with|nil=>exact absurd rfl h0|cons x t=>rw[List.length_cons];omega),if_neg h0]
   have key:=Zak l.length (fun k i=>∀acc:List (List UInt8),acc.length≤i→(∀x∈acc,x.length≤22)→Zp.l0 k (acc.map bs) l (l.length:Int) (i:Int)=some (bs (Lib.join (acc ++ (l.drop i).map litT) [38]))) (2 ^ 65)
    (fun k _ acc ha hx=>by
     simp only[Zp.l0]
     have hj:=joinT_len [38] acc hx
     rw[List.length_singleton] at hj
     rw[if_neg (by omega),List.drop_length,show(⟨#[38]⟩:ByteArray)=bs [38] from rfl,impl_Join_f _ _ (by simp;omega) (by rw[bl_bs,Zax];omega),bl_bs,Zax]
     simp)
    (fun k i hk hi ih acc ha hx=>by
     have hlit:=hall _ (getD_mem hi 0)
     have hp:=Zav hlit
     have h2:=Zbb (prp (l.getD i 0)) (by omega) (by omega)
     simp only[Zp.l0]
     rw[if_pos (by omega),if_pos (by omega),if_pos (by omega),Zah,Zba hlit,Zg,Zbc _ (by omega) (by omega),Zg,ZM,if_pos (by omega),Z5 hi 0,show(⟨#[112]⟩:ByteArray)=bs [112] from rfl,Z6,ZM,Zac hi (by omega)]
     have hlt:=litT_len hlit
     have hn:=ih (acc ++ [litT (l.getD i 0)]) (by simp;omega) (fun x hx'=>by
      rcases List.mem_append.1 hx' with h|h
      ·exact hx x h
      ·rw[List.mem_singleton] at h;subst h;exact hlt)
     rw[List.append_assoc,List.map_append] at hn
     by_cases hneg:l.getD i 0<0
     ·rw[if_pos hneg,if_pos (by simp only[List.length_cons,List.length_append,List.length_nil];omega),if_pos (by simp;omega),show(⟨#[33]⟩:ByteArray)=bs [33] from rfl,Z6]
      have e:[33] ++ ([112] ++ Lib.itoa (prp (l.getD i 0)))=litT (l.getD i 0):=by unfold litT;rw[if_pos hneg];rfl
      rw[e];exact hn
     ·rw[if_neg hneg,if_pos (by simp;omega)]
      have e:[112] ++ Lib.itoa (prp (l.getD i 0))=litT (l.getD i 0):=by unfold litT;rw[if_neg hneg];rfl
      rw[e];exact hn) 0 k (Nat.zero_le _) (by omega)
   have:=key [] (by simp) (fun x hx=>by cases hx)
   simpa using this
theorem ZaT (l:List Int) (hl:l.length≤1048576) (k:Nat) (hk:2 ^ 66≤k):Zo.f k l=some (bs (labT l)):=by
 unfold Zo.f labT
 rw[Zbr l (by omega) k (by omega),Zg]
 cases hb:labB l with
 | false=>rfl
 | true=>
  have hall:=labB_all' hb
  have h3:=labB_len hb
  rw[if_pos rfl,if_pos rfl]
  by_cases h0:l=[]
  ·subst h0;rfl
  ·rw[if_neg (by cases l with|nil=>exact absurd rfl h0|cons x t=>rw[List.length_cons];omega),if_neg h0]
   have key:=Zak l.length (fun k i=>∀acc:List (List UInt8),acc.length≤i→(∀x∈acc,x.length≤22)→Zo.l0 k (acc.map bs) l (l.length:Int) (i:Int)=some (bs (Lib.join (acc ++ (l.drop i).map litT) [38]))) (2 ^ 65)
    (fun k hk acc ha hx=>by
     simp only[Zo.l0]
     have hj:=joinT_len [38] acc hx
     rw[List.length_singleton] at hj
     rw[if_neg (by omega),List.drop_length,show(⟨#[38]⟩:ByteArray)=bs [38] from rfl,spec_Join_f _ _ (by simp;omega) (by rw[bl_bs,Zax];omega) k (by omega),bl_bs,Zax]
     simp)
    (fun k i hk hi ih acc ha hx=>by
     have hlit:=hall _ (getD_mem hi 0)
     have hp:=Zav hlit
     have h2:=Zbb (prp (l.getD i 0)) (by omega) (by omega)
     simp only[Zo.l0]
     rw[if_pos (by omega),if_pos (by omega),if_pos (by omega),Zah,ZaY hlit,Zg,Za9 _ (by omega) (by omega) k (by omega),Zg,ZM,if_pos (by omega),Z5 hi 0,show(⟨#[112]⟩:ByteArray)=bs [112] from rfl,Z6,ZM,Zac hi (by omega)]
     have hlt:=litT_len hlit
     have hn:=ih (acc ++ [litT (l.getD i 0)]) (by simp;omega) (fun x hx'=>by
      rcases List.mem_append.1 hx' with h|h
      ·exact hx x h
      ·rw[List.mem_singleton] at h;subst h;exact hlt)
     rw[List.append_assoc,List.map_append] at hn
     by_cases hneg:l.getD i 0<0
     ·rw[if_pos hneg,if_pos (by simp only[List.length_cons,List.length_append,List.length_nil];omega),if_pos (by simp;omega),show(⟨#[33]⟩:ByteArray)=bs [33] from rfl,Z6]
      have e:[33] ++ ([112] ++ Lib.itoa (prp (l.getD i 0)))=litT (l.getD i 0):=by unfold litT;rw[if_pos hneg];rfl
      rw[e];exact hn
     ·rw[if_neg hneg,if_pos (by simp;omega)]
      have e:[112] ++ Lib.itoa (prp (l.getD i 0))=litT (l.getD i 0):=by unfold litT;rw[if_neg hneg];rfl
      rw[e];exact hn) 0 k (Nat.zero_le _) (by omega)
   have:=key [] (by simp) (fun x hx=>by cases hx)
   simpa using this
end Go.Proofs.YthphnhmabieflaaDoor.Pr
