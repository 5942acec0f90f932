/- The texts of one claim, put together by a program of this session. -/
import Derived.Test.YthphnhmabieflabBCoc1x1
import Derived.Test.YthphnhmabieflabBCoc1x2
import Derived.Test.YthphnhmabieflabBCoc1x6
import Derived.Test.YthphnhmabieflabBCoc1x9
namespace Go.Proofs.Ythphnhmabieflab.Pr
open Go.RowKit Go.Proofs.YthphnhmabieflabW.PrintWords Go.Proofs.YthphnhmabieflabW.PrintLast Go.Proofs.YthphnhmabieflabW.PrintMore
attribute [local go_sem] Zaj Zah Zaq Zap Zab Zaa Zai Zag
set_option linter.unusedVariables false
set_option linter.unusedSimpArgs false
mutual
def laws_FnCompleted.l0:Nat→List Int→List Int→Int→Int→List (S84)→Option (Bool)
 | 0,_,_,_,_,_=>none
 | k+1,x0,x4,x5,x5006000,x5006001=>if x5<x5006000 then((Za9.f k x0 (wrap64 (50+x5))).bind fun t5009=>(if (Int.tmod t5009 2)=0 then(if 0≤x5 then(if x5<(x4.length:Int) then(laws_FnCompleted.l0 k x0 (x4.set (x5:Int).toNat (-1)) (wrap64 (x5+1)) x5006000 x5006001) else(none)) else(none)) else(laws_FnCompleted.l0 k x0 x4 (wrap64 (x5+1)) x5006000 x5006001))) else((ZaQ.f k x5006000 x5006001 x4).bind fun bt5011=>(if bt5011.2=true then(if (bt5011.1.length:Int)=(x4.length:Int) then(laws_FnCompleted.l1 k x4 bt5011.1 x4 (x4.length:Int) 0 x5006000 x5006001) else(some false)) else((ZaK.f k x5006000 x5006001 x4).bind fun t5015=>(if t5015=true then(some false) else((Zas.f x5006000 x5006001 x4).bind fun t5016=>(some t5016))))))
def laws_FnCompleted.l1:Nat→List Int→List Int→List Int→Int→Int→Int→List (S84)→Option (Bool)
 | 0,_,_,_,_,_,_,_=>none
 | k+1,x4,x6,x58,x59,x60,x5006000,x5006001=>if x60<x59 then(if 0≤x60 then(if x60<(x58.length:Int) then(if (rd x58 x60)=(-1) then(laws_FnCompleted.l1 k x4 x6 x58 x59 (wrap64 (x60+1)) x5006000 x5006001) else(if x60<(x6.length:Int) then(if (rd x6 x60)=(rd x58 x60) then(laws_FnCompleted.l1 k x4 x6 x58 x59 (wrap64 (x60+1)) x5006000 x5006001) else(some false)) else(none))) else(none)) else(none)) else((Zax.f k x5006000 x5006001 x4 (wrap64 (x5006000 - 1))).bind fun bt5019=>((ZaX.f x5006000 x5006001 x6).bind fun t5023=>(if t5023=true then(if bt5019.2.2=true then(if 0≤(wrap64 (x5006000 - 1)) then(if (wrap64 (x5006000 - 1))<(x6.length:Int) then((Zat.f bt5019.1 bt5019.2.1 (rd x6 (wrap64 (x5006000 - 1)))).bind fun t5025=>(some t5025)) else(none)) else(none)) else(some false)) else(some false))))
end
def laws_FnCompleted.f (k:Nat) (l0:List Int):Option (Bool):=if (l0.length:Int) > 1048576 then(some true) else((ZaV.f k l0).bind fun bt5001=>((Z9.f k l0 40 bt5001.1).bind fun t5006=>(laws_FnCompleted.l0 k l0 t5006 1 bt5001.1 bt5001.2)))
def laws_FnCompleted.T22:Bool×List (List Nat×List Nat):=(true,[([],[]),([],[]),([0,1],[0,1]),([2,2],[2]),([3],[3]),([3,4],[3,4]),([5,3],[5]),([6],[6]),([6],[6]),([6],[6]),([9,6],[6,9]),([10,6],[6,10]),([8,11,6],[6,8,11]),([12,6],[6,12]),([7,13,6,6],[6,7,13]),([6,14],[6,14]),([15,14,0,1,2,3,4,5,6,7,8,9,10,11,12,13,14,15],[15])])
def laws_FnCompleted.B22:List Nat:=[0,0,3,7,15,31,63,127,127,127,639,1663,3967,8063,16383,32767,65535]
theorem laws_FnCompleted.tab22:rtab .any (opsOf Try.f5 22)=laws_FnCompleted.T22:=by kernel_rfl
theorem laws_FnCompleted.bits22:Zbi laws_FnCompleted.T22.2 laws_FnCompleted.B22=true:=by kernel_rfl
set_option maxHeartbeats 8000000 in
set_option maxRecDepth 100000 in
theorem laws_FnCompleted.calls (k:Nat) (A0:Option Addr) (c0:Nat) (l0:List Int) (w:World) (hr0:Kd.C (Kd.int .u8) w A0 l0.length l0) (hc0:l0.length≤c0) (h:laws_FnCompleted.f k l0=some true) :
  Calls Try.prog 5 #[.slice A0 l0.length c0] w fun e w'=>e=.returned (.bool true)∧Below w.heap.size w w':=by
 have hu31:=Try.underlying31
 have hu35:=Try.underlying35
 have HR0:=Za hr0;have HC0:=Za hc0;clear hr0 hc0
 have HB:=Za (Below.refl w.heap.size w)
 have H:(if (l0.length:Int) > 1048576 then(some true) else((ZaV.f k l0).bind fun bt5001=>((Z9.f k l0 40 bt5001.1).bind fun t5006=>(laws_FnCompleted.l0 k l0 t5006 1 bt5001.1 bt5001.2))))=some true:=h
 clear h
 by_cases c2:(l0.length:Int) > 1048576
 ·rw[if_pos c2] at H
  have c2b0:decide (1048576<(l0.length:Int))=true:=Ze c2
  have c2b1:decide (1048576<l0.length)=true:=Ze (by omega)
  clear c2 H
  go_enter Try.func5,Try.ntmps5
  go_wp2
  go_ret
  exact⟨by first|rfl|(simp[ZC,ZB] <;> rfl)|(simp[*,ZC,ZB] <;> rfl),by repeat(first|(with_reducible first|exact HB.out|apply Zq|apply Zm|apply Zs)|exact HB.out)⟩
 ·rw[if_neg c2] at H
  have c2b0:decide (1048576<(l0.length:Int))=false:=Zf c2
  have c2b1:decide (1048576<l0.length)=false:=Zf (by omega)
  clear c2
  replace H:=Zh H
  obtain⟨⟨t5001,t5002⟩,A30,H⟩:=H
  replace H:((Z9.f k l0 40 t5001).bind fun t5006=>(laws_FnCompleted.l0 k l0 t5006 1 t5001 t5002))=some true:=H
  have A3:=Za A30;clear A30
  replace H:=Zh H
  obtain⟨t5006,A40,H⟩:=H
  replace H:(laws_FnCompleted.l0 k l0 t5006 1 t5001 t5002)=some true:=H
  have A4:=Za A40;clear A40
  have H':=Za H
  clear H
  go_enter Try.func5,Try.ntmps5
  go_wp2_with (first|((with_reducible refine ZF (f:=13) rfl ?_);refine ZY (some 16) rfl rfl Try.func13 (by kernel_rfl) rfl #[.slice A0 l0.length c0] rfl (by(try simp only[List.map_toArray,List.map_cons,List.map_nil]);first|done|rfl|(simp only[Zk,Zj];rfl)) ?_;(with_reducible refine(ZaV.calls k _ _ l0 t5001 t5002 _ ?side1 ?side2 A3.out).mono ?_);(case side1=>repeat(first|exact HR0.out|(with_reducible refine Kd.C_alloc ?_ _)|(with_reducible refine Kd.C_drewN ?_ _)|(with_reducible refine Kd.C_drew ?_)));(case side2=>exact HC0.out);rintro e w5 ⟨v5003,rfl,ho0,hb⟩;refine⟨_,rfl,?_⟩;have HO5004:=Za (Kd.R_lower ho0 (Zw (by repeat(first|(with_reducible first|exact HB.out|apply Zq|apply Zm|apply Zs)|exact HB.out))));replace HB:=Za (Zx (by repeat(first|(with_reducible first|exact HB.out|apply Zq|apply Zm|apply Zs)|exact HB.out)) hb);(try clear hb);(try clear hb2);(try clear hk);(try clear hi);(try clear ho0))|((with_reducible refine ZM (N:=3) rfl ?_);refine ZK ?hg (N:=3) ?hd (cs:=#[.int .i64 0,.slice none 0 0]) (t:=31) ?hr ?_;(case hd=>rfl);(case hg=>rfl);(case hr=>first|(go_simp;done)|(go_simp;rfl));intro gb5005 hg w6 hbox hb;have BK5005:=Za (hbox);have GW5005:=Za ((by rw[hg];exact(Zw (by repeat(first|(with_reducible first|exact HB.out|apply Zq|apply Zm|apply Zs)|exact HB.out))):w.heap.size≤gb5005));have GE5005:=Za ((by rw[hg];exact(Zw (by repeat(first|(with_reducible first|exact HB.out|apply Zq|apply Zm|apply Zs)|exact HB.out))):w.heap.size≤gb5005));replace HO5004:=Za (Kd.R_below (by(with_reducible repeat(first|apply Kd.R_alloc|apply Kd.R_drewN|apply Kd.R_drew));exact HO5004.out) hb);replace HB:=Za (Zx (by repeat(first|(with_reducible first|exact HB.out|apply Zq|apply Zm|apply Zs)|exact HB.out)) hb);clear hb hbox hg;have hcz7_0:w6.cell? ⟨gb5005,0,none⟩=some (.int .i64 0):=(Zv BK5005.out 0).trans rfl;have hcz7_1:w6.cell? ⟨gb5005,1,none⟩=some (.slice none 0 0):=(Zv BK5005.out 1).trans rfl;have hfz7_0:=Zu BK5005.out 0;have hfz7_1:=Zu BK5005.out 1;obtain⟨Ao8,co8,eo8⟩:=Kd.R_slice HO5004.out;subst eo8)|((with_reducible refine ZF (f:=22) rfl ?_);refine ZY (some 20) rfl rfl Try.func22 (by kernel_rfl) rfl #[.slice A0 l0.length c0,.int .i64 40,.int .i64 t5001] rfl (by(try simp only[List.map_toArray,List.map_cons,List.map_nil]);first|done|rfl|(simp only[Zk,Zj];rfl)) ?_;(with_reducible refine(Z9.calls k _ _ l0 40 t5001 t5006 _ ?side1 ?side2 A4.out).mono ?_);(case side1=>exact Zb HR0.out (by repeat(first|(with_reducible first|exact HB.out|apply Zq|apply Zm|apply Zs|refine Zp ?_ GE5005.out)|exact HB.out)));(case side2=>exact HC0.out);rintro e w9 ⟨v5007,rfl,ho0,hb⟩;refine⟨_,rfl,?_⟩;have HO5008:=Za (Kd.R_lower ho0 (Zw (by repeat(first|(with_reducible first|exact HB.out|apply Zq|apply Zm|apply Zs|refine Zp ?_ GE5005.out)|exact HB.out))));replace HO5004:=Za (Kd.R_below (by(with_reducible repeat(first|apply Kd.R_alloc|apply Kd.R_drewN|apply Kd.R_drew));exact(Kd.R_mono (Kd.R_far (p:=⟨gb5005,1,none⟩) (Kd.R_far (p:=⟨gb5005,0,none⟩) (Kd.R_types HO5004.out BK5005.out (by decide)) (fun _ hk=>hk.2) (.int .i64 t5001)) (fun _ hk=>hk.2) (.slice Ao8 t5002.length co8)) (fun _ h_=>h_.1))) hb);replace BK5005:=Za (Zy (g:=gb5005) (o:=.cells #[.int .i64 t5001,.slice Ao8 t5002.length co8] 31 (0,0)) (by(with_reducible repeat(first|refine Zo ?_ _|refine Zr ?_|refine Zn ?_ _));refine ZL (cs:=#[.int .i64 t5001,.slice none 0 0]) ?_ 1 _ rfl;(with_reducible repeat(first|refine Zo ?_ _|refine Zr ?_|refine Zn ?_ _));refine ZL (cs:=#[.int .i64 0,.slice none 0 0]) ?_ 0 _ rfl;(with_reducible repeat(first|refine Zo ?_ _|refine Zr ?_|refine Zn ?_ _));exact BK5005.out) hb);replace HB:=Za (Zx (by repeat(first|(with_reducible first|exact HB.out|apply Zq|apply Zm|apply Zs|refine Zp ?_ GE5005.out)|exact HB.out)) hb);(try clear hb);(try clear hb2);(try clear hk);(try clear hi);(try clear ho0)))
  go_loopg [5] k (fun kq v5 w'=>∃(x4_1:List Int) (x5_1:Int),v5=.int .i64 x5_1∧Aside0 (laws_FnCompleted.l0 kq l0 x4_1 x5_1 t5001 t5002=some true)∧Aside0 (kq≤k)∧Aside0 (Kd.R (Kd.int .i64) 3 w' w.heap.size (fun _=>True) v5007 x4_1)∧Aside0 (Kd.R k84 84 w' w.heap.size (fun _=>True) (.slice Ao8 t5002.length co8) t5002)∧Aside0 (w'.heap[gb5005]? = some (.cells #[.int .i64 t5001,(.slice Ao8 t5002.length co8)] 31 (0,0)))∧Aside0 (Below w.heap.size w w'))
  case atStart=>exact⟨(t5006),(1),(by first|rfl|(simp;done)|(simp[*];done)),H',⟨Nat.le_refl _⟩,⟨by(with_reducible repeat(first|apply Kd.R_alloc|apply Kd.R_drewN|apply Kd.R_drew));exact HO5008.out⟩,⟨by(with_reducible repeat(first|apply Kd.R_alloc|apply Kd.R_drewN|apply Kd.R_drew));exact HO5004.out⟩,⟨by(with_reducible repeat(first|refine Zo ?_ _|refine Zr ?_|refine Zn ?_ _));exact BK5005.out⟩,⟨by repeat(first|(with_reducible first|exact HB.out|apply Zq|apply Zm|apply Zs|refine Zp ?_ GE5005.out)|exact HB.out)⟩⟩
  case round=>
   clear H'
   try clear c1
   try clear c2
   try clear c2b0
   try clear c2b1
   try clear p2
   try clear c5
   try clear hcz7_0
   try clear hcz7_1
   try clear hfz7_0
   try clear hfz7_1
   obtain⟨x4_1,x5_1,rfl,HA,HK1,HO_4,HO_5006001,BK5005,HB⟩:=hrel
   cases gk with
   | zero=>exact absurd HA.out (by simp[laws_FnCompleted.l0])
   | succ k1=>
    have H:=HA.out
    clear HA
    simp only[laws_FnCompleted.l0] at H
    by_cases c10:x5_1<t5001
    ·rw[if_pos c10] at H
     have c10b0:decide (x5_1<t5001)=true:=Ze c10
     clear c10
     replace H:=Zh H
     obtain⟨t5009,A110,H⟩:=H
     replace H:(if (Int.tmod t5009 2)=0 then(if 0≤x5_1 then(if x5_1<(x4_1.length:Int) then(laws_FnCompleted.l0 k1 l0 (x4_1.set (x5_1:Int).toNat (-1)) (wrap64 (x5_1+1)) t5001 t5002) else(none)) else(none)) else(laws_FnCompleted.l0 k1 l0 x4_1 (wrap64 (x5_1+1)) t5001 t5002))=some true:=H
     have A11:=Za A110;clear A110
     by_cases c12:(Int.tmod t5009 2)=0
     ·rw[if_pos c12] at H
      have c12b0:((Int.tmod t5009 2) == 0)=true:=beq_iff_eq.mpr c12
      have c12b1:((Int.tmod t5009 2) != 0)=false:=bne_eq_false_iff_eq.mpr c12
      clear c12
      by_cases c13:0≤x5_1
      ·rw[if_pos c13] at H
       have c13b0:decide (0≤x5_1)=true:=Ze c13
       clear c13
       by_cases c14:x5_1<(x4_1.length:Int)
       ·rw[if_pos c14] at H
        have c14b0:decide (x5_1<(x4_1.length:Int))=true:=Ze c14
        clear c14
        obtain⟨y5010,hy5010⟩:∃y_:List Int,y_=(x4_1.set (x5_1:Int).toNat (-1)):=⟨_,rfl⟩
        replace H:(laws_FnCompleted.l0 k1 l0 y5010 (wrap64 (x5_1+1)) t5001 t5002)=some true:=by first|(rw[hy5010];with_reducible exact H)|(have H2_:=(Zi _ _).symm.trans H;rw[hy5010];with_reducible exact H2_)|(have H2_:=(Zi _ _).symm.trans H;with_reducible exact H2_)|with_reducible exact H|(rw[hy5010];exact H)|exact H
        have Ny5010:=Za hy5010;clear hy5010
        have H':=Za H
        clear H
        have hcz16_0:wr.cell? ⟨gb5005,0,none⟩=some (.int .i64 t5001):=(Zv BK5005.out 0).trans rfl
        have hcz16_1:wr.cell? ⟨gb5005,1,none⟩=some (.slice Ao8 t5002.length co8):=(Zv BK5005.out 1).trans rfl
        have hfz16_0:=Zu BK5005.out 0
        have hfz16_1:=Zu BK5005.out 1
        go_wp2_with (first|((with_reducible refine ZF (f:=14) rfl ?_);refine ZY (some 30) rfl rfl Try.func14 (by kernel_rfl) rfl #[.slice A0 l0.length c0,.int .i64 (wrap64 (50+x5_1))] rfl (by(try simp only[List.map_toArray,List.map_cons,List.map_nil]);first|done|rfl|(simp only[Zk,Zj];rfl)) ?_;(with_reducible refine(Za9.calls k1 _ _ l0 (wrap64 (50+x5_1)) t5009 _ ?side1 ?side2 A11.out).mono ?_);(case side1=>repeat(first|exact(Zb HR0.out HB.out)|(with_reducible refine Kd.C_alloc ?_ _)|(with_reducible refine Kd.C_drewN ?_ _)|(with_reducible refine Kd.C_drew ?_)));(case side2=>exact HC0.out);rintro e w17 ⟨rfl,hb⟩;refine⟨_,rfl,?_⟩;replace HO_4:=Za (Kd.R_below (by(with_reducible repeat(first|apply Kd.R_alloc|apply Kd.R_drewN|apply Kd.R_drew));exact HO_4.out) hb);replace HO_5006001:=Za (Kd.R_below (by(with_reducible repeat(first|apply Kd.R_alloc|apply Kd.R_drewN|apply Kd.R_drew));exact HO_5006001.out) hb);replace BK5005:=Za (Zy (g:=gb5005) (o:=.cells #[.int .i64 t5001,.slice Ao8 t5002.length co8] 31 (0,0)) (by(with_reducible repeat(first|refine Zo ?_ _|refine Zr ?_|refine Zn ?_ _));exact BK5005.out) hb);replace HB:=Za (Zx (by repeat(first|(with_reducible first|exact HB.out|apply Zq|apply Zm|apply Zs|refine Zp ?_ GE5005.out)|exact HB.out)) hb);(try clear hb);(try clear hb2);(try clear hk);(try clear hi);have p15:0≤(x5_1:Int):=Zd (by first|(with_reducible assumption)|assumption);have q15:(x5_1:Int)<((x4_1.length:Int):Int):=Zd (by first|(with_reducible assumption)|assumption);obtain⟨go15,co15,eo15,gb15,gl15,cl15,HG15⟩:=Kd.R_form HO_4.out (by omega);(first|cases eo15|(injection eo15 with ea_ en_ ec_;(first|subst ea_|(injection ea_ with ea_;subst ea_));subst ec_;clear en_));have GB15:=Za gb15;have GG15:=Za HG15;clear gb15 gl15 HG15;obtain⟨hx15_0,hf15_0⟩:=Kd.R_celln 0 HO_4.out (x5_1:Int) p15 q15;replace p15:=eq_true p15;replace q15:=eq_true q15;obtain⟨hy18_,hz18_⟩:=Kd.R_celln 0 HO_4.out (x5_1:Int) (Zd (by first|(with_reducible assumption)|assumption)) (Zd (by first|(with_reducible assumption)|assumption));have HP18:=Kd.R_putg HO_4.out (x5_1:Int) (-1))|((with_reducible refine gate_store (t:=3) (p:=35) rfl ?_);refine store_event (t:=3) (p:=35) (v:=?vo_w19) (w1:=(w17.setCell ⟨go15,(x5_1:Int).toNat,none⟩ (.int .i64 (-1)))) ?hg ?ho ?hn ?hr ?_;(case ho=>rfl);(case hg=>rfl);(case hn=>rfl);(case hr=>first|(go_simp;done)|(go_simp;rfl));intro w19 hw;have hg:w17.grownBy w19 (some go15):=(by rw[hw];exact HP18.2);have hp_:Kd.R (Kd.int .i64) 3 w19 w.heap.size (fun _=>True) (.slice (some ⟨go15,0,none⟩) x4_1.length co15) y5010:=(by rw[hw,Ny5010.out];exact HP18.1);clear HP18;replace HO_5006001:=Za (Kd.R_over' (v:=(.slice (some ⟨go15,0,none⟩) x4_1.length co15)) (by(with_reducible repeat(first|apply Kd.R_alloc|apply Kd.R_drewN|apply Kd.R_drew));exact HO_5006001.out) (Kd.R_typed HO_4.out) (by decide) hg);replace BK5005:=Za (Z0 (g:=gb5005) (o:=.cells #[.int .i64 t5001,.slice Ao8 t5002.length co8] 31 (0,0)) (by(with_reducible repeat(first|refine Zo ?_ _|refine Zr ?_|refine Zn ?_ _));exact BK5005.out) hg (Kd.R_ne HO_4.out BK5005.out (by decide)));replace HO_4:=Za (hp_);replace HB:=Za ((by rw[hw];exact Zp (HB.out) GB15.out:Below w.heap.size w w19));clear hg hw hp_))
        go_roundg k1
        case measure=>have:=HK1.out;omega
        case rel=>exact⟨(y5010),(wrap64 (x5_1+1)),(by first|rfl|(simp;done)|(simp[*];done)),H',⟨by have:=HK1.out;omega⟩,⟨by(with_reducible repeat(first|apply Kd.R_alloc|apply Kd.R_drewN|apply Kd.R_drew));exact HO_4.out⟩,⟨by(with_reducible repeat(first|apply Kd.R_alloc|apply Kd.R_drewN|apply Kd.R_drew));exact HO_5006001.out⟩,⟨by(with_reducible repeat(first|refine Zo ?_ _|refine Zr ?_|refine Zn ?_ _));exact BK5005.out⟩,⟨by repeat(first|(with_reducible first|exact HB.out|apply Zq|apply Zm|apply Zs|refine Zp ?_ GE5005.out)|exact HB.out)⟩⟩
       ·rw[if_neg c14] at H
        exact absurd H (by simp)
      ·rw[if_neg c13] at H
       exact absurd H (by simp)
     ·rw[if_neg c12] at H
      have c12b0:((Int.tmod t5009 2) == 0)=false:=beq_eq_false_iff_ne.mpr c12
      have c12b1:((Int.tmod t5009 2) != 0)=true:=bne_iff_ne.mpr c12
      have H':=Za H
      clear H
      have hcz20_0:wr.cell? ⟨gb5005,0,none⟩=some (.int .i64 t5001):=(Zv BK5005.out 0).trans rfl
      have hcz20_1:wr.cell? ⟨gb5005,1,none⟩=some (.slice Ao8 t5002.length co8):=(Zv BK5005.out 1).trans rfl
      have hfz20_0:=Zu BK5005.out 0
      have hfz20_1:=Zu BK5005.out 1
      go_wp2_with (first|((with_reducible refine ZF (f:=14) rfl ?_);refine ZY (some 30) rfl rfl Try.func14 (by kernel_rfl) rfl #[.slice A0 l0.length c0,.int .i64 (wrap64 (50+x5_1))] rfl (by(try simp only[List.map_toArray,List.map_cons,List.map_nil]);first|done|rfl|(simp only[Zk,Zj];rfl)) ?_;(with_reducible refine(Za9.calls k1 _ _ l0 (wrap64 (50+x5_1)) t5009 _ ?side1 ?side2 A11.out).mono ?_);(case side1=>repeat(first|exact(Zb HR0.out HB.out)|(with_reducible refine Kd.C_alloc ?_ _)|(with_reducible refine Kd.C_drewN ?_ _)|(with_reducible refine Kd.C_drew ?_)));(case side2=>exact HC0.out);rintro e w21 ⟨rfl,hb⟩;refine⟨_,rfl,?_⟩;replace HO_4:=Za (Kd.R_below (by(with_reducible repeat(first|apply Kd.R_alloc|apply Kd.R_drewN|apply Kd.R_drew));exact HO_4.out) hb);replace HO_5006001:=Za (Kd.R_below (by(with_reducible repeat(first|apply Kd.R_alloc|apply Kd.R_drewN|apply Kd.R_drew));exact HO_5006001.out) hb);replace BK5005:=Za (Zy (g:=gb5005) (o:=.cells #[.int .i64 t5001,.slice Ao8 t5002.length co8] 31 (0,0)) (by(with_reducible repeat(first|refine Zo ?_ _|refine Zr ?_|refine Zn ?_ _));exact BK5005.out) hb);replace HB:=Za (Zx (by repeat(first|(with_reducible first|exact HB.out|apply Zq|apply Zm|apply Zs|refine Zp ?_ GE5005.out)|exact HB.out)) hb);(try clear hb);(try clear hb2);(try clear hk);(try clear hi)))
      go_roundg k1
      case measure=>have:=HK1.out;omega
      case rel=>exact⟨(x4_1),(wrap64 (x5_1+1)),(by first|rfl|(simp;done)|(simp[*];done)),H',⟨by have:=HK1.out;omega⟩,⟨by(with_reducible repeat(first|apply Kd.R_alloc|apply Kd.R_drewN|apply Kd.R_drew));exact HO_4.out⟩,⟨by(with_reducible repeat(first|apply Kd.R_alloc|apply Kd.R_drewN|apply Kd.R_drew));exact HO_5006001.out⟩,⟨by(with_reducible repeat(first|refine Zo ?_ _|refine Zr ?_|refine Zn ?_ _));exact BK5005.out⟩,⟨by repeat(first|(with_reducible first|exact HB.out|apply Zq|apply Zm|apply Zs|refine Zp ?_ GE5005.out)|exact HB.out)⟩⟩
    ·rw[if_neg c10] at H
     have c10b0:decide (x5_1<t5001)=false:=Zf c10
     clear c10
     replace H:=Zh H
     obtain⟨⟨t5011,t5014⟩,A220,H⟩:=H
     replace H:(if t5014=true then(if (t5011.length:Int)=(x4_1.length:Int) then(laws_FnCompleted.l1 k1 x4_1 t5011 x4_1 (x4_1.length:Int) 0 t5001 t5002) else(some false)) else((ZaK.f k1 t5001 t5002 x4_1).bind fun t5015=>(if t5015=true then(some false) else((Zas.f t5001 t5002 x4_1).bind fun t5016=>(some t5016)))))=some true:=H
     have A22:=Za A220;clear A220
     by_cases c23:t5014=true
     ·subst c23
      have H1:(if (t5011.length:Int)=(x4_1.length:Int) then(laws_FnCompleted.l1 k1 x4_1 t5011 x4_1 (x4_1.length:Int) 0 t5001 t5002) else(some false))=some true:=by rw[if_pos rfl] at H;first|done|exact H
      clear H
      have H:=H1
      clear H1
      by_cases c24:(t5011.length:Int)=(x4_1.length:Int)
      ·rw[if_pos c24] at H
       have c24b0:((t5011.length:Int) == (x4_1.length:Int))=true:=beq_iff_eq.mpr c24
       have c24b1:((t5011.length:Int) != (x4_1.length:Int))=false:=bne_eq_false_iff_eq.mpr c24
       have c24b2:(t5011.length == x4_1.length)=true:=by first|simpa using c24|(simp at c24 ⊢;omega)
       clear c24
       have H':=Za H
       clear H
       have hcz25_0:wr.cell? ⟨gb5005,0,none⟩=some (.int .i64 t5001):=(Zv BK5005.out 0).trans rfl
       have hcz25_1:wr.cell? ⟨gb5005,1,none⟩=some (.slice Ao8 t5002.length co8):=(Zv BK5005.out 1).trans rfl
       have hfz25_0:=Zu BK5005.out 0
       have hfz25_1:=Zu BK5005.out 1
       obtain⟨Ao26,co26,eo26⟩:=Kd.R_slice HO_4.out
       subst eo26
       go_wp2_with (first|((with_reducible refine ZF (f:=23) rfl ?_);refine ZY (some 39) rfl rfl Try.func23 (by kernel_rfl) rfl #[.agg #[.int .i64 t5001,.slice Ao8 t5002.length co8],.slice Ao26 x4_1.length co26] rfl (by(try simp only[List.map_toArray,List.map_cons,List.map_nil]);first|done|rfl|(simp only[Zk,Zj];rfl)) ?_;(with_reducible refine(ZaQ.calls k1 t5001 _ _ t5002 _ _ x4_1 t5011 true _ ?side1 ?side2 ?side3 ?side4 A22.out).mono ?_);(case side1=>repeat(first|exact(Kd.R_reads' HO_5006001.out).2.2|(with_reducible refine Kd.C_alloc ?_ _)|(with_reducible refine Kd.C_drewN ?_ _)|(with_reducible refine Kd.C_drew ?_)));(case side2=>exact(Kd.R_reads' HO_5006001.out).2.1);(case side3=>repeat(first|exact(Kd.R_reads' HO_4.out).2.2|(with_reducible refine Kd.C_alloc ?_ _)|(with_reducible refine Kd.C_drewN ?_ _)|(with_reducible refine Kd.C_drew ?_)));(case side4=>exact(Kd.R_reads' HO_4.out).2.1);rintro e w27 ⟨v5012,rfl,ho0,hb⟩;refine⟨_,rfl,?_⟩;have HO5013:=Za (Kd.R_lower (Kd.R_new' ho0 (Kd.R_lt (by(with_reducible repeat(first|apply Kd.R_alloc|apply Kd.R_drewN|apply Kd.R_drew));exact HO_4.out))) (Zw (by repeat(first|(with_reducible first|exact HB.out|apply Zq|apply Zm|apply Zs|refine Zp ?_ GE5005.out)|exact HB.out))));replace HO_4:=Za (Kd.R_elder' (by(with_reducible repeat(first|apply Kd.R_alloc|apply Kd.R_drewN|apply Kd.R_drew));exact HO_4.out) (Kd.R_base ho0) hb);replace HO_5006001:=Za (Kd.R_below (by(with_reducible repeat(first|apply Kd.R_alloc|apply Kd.R_drewN|apply Kd.R_drew));exact HO_5006001.out) hb);replace BK5005:=Za (Zy (g:=gb5005) (o:=.cells #[.int .i64 t5001,.slice Ao8 t5002.length co8] 31 (0,0)) (by(with_reducible repeat(first|refine Zo ?_ _|refine Zr ?_|refine Zn ?_ _));exact BK5005.out) hb);replace HB:=Za (Zx (by repeat(first|(with_reducible first|exact HB.out|apply Zq|apply Zm|apply Zs|refine Zp ?_ GE5005.out)|exact HB.out)) hb);(try clear hb);(try clear hb2);(try clear hk);(try clear hi);(try clear ho0);obtain⟨Ao28,co28,eo28⟩:=Kd.R_slice HO5013.out;subst eo28))
       go_loopg [60] k1 (fun kq v60 w'=>∃(x60_2:Int),v60=.int .i64 x60_2∧Aside0 (laws_FnCompleted.l1 kq x4_1 t5011 x4_1 (x4_1.length:Int) x60_2 t5001 t5002=some true)∧Aside0 (kq≤k1)∧Aside0 (Kd.R (Kd.int .i64) 3 w' w.heap.size (fun k_=>some k_≠((.slice Ao28 t5011.length co28):Value).ownBlock) (.slice Ao26 x4_1.length co26) x4_1)∧Aside0 (Kd.R (Kd.int .i64) 3 w' w.heap.size (fun k_=>some k_≠((.slice Ao26 x4_1.length co26):Value).ownBlock∧some k_≠((.slice Ao26 x4_1.length co26):Value).ownBlock) (.slice Ao28 t5011.length co28) t5011)∧Aside0 (Kd.R (Kd.int .i64) 3 w' w.heap.size (fun k_=>some k_≠((.slice Ao28 t5011.length co28):Value).ownBlock) (.slice Ao26 x4_1.length co26) x4_1)∧Aside0 (Kd.R k84 84 w' w.heap.size (fun _=>True) (.slice Ao8 t5002.length co8) t5002)∧Aside0 (w'.heap[gb5005]? = some (.cells #[.int .i64 t5001,(.slice Ao8 t5002.length co8)] 31 (0,0)))∧Aside0 (Below w.heap.size w w'))
       case atStart=>exact⟨(0),(by first|rfl|(simp;done)|(simp[*];done)),H',⟨Nat.le_refl _⟩,⟨by(with_reducible repeat(first|apply Kd.R_alloc|apply Kd.R_drewN|apply Kd.R_drew));exact Kd.R_mono HO_4.out (fun _ hk=>hk.2)⟩,⟨by(with_reducible repeat(first|apply Kd.R_alloc|apply Kd.R_drewN|apply Kd.R_drew));exact Kd.R_mono HO5013.out (fun _ hk=>⟨hk.2,hk.2⟩)⟩,⟨by(with_reducible repeat(first|apply Kd.R_alloc|apply Kd.R_drewN|apply Kd.R_drew));exact Kd.R_mono HO_4.out (fun _ hk=>hk.2)⟩,⟨by(with_reducible repeat(first|apply Kd.R_alloc|apply Kd.R_drewN|apply Kd.R_drew));exact HO_5006001.out⟩,⟨by(with_reducible repeat(first|refine Zo ?_ _|refine Zr ?_|refine Zn ?_ _));exact BK5005.out⟩,⟨by repeat(first|(with_reducible first|exact HB.out|apply Zq|apply Zm|apply Zs|refine Zp ?_ GE5005.out)|exact HB.out)⟩⟩
       case round=>
        clear H'
        try clear c1
        try clear p1
        try clear q1
        try clear hx1
        try clear hf1
        try clear c2
        try clear c2b0
        try clear c2b1
        try clear p2
        try clear c5
        try clear p6
        try clear c10
        try clear c10b0
        try clear c12
        try clear c12b0
        try clear c12b1
        try clear c13
        try clear c13b0
        try clear c14
        try clear c14b0
        try clear p15
        try clear q15
        try clear hx15
        try clear hf15
        try clear c22
        try clear c23
        try clear c24
        try clear c24b0
        try clear c24b1
        try clear c24b2
        try clear hcz16_0
        try clear hcz16_1
        try clear hcz20_0
        try clear hcz20_1
        try clear hcz25_0
        try clear hcz25_1
        try clear hcz7_0
        try clear hcz7_1
        try clear hfz16_0
        try clear hfz16_1
        try clear hfz20_0
        try clear hfz20_1
        try clear hfz25_0
        try clear hfz25_1
        try clear hfz7_0
        try clear hfz7_1
        try clear hx15_0
        try clear p15
        try clear p2
        try clear q15
        obtain⟨x60_2,rfl,HA,HK2,HO_4,HO_6,HO_58,HO_5006001,BK5005,HB⟩:=hrel
        cases gk with
        | zero=>exact absurd HA.out (by simp[laws_FnCompleted.l1])
        | succ k2=>
         have H:=HA.out
         clear HA
         simp only[laws_FnCompleted.l1] at H
         by_cases c29:x60_2<(x4_1.length:Int)
         ·rw[if_pos c29] at H
          have c29b0:decide (x60_2<(x4_1.length:Int))=true:=Ze c29
          clear c29
          by_cases c30:0≤x60_2
          ·rw[if_pos c30] at H
           have c30b0:decide (0≤x60_2)=true:=Ze c30
           clear c30
           by_cases c31:x60_2<(x4_1.length:Int)
           ·rw[if_pos c31] at H
            have c31b0:decide (x60_2<(x4_1.length:Int))=true:=Ze c31
            clear c31
            by_cases c32:(rd x4_1 x60_2)=(-1)
            ·rw[if_pos c32] at H
             have c32b0:((rd x4_1 x60_2) == (-1))=true:=beq_iff_eq.mpr c32
             have c32b1:((rd x4_1 x60_2) != (-1))=false:=bne_eq_false_iff_eq.mpr c32
             clear c32
             have H':=Za H
             clear H
             have p5017:0≤(x60_2:Int):=Zd (by first|(with_reducible assumption)|assumption)
             have q5017:x60_2<(x4_1.length:Int):=Zd (by first|(with_reducible assumption)|assumption)
             obtain⟨ad5017,e5017,hx5017_0⟩:=Kd.at_int (Kd.R_reads' HO_58.out).2.2 x60_2 p5017 q5017
             cases e5017
             replace p5017:=eq_true p5017
             replace q5017:=eq_true q5017
             go_wp2
             go_roundg k2
             case measure=>have:=HK1.out;have:=HK2.out;omega
             case rel=>exact⟨(wrap64 (x60_2+1)),(by first|rfl|(simp;done)|(simp[*];done)),H',⟨by have:=HK1.out;have:=HK2.out;omega⟩,⟨by(with_reducible repeat(first|apply Kd.R_alloc|apply Kd.R_drewN|apply Kd.R_drew));exact HO_4.out⟩,⟨by(with_reducible repeat(first|apply Kd.R_alloc|apply Kd.R_drewN|apply Kd.R_drew));exact HO_6.out⟩,⟨by(with_reducible repeat(first|apply Kd.R_alloc|apply Kd.R_drewN|apply Kd.R_drew));exact HO_58.out⟩,⟨by(with_reducible repeat(first|apply Kd.R_alloc|apply Kd.R_drewN|apply Kd.R_drew));exact HO_5006001.out⟩,⟨by(with_reducible repeat(first|refine Zo ?_ _|refine Zr ?_|refine Zn ?_ _));exact BK5005.out⟩,⟨by repeat(first|(with_reducible first|exact HB.out|apply Zq|apply Zm|apply Zs|refine Zp ?_ GE5005.out)|exact HB.out)⟩⟩
            ·rw[if_neg c32] at H
             have c32b0:((rd x4_1 x60_2) == (-1))=false:=beq_eq_false_iff_ne.mpr c32
             have c32b1:((rd x4_1 x60_2) != (-1))=true:=bne_iff_ne.mpr c32
             by_cases c33:x60_2<(t5011.length:Int)
             ·rw[if_pos c33] at H
              have c33b0:decide (x60_2<(t5011.length:Int))=true:=Ze c33
              clear c33
              by_cases c34:(rd t5011 x60_2)=(rd x4_1 x60_2)
              ·rw[if_pos c34] at H
               have c34b0:((rd t5011 x60_2) == (rd x4_1 x60_2))=true:=beq_iff_eq.mpr c34
               have c34b1:((rd t5011 x60_2) != (rd x4_1 x60_2))=false:=bne_eq_false_iff_eq.mpr c34
               clear c34
               have H':=Za H
               clear H
               have p5017:0≤(x60_2:Int):=Zd (by first|(with_reducible assumption)|assumption)
               have q5017:x60_2<(x4_1.length:Int):=Zd (by first|(with_reducible assumption)|assumption)
               obtain⟨ad5017,e5017,hx5017_0⟩:=Kd.at_int (Kd.R_reads' HO_58.out).2.2 x60_2 p5017 q5017
               cases e5017
               replace p5017:=eq_true p5017
               replace q5017:=eq_true q5017
               have p5018:0≤(x60_2:Int):=Zd (by first|(with_reducible assumption)|assumption)
               have q5018:x60_2<(t5011.length:Int):=Zd (by first|(with_reducible assumption)|assumption)
               obtain⟨ad5018,e5018,hx5018_0⟩:=Kd.at_int (Kd.R_reads' HO_6.out).2.2 x60_2 p5018 q5018
               cases e5018
               replace p5018:=eq_true p5018
               replace q5018:=eq_true q5018
               go_wp2
               go_roundg k2
               case measure=>have:=HK1.out;have:=HK2.out;omega
               case rel=>exact⟨(wrap64 (x60_2+1)),(by first|rfl|(simp;done)|(simp[*];done)),H',⟨by have:=HK1.out;have:=HK2.out;omega⟩,⟨by(with_reducible repeat(first|apply Kd.R_alloc|apply Kd.R_drewN|apply Kd.R_drew));exact HO_4.out⟩,⟨by(with_reducible repeat(first|apply Kd.R_alloc|apply Kd.R_drewN|apply Kd.R_drew));exact HO_6.out⟩,⟨by(with_reducible repeat(first|apply Kd.R_alloc|apply Kd.R_drewN|apply Kd.R_drew));exact HO_58.out⟩,⟨by(with_reducible repeat(first|apply Kd.R_alloc|apply Kd.R_drewN|apply Kd.R_drew));exact HO_5006001.out⟩,⟨by(with_reducible repeat(first|refine Zo ?_ _|refine Zr ?_|refine Zn ?_ _));exact BK5005.out⟩,⟨by repeat(first|(with_reducible first|exact HB.out|apply Zq|apply Zm|apply Zs|refine Zp ?_ GE5005.out)|exact HB.out)⟩⟩
              ·rw[if_neg c34] at H
               have c34b0:((rd t5011 x60_2) == (rd x4_1 x60_2))=false:=beq_eq_false_iff_ne.mpr c34
               have c34b1:((rd t5011 x60_2) != (rd x4_1 x60_2))=true:=bne_iff_ne.mpr c34
               exact absurd H (by simp)
             ·rw[if_neg c33] at H
              exact absurd H (by simp)
           ·rw[if_neg c31] at H
            exact absurd H (by simp)
          ·rw[if_neg c30] at H
           exact absurd H (by simp)
         ·rw[if_neg c29] at H
          have c29b0:decide (x60_2<(x4_1.length:Int))=false:=Zf c29
          clear c29
          replace H:=Zh H
          obtain⟨⟨t5019,t5020,t5021⟩,A350,H⟩:=H
          replace H:((ZaX.f t5001 t5002 t5011).bind fun t5023=>(if t5023=true then(if t5021=true then(if 0≤(wrap64 (t5001 - 1)) then(if (wrap64 (t5001 - 1))<(t5011.length:Int) then((Zat.f t5019 t5020 (rd t5011 (wrap64 (t5001 - 1)))).bind fun t5025=>(some t5025)) else(none)) else(none)) else(some false)) else(some false)))=some true:=H
          have A35:=Za A350;clear A350
          replace H:=Zh H
          obtain⟨t5023,A360,H⟩:=H
          replace H:(if t5023=true then(if t5021=true then(if 0≤(wrap64 (t5001 - 1)) then(if (wrap64 (t5001 - 1))<(t5011.length:Int) then((Zat.f t5019 t5020 (rd t5011 (wrap64 (t5001 - 1)))).bind fun t5025=>(some t5025)) else(none)) else(none)) else(some false)) else(some false))=some true:=H
          have A36:=Za A360;clear A360
          by_cases c37:t5023=true
          ·subst c37
           have H1:(if t5021=true then(if 0≤(wrap64 (t5001 - 1)) then(if (wrap64 (t5001 - 1))<(t5011.length:Int) then((Zat.f t5019 t5020 (rd t5011 (wrap64 (t5001 - 1)))).bind fun t5025=>(some t5025)) else(none)) else(none)) else(some false))=some true:=by rw[if_pos rfl] at H;first|done|exact H
           clear H
           have H:=H1
           clear H1
           by_cases c38:t5021=true
           ·subst c38
            have H1:(if 0≤(wrap64 (t5001 - 1)) then(if (wrap64 (t5001 - 1))<(t5011.length:Int) then((Zat.f t5019 t5020 (rd t5011 (wrap64 (t5001 - 1)))).bind fun t5025=>(some t5025)) else(none)) else(none))=some true:=by rw[if_pos rfl] at H;first|done|exact H
            clear H
            have H:=H1
            clear H1
            obtain⟨ji39,hji39⟩:∃j_:Int,(wrap64 (t5001 - 1))=j_:=⟨_,rfl⟩
            replace H:(if 0≤(ji39) then(if (ji39)<(t5011.length:Int) then((Zat.f t5019 t5020 (rd t5011 (ji39))).bind fun t5025=>(some t5025)) else(none)) else(none))=some true:=by first|(rw[hji39] at H;exact H)|(simp only[hji39] at H ⊢;exact H)
            (try rw[hji39] at A35)
            (try rw[hji39] at A36)
            have hji39w:(IntKind.i64.wrap (t5001 - 1))=ji39:=(ZQ _).trans hji39
            by_cases c40:0≤(ji39)
            ·rw[if_pos c40] at H
             have c40b0:decide (0≤(ji39))=true:=Ze c40
             clear c40
             by_cases c41:(ji39)<(t5011.length:Int)
             ·rw[if_pos c41] at H
              have c41b0:decide ((ji39)<(t5011.length:Int))=true:=Ze c41
              clear c41
              replace H:=Zh H
              obtain⟨t5025,A420,H⟩:=H
              replace H:(some t5025)=some true:=H
              have A42:=Za A420;clear A420
              obtain rfl:=Zg H
              have hcz43_0:wr.cell? ⟨gb5005,0,none⟩=some (.int .i64 t5001):=(Zv BK5005.out 0).trans rfl
              have hcz43_1:wr.cell? ⟨gb5005,1,none⟩=some (.slice Ao8 t5002.length co8):=(Zv BK5005.out 1).trans rfl
              have hfz43_0:=Zu BK5005.out 0
              have hfz43_1:=Zu BK5005.out 1
              try go_wp2_with (first|((with_reducible refine ZF (f:=25) rfl ?_);refine ZY (some 82) rfl rfl Try.func25 (by kernel_rfl) rfl #[.agg #[.int .i64 t5001,.slice Ao8 t5002.length co8],.slice Ao26 x4_1.length co26,.int .i64 ji39] rfl (by(try simp only[List.map_toArray,List.map_cons,List.map_nil]);first|done|(simp only[hji39];rfl)|rfl|(simp only[Zk,Zj];rfl)) ?_;(with_reducible refine(Zax.calls k2 t5001 _ _ t5002 _ _ x4_1 ji39 t5019 t5020 true _ ?side1 ?side2 ?side3 ?side4 A35.out).mono ?_);(case side1=>repeat(first|exact(Kd.R_reads' HO_5006001.out).2.2|(with_reducible refine Kd.C_alloc ?_ _)|(with_reducible refine Kd.C_drewN ?_ _)|(with_reducible refine Kd.C_drew ?_)));(case side2=>exact(Kd.R_reads' HO_5006001.out).2.1);(case side3=>repeat(first|exact(Kd.R_reads' HO_4.out).2.2|(with_reducible refine Kd.C_alloc ?_ _)|(with_reducible refine Kd.C_drewN ?_ _)|(with_reducible refine Kd.C_drew ?_)));(case side4=>exact(Kd.R_reads' HO_4.out).2.1);rintro e w44 ⟨rfl,hb⟩;refine⟨_,rfl,?_⟩;replace HO_4:=Za (Kd.R_below (by(with_reducible repeat(first|apply Kd.R_alloc|apply Kd.R_drewN|apply Kd.R_drew));exact HO_4.out) hb);replace HO_6:=Za (Kd.R_below (by(with_reducible repeat(first|apply Kd.R_alloc|apply Kd.R_drewN|apply Kd.R_drew));exact HO_6.out) hb);replace HO_58:=Za (Kd.R_below (by(with_reducible repeat(first|apply Kd.R_alloc|apply Kd.R_drewN|apply Kd.R_drew));exact HO_58.out) hb);replace HO_5006001:=Za (Kd.R_below (by(with_reducible repeat(first|apply Kd.R_alloc|apply Kd.R_drewN|apply Kd.R_drew));exact HO_5006001.out) hb);replace BK5005:=Za (Zy (g:=gb5005) (o:=.cells #[.int .i64 t5001,.slice Ao8 t5002.length co8] 31 (0,0)) (by(with_reducible repeat(first|refine Zo ?_ _|refine Zr ?_|refine Zn ?_ _));exact BK5005.out) hb);replace HB:=Za (Zx (by repeat(first|(with_reducible first|exact HB.out|apply Zq|apply Zm|apply Zs|refine Zp ?_ GE5005.out)|exact HB.out)) hb);(try clear hb);(try clear hb2);(try clear hk);(try clear hi))|((with_reducible refine ZM (N:=10) rfl ?_);refine ZK ?hg (N:=10) ?hd (cs:=#[.int .i64 0,.int .i64 0]) (t:=35) ?hr ?_;(case hd=>rfl);(case hg=>rfl);(case hr=>first|(go_simp;done)|(go_simp;rfl));intro gb5022 hg w45 hbox hb;have BK5022:=Za (hbox);have GW5022:=Za ((by rw[hg];exact(Zw (by repeat(first|(with_reducible first|exact HB.out|apply Zq|apply Zm|apply Zs|refine Zp ?_ GE5005.out)|exact HB.out))):w.heap.size≤gb5022));have GE5022:=Za ((by rw[hg];exact(Zw (by repeat(first|(with_reducible first|exact HB.out|apply Zq|apply Zm|apply Zs|refine Zp ?_ GE5005.out)|exact HB.out))):w.heap.size≤gb5022));have NB5005_5022:=Za ((by rw[hg];exact Nat.ne_of_lt (ZH (g:=gb5005) (o:=.cells #[.int .i64 t5001,.slice Ao8 t5002.length co8] 31 (0,0)) (by(with_reducible repeat(first|refine Zo ?_ _|refine Zr ?_|refine Zn ?_ _));exact BK5005.out)):gb5005≠gb5022));have NB5022_5005:=Za ((by rw[hg];exact Nat.ne_of_gt (ZH (g:=gb5005) (o:=.cells #[.int .i64 t5001,.slice Ao8 t5002.length co8] 31 (0,0)) (by(with_reducible repeat(first|refine Zo ?_ _|refine Zr ?_|refine Zn ?_ _));exact BK5005.out)):gb5022≠gb5005));replace HO_4:=Za (Kd.R_below (by(with_reducible repeat(first|apply Kd.R_alloc|apply Kd.R_drewN|apply Kd.R_drew));exact HO_4.out) hb);replace HO_6:=Za (Kd.R_below (by(with_reducible repeat(first|apply Kd.R_alloc|apply Kd.R_drewN|apply Kd.R_drew));exact HO_6.out) hb);replace HO_58:=Za (Kd.R_below (by(with_reducible repeat(first|apply Kd.R_alloc|apply Kd.R_drewN|apply Kd.R_drew));exact HO_58.out) hb);replace HO_5006001:=Za (Kd.R_below (by(with_reducible repeat(first|apply Kd.R_alloc|apply Kd.R_drewN|apply Kd.R_drew));exact HO_5006001.out) hb);replace BK5005:=Za (Zy (g:=gb5005) (o:=.cells #[.int .i64 t5001,.slice Ao8 t5002.length co8] 31 (0,0)) (by(with_reducible repeat(first|refine Zo ?_ _|refine Zr ?_|refine Zn ?_ _));exact BK5005.out) hb);replace HB:=Za (Zx (by repeat(first|(with_reducible first|exact HB.out|apply Zq|apply Zm|apply Zs|refine Zp ?_ GE5005.out)|exact HB.out)) hb);clear hb hbox hg;have hnb46:=NB5022_5005.out;have hnc46:=NB5005_5022.out;have hcz47_0:w45.cell? ⟨gb5022,0,none⟩=some (.int .i64 0):=(Zv BK5022.out 0).trans rfl;have hcz47_1:w45.cell? ⟨gb5022,1,none⟩=some (.int .i64 0):=(Zv BK5022.out 1).trans rfl;have hfz47_0:=Zu BK5022.out 0;have hfz47_1:=Zu BK5022.out 1))
              have n0_:Aside0 (Kd.R (Kd.int .i64) 3 ((w45.setCell ⟨gb5022,0,none⟩ (.int .i64 t5019)).setCell ⟨gb5022,1,none⟩ (.int .i64 t5020)) w.heap.size (fun k_=>some k_≠(.slice Ao28 t5011.length co28:Value).ownBlock) (.slice Ao26 x4_1.length co26) x4_1):=⟨by(with_reducible repeat(first|apply Kd.R_alloc|apply Kd.R_drewN|apply Kd.R_drew));exact Kd.R_mono (Kd.R_far (p:=⟨gb5022,1,none⟩) (Kd.R_far (p:=⟨gb5022,0,none⟩) (Kd.R_types HO_4.out BK5022.out (by decide)) (fun _ hk=>hk.2) (.int .i64 t5019)) (fun _ hk=>hk.2) (.int .i64 t5020)) (fun _ hk=>hk.1)⟩
              have n1_:Aside0 (Kd.R (Kd.int .i64) 3 ((w45.setCell ⟨gb5022,0,none⟩ (.int .i64 t5019)).setCell ⟨gb5022,1,none⟩ (.int .i64 t5020)) w.heap.size (fun k_=>some k_≠(.slice Ao26 x4_1.length co26:Value).ownBlock∧some k_≠(.slice Ao26 x4_1.length co26:Value).ownBlock) (.slice Ao28 t5011.length co28) t5011):=⟨by(with_reducible repeat(first|apply Kd.R_alloc|apply Kd.R_drewN|apply Kd.R_drew));exact Kd.R_mono (Kd.R_far (p:=⟨gb5022,1,none⟩) (Kd.R_far (p:=⟨gb5022,0,none⟩) (Kd.R_types HO_6.out BK5022.out (by decide)) (fun _ hk=>hk.2) (.int .i64 t5019)) (fun _ hk=>hk.2) (.int .i64 t5020)) (fun _ hk=>⟨hk.1.1,hk.1.2⟩)⟩
              have n2_:Aside0 (Kd.R (Kd.int .i64) 3 ((w45.setCell ⟨gb5022,0,none⟩ (.int .i64 t5019)).setCell ⟨gb5022,1,none⟩ (.int .i64 t5020)) w.heap.size (fun k_=>some k_≠(.slice Ao28 t5011.length co28:Value).ownBlock) (.slice Ao26 x4_1.length co26) x4_1):=⟨by(with_reducible repeat(first|apply Kd.R_alloc|apply Kd.R_drewN|apply Kd.R_drew));exact Kd.R_mono (Kd.R_far (p:=⟨gb5022,1,none⟩) (Kd.R_far (p:=⟨gb5022,0,none⟩) (Kd.R_types HO_58.out BK5022.out (by decide)) (fun _ hk=>hk.2) (.int .i64 t5019)) (fun _ hk=>hk.2) (.int .i64 t5020)) (fun _ hk=>hk.1)⟩
              have n3_:Aside0 (Kd.R k84 84 ((w45.setCell ⟨gb5022,0,none⟩ (.int .i64 t5019)).setCell ⟨gb5022,1,none⟩ (.int .i64 t5020)) w.heap.size (fun _=>True) (.slice Ao8 t5002.length co8) t5002):=⟨by(with_reducible repeat(first|apply Kd.R_alloc|apply Kd.R_drewN|apply Kd.R_drew));exact Kd.R_mono (Kd.R_far (p:=⟨gb5022,1,none⟩) (Kd.R_far (p:=⟨gb5022,0,none⟩) (Kd.R_types HO_5006001.out BK5022.out (by decide)) (fun _ hk=>hk.2) (.int .i64 t5019)) (fun _ hk=>hk.2) (.int .i64 t5020)) (fun _ hk=>trivial)⟩
              have n4_:Aside0 (((w45.setCell ⟨gb5022,0,none⟩ (.int .i64 t5019)).setCell ⟨gb5022,1,none⟩ (.int .i64 t5020)).heap[gb5005]? = some (.cells #[.int .i64 t5001,.slice Ao8 t5002.length co8] 31 (0,0))):=⟨by(with_reducible repeat(first|refine Zo ?_ _|refine Zr ?_|refine Zn ?_ _));refine ZD ?_ NB5005_5022.out _;(with_reducible repeat(first|refine Zo ?_ _|refine Zr ?_|refine Zn ?_ _));refine ZD ?_ NB5005_5022.out _;(with_reducible repeat(first|refine Zo ?_ _|refine Zr ?_|refine Zn ?_ _));exact BK5005.out⟩
              have n5_:Aside0 (((w45.setCell ⟨gb5022,0,none⟩ (.int .i64 t5019)).setCell ⟨gb5022,1,none⟩ (.int .i64 t5020)).heap[gb5022]? = some (.cells #[.int .i64 t5019,.int .i64 t5020] 35 (0,0))):=⟨by(with_reducible repeat(first|refine Zo ?_ _|refine Zr ?_|refine Zn ?_ _));refine ZL (cs:=#[.int .i64 t5019,.int .i64 0]) ?_ 1 _ rfl;(with_reducible repeat(first|refine Zo ?_ _|refine Zr ?_|refine Zn ?_ _));refine ZL (cs:=#[.int .i64 0,.int .i64 0]) ?_ 0 _ rfl;(with_reducible repeat(first|refine Zo ?_ _|refine Zr ?_|refine Zn ?_ _));exact BK5022.out⟩
              have n6_:Aside0 (Below w.heap.size w ((w45.setCell ⟨gb5022,0,none⟩ (.int .i64 t5019)).setCell ⟨gb5022,1,none⟩ (.int .i64 t5020))):=⟨by repeat(first|(with_reducible first|exact HB.out|apply Zq|apply Zm|apply Zs|refine Zp ?_ GE5005.out|refine Zp ?_ GE5022.out)|exact HB.out)⟩
              (try clear HO_4)
              (try clear HO_6)
              (try clear HO_58)
              (try clear HO_5006001)
              (try clear BK5005)
              (try clear BK5022)
              (try clear HB)
              generalize ((w45.setCell ⟨gb5022,0,none⟩ (.int .i64 t5019)).setCell ⟨gb5022,1,none⟩ (.int .i64 t5020))=w48 at n0_ n1_ n2_ n3_ n4_ n5_ n6_ ⊢
              have HO_4:=n0_;have HO_6:=n1_;have HO_58:=n2_;have HO_5006001:=n3_;have BK5005:=n4_;have BK5022:=n5_;have HB:=n6_;clear n0_ n1_ n2_ n3_ n4_ n5_ n6_
              replace HO_4:=Za (Kd.R_drew HO_4.out);replace HO_6:=Za (Kd.R_drew HO_6.out);replace HO_58:=Za (Kd.R_drew HO_58.out);replace HO_5006001:=Za (Kd.R_drew HO_5006001.out);replace BK5005:=Za (Zr BK5005.out);replace BK5022:=Za (Zr BK5022.out);replace HB:=Za (Zs HB.out)
              have p5024:0≤((ji39):Int):=Zd (by first|(with_reducible assumption)|assumption)
              have q5024:(ji39)<(t5011.length:Int):=Zd (by first|(with_reducible assumption)|assumption)
              obtain⟨ad5024,e5024,hx5024_0⟩:=Kd.at_int (Kd.R_reads' HO_6.out).2.2 (ji39) p5024 q5024
              cases e5024
              replace p5024:=eq_true p5024
              replace q5024:=eq_true q5024
              refine ZbL (n:=17) (S:=fun w'=>w'.cell? ⟨gb5005,0,none⟩=some (.int .i64 t5001)∧w'.cell? ⟨gb5005,1,none⟩=some (.slice Ao8 t5002.length co8)∧w'.cell? ⟨gb5022,0,none⟩=some (.int .i64 t5019)∧w'.cell? ⟨gb5022,1,none⟩=some (.int .i64 t5020)∧w'.cell? (ad5024.add ((ji39)).toNat)=some (.int .i64 (rd t5011 (ji39)))) (ds:=[]) #[false,false,false,false,false,false,false,false,false,false,false,false,false,false,false,false,false] (by kernel_rfl) rfl rfl ⟨(Zv BK5005.out 0).trans rfl,(Zv BK5005.out 1).trans rfl,(Zv BK5022.out 0).trans rfl,(Zv BK5022.out 1).trans rfl,hx5024_0⟩ (fun hHeld=>?_);refine Zby laws_FnCompleted.tab22 laws_FnCompleted.bits22 (fun HT_ HW_=>?_)
              generalize w48.drew=w49 at HO_4 HO_6 HO_58 HO_5006001 BK5005 BK5022 HB hx5024_0 hHeld ⊢
              refine Z7 (i:=1) (N:=some 86) (v:=?_) (a':=?_) #[false,true,false,false,false,false,false,false,false,false,false,false,false,false,false,false,false] rfl rfl (Z6 HT_.out (by kernel_rfl)) (fun _ _ _ h=>h) (Or.inl ⟨by rfl,?_⟩) ?_ ?_
              rotate_left
              ·intro w'
               go_simp
               with_reducible rfl
              rotate_left
              ·simp only[Act.put,List.setIfInBounds_toArray,List.set_cons_zero,List.set_cons_succ,ZQ,ZR]
               rfl
              refine take_ (i:=0) (N:=some 85) (v:=?_) (a':=?_) #[true,true,false,false,false,false,false,false,false,false,false,false,false,false,false,false,false] rfl rfl (ZaU HT_.out HW_.out (by kernel_rfl)) (fun _ _ _ h=>h) (Or.inl ⟨by rfl,?_⟩) hHeld ?_ ?_
              rotate_left
              ·rintro w' ⟨s0,s1,s2,s3,s4⟩
               go_simp
               with_reducible rfl
              rotate_left
              ·simp only[Act.put,List.setIfInBounds_toArray,List.set_cons_zero,List.set_cons_succ,ZQ,ZR]
               rfl
              refine one_ (i:=2) (N:=some 87) #[true,true,true,false,false,false,false,false,false,false,false,false,false,false,false,false,false] rfl rfl (ZaI HT_.out (by kernel_rfl)) (by decide) (fun K hK=>?_)
              refine Zbh Try.func26 (by kernel_rfl) rfl #[.agg #[.int .i64 t5001,.slice Ao8 t5002.length co8],.slice (some ad5024) t5011.length co28] (by rfl) rfl rfl (by(try simp only[List.map_toArray,List.map_cons,List.map_nil]);first|done|rfl|(simp only[Zk,Zj];rfl)) ?_
              with_reducible refine(ZaX.calls t5001 _ _ t5002 _ _ t5011 true _ ?side1 ?side2 ?side3 ?side4 A36.out).mono ?_
              (case side1=>repeat(first|exact(Kd.R_reads' HO_5006001.out).2.2|(with_reducible refine Kd.C_alloc ?_ _)|(with_reducible refine Kd.C_drewN ?_ _)|(with_reducible refine Kd.C_drew ?_)))
              (case side2=>exact(Kd.R_reads' HO_5006001.out).2.1)
              (case side3=>repeat(first|exact(Kd.R_reads' HO_6.out).2.2|(with_reducible refine Kd.C_alloc ?_ _)|(with_reducible refine Kd.C_drewN ?_ _)|(with_reducible refine Kd.C_drew ?_)))
              (case side4=>exact(Kd.R_reads' HO_6.out).2.1)
              rintro e w50 ⟨rfl,hb⟩
              have HS4_:=(hb.cell (Zc _ _ (hHeld.2.2.2.2))).trans (hHeld.2.2.2.2)
              refine⟨_,rfl,?_⟩
              replace HO_4:=Za (Kd.R_below (by(with_reducible repeat(first|apply Kd.R_alloc|apply Kd.R_drewN|apply Kd.R_drew));exact HO_4.out) hb);replace HO_6:=Za (Kd.R_below (by(with_reducible repeat(first|apply Kd.R_alloc|apply Kd.R_drewN|apply Kd.R_drew));exact HO_6.out) hb);replace HO_58:=Za (Kd.R_below (by(with_reducible repeat(first|apply Kd.R_alloc|apply Kd.R_drewN|apply Kd.R_drew));exact HO_58.out) hb);replace HO_5006001:=Za (Kd.R_below (by(with_reducible repeat(first|apply Kd.R_alloc|apply Kd.R_drewN|apply Kd.R_drew));exact HO_5006001.out) hb);replace BK5005:=Za (Zy (g:=gb5005) (o:=.cells #[.int .i64 t5001,.slice Ao8 t5002.length co8] 31 (0,0)) (by(with_reducible repeat(first|refine Zo ?_ _|refine Zr ?_|refine Zn ?_ _));exact BK5005.out) hb);replace BK5022:=Za (Zy (g:=gb5022) (o:=.cells #[.int .i64 t5019,.int .i64 t5020] 35 (0,0)) (by(with_reducible repeat(first|refine Zo ?_ _|refine Zr ?_|refine Zn ?_ _));exact BK5022.out) hb);replace HB:=Za (Zx (by repeat(first|(with_reducible first|exact HB.out|apply Zq|apply Zm|apply Zs|refine Zp ?_ GE5005.out|refine Zp ?_ GE5022.out)|exact HB.out)) hb)
              (try clear hb)
              (try clear hb2)
              (try clear hk)
              (try clear hi)
              refine hK.out _ _ ⟨(Zv BK5005.out 0).trans rfl,(Zv BK5005.out 1).trans rfl,(Zv BK5022.out 0).trans rfl,(Zv BK5022.out 1).trans rfl,HS4_⟩ (fun hHeld=>?_)
              clear hK K
              refine Zau (a':=?_) ?_ ?_
              rotate_left
              ·show Act.put _ (some 87) _=_
               simp only[Act.put,List.setIfInBounds_toArray,List.set_cons_zero,List.set_cons_succ,ZQ,ZR]
               rfl
              refine Z7 (i:=3) (N:=some 88) (v:=?_) (a':=?_) #[true,true,true,true,false,false,false,false,false,false,false,false,false,false,false,false,false] rfl rfl (Z6 HT_.out (by kernel_rfl)) (fun _ _ _ h=>h) (Or.inl ⟨by rfl,?_⟩) ?_ ?_
              rotate_left
              ·intro w'
               go_simp
               with_reducible rfl
              rotate_left
              ·simp only[Act.put,List.setIfInBounds_toArray,List.set_cons_zero,List.set_cons_succ,ZQ,ZR]
               rfl
              refine Z7 (i:=4) (N:=some 89) (v:=?_) (a':=?_) #[true,true,true,true,true,false,false,false,false,false,false,false,false,false,false,false,false] rfl rfl (Z6 HT_.out (by kernel_rfl)) (fun _ _ _ h=>h) (Or.inl ⟨by rfl,?_⟩) ?_ ?_
              rotate_left
              ·intro w'
               go_simp
               with_reducible rfl
              rotate_left
              ·simp only[Act.put,List.setIfInBounds_toArray,List.set_cons_zero,List.set_cons_succ,ZQ,ZR]
               rfl
              refine Z7 (i:=5) (N:=some 90) (v:=?_) (a':=?_) #[true,true,true,true,true,true,false,false,false,false,false,false,false,false,false,false,false] rfl rfl (Z6 HT_.out (by kernel_rfl)) (fun _ _ _ h=>h) (Or.inl ⟨by rfl,?_⟩) ?_ ?_
              rotate_left
              ·intro w'
               go_simp
               with_reducible rfl
              rotate_left
              ·simp only[Act.put,List.setIfInBounds_toArray,List.set_cons_zero,List.set_cons_succ,ZQ,ZR]
               rfl
              refine Z7 (i:=6) (N:=some 91) (v:=?_) (a':=?_) #[true,true,true,true,true,true,true,false,false,false,false,false,false,false,false,false,false] rfl rfl (Z6 HT_.out (by kernel_rfl)) (fun _ _ _ h=>h) (Or.inl ⟨by rfl,?_⟩) ?_ ?_
              rotate_left
              ·intro w'
               go_simp
               with_reducible rfl
              rotate_left
              ·simp only[Act.put,List.setIfInBounds_toArray,List.set_cons_zero,List.set_cons_succ,ZQ,ZR]
               rfl
              refine Z7 (i:=8) (N:=some 93) (v:=?_) (a':=?_) #[true,true,true,true,true,true,true,false,true,false,false,false,false,false,false,false,false] rfl rfl (Z6 HT_.out (by kernel_rfl)) (fun _ _ _ h=>h) (Or.inl ⟨by rfl,?_⟩) ?_ ?_
              rotate_left
              ·intro w'
               go_simp
               with_reducible rfl
              rotate_left
              ·simp only[Act.put,List.setIfInBounds_toArray,List.set_cons_zero,List.set_cons_succ,ZQ,ZR]
               rfl
              refine Z7 (i:=9) (N:=some 94) (v:=?_) (a':=?_) #[true,true,true,true,true,true,true,false,true,true,false,false,false,false,false,false,false] rfl rfl (Z6 HT_.out (by kernel_rfl)) (fun _ _ _ h=>h) (Or.inl ⟨by rfl,?_⟩) ?_ ?_
              rotate_left
              ·intro w'
               go_simp
               with_reducible rfl
              rotate_left
              ·simp only[Act.put,List.setIfInBounds_toArray,List.set_cons_zero,List.set_cons_succ,ZQ,ZR]
               rfl
              refine take_ (i:=7) (N:=some 92) (v:=?_) (a':=?_) #[true,true,true,true,true,true,true,true,true,true,false,false,false,false,false,false,false] rfl rfl (ZaU HT_.out HW_.out (by kernel_rfl)) (fun _ _ _ h=>h) (Or.inl ⟨by rfl,?_⟩) hHeld ?_ ?_
              rotate_left
              ·rintro w' ⟨s0,s1,s2,s3,s4⟩
               go_simp
               with_reducible rfl
              rotate_left
              ·simp only[Act.put,List.setIfInBounds_toArray,List.set_cons_zero,List.set_cons_succ,ZQ,ZR]
               rfl
              refine take_ (i:=10) (N:=some 95) (v:=?_) (a':=?_) #[true,true,true,true,true,true,true,true,true,true,true,false,false,false,false,false,false] rfl rfl (ZaU HT_.out HW_.out (by kernel_rfl)) (fun _ _ _ h=>h) (Or.inl ⟨by rfl,?_⟩) hHeld ?_ ?_
              rotate_left
              ·rintro w' ⟨s0,s1,s2,s3,s4⟩
               go_simp
               with_reducible rfl
              rotate_left
              ·simp only[Act.put,List.setIfInBounds_toArray,List.set_cons_zero,List.set_cons_succ,ZQ,ZR]
               rfl
              refine Z7 (i:=11) (N:=some 96) (v:=?_) (a':=?_) #[true,true,true,true,true,true,true,true,true,true,true,true,false,false,false,false,false] rfl rfl (Z6 HT_.out (by kernel_rfl)) (fun _ _ _ h=>h) (Or.inl ⟨by rfl,?_⟩) ?_ ?_
              rotate_left
              ·intro w'
               go_simp
               with_reducible rfl
              rotate_left
              ·simp only[Act.put,List.setIfInBounds_toArray,List.set_cons_zero,List.set_cons_succ,ZQ,ZR]
               rfl
              refine Z7 (i:=12) (N:=some 97) (v:=?_) (a':=?_) #[true,true,true,true,true,true,true,true,true,true,true,true,true,false,false,false,false] rfl rfl (Z6 HT_.out (by kernel_rfl)) (fun _ _ _ h=>h) (Or.inl ⟨by rfl,?_⟩) ?_ ?_
              rotate_left
              ·intro w'
               go_simp
               with_reducible rfl
              rotate_left
              ·simp only[Act.put,List.setIfInBounds_toArray,List.set_cons_zero,List.set_cons_succ,ZQ,ZR]
               rfl
              refine take_ (i:=13) (N:=some 98) (v:=?_) (a':=?_) #[true,true,true,true,true,true,true,true,true,true,true,true,true,true,false,false,false] rfl rfl (ZaU HT_.out HW_.out (by kernel_rfl)) (fun _ _ _ h=>h) (Or.inl ⟨by rfl,?_⟩) hHeld ?_ ?_
              rotate_left
              ·rintro w' ⟨s0,s1,s2,s3,s4⟩
               go_simp
               with_reducible rfl
              rotate_left
              ·simp only[Act.put,List.setIfInBounds_toArray,List.set_cons_zero,List.set_cons_succ,ZQ,ZR]
               rfl
              refine one_ (i:=14) (N:=some 99) #[true,true,true,true,true,true,true,true,true,true,true,true,true,true,true,false,false] rfl rfl (ZaI HT_.out (by kernel_rfl)) (by decide) (fun K hK=>?_)
              refine Zbh Try.func20 (by kernel_rfl) rfl #[.agg #[.int .i64 t5019,.int .i64 t5020],.int .i64 (rd t5011 (ji39))] (by rfl) rfl rfl (by(try simp only[List.map_toArray,List.map_cons,List.map_nil]);first|done|(simp only[hji39];rfl)|rfl|(simp only[Zk,Zj];rfl)) ?_
              with_reducible refine(Zat.calls t5019 t5020 (rd t5011 (ji39)) true _ A42.out).mono ?_
              rintro e w51 ⟨rfl,hb⟩
              have HS4_:=(hb.cell (Zc _ _ (hHeld.2.2.2.2))).trans (hHeld.2.2.2.2)
              refine⟨_,rfl,?_⟩
              replace HO_4:=Za (Kd.R_below (by(with_reducible repeat(first|apply Kd.R_alloc|apply Kd.R_drewN|apply Kd.R_drew));exact HO_4.out) hb);replace HO_6:=Za (Kd.R_below (by(with_reducible repeat(first|apply Kd.R_alloc|apply Kd.R_drewN|apply Kd.R_drew));exact HO_6.out) hb);replace HO_58:=Za (Kd.R_below (by(with_reducible repeat(first|apply Kd.R_alloc|apply Kd.R_drewN|apply Kd.R_drew));exact HO_58.out) hb);replace HO_5006001:=Za (Kd.R_below (by(with_reducible repeat(first|apply Kd.R_alloc|apply Kd.R_drewN|apply Kd.R_drew));exact HO_5006001.out) hb);replace BK5005:=Za (Zy (g:=gb5005) (o:=.cells #[.int .i64 t5001,.slice Ao8 t5002.length co8] 31 (0,0)) (by(with_reducible repeat(first|refine Zo ?_ _|refine Zr ?_|refine Zn ?_ _));exact BK5005.out) hb);replace BK5022:=Za (Zy (g:=gb5022) (o:=.cells #[.int .i64 t5019,.int .i64 t5020] 35 (0,0)) (by(with_reducible repeat(first|refine Zo ?_ _|refine Zr ?_|refine Zn ?_ _));exact BK5022.out) hb);replace HB:=Za (Zx (by repeat(first|(with_reducible first|exact HB.out|apply Zq|apply Zm|apply Zs|refine Zp ?_ GE5005.out|refine Zp ?_ GE5022.out)|exact HB.out)) hb)
              (try clear hb)
              (try clear hb2)
              (try clear hk)
              (try clear hi)
              refine hK.out _ _ ⟨(Zv BK5005.out 0).trans rfl,(Zv BK5005.out 1).trans rfl,(Zv BK5022.out 0).trans rfl,(Zv BK5022.out 1).trans rfl,HS4_⟩ (fun hHeld=>?_)
              clear hK K
              refine Zau (a':=?_) ?_ ?_
              rotate_left
              ·show Act.put _ (some 99) _=_
               simp only[Act.put,List.setIfInBounds_toArray,List.set_cons_zero,List.set_cons_succ,ZQ,ZR]
               rfl
              refine Z7 (i:=15) (N:=some 100) (v:=?_) (a':=?_) #[true,true,true,true,true,true,true,true,true,true,true,true,true,true,true,true,false] rfl rfl (Z6 HT_.out (by kernel_rfl)) (fun _ _ _ h=>h) (Or.inl ⟨by rfl,?_⟩) ?_ ?_
              rotate_left
              ·intro w'
               go_simp
               with_reducible rfl
              rotate_left
              ·simp only[Act.put,List.setIfInBounds_toArray,List.set_cons_zero,List.set_cons_succ,ZQ,ZR]
               rfl
              refine Z7 (i:=16) (N:=some 2) (v:=?_) (a':=?_) #[true,true,true,true,true,true,true,true,true,true,true,true,true,true,true,true,true] rfl rfl (Z6 HT_.out (by kernel_rfl)) (fun _ _ _ h=>h) (Or.inl ⟨by rfl,?_⟩) ?_ ?_
              rotate_left
              ·intro w'
               go_simp
               with_reducible rfl
              rotate_left
              ·simp only[Act.put,List.setIfInBounds_toArray,List.set_cons_zero,List.set_cons_succ,ZQ,ZR]
               rfl
              refine Zb5 (ZbT HT_.out (by kernel_rfl)) ?_
              try go_wp2
              go_ret
              exact⟨by first|rfl|(simp[ZC,ZB] <;> rfl)|(simp only[← hji39];first|rfl|(simp[ZC,ZB] <;> rfl))|(simp[*,ZC,ZB] <;> rfl),by repeat(first|(with_reducible first|exact HB.out|apply Zq|apply Zm|apply Zs|refine Zp ?_ GE5005.out|refine Zp ?_ GE5022.out)|exact HB.out)⟩
             ·rw[if_neg c41] at H
              exact absurd H (by simp)
            ·rw[if_neg c40] at H
             exact absurd H (by simp)
           ·replace c38:=Bool.eq_false_iff.mpr c38
            subst c38
            have H1:(some false)=some true:=by rw[if_neg (show ¬(false=true) by decide)] at H;first|done|exact H
            clear H
            have H:=H1
            clear H1
            exact absurd H (by simp)
          ·replace c37:=Bool.eq_false_iff.mpr c37
           subst c37
           have H1:(some false)=some true:=by rw[if_neg (show ¬(false=true) by decide)] at H;first|done|exact H
           clear H
           have H:=H1
           clear H1
           exact absurd H (by simp)
      ·rw[if_neg c24] at H
       have c24b0:((t5011.length:Int) == (x4_1.length:Int))=false:=beq_eq_false_iff_ne.mpr c24
       have c24b1:((t5011.length:Int) != (x4_1.length:Int))=true:=bne_iff_ne.mpr c24
       have c24b2:(t5011.length == x4_1.length)=false:=by first|simpa using c24|(simp at c24 ⊢;omega)
       exact absurd H (by simp)
     ·replace c23:=Bool.eq_false_iff.mpr c23
      subst c23
      have H1:((ZaK.f k1 t5001 t5002 x4_1).bind fun t5015=>(if t5015=true then(some false) else((Zas.f t5001 t5002 x4_1).bind fun t5016=>(some t5016))))=some true:=by rw[if_neg (show ¬(false=true) by decide)] at H;first|done|exact H
      clear H
      have H:=H1
      clear H1
      replace H:=Zh H
      obtain⟨t5015,A520,H⟩:=H
      replace H:(if t5015=true then(some false) else((Zas.f t5001 t5002 x4_1).bind fun t5016=>(some t5016)))=some true:=H
      have A52:=Za A520;clear A520
      by_cases c53:t5015=true
      ·subst c53
       exact absurd H (by simp)
      ·replace c53:=Bool.eq_false_iff.mpr c53
       subst c53
       have H1:((Zas.f t5001 t5002 x4_1).bind fun t5016=>(some t5016))=some true:=by rw[if_neg (show ¬(false=true) by decide)] at H;first|done|exact H
       clear H
       have H:=H1
       clear H1
       replace H:=Zh H
       obtain⟨t5016,A540,H⟩:=H
       replace H:(some t5016)=some true:=H
       have A54:=Za A540;clear A540
       obtain rfl:=Zg H
       have hcz55_0:wr.cell? ⟨gb5005,0,none⟩=some (.int .i64 t5001):=(Zv BK5005.out 0).trans rfl
       have hcz55_1:wr.cell? ⟨gb5005,1,none⟩=some (.slice Ao8 t5002.length co8):=(Zv BK5005.out 1).trans rfl
       have hfz55_0:=Zu BK5005.out 0
       have hfz55_1:=Zu BK5005.out 1
       obtain⟨Ao56,co56,eo56⟩:=Kd.R_slice HO_4.out
       subst eo56
       go_wp2_with (first|((with_reducible refine ZF (f:=23) rfl ?_);refine ZY (some 39) rfl rfl Try.func23 (by kernel_rfl) rfl #[.agg #[.int .i64 t5001,.slice Ao8 t5002.length co8],.slice Ao56 x4_1.length co56] rfl (by(try simp only[List.map_toArray,List.map_cons,List.map_nil]);first|done|rfl|(simp only[Zk,Zj];rfl)) ?_;(with_reducible refine(ZaQ.calls k1 t5001 _ _ t5002 _ _ x4_1 t5011 false _ ?side1 ?side2 ?side3 ?side4 A22.out).mono ?_);(case side1=>repeat(first|exact(Kd.R_reads' HO_5006001.out).2.2|(with_reducible refine Kd.C_alloc ?_ _)|(with_reducible refine Kd.C_drewN ?_ _)|(with_reducible refine Kd.C_drew ?_)));(case side2=>exact(Kd.R_reads' HO_5006001.out).2.1);(case side3=>repeat(first|exact(Kd.R_reads' HO_4.out).2.2|(with_reducible refine Kd.C_alloc ?_ _)|(with_reducible refine Kd.C_drewN ?_ _)|(with_reducible refine Kd.C_drew ?_)));(case side4=>exact(Kd.R_reads' HO_4.out).2.1);rintro e w57 ⟨v5012,rfl,ho0,hb⟩;refine⟨_,rfl,?_⟩;have HO5013:=Za (Kd.R_lower (Kd.R_new' ho0 (Kd.R_lt (by(with_reducible repeat(first|apply Kd.R_alloc|apply Kd.R_drewN|apply Kd.R_drew));exact HO_4.out))) (Zw (by repeat(first|(with_reducible first|exact HB.out|apply Zq|apply Zm|apply Zs|refine Zp ?_ GE5005.out)|exact HB.out))));replace HO_4:=Za (Kd.R_elder' (by(with_reducible repeat(first|apply Kd.R_alloc|apply Kd.R_drewN|apply Kd.R_drew));exact HO_4.out) (Kd.R_base ho0) hb);replace HO_5006001:=Za (Kd.R_below (by(with_reducible repeat(first|apply Kd.R_alloc|apply Kd.R_drewN|apply Kd.R_drew));exact HO_5006001.out) hb);replace BK5005:=Za (Zy (g:=gb5005) (o:=.cells #[.int .i64 t5001,.slice Ao8 t5002.length co8] 31 (0,0)) (by(with_reducible repeat(first|refine Zo ?_ _|refine Zr ?_|refine Zn ?_ _));exact BK5005.out) hb);replace HB:=Za (Zx (by repeat(first|(with_reducible first|exact HB.out|apply Zq|apply Zm|apply Zs|refine Zp ?_ GE5005.out)|exact HB.out)) hb);(try clear hb);(try clear hb2);(try clear hk);(try clear hi);(try clear ho0);have hcz58_0:w57.cell? ⟨gb5005,0,none⟩=some (.int .i64 t5001):=(Zv BK5005.out 0).trans rfl;have hcz58_1:w57.cell? ⟨gb5005,1,none⟩=some (.slice Ao8 t5002.length co8):=(Zv BK5005.out 1).trans rfl;have hfz58_0:=Zu BK5005.out 0;have hfz58_1:=Zu BK5005.out 1)|((with_reducible refine ZF (f:=19) rfl ?_);refine ZY (some 46) rfl rfl Try.func19 (by kernel_rfl) rfl #[.agg #[.int .i64 t5001,.slice Ao8 t5002.length co8],.slice Ao56 x4_1.length co56] rfl (by(try simp only[List.map_toArray,List.map_cons,List.map_nil]);first|done|rfl|(simp only[Zk,Zj];rfl)) ?_;(with_reducible refine(ZaK.calls k1 t5001 _ _ t5002 _ _ x4_1 false _ ?side1 ?side2 ?side3 ?side4 A52.out).mono ?_);(case side1=>repeat(first|exact(Kd.R_reads' HO_5006001.out).2.2|(with_reducible refine Kd.C_alloc ?_ _)|(with_reducible refine Kd.C_drewN ?_ _)|(with_reducible refine Kd.C_drew ?_)));(case side2=>exact(Kd.R_reads' HO_5006001.out).2.1);(case side3=>repeat(first|exact(Kd.R_reads' HO_4.out).2.2|(with_reducible refine Kd.C_alloc ?_ _)|(with_reducible refine Kd.C_drewN ?_ _)|(with_reducible refine Kd.C_drew ?_)));(case side4=>exact(Kd.R_reads' HO_4.out).2.1);rintro e w59 ⟨rfl,hb⟩;refine⟨_,rfl,?_⟩;replace HO_4:=Za (Kd.R_below (by(with_reducible repeat(first|apply Kd.R_alloc|apply Kd.R_drewN|apply Kd.R_drew));exact HO_4.out) hb);replace HO_5006001:=Za (Kd.R_below (by(with_reducible repeat(first|apply Kd.R_alloc|apply Kd.R_drewN|apply Kd.R_drew));exact HO_5006001.out) hb);replace HO5013:=Za (Kd.R_below (by(with_reducible repeat(first|apply Kd.R_alloc|apply Kd.R_drewN|apply Kd.R_drew));exact HO5013.out) hb);replace BK5005:=Za (Zy (g:=gb5005) (o:=.cells #[.int .i64 t5001,.slice Ao8 t5002.length co8] 31 (0,0)) (by(with_reducible repeat(first|refine Zo ?_ _|refine Zr ?_|refine Zn ?_ _));exact BK5005.out) hb);replace HB:=Za (Zx (by repeat(first|(with_reducible first|exact HB.out|apply Zq|apply Zm|apply Zs|refine Zp ?_ GE5005.out)|exact HB.out)) hb);(try clear hb);(try clear hb2);(try clear hk);(try clear hi);have hcz60_0:w59.cell? ⟨gb5005,0,none⟩=some (.int .i64 t5001):=(Zv BK5005.out 0).trans rfl;have hcz60_1:w59.cell? ⟨gb5005,1,none⟩=some (.slice Ao8 t5002.length co8):=(Zv BK5005.out 1).trans rfl;have hfz60_0:=Zu BK5005.out 0;have hfz60_1:=Zu BK5005.out 1)|(go_at_call 24;(with_reducible refine(Zas.calls t5001 _ _ t5002 _ _ x4_1 true _ ?side1 ?side2 ?side3 ?side4 A54.out).mono ?_);(case side1=>repeat(first|exact(Kd.R_reads' HO_5006001.out).2.2|(with_reducible refine Kd.C_alloc ?_ _)|(with_reducible refine Kd.C_drewN ?_ _)|(with_reducible refine Kd.C_drew ?_)));(case side2=>exact(Kd.R_reads' HO_5006001.out).2.1);(case side3=>repeat(first|exact(Kd.R_reads' HO_4.out).2.2|(with_reducible refine Kd.C_alloc ?_ _)|(with_reducible refine Kd.C_drewN ?_ _)|(with_reducible refine Kd.C_drew ?_)));(case side4=>exact(Kd.R_reads' HO_4.out).2.1);rintro e w61 ⟨rfl,hb⟩;replace HO_4:=Za (Kd.R_below (by(with_reducible repeat(first|apply Kd.R_alloc|apply Kd.R_drewN|apply Kd.R_drew));exact HO_4.out) hb);replace HO_5006001:=Za (Kd.R_below (by(with_reducible repeat(first|apply Kd.R_alloc|apply Kd.R_drewN|apply Kd.R_drew));exact HO_5006001.out) hb);replace HO5013:=Za (Kd.R_below (by(with_reducible repeat(first|apply Kd.R_alloc|apply Kd.R_drewN|apply Kd.R_drew));exact HO5013.out) hb);replace BK5005:=Za (Zy (g:=gb5005) (o:=.cells #[.int .i64 t5001,.slice Ao8 t5002.length co8] 31 (0,0)) (by(with_reducible repeat(first|refine Zo ?_ _|refine Zr ?_|refine Zn ?_ _));exact BK5005.out) hb);replace HB:=Za (Zx (by repeat(first|(with_reducible first|exact HB.out|apply Zq|apply Zm|apply Zs|refine Zp ?_ GE5005.out)|exact HB.out)) hb);(try clear hb);(try clear hb2);(try clear hk);(try clear hi)))
       go_ret
       exact⟨by first|rfl|(simp[ZC,ZB] <;> rfl)|(simp[*,ZC,ZB] <;> rfl),by repeat(first|(with_reducible first|exact HB.out|apply Zq|apply Zm|apply Zs|refine Zp ?_ GE5005.out)|exact HB.out)⟩
def laws_FnCompleted.Pure:Prop:=∀(y0:List Int),(fun l_:List Int=>l_.length≤maxLen∧∀x_∈l_,(fun n_:Int=>(Lit.int .u8 n_).wf=true) x_) y0→∃k,laws_FnCompleted.f k y0=some true
end Go.Proofs.Ythphnhmabieflab.Pr
set_option linter.unusedSimpArgs false
namespace Go.Proofs.Ythphnhmabieflab.Pure
open Go.RowKit Go.Proofs.Ythphnhmabieflab.Pr Go.Proofs.Ythphnhmabieflab.Ni Go.Proofs.YthphnhmabieflabW.PrintWords Go.Proofs.YthphnhmabieflabW.PrintMore
theorem Zdl {lo hi:Int} (h:ZbF lo hi=true) (x:Int):Zat.f lo hi x=some (decide ((lo=-1000000∨lo≤x)∧(hi=1000000∨x≤hi))):=by
 unfold Zat.f
 rw[ivOk_f,h,Zi,if_pos rfl]
 by_cases c1:lo=-1000000
 ·rw[if_pos c1]
  by_cases c2:hi=1000000
  ·rw[if_pos c2,Ze (by omega)]
  ·rw[if_neg c2];congr 1;rw[Bool.eq_iff_iff,decide_eq_true_eq,decide_eq_true_eq];omega
 ·rw[if_neg c1]
  by_cases c3:x≥lo
  ·rw[if_pos c3]
   by_cases c2:hi=1000000
   ·rw[if_pos c2,Ze (by omega)]
   ·rw[if_neg c2];congr 1;rw[Bool.eq_iff_iff,decide_eq_true_eq,decide_eq_true_eq];omega
  ·rw[if_neg c3,Zf (by omega)]
theorem sched {n:Nat} {L:List Zaf} {c:List Int} (hs:Zac (n:Int) L=true) (hw:ZaR L) (hc:c.length=n) (h0:c.getD 0 0=0) (h1:1≤n) (hb:∀x∈c,-1≤x∧x≤900) (hne:∀j,j<n→c.getD j 0≠-1) (hq:∃q,Feas (Z3 (L ++ fixL 0 c)) q):ZaX.f (n:Int) L c=some true:=by
 obtain⟨q,hq⟩:=hq
 have hqL:=(ZbZ (fun x hx=>by have:=hb x hx;omega)).1 hq
 have hat:∀j,j<n→q j=q 0+c.getD j 0:=fun j hj=>by
  by_cases e:j=0
  ·subst e;omega
  ·exact hqL.2 j (by omega) (by omega) (hne j hj)
 have hd:daysB (n:Int) L c=true:=by
  unfold daysB
  rw[hs,Ze (by omega),Bool.true_and,Bool.true_and,Bool.not_eq_true',List.any_eq_false]
  intro x hx
  have:=hb x hx
  simp[dayB];omega
 obtain⟨_,_,_,hok⟩:=ZbC hs
 have hlink:∀x∈L,ZZ.ok c x=true∧ZZ.p c x=false:=fun x hx=>by
  have h1:=hok x hx
  unfold ZaS inN at h1
  simp only[Bool.and_eq_true,decide_eq_true_eq] at h1
  obtain⟨⟨a0,a1⟩,⟨b0,b1⟩,hiv⟩:=h1
  obtain⟨a,ha⟩:=Int.eq_ofNat_of_zero_le a0
  obtain⟨b,hbb⟩:=Int.eq_ofNat_of_zero_le b0
  have ea:=hat a (by omega)
  have eb:=hat b (by omega)
  have ma:=hb _ (ZbH (show a<c.length by omega) 0)
  have mb:=hb _ (ZbH (show b<c.length by omega) 0)
  have hsx:=hw x hx
  have hlo:x.f2.f0=-1000000∨x.f2.f0≤c.getD b 0 - c.getD a 0:=by
   by_cases e:x.f2.f0=-1000000
   ·exact .inl e
   ·have:=hqL.1 ⟨x.f1,x.f0,wrap64 (-x.f2.f0)⟩ (Zb4 L x hx _ (by unfold Zbl;rw[List.mem_append];exact .inr (by rw[if_neg e];simp)))
    dsimp only at this
    rw[Zal (by omega) (by omega),ha,hbb,Int.toNat_natCast,Int.toNat_natCast] at this
    omega
  have hhi:x.f2.f1=1000000∨c.getD b 0 - c.getD a 0≤x.f2.f1:=by
   by_cases e:x.f2.f1=1000000
   ·exact .inl e
   ·have:=hqL.1 ⟨x.f0,x.f1,x.f2.f1⟩ (Zb4 L x hx _ (by unfold Zbl;rw[List.mem_append];exact .inl (by rw[if_neg e];simp)))
    dsimp only at this
    rw[ha,hbb,Int.toNat_natCast,Int.toNat_natCast] at this
    omega
  have e:Zat.f x.f2.f0 x.f2.f1 (wrap64 (rd c x.f1 - rd c x.f0))=some true:=by
   rw[ha,hbb,Za3,Za3,Zal (by omega) (by omega),Zdl hiv,Ze ⟨hlo,hhi⟩]
  unfold ZZ.ok ZZ.p
  rw[e]
  simp;omega
 have hbr:ZZ.f (n:Int) L c=some (-1):=by
  unfold ZZ.f
  rw[if_pos hd,if_pos (List.all_eq_true.2 fun x hx=>(hlink x hx).1)]
  rw[Zb2 _ _ (fun j y _ hy=>(hlink y (List.mem_of_getElem? hy)).2)]
 unfold ZaX.f ZaJ.f
 rw[hd,Zi,if_pos rfl,if_pos (by omega),show rd c 0=c.getD 0 0 from rfl,h0,if_pos rfl,hbr,Zi]
 rfl
def Inv (n:Nat) (t:List Int):Prop:=t.length=n∧t.getD 0 0=0∧∀x∈t,-1≤x∧x≤5
theorem tail_l1 {n:Nat} {L:List Zaf} {t c:List Int} (h1:2≤n) (h5:n≤5) (l7:L.length≤7) (hs:Zac (n:Int) L=true) (hw:ZaR L) (ht:Inv n t) (hc:c.length=n) (h0:c.getD 0 0=0) (hb:∀x∈c,-1≤x∧x≤900) (hne:∀j,j<n→c.getD j 0≠-1) (hex:∀j,j<n→t.getD j 0≠-1→c.getD j 0=t.getD j 0) (hq:∃q,Feas (Z3 (L ++ fixL 0 c)) q) (k:Nat) (hk:2 ^ 69+10≤k) :
  laws_FnCompleted.l1 k t c t (t.length:Int) 0 (n:Int) L=some true:=by
 obtain⟨t1,t2,t3⟩:=ht
 have key:=Zcm t.length (fun k i=>laws_FnCompleted.l1 k t c t (t.length:Int) (i:Int) (n:Int) L=some true) (2 ^ 69)
  (fun k hk=>by
   simp only[laws_FnCompleted.l1]
   rw[if_neg (by omega),Zal (i:=(n:Int) - 1) (by omega) (by omega),show(n:Int) - 1=((n - 1:Nat):Int) by omega]
   obtain⟨q,hq'⟩:=hq
   have hqc:=(ZbZ (fun x hx=>by have:=hb x hx;omega)).1 hq'
   have htb:∀x∈t,-1≤x∧x<1000000:=fun x hx=>by have:=t3 x hx;omega
   have hqt:Feas (Z3 (L ++ fixL 0 t)) q:=(ZbZ htb).2 ⟨hqc.1,fun j hj hp hn=>by rw[← hex j (by omega) hn];exact hqc.2 j (by omega) hp (hne j (by omega))⟩
   have hfx:=fix_ok hs (show L.length≤32 by omega) t1 t2 htb
   have hsf:=Zcv hfx
   have hwf:ZaR (L ++ fixL 0 t):=fun y hy=>(List.mem_append.1 hy).elim (hw y) (Zb3 t 0 (fun x hx=>by have:=t3 x hx;omega) y)
   have hco:=(Zcc hsf hwf).2 ⟨q,hqt⟩
   obtain⟨lo,hi2,hwo,hiv,hwin⟩:=winOf (e:=n - 1) hco hwf (by omega) k (by omega)
   have hx:=(hwin (c.getD (n - 1) 0)).2 ⟨q,hqt,hqc.2 (n - 1) (by omega) (by omega) (hne _ (by omega))⟩
   have hnt:Zax.f k (n:Int) L t ((n - 1:Nat):Int)=some (lo,hi2,true):=by
    unfold Zax.f
    rw[Zbx (n:Int) L t (by omega) (by omega) k (by omega),hfx,Zi]
    simp only[if_true]
    rw[Zbv _ _ k (by omega),hco,Zi]
    simp only[if_true]
    rw[hwo];rfl
   rw[hnt,Zi,sched hs hw hc h0 (by omega) hb hne ⟨q,hq'⟩,Zi]
   simp only[if_true]
   rw[if_pos (by omega),if_pos (by omega),Za3,Zdl hiv,Ze hx,Zi])
  (fun k i hk hi ih=>by
   simp only[laws_FnCompleted.l1]
   rw[if_pos (by omega),if_pos (by omega),if_pos (by omega),Zbf hi (by omega),Za3,Za3]
   by_cases e:t.getD i 0=-1
   ·rw[if_pos e];exact ih
   ·rw[if_neg e,if_pos (by omega),if_pos (hex i (by omega) e)];exact ih) 0 k (Nat.zero_le _) (by omega)
 simpa using key
theorem tail_l0 {b:List Int} (hbl:b.length≤1048576) {n:Nat} {L:List Zaf} (h1:2≤n) (h5:n≤5) (l7:L.length≤7) (hs:Zac (n:Int) L=true) (hw:ZaR L) (hB:ZbQ n L) (hT:tightL L):∀(d i:Nat) (t:List Int) (k:Nat),i+d=n→1≤i→Inv n t→2 ^ 69+100+d≤k →
  laws_FnCompleted.l0 k b t (i:Int) (n:Int) L=some true:=by
 intro d
 induction d with
 | zero=>
  intro i t k hi h1i ht hk
  obtain⟨m,rfl⟩:∃m,k=m+1:=⟨k - 1,by omega⟩
  obtain⟨t1,t2,t3⟩:=ht
  have htb:∀x∈t,-1≤x∧x<1000000:=fun x hx=>by have:=t3 x hx;omega
  have hfx:=fix_ok hs (show L.length≤32 by omega) t1 t2 htb
  have hsf:=Zcv hfx
  have hwf:ZaR (L ++ fixL 0 t):=fun y hy=>(List.mem_append.1 hy).elim (hw y) (Zb3 t 0 (fun x hx=>by have:=t3 x hx;omega) y)
  have hce:ZaK.f m (n:Int) L t=some (ZbX (n:Int) (L ++ fixL 0 t)):=by
   unfold ZaK.f
   rw[Zbx (n:Int) L t (by omega) (by omega) m (by omega),hfx,Zi]
   simp only[if_true]
   rw[Zbv _ _ m (by omega),Zi]
  simp only[laws_FnCompleted.l0]
  rw[if_neg (by omega)]
  unfold ZaQ.f
  rw[if_pos (by omega),hce,Zi]
  cases hco:ZbX (n:Int) (L ++ fixL 0 t) with
  | false=>
   simp only[Bool.false_eq_true,if_false,Zi]
   rw[Zcb,Zi]
   unfold Zb1
   rw[hs,Ze (by omega),t2,Bool.true_and,Bool.true_and]
   congr 1
   simp only[decide_true,Bool.true_and,Bool.not_eq_true',List.any_eq_false]
   intro x hx
   have:=htb x hx
   simp[Zbu];omega
  | true=>
   rw[if_pos rfl,if_pos (by omega)]
   obtain⟨c,g1,g2,g3,g4,g5,g6,g7⟩:=compl_go h5 (by omega) l7 hs hw hB hT m (by omega) n 0 t 5 (by omega) t1 t2 t3 (by omega) (by omega) (fun j hj=>absurd hj (by omega)) ((Zcc hsf hwf).1 hco)
   rw[t1,g1,Zi]
   simp only[if_true]
   rw[if_pos (by omega),← t1]
   rw[t1]
   have:=tail_l1 h1 h5 l7 hs hw ⟨t1,t2,t3⟩ g2 g3 g4 g5 g6 g7 m (by omega)
   rw[t1] at this
   exact this
 | succ d ih=>
  intro i t k hi h1i ht hk
  obtain⟨m,rfl⟩:∃m,k=m+1:=⟨k - 1,by omega⟩
  obtain⟨t1,t2,t3⟩:=ht
  simp only[laws_FnCompleted.l0]
  obtain⟨x,e,_,_⟩:=num_f hbl (50+(i:Int)) (by omega) m (by omega)
  rw[if_pos (by omega),Zal (i:=50+(i:Int)) (by omega) (by omega),e,Zi,Zbf (n:=n) (by omega) (by omega),Int.toNat_natCast]
  by_cases c:Int.tmod x 2=0
  ·rw[if_pos c,if_pos (by omega),if_pos (by omega)]
   exact ih (i+1) _ m (by omega) (by omega) ⟨by rw[List.length_set];exact t1,by rw[Pr.getD_set_ne (by omega)];exact t2,fun y hy=>by
    rcases List.mem_or_eq_of_mem_set hy with hy|hy
    ·exact t3 y hy
    ·subst hy;omega⟩ (by omega)
  ·rw[if_neg c]
   exact ih (i+1) t m (by omega) (by omega) ⟨t1,t2,t3⟩ (by omega)
theorem FnCompleted:laws_FnCompleted.Pure:=by
 rintro b ⟨_,_⟩
 refine⟨2 ^ 70,?_⟩
 unfold laws_FnCompleted.f
 by_cases h:(b.length:Int) > 1048576
 ·rw[if_pos h]
 rw[if_neg h]
 have hb:b.length≤1048576:=by omega
 obtain⟨n,L,e1,n2,n5,l7,hs,hw,hB,hT⟩:=simple_f hb (2 ^ 70) (by omega)
 obtain⟨t,e2,t1,t2,t3⟩:=times_f hb 40 (by omega) (n:=n) (by omega) (by omega) (2 ^ 70) (by omega)
 rw[e1,Zi]
 simp only
 rw[e2,Zi]
 exact tail_l0 hb n2 n5 l7 hs hw hB hT (n - 1) 1 t (2 ^ 70) (by omega) (Nat.le_refl _) ⟨t1,t3,fun x hx=>by have:=t2 x hx;omega⟩ (by omega)
end Go.Proofs.Ythphnhmabieflab.Pure
