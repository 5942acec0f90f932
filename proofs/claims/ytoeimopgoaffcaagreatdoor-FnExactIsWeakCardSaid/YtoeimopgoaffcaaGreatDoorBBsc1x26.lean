/- The texts of one claim, put together by a program of this session. -/
import Derived.WalkSpells
import Derived.Shelf.Strings.OnBuilder
import Derived.Shelf.Small.Strs
import Derived.Shelf.LaysM
import Derived.Shelf.Strconv.Itoa3
import Derived.Shelf.Strings.Split
import Derived.Test.YtoeimopgoaffcaaGreatDoorProg
import Derived.Test.YtoeimopgoaffcaaGreatDoorBBsc1x1
import Derived.Test.YtoeimopgoaffcaaGreatDoorBBsc1x13
import Derived.Test.YtoeimopgoaffcaaGreatDoorBBsc1x15
import Derived.Test.YtoeimopgoaffcaaGreatDoorBBsc1x16
import Derived.Test.YtoeimopgoaffcaaGreatDoorBBsc1x2
import Derived.Test.YtoeimopgoaffcaaGreatDoorBBsc1x20
import Derived.Test.YtoeimopgoaffcaaGreatDoorBBsc1x24
import Derived.Test.YtoeimopgoaffcaaGreatDoorBBsc1x25
import Derived.Test.YtoeimopgoaffcaaGreatDoorBBsc1x3
namespace Go.Proofs.YtoeimopgoaffcaaGreatDoor.Pr
open Go.RowKit Go.Proofs.YtoeimopgoaffcaaGreatDoorW.PrintWords Go.Proofs.YtoeimopgoaffcaaGreatDoorW.PrintLast Go.Proofs.YtoeimopgoaffcaaGreatDoorW.PrintMore
attribute [local go_sem] ZU ZS ZW ZV ZO ZN ZT ZR
set_option linter.unusedVariables false
set_option linter.unusedSimpArgs false
def Zcr.f (k:Nat) (a0_0:Int) (l0_1:List (S112)):Option (Int×(List (S184))):=(ZaL.f a0_0 l0_1).bind fun t171003=>(if t171003=true then((Zac.f k a0_0 l0_1).bind fun bt171004=>(some (bt171004.1,bt171004.2.1))) else(some (0,([]:List (S184)))))
set_option maxHeartbeats 8000000 in
set_option maxRecDepth 100000 in
theorem Zcr.calls (k:Nat) (a0_0:Int) (A0_1:Option Addr) (c0_1:Nat) (l0_1:List (S112)) (r1:Int) (r2:List (S184)) (w:World) (hr0_1:Kd.C k112 w A0_1 l0_1.length l0_1) (hc0_1:l0_1.length≤c0_1) (h:Zcr.f k a0_0 l0_1=some (r1,r2)) :
  Calls Tryz.prog 171 #[.agg #[.int .i64 a0_0,.slice A0_1 l0_1.length c0_1]] w fun e w'=>∃v1_:Value,e=.returned (.agg #[.int .i64 r1,v1_])∧Kd.R k184 184 w' w.heap.size (fun _=>True) v1_ r2∧Below w.heap.size w w':=by
 have hu54:=Tryz.underlying54
 have hu156:=Tryz.underlying156
 have HR0_1:=Za hr0_1;have HC0_1:=Za hc0_1;clear hr0_1 hc0_1
 have HB:=Za (Below.refl w.heap.size w)
 have H:((ZaL.f a0_0 l0_1).bind fun t171003=>(if t171003=true then((Zac.f k a0_0 l0_1).bind fun bt171004=>(some (bt171004.1,bt171004.2.1))) else(some (0,([]:List (S184))))))=some (r1,r2):=h
 clear h
 replace H:=Zh H
 obtain⟨t171003,A20,H⟩:=H;have A2:=Za A20;clear A20
 by_cases c3:t171003=true
 ·subst c3
  rw[if_pos rfl] at H
  replace H:=Zh H
  obtain⟨⟨t171004,t171005,t171008⟩,A40,H⟩:=H;have A4:=Za A40;clear A40
  simp only[Option.some.injEq,Prod.mk.injEq] at H
  obtain⟨rfl,rfl⟩:=H
  go_enter Tryz.func171,Tryz.ntmps171
  go_wp2_with (first|((with_reducible refine ZF (N:=1) rfl ?_);refine ZG ?hg (N:=1) ?hd (cs:=#[.int .i64 a0_0,.slice A0_1 l0_1.length c0_1]) (t:=54) ?hr ?_;(case hd=>rfl);(case hg=>rfl);(case hr=>first|(go_simp;done)|(go_simp;rfl));intro gb171001 hg w5 hbox hb;have BK171001:=Za (hbox);have GW171001:=Za ((by rw[hg];exact(Zy (by repeat(first|(with_reducible first|exact HB.out|apply Zn|apply Zm|apply Zo)|exact HB.out))):w.heap.size≤gb171001));have GE171001:=Za ((by rw[hg];exact(Zy (by repeat(first|(with_reducible first|exact HB.out|apply Zn|apply Zm|apply Zo)|exact HB.out))):w.heap.size≤gb171001));replace HB:=Za (Zw (by repeat(first|(with_reducible first|exact HB.out|apply Zn|apply Zm|apply Zo)|exact HB.out)) hb);clear hb hbox hg)|((with_reducible refine ZF (N:=2) rfl ?_);refine ZG ?hg (N:=2) ?hd (cs:=#[.int .i64 0,.slice none 0 0]) (t:=156) ?hr ?_;(case hd=>rfl);(case hg=>rfl);(case hr=>first|(go_simp;done)|(go_simp;rfl));intro gb171002 hg w6 hbox hb;have BK171002:=Za (hbox);have GW171002:=Za ((by rw[hg];exact(Zy (by repeat(first|(with_reducible first|exact HB.out|apply Zn|apply Zm|apply Zo|refine Zq ?_ GE171001.out)|exact HB.out))):w.heap.size≤gb171002));have GE171002:=Za ((by rw[hg];exact(Zy (by repeat(first|(with_reducible first|exact HB.out|apply Zn|apply Zm|apply Zo|refine Zq ?_ GE171001.out)|exact HB.out))):w.heap.size≤gb171002));have NB171001_171002:=Za ((by rw[hg];exact Nat.ne_of_lt (ZM (g:=gb171001) (o:=.cells #[.int .i64 a0_0,.slice A0_1 l0_1.length c0_1] 54 (0,0)) (by(with_reducible repeat(first|refine Zt ?_ _|refine Zv ?_|refine Zs ?_ _));exact BK171001.out)):gb171001≠gb171002));have NB171002_171001:=Za ((by rw[hg];exact Nat.ne_of_gt (ZM (g:=gb171001) (o:=.cells #[.int .i64 a0_0,.slice A0_1 l0_1.length c0_1] 54 (0,0)) (by(with_reducible repeat(first|refine Zt ?_ _|refine Zv ?_|refine Zs ?_ _));exact BK171001.out)):gb171002≠gb171001));replace BK171001:=Za (ZA (g:=gb171001) (o:=.cells #[.int .i64 a0_0,.slice A0_1 l0_1.length c0_1] 54 (0,0)) (by(with_reducible repeat(first|refine Zt ?_ _|refine Zv ?_|refine Zs ?_ _));exact BK171001.out) hb);replace HB:=Za (Zw (by repeat(first|(with_reducible first|exact HB.out|apply Zn|apply Zm|apply Zo|refine Zq ?_ GE171001.out)|exact HB.out)) hb);clear hb hbox hg;have hnb7:=NB171001_171002.out;have hnc7:=NB171002_171001.out;have hcz8_0:w6.cell? ⟨gb171001,0,none⟩=some (.int .i64 a0_0):=(Zp BK171001.out 0).trans rfl;have hcz8_1:w6.cell? ⟨gb171001,1,none⟩=some (.slice A0_1 l0_1.length c0_1):=(Zp BK171001.out 1).trans rfl;have hfz8_0:=Zr BK171001.out 0;have hfz8_1:=Zr BK171001.out 1)|((with_reducible refine ZJ (f:=105) rfl ?_);refine Zaa (some 6) rfl rfl Tryz.func105 (by kernel_rfl) rfl #[.agg #[.int .i64 a0_0,.slice A0_1 l0_1.length c0_1]] rfl (by(try simp only[List.map_toArray,List.map_cons,List.map_nil]);first|done|rfl|(simp only[Zk,Zj];rfl)) ?_;(with_reducible refine(ZaL.calls a0_0 _ _ l0_1 true _ ?side1 ?side2 A2.out).mono ?_);(case side1=>repeat(first|exact(Zb HR0_1.out HB.out)|(with_reducible refine Kd.C_alloc ?_ _)|(with_reducible refine Kd.C_drewN ?_ _)|(with_reducible refine Kd.C_drew ?_)));(case side2=>exact HC0_1.out);rintro e w9 ⟨rfl,hb⟩;refine⟨_,rfl,?_⟩;replace BK171001:=Za (ZA (g:=gb171001) (o:=.cells #[.int .i64 a0_0,.slice A0_1 l0_1.length c0_1] 54 (0,0)) (by(with_reducible repeat(first|refine Zt ?_ _|refine Zv ?_|refine Zs ?_ _));exact BK171001.out) hb);replace BK171002:=Za (ZA (g:=gb171002) (o:=.cells #[.int .i64 0,.slice none 0 0] 156 (0,0)) (by(with_reducible repeat(first|refine Zt ?_ _|refine Zv ?_|refine Zs ?_ _));exact BK171002.out) hb);replace HB:=Za (Zw (by repeat(first|(with_reducible first|exact HB.out|apply Zn|apply Zm|apply Zo|refine Zq ?_ GE171001.out|refine Zq ?_ GE171002.out)|exact HB.out)) hb);have hcz10_0:w9.cell? ⟨gb171001,0,none⟩=some (.int .i64 a0_0):=(Zp BK171001.out 0).trans rfl;have hcz10_1:w9.cell? ⟨gb171001,1,none⟩=some (.slice A0_1 l0_1.length c0_1):=(Zp BK171001.out 1).trans rfl;have hfz10_0:=Zr BK171001.out 0;have hfz10_1:=Zr BK171001.out 1)|((with_reducible refine ZJ (f:=174) rfl ?_);refine Zaa (some 11) rfl rfl Tryz.func174 (by kernel_rfl) rfl #[.agg #[.int .i64 a0_0,.slice A0_1 l0_1.length c0_1]] rfl (by(try simp only[List.map_toArray,List.map_cons,List.map_nil]);first|done|rfl|(simp only[Zk,Zj];rfl)) ?_;(with_reducible refine(Zac.calls k a0_0 _ _ l0_1 t171004 t171005 t171008 _ ?side1 ?side2 A4.out).mono ?_);(case side1=>repeat(first|exact(Zb HR0_1.out HB.out)|(with_reducible refine Kd.C_alloc ?_ _)|(with_reducible refine Kd.C_drewN ?_ _)|(with_reducible refine Kd.C_drew ?_)));(case side2=>exact HC0_1.out);rintro e w11 ⟨v171006,v171009,rfl,ho0,ho1,hb⟩;refine⟨_,rfl,?_⟩;have HO171007:=Za (Kd.R_lower ho0 (Zy (by repeat(first|(with_reducible first|exact HB.out|apply Zn|apply Zm|apply Zo|refine Zq ?_ GE171001.out|refine Zq ?_ GE171002.out)|exact HB.out))));have HO171010:=Za (Kd.R_lower ho1 (Zy (by repeat(first|(with_reducible first|exact HB.out|apply Zn|apply Zm|apply Zo|refine Zq ?_ GE171001.out|refine Zq ?_ GE171002.out)|exact HB.out))));replace BK171001:=Za (ZA (g:=gb171001) (o:=.cells #[.int .i64 a0_0,.slice A0_1 l0_1.length c0_1] 54 (0,0)) (by(with_reducible repeat(first|refine Zt ?_ _|refine Zv ?_|refine Zs ?_ _));exact BK171001.out) hb);replace BK171002:=Za (ZA (g:=gb171002) (o:=.cells #[.int .i64 0,.slice none 0 0] 156 (0,0)) (by(with_reducible repeat(first|refine Zt ?_ _|refine Zv ?_|refine Zs ?_ _));exact BK171002.out) hb);replace HB:=Za (Zw (by repeat(first|(with_reducible first|exact HB.out|apply Zn|apply Zm|apply Zo|refine Zq ?_ GE171001.out|refine Zq ?_ GE171002.out)|exact HB.out)) hb);(try clear ho1))|((with_reducible refine ZF (N:=3) rfl ?_);refine ZG ?hg (N:=3) ?hd (cs:=#[.int .i64 0,.slice none 0 0]) (t:=156) ?hr ?_;(case hd=>rfl);(case hg=>rfl);(case hr=>first|(go_simp;done)|(go_simp;rfl));intro gb171011 hg w12 hbox hb;have BK171011:=Za (hbox);have GW171011:=Za ((by rw[hg];exact(Zy (by repeat(first|(with_reducible first|exact HB.out|apply Zn|apply Zm|apply Zo|refine Zq ?_ GE171001.out|refine Zq ?_ GE171002.out)|exact HB.out))):w.heap.size≤gb171011));have GE171011:=Za ((by rw[hg];exact(Zy (by repeat(first|(with_reducible first|exact HB.out|apply Zn|apply Zm|apply Zo|refine Zq ?_ GE171001.out|refine Zq ?_ GE171002.out)|exact HB.out))):w.heap.size≤gb171011));have NB171001_171011:=Za ((by rw[hg];exact Nat.ne_of_lt (ZM (g:=gb171001) (o:=.cells #[.int .i64 a0_0,.slice A0_1 l0_1.length c0_1] 54 (0,0)) (by(with_reducible repeat(first|refine Zt ?_ _|refine Zv ?_|refine Zs ?_ _));exact BK171001.out)):gb171001≠gb171011));have NB171011_171001:=Za ((by rw[hg];exact Nat.ne_of_gt (ZM (g:=gb171001) (o:=.cells #[.int .i64 a0_0,.slice A0_1 l0_1.length c0_1] 54 (0,0)) (by(with_reducible repeat(first|refine Zt ?_ _|refine Zv ?_|refine Zs ?_ _));exact BK171001.out)):gb171011≠gb171001));have NB171002_171011:=Za ((by rw[hg];exact Nat.ne_of_lt (ZM (g:=gb171002) (o:=.cells #[.int .i64 0,.slice none 0 0] 156 (0,0)) (by(with_reducible repeat(first|refine Zt ?_ _|refine Zv ?_|refine Zs ?_ _));exact BK171002.out)):gb171002≠gb171011));have NB171011_171002:=Za ((by rw[hg];exact Nat.ne_of_gt (ZM (g:=gb171002) (o:=.cells #[.int .i64 0,.slice none 0 0] 156 (0,0)) (by(with_reducible repeat(first|refine Zt ?_ _|refine Zv ?_|refine Zs ?_ _));exact BK171002.out)):gb171011≠gb171002));replace HO171007:=Za (Kd.R_below (by(with_reducible repeat(first|apply Kd.R_alloc|apply Kd.R_drewN|apply Kd.R_drew));exact HO171007.out) hb);replace HO171010:=Za (Kd.R_below (by(with_reducible repeat(first|apply Kd.R_alloc|apply Kd.R_drewN|apply Kd.R_drew));exact HO171010.out) hb);replace BK171001:=Za (ZA (g:=gb171001) (o:=.cells #[.int .i64 a0_0,.slice A0_1 l0_1.length c0_1] 54 (0,0)) (by(with_reducible repeat(first|refine Zt ?_ _|refine Zv ?_|refine Zs ?_ _));exact BK171001.out) hb);replace BK171002:=Za (ZA (g:=gb171002) (o:=.cells #[.int .i64 0,.slice none 0 0] 156 (0,0)) (by(with_reducible repeat(first|refine Zt ?_ _|refine Zv ?_|refine Zs ?_ _));exact BK171002.out) hb);replace HB:=Za (Zw (by repeat(first|(with_reducible first|exact HB.out|apply Zn|apply Zm|apply Zo|refine Zq ?_ GE171001.out|refine Zq ?_ GE171002.out)|exact HB.out)) hb);clear hb hbox hg;have hnb13:=NB171011_171001.out;have hnc13:=NB171001_171011.out;have hnb14:=NB171011_171002.out;have hnc14:=NB171002_171011.out;have hcz15_0:w12.cell? ⟨gb171011,0,none⟩=some (.int .i64 0):=(Zp BK171011.out 0).trans rfl;have hcz15_1:w12.cell? ⟨gb171011,1,none⟩=some (.slice none 0 0):=(Zp BK171011.out 1).trans rfl;have hfz15_0:=Zr BK171011.out 0;have hfz15_1:=Zr BK171011.out 1;obtain⟨Ao16,co16,eo16⟩:=Kd.R_slice HO171007.out;subst eo16;have hcz17_0:w12.cell? ⟨gb171002,0,none⟩=some (.int .i64 0):=(Zp BK171002.out 0).trans rfl;have hcz17_1:w12.cell? ⟨gb171002,1,none⟩=some (.slice none 0 0):=(Zp BK171002.out 1).trans rfl;have hfz17_0:=Zr BK171002.out 0;have hfz17_1:=Zr BK171002.out 1))
  refine bodyPost_ret (results_cell_row rfl _ _ gb171002 156 #[.int .i64 t171004,.slice Ao16 t171005.length co16] (0,0) _ rfl (by(with_reducible repeat(first|refine Zt ?_ _|refine Zv ?_|refine Zs ?_ _));refine ZZ (cs:=#[.int .i64 t171004,.slice none 0 0]) ?_ 1 _ rfl;(with_reducible repeat(first|refine Zt ?_ _|refine Zv ?_|refine Zs ?_ _));refine ZZ (cs:=#[.int .i64 0,.slice none 0 0]) ?_ 0 _ rfl;(with_reducible repeat(first|refine Zt ?_ _|refine Zv ?_|refine Zs ?_ _));refine ZQ ?_ NB171002_171011.out _;(with_reducible repeat(first|refine Zt ?_ _|refine Zv ?_|refine Zs ?_ _));refine ZQ ?_ NB171002_171011.out _;(with_reducible repeat(first|refine Zt ?_ _|refine Zv ?_|refine Zs ?_ _));exact BK171002.out) Tryz.underlying156 rfl (by kernel_rfl)) rfl ?_
  exact⟨_,by first|rfl|(simp[ZC,ZB] <;> rfl)|(simp[*,ZC,ZB] <;> rfl),by(with_reducible repeat(first|apply Kd.R_alloc|apply Kd.R_drewN|apply Kd.R_drew));exact Kd.R_mono (Kd.R_far (p:=⟨gb171002,1,none⟩) (Kd.R_far (p:=⟨gb171002,0,none⟩) (Kd.R_far (p:=⟨gb171011,1,none⟩) (Kd.R_far (p:=⟨gb171011,0,none⟩) (Kd.R_types (Kd.R_types HO171007.out BK171011.out (by decide)) BK171002.out (by decide)) (fun _ hk=>hk.1.2) (.int .i64 t171004)) (fun _ hk=>hk.1.2) (.slice Ao16 t171005.length co16)) (fun _ hk=>hk.2) (.int .i64 t171004)) (fun _ hk=>hk.2) (.slice Ao16 t171005.length co16)) (fun _ hk=>trivial),by repeat(first|(with_reducible first|exact HB.out|apply Zn|apply Zm|apply Zo|refine Zq ?_ GE171001.out|refine Zq ?_ GE171002.out|refine Zq ?_ GE171011.out)|exact HB.out)⟩
 ·replace c3:=Bool.eq_false_iff.mpr c3
  subst c3
  have H1:(some (0,([]:List (S184))))=some (r1,r2):=by rw[if_neg (show ¬(false=true) by decide)] at H;exact H
  clear H
  have H:=H1
  clear H1
  simp only[Option.some.injEq,Prod.mk.injEq] at H
  obtain⟨rfl,rfl⟩:=H
  go_enter Tryz.func171,Tryz.ntmps171
  go_wp2_with (first|((with_reducible refine ZF (N:=1) rfl ?_);refine ZG ?hg (N:=1) ?hd (cs:=#[.int .i64 a0_0,.slice A0_1 l0_1.length c0_1]) (t:=54) ?hr ?_;(case hd=>rfl);(case hg=>rfl);(case hr=>first|(go_simp;done)|(go_simp;rfl));intro gb171001 hg w18 hbox hb;have BK171001:=Za (hbox);have GW171001:=Za ((by rw[hg];exact(Zy (by repeat(first|(with_reducible first|exact HB.out|apply Zn|apply Zm|apply Zo)|exact HB.out))):w.heap.size≤gb171001));have GE171001:=Za ((by rw[hg];exact(Zy (by repeat(first|(with_reducible first|exact HB.out|apply Zn|apply Zm|apply Zo)|exact HB.out))):w.heap.size≤gb171001));replace HB:=Za (Zw (by repeat(first|(with_reducible first|exact HB.out|apply Zn|apply Zm|apply Zo)|exact HB.out)) hb);clear hb hbox hg)|((with_reducible refine ZF (N:=2) rfl ?_);refine ZG ?hg (N:=2) ?hd (cs:=#[.int .i64 0,.slice none 0 0]) (t:=156) ?hr ?_;(case hd=>rfl);(case hg=>rfl);(case hr=>first|(go_simp;done)|(go_simp;rfl));intro gb171002 hg w19 hbox hb;have BK171002:=Za (hbox);have GW171002:=Za ((by rw[hg];exact(Zy (by repeat(first|(with_reducible first|exact HB.out|apply Zn|apply Zm|apply Zo|refine Zq ?_ GE171001.out)|exact HB.out))):w.heap.size≤gb171002));have GE171002:=Za ((by rw[hg];exact(Zy (by repeat(first|(with_reducible first|exact HB.out|apply Zn|apply Zm|apply Zo|refine Zq ?_ GE171001.out)|exact HB.out))):w.heap.size≤gb171002));have NB171001_171002:=Za ((by rw[hg];exact Nat.ne_of_lt (ZM (g:=gb171001) (o:=.cells #[.int .i64 a0_0,.slice A0_1 l0_1.length c0_1] 54 (0,0)) (by(with_reducible repeat(first|refine Zt ?_ _|refine Zv ?_|refine Zs ?_ _));exact BK171001.out)):gb171001≠gb171002));have NB171002_171001:=Za ((by rw[hg];exact Nat.ne_of_gt (ZM (g:=gb171001) (o:=.cells #[.int .i64 a0_0,.slice A0_1 l0_1.length c0_1] 54 (0,0)) (by(with_reducible repeat(first|refine Zt ?_ _|refine Zv ?_|refine Zs ?_ _));exact BK171001.out)):gb171002≠gb171001));replace BK171001:=Za (ZA (g:=gb171001) (o:=.cells #[.int .i64 a0_0,.slice A0_1 l0_1.length c0_1] 54 (0,0)) (by(with_reducible repeat(first|refine Zt ?_ _|refine Zv ?_|refine Zs ?_ _));exact BK171001.out) hb);replace HB:=Za (Zw (by repeat(first|(with_reducible first|exact HB.out|apply Zn|apply Zm|apply Zo|refine Zq ?_ GE171001.out)|exact HB.out)) hb);clear hb hbox hg;have hnb20:=NB171001_171002.out;have hnc20:=NB171002_171001.out;have hcz21_0:w19.cell? ⟨gb171001,0,none⟩=some (.int .i64 a0_0):=(Zp BK171001.out 0).trans rfl;have hcz21_1:w19.cell? ⟨gb171001,1,none⟩=some (.slice A0_1 l0_1.length c0_1):=(Zp BK171001.out 1).trans rfl;have hfz21_0:=Zr BK171001.out 0;have hfz21_1:=Zr BK171001.out 1)|((with_reducible refine ZJ (f:=105) rfl ?_);refine Zaa (some 6) rfl rfl Tryz.func105 (by kernel_rfl) rfl #[.agg #[.int .i64 a0_0,.slice A0_1 l0_1.length c0_1]] rfl (by(try simp only[List.map_toArray,List.map_cons,List.map_nil]);first|done|rfl|(simp only[Zk,Zj];rfl)) ?_;(with_reducible refine(ZaL.calls a0_0 _ _ l0_1 false _ ?side1 ?side2 A2.out).mono ?_);(case side1=>repeat(first|exact(Zb HR0_1.out HB.out)|(with_reducible refine Kd.C_alloc ?_ _)|(with_reducible refine Kd.C_drewN ?_ _)|(with_reducible refine Kd.C_drew ?_)));(case side2=>exact HC0_1.out);rintro e w22 ⟨rfl,hb⟩;refine⟨_,rfl,?_⟩;replace BK171001:=Za (ZA (g:=gb171001) (o:=.cells #[.int .i64 a0_0,.slice A0_1 l0_1.length c0_1] 54 (0,0)) (by(with_reducible repeat(first|refine Zt ?_ _|refine Zv ?_|refine Zs ?_ _));exact BK171001.out) hb);replace BK171002:=Za (ZA (g:=gb171002) (o:=.cells #[.int .i64 0,.slice none 0 0] 156 (0,0)) (by(with_reducible repeat(first|refine Zt ?_ _|refine Zv ?_|refine Zs ?_ _));exact BK171002.out) hb);replace HB:=Za (Zw (by repeat(first|(with_reducible first|exact HB.out|apply Zn|apply Zm|apply Zo|refine Zq ?_ GE171001.out|refine Zq ?_ GE171002.out)|exact HB.out)) hb);have hcz23_0:w22.cell? ⟨gb171002,0,none⟩=some (.int .i64 0):=(Zp BK171002.out 0).trans rfl;have hcz23_1:w22.cell? ⟨gb171002,1,none⟩=some (.slice none 0 0):=(Zp BK171002.out 1).trans rfl;have hfz23_0:=Zr BK171002.out 0;have hfz23_1:=Zr BK171002.out 1))
  refine bodyPost_ret (results_cell_row rfl _ _ gb171002 156 #[.int .i64 0,.slice none 0 0] (0,0) _ rfl (by(with_reducible repeat(first|refine Zt ?_ _|refine Zv ?_|refine Zs ?_ _));refine ZZ (cs:=#[.int .i64 0,.slice none 0 0]) ?_ 1 _ rfl;(with_reducible repeat(first|refine Zt ?_ _|refine Zv ?_|refine Zs ?_ _));refine ZZ (cs:=#[.int .i64 0,.slice none 0 0]) ?_ 0 _ rfl;(with_reducible repeat(first|refine Zt ?_ _|refine Zv ?_|refine Zs ?_ _));exact BK171002.out) Tryz.underlying156 rfl (by kernel_rfl)) rfl ?_
  exact⟨_,by first|rfl|(simp[ZC,ZB] <;> rfl)|(simp[*,ZC,ZB] <;> rfl),by first|exact Kd.R_nil _ _ _ _ _|exact Kd.N_nil _ _ _ _ _|exact Kd.V_nil _ _ _ _ _|exact Kd.Q_nil _ _ _ _ _|exact Kd.S_nil _ _ _ _ _,by repeat(first|(with_reducible first|exact HB.out|apply Zn|apply Zm|apply Zo|refine Zq ?_ GE171001.out|refine Zq ?_ GE171002.out)|exact HB.out)⟩
end Go.Proofs.YtoeimopgoaffcaaGreatDoor.Pr
namespace Go.Proofs.YtoeimopgoaffcaaGreatDoor.Pr
open Go.RowKit Go.Proofs.YtoeimopgoaffcaaGreatDoorW.PrintWords Go.Proofs.YtoeimopgoaffcaaGreatDoorW.PrintLast Go.Proofs.YtoeimopgoaffcaaGreatDoorW.PrintMore
attribute [local go_sem] ZU ZS ZW ZV ZO ZN ZT ZR
set_option linter.unusedVariables false
set_option linter.unusedSimpArgs false
open Go.Proofs.YtoeimopgoaffcaaGreatDoor.Ni
def Zbk.f (k:Nat) (a0_0:Int) (l0_1:List (S112)):Option Bool:=(ZaL.f a0_0 l0_1).bind fun b=>if b=true then(Zcr.f k a0_0 l0_1).bind fun g=>(Zaz.f g.1 g.2).bind fun c=>some c.isEmpty else some false
set_option maxHeartbeats 4000000 in
set_option maxRecDepth 100000 in
theorem Zbk.calls (k:Nat) (a0_0:Int) (A0_1:Option Addr) (c0_1:Nat) (l0_1:List (S112)) (r:Bool) (w:World) (hr0_1:Kd.C k112 w A0_1 l0_1.length l0_1) (hc0_1:l0_1.length≤c0_1) (h:Zbk.f k a0_0 l0_1=some r) :
  Calls Tryz.prog 112 #[.agg #[.int .i64 a0_0,.slice A0_1 l0_1.length c0_1]] w fun e w'=>e=.returned (.bool r)∧Below w.heap.size w w':=by
 unfold Zbk.f at h
 obtain⟨b,hb_,h⟩:=Option.bind_eq_some_iff.1 h
 have HS:=Za fun (W:World) (hb:Below w.heap.size w W)=>ZaL.calls a0_0 A0_1 c0_1 l0_1 b W (Zb hr0_1 hb) hc0_1 hb_
 have B1:=Za (Zn (Below.refl w.heap.size w) (.cells #[.int .i64 a0_0,.slice A0_1 l0_1.length c0_1] 54))
 have K0:=Za (show(w.alloc (.cells #[.int .i64 a0_0,.slice A0_1 l0_1.length c0_1] 54)).cell? ⟨w.heap.size,0,none⟩=some (.int .i64 a0_0) by go_simp)
 have K1:=Za (show(w.alloc (.cells #[.int .i64 a0_0,.slice A0_1 l0_1.length c0_1] 54)).cell? ⟨w.heap.size,1,none⟩=some (.slice A0_1 l0_1.length c0_1) by go_simp)
 have hu:=Tryz.underlying54
 cases b with
 | false=>
  rw[if_neg (by simp)] at h
  obtain rfl:=Zg h
  clear hr0_1 hc0_1 hb_ h
  go_enter Tryz.func112,Tryz.ntmps112
  go_wp2_with (go_at_call 105;refine(HS.out _ B1.out).mono ?_;rintro e w1 ⟨rfl,hb⟩)
  go_ret
  exact⟨rfl,B1.out.trans (hb.mono B1.out.size)⟩
 | true=>
 rw[if_pos rfl] at h
 obtain⟨⟨g1,g2⟩,hg,h⟩:=Option.bind_eq_some_iff.1 h
 obtain⟨c,hc,h⟩:=Option.bind_eq_some_iff.1 h
 obtain rfl:=Zg h
 have HG:=Za fun (W:World) (hb:Below w.heap.size w W)=>Zcr.calls k a0_0 A0_1 c0_1 l0_1 g1 g2 W (Zb hr0_1 hb) hc0_1 hg
 have HNC:=Za fun (W:World) (A:Option Addr) (cc:Nat) (hr:Kd.C k184 W A g2.length g2) (hcc:g2.length≤cc)=>Zaz.own g1 A cc g2 c W hr hcc hc
 clear hr0_1 hc0_1 hb_ hg hc h
 have hsn:=fun (W:World) (A:Option Addr) (n c:Nat)=>Lib.run_eql_slice_nil (P:=Tryz.prog) W 37 3 A n c 0 0 Tryz.underlying37
 cases hce:c with
 | nil=>
  rw[hce] at HNC
  clear hce
  go_enter Tryz.func112,Tryz.ntmps112
  go_wp2_with (first|(go_at_call 105;refine(HS.out _ B1.out).mono ?_;rintro e w1 ⟨rfl,hb⟩;have hk0:=Zx hb K0.out;have hk1:=Zx hb K1.out;have hlt:=Zc _ _ hk0;have HB:=Za (B1.out.trans (hb.mono B1.out.size));clear hb)|(go_at_call 171;refine(HG.out _ HB.out).mono ?_;rintro e w2 ⟨v1,rfl,hr,hb⟩;obtain⟨Ag,cg,rfl,hcg,hrg⟩:=Kd.R_reads hr;replace HB:=Za (HB.out.trans (hb.mono HB.out.size));have HRG:=Za (And.intro hcg hrg);clear hb hr hcg hrg hk0 hk1 hlt)|(go_at_call 170;refine(HNC.out _ Ag cg HRG.out.2 HRG.out.1).mono ?_;rintro e w3 ⟨v2,rfl,_,hnil,hb⟩;obtain rfl:=hnil.out (by first|rfl|trivial);replace HB:=Za (HB.out.trans (hb.mono HB.out.size));clear hb hnil))
  go_ret
  exact⟨rfl,HB.out⟩
 | cons x t=>
  rw[hce] at HNC
  clear hce
  go_enter Tryz.func112,Tryz.ntmps112
  go_wp2_with (first|(go_at_call 105;refine(HS.out _ B1.out).mono ?_;rintro e w1 ⟨rfl,hb⟩;have hk0:=Zx hb K0.out;have hk1:=Zx hb K1.out;have hlt:=Zc _ _ hk0;have HB:=Za (B1.out.trans (hb.mono B1.out.size));clear hb)|(go_at_call 171;refine(HG.out _ HB.out).mono ?_;rintro e w2 ⟨v1,rfl,hr,hb⟩;obtain⟨Ag,cg,rfl,hcg,hrg⟩:=Kd.R_reads hr;replace HB:=Za (HB.out.trans (hb.mono HB.out.size));have HRG:=Za (And.intro hcg hrg);clear hb hr hcg hrg hk0 hk1 hlt)|(go_at_call 170;refine(HNC.out _ Ag cg HRG.out.2 HRG.out.1).mono ?_;rintro e w3 ⟨v2,rfl,hr,_,hb⟩;obtain⟨g3,cap3,e3,_⟩:=Kd.R_form hr (by simp);rw[e3];replace HB:=Za (HB.out.trans (hb.mono HB.out.size));clear hb hr e3))
  go_ret
  exact⟨rfl,HB.out⟩
end Go.Proofs.YtoeimopgoaffcaaGreatDoor.Pr
namespace Go.Proofs.YtoeimopgoaffcaaGreatDoor.Pr
open Go.RowKit Go.Proofs.YtoeimopgoaffcaaGreatDoorW.PrintWords Go.Proofs.YtoeimopgoaffcaaGreatDoorW.PrintLast Go.Proofs.YtoeimopgoaffcaaGreatDoorW.PrintMore
attribute [local go_sem] ZU ZS ZW ZV ZO ZN ZT ZR
set_option linter.unusedVariables false
set_option linter.unusedSimpArgs false
def Zcc.f (k:Nat) (l0_0:List (S39)) (l0_1:List (S82)) (a0_2:Int) (l1_0:List Int) (l1_1:List Int):Option (Bool):=(ZaR.f l0_0 l0_1 a0_2).bind fun t103003=>(if t103003=true then((ZbB.f k l0_0 l0_1 a0_2 l1_0 l1_1).bind fun t103004=>(some t103004)) else(some false))
set_option maxHeartbeats 8000000 in
set_option maxRecDepth 100000 in
theorem Zcc.calls (k:Nat) (A0_0:Option Addr) (c0_0:Nat) (l0_0:List (S39)) (A0_1:Option Addr) (c0_1:Nat) (l0_1:List (S82)) (a0_2:Int) (A1_0:Option Addr) (c1_0:Nat) (l1_0:List Int) (A1_1:Option Addr) (c1_1:Nat) (l1_1:List Int) (r:Bool) (w:World) (hr0_0:Kd.C k39 w A0_0 l0_0.length l0_0) (hc0_0:l0_0.length≤c0_0) (hr0_1:Kd.C k82 w A0_1 l0_1.length l0_1) (hc0_1:l0_1.length≤c0_1) (hr1_0:Kd.C (Kd.int .i64) w A1_0 l1_0.length l1_0) (hc1_0:l1_0.length≤c1_0) (hr1_1:Kd.C (Kd.int .i64) w A1_1 l1_1.length l1_1) (hc1_1:l1_1.length≤c1_1) (h:Zcc.f k l0_0 l0_1 a0_2 l1_0 l1_1=some r) :
  Calls Tryz.prog 103 #[.agg #[.slice A0_0 l0_0.length c0_0,.slice A0_1 l0_1.length c0_1,.int .i64 a0_2],.agg #[.slice A1_0 l1_0.length c1_0,.slice A1_1 l1_1.length c1_1]] w fun e w'=>e=.returned (.bool r)∧Below w.heap.size w w':=by
 have hu25:=Tryz.underlying25
 have hu58:=Tryz.underlying58
 have HR0_0:=Za hr0_0;have HC0_0:=Za hc0_0;clear hr0_0 hc0_0;have HR0_1:=Za hr0_1;have HC0_1:=Za hc0_1;clear hr0_1 hc0_1;have HR1_0:=Za hr1_0;have HC1_0:=Za hc1_0;clear hr1_0 hc1_0;have HR1_1:=Za hr1_1;have HC1_1:=Za hc1_1;clear hr1_1 hc1_1
 have HB:=Za (Below.refl w.heap.size w)
 have H:((ZaR.f l0_0 l0_1 a0_2).bind fun t103003=>(if t103003=true then((ZbB.f k l0_0 l0_1 a0_2 l1_0 l1_1).bind fun t103004=>(some t103004)) else(some false)))=some r:=h
 clear h
 replace H:=Zh H
 obtain⟨t103003,A30,H⟩:=H;have A3:=Za A30;clear A30
 by_cases c4:t103003=true
 ·subst c4
  rw[if_pos rfl] at H
  replace H:=Zh H
  obtain⟨t103004,A50,H⟩:=H;have A5:=Za A50;clear A50
  obtain rfl:=Zg H
  go_enter Tryz.func103,Tryz.ntmps103
  go_wp2_with (first|((with_reducible refine ZF (N:=2) rfl ?_);refine ZG ?hg (N:=2) ?hd (cs:=#[.slice A0_0 l0_0.length c0_0,.slice A0_1 l0_1.length c0_1,.int .i64 a0_2]) (t:=25) ?hr ?_;(case hd=>rfl);(case hg=>rfl);(case hr=>first|(go_simp;done)|(go_simp;rfl));intro gb103001 hg w6 hbox hb;have BK103001:=Za (hbox);have GW103001:=Za ((by rw[hg];exact(Zy (by repeat(first|(with_reducible first|exact HB.out|apply Zn|apply Zm|apply Zo)|exact HB.out))):w.heap.size≤gb103001));have GE103001:=Za ((by rw[hg];exact(Zy (by repeat(first|(with_reducible first|exact HB.out|apply Zn|apply Zm|apply Zo)|exact HB.out))):w.heap.size≤gb103001));replace HB:=Za (Zw (by repeat(first|(with_reducible first|exact HB.out|apply Zn|apply Zm|apply Zo)|exact HB.out)) hb);clear hb hbox hg)|((with_reducible refine ZF (N:=3) rfl ?_);refine ZG ?hg (N:=3) ?hd (cs:=#[.slice A1_0 l1_0.length c1_0,.slice A1_1 l1_1.length c1_1]) (t:=58) ?hr ?_;(case hd=>rfl);(case hg=>rfl);(case hr=>first|(go_simp;done)|(go_simp;rfl));intro gb103002 hg w7 hbox hb;have BK103002:=Za (hbox);have GW103002:=Za ((by rw[hg];exact(Zy (by repeat(first|(with_reducible first|exact HB.out|apply Zn|apply Zm|apply Zo|refine Zq ?_ GE103001.out)|exact HB.out))):w.heap.size≤gb103002));have GE103002:=Za ((by rw[hg];exact(Zy (by repeat(first|(with_reducible first|exact HB.out|apply Zn|apply Zm|apply Zo|refine Zq ?_ GE103001.out)|exact HB.out))):w.heap.size≤gb103002));have NB103001_103002:=Za ((by rw[hg];exact Nat.ne_of_lt (ZM (g:=gb103001) (o:=.cells #[.slice A0_0 l0_0.length c0_0,.slice A0_1 l0_1.length c0_1,.int .i64 a0_2] 25 (0,0)) (by(with_reducible repeat(first|refine Zt ?_ _|refine Zv ?_|refine Zs ?_ _));exact BK103001.out)):gb103001≠gb103002));have NB103002_103001:=Za ((by rw[hg];exact Nat.ne_of_gt (ZM (g:=gb103001) (o:=.cells #[.slice A0_0 l0_0.length c0_0,.slice A0_1 l0_1.length c0_1,.int .i64 a0_2] 25 (0,0)) (by(with_reducible repeat(first|refine Zt ?_ _|refine Zv ?_|refine Zs ?_ _));exact BK103001.out)):gb103002≠gb103001));replace BK103001:=Za (ZA (g:=gb103001) (o:=.cells #[.slice A0_0 l0_0.length c0_0,.slice A0_1 l0_1.length c0_1,.int .i64 a0_2] 25 (0,0)) (by(with_reducible repeat(first|refine Zt ?_ _|refine Zv ?_|refine Zs ?_ _));exact BK103001.out) hb);replace HB:=Za (Zw (by repeat(first|(with_reducible first|exact HB.out|apply Zn|apply Zm|apply Zo|refine Zq ?_ GE103001.out)|exact HB.out)) hb);clear hb hbox hg;have hcz9_0:w7.cell? ⟨gb103001,0,none⟩=some (.slice A0_0 l0_0.length c0_0):=(Zp BK103001.out 0).trans rfl;have hcz9_1:w7.cell? ⟨gb103001,1,none⟩=some (.slice A0_1 l0_1.length c0_1):=(Zp BK103001.out 1).trans rfl;have hcz9_2:w7.cell? ⟨gb103001,2,none⟩=some (.int .i64 a0_2):=(Zp BK103001.out 2).trans rfl)|((with_reducible refine ZJ (f:=19) rfl ?_);refine Zaa (some 6) rfl rfl Tryz.func19 (by kernel_rfl) rfl #[.agg #[.slice A0_0 l0_0.length c0_0,.slice A0_1 l0_1.length c0_1,.int .i64 a0_2]] rfl (by(try simp only[List.map_toArray,List.map_cons,List.map_nil]);first|done|rfl|(simp only[Zk,Zj];rfl)) ?_;(with_reducible refine(ZaR.calls _ _ l0_0 _ _ l0_1 a0_2 true _ ?side1 ?side2 ?side3 ?side4 A3.out).mono ?_);(case side1=>repeat(first|exact(Zb HR0_0.out HB.out)|(with_reducible refine Kd.C_alloc ?_ _)|(with_reducible refine Kd.C_drewN ?_ _)|(with_reducible refine Kd.C_drew ?_)));(case side2=>exact HC0_0.out);(case side3=>repeat(first|exact(Zb HR0_1.out HB.out)|(with_reducible refine Kd.C_alloc ?_ _)|(with_reducible refine Kd.C_drewN ?_ _)|(with_reducible refine Kd.C_drew ?_)));(case side4=>exact HC0_1.out);rintro e w10 ⟨rfl,hb⟩;refine⟨_,rfl,?_⟩;replace BK103001:=Za (ZA (g:=gb103001) (o:=.cells #[.slice A0_0 l0_0.length c0_0,.slice A0_1 l0_1.length c0_1,.int .i64 a0_2] 25 (0,0)) (by(with_reducible repeat(first|refine Zt ?_ _|refine Zv ?_|refine Zs ?_ _));exact BK103001.out) hb);replace BK103002:=Za (ZA (g:=gb103002) (o:=.cells #[.slice A1_0 l1_0.length c1_0,.slice A1_1 l1_1.length c1_1] 58 (0,0)) (by(with_reducible repeat(first|refine Zt ?_ _|refine Zv ?_|refine Zs ?_ _));exact BK103002.out) hb);replace HB:=Za (Zw (by repeat(first|(with_reducible first|exact HB.out|apply Zn|apply Zm|apply Zo|refine Zq ?_ GE103001.out|refine Zq ?_ GE103002.out)|exact HB.out)) hb);have hcz11_0:w10.cell? ⟨gb103001,0,none⟩=some (.slice A0_0 l0_0.length c0_0):=(Zp BK103001.out 0).trans rfl;have hcz11_1:w10.cell? ⟨gb103001,1,none⟩=some (.slice A0_1 l0_1.length c0_1):=(Zp BK103001.out 1).trans rfl;have hcz11_2:w10.cell? ⟨gb103001,2,none⟩=some (.int .i64 a0_2):=(Zp BK103001.out 2).trans rfl;have hfz11_0:=Zr BK103001.out 0;have hfz11_1:=Zr BK103001.out 1;have hfz11_2:=Zr BK103001.out 2;have hcz12_0:w10.cell? ⟨gb103002,0,none⟩=some (.slice A1_0 l1_0.length c1_0):=(Zp BK103002.out 0).trans rfl;have hcz12_1:w10.cell? ⟨gb103002,1,none⟩=some (.slice A1_1 l1_1.length c1_1):=(Zp BK103002.out 1).trans rfl)|(go_at_call 160;(with_reducible refine(ZbB.calls k _ _ l0_0 _ _ l0_1 a0_2 _ _ l1_0 _ _ l1_1 t103004 _ ?side1 ?side2 ?side3 ?side4 ?side5 ?side6 ?side7 ?side8 A5.out).mono ?_);(case side1=>repeat(first|exact(Zb HR0_0.out HB.out)|(with_reducible refine Kd.C_alloc ?_ _)|(with_reducible refine Kd.C_drewN ?_ _)|(with_reducible refine Kd.C_drew ?_)));(case side2=>exact HC0_0.out);(case side3=>repeat(first|exact(Zb HR0_1.out HB.out)|(with_reducible refine Kd.C_alloc ?_ _)|(with_reducible refine Kd.C_drewN ?_ _)|(with_reducible refine Kd.C_drew ?_)));(case side4=>exact HC0_1.out);(case side5=>repeat(first|exact(Zb HR1_0.out HB.out)|(with_reducible refine Kd.C_alloc ?_ _)|(with_reducible refine Kd.C_drewN ?_ _)|(with_reducible refine Kd.C_drew ?_)));(case side6=>exact HC1_0.out);(case side7=>repeat(first|exact(Zb HR1_1.out HB.out)|(with_reducible refine Kd.C_alloc ?_ _)|(with_reducible refine Kd.C_drewN ?_ _)|(with_reducible refine Kd.C_drew ?_)));(case side8=>exact HC1_1.out);rintro e w13 ⟨rfl,hb⟩;replace BK103001:=Za (ZA (g:=gb103001) (o:=.cells #[.slice A0_0 l0_0.length c0_0,.slice A0_1 l0_1.length c0_1,.int .i64 a0_2] 25 (0,0)) (by(with_reducible repeat(first|refine Zt ?_ _|refine Zv ?_|refine Zs ?_ _));exact BK103001.out) hb);replace BK103002:=Za (ZA (g:=gb103002) (o:=.cells #[.slice A1_0 l1_0.length c1_0,.slice A1_1 l1_1.length c1_1] 58 (0,0)) (by(with_reducible repeat(first|refine Zt ?_ _|refine Zv ?_|refine Zs ?_ _));exact BK103002.out) hb);replace HB:=Za (Zw (by repeat(first|(with_reducible first|exact HB.out|apply Zn|apply Zm|apply Zo|refine Zq ?_ GE103001.out|refine Zq ?_ GE103002.out)|exact HB.out)) hb);(try clear hi)))
  go_ret
  exact⟨by first|rfl|(simp[ZC,ZB] <;> rfl)|(simp[*,ZC,ZB] <;> rfl),by repeat(first|(with_reducible first|exact HB.out|apply Zn|apply Zm|apply Zo|refine Zq ?_ GE103001.out|refine Zq ?_ GE103002.out)|exact HB.out)⟩
 ·replace c4:=Bool.eq_false_iff.mpr c4
  subst c4
  have H1:(some false)=some r:=by rw[if_neg (show ¬(false=true) by decide)] at H;exact H
  clear H
  have H:=H1
  clear H1
  obtain rfl:=Zg H
  go_enter Tryz.func103,Tryz.ntmps103
  go_wp2_with (first|((with_reducible refine ZF (N:=2) rfl ?_);refine ZG ?hg (N:=2) ?hd (cs:=#[.slice A0_0 l0_0.length c0_0,.slice A0_1 l0_1.length c0_1,.int .i64 a0_2]) (t:=25) ?hr ?_;(case hd=>rfl);(case hg=>rfl);(case hr=>first|(go_simp;done)|(go_simp;rfl));intro gb103001 hg w14 hbox hb;have BK103001:=Za (hbox);have GW103001:=Za ((by rw[hg];exact(Zy (by repeat(first|(with_reducible first|exact HB.out|apply Zn|apply Zm|apply Zo)|exact HB.out))):w.heap.size≤gb103001));have GE103001:=Za ((by rw[hg];exact(Zy (by repeat(first|(with_reducible first|exact HB.out|apply Zn|apply Zm|apply Zo)|exact HB.out))):w.heap.size≤gb103001));replace HB:=Za (Zw (by repeat(first|(with_reducible first|exact HB.out|apply Zn|apply Zm|apply Zo)|exact HB.out)) hb);clear hb hbox hg)|((with_reducible refine ZF (N:=3) rfl ?_);refine ZG ?hg (N:=3) ?hd (cs:=#[.slice A1_0 l1_0.length c1_0,.slice A1_1 l1_1.length c1_1]) (t:=58) ?hr ?_;(case hd=>rfl);(case hg=>rfl);(case hr=>first|(go_simp;done)|(go_simp;rfl));intro gb103002 hg w15 hbox hb;have BK103002:=Za (hbox);have GW103002:=Za ((by rw[hg];exact(Zy (by repeat(first|(with_reducible first|exact HB.out|apply Zn|apply Zm|apply Zo|refine Zq ?_ GE103001.out)|exact HB.out))):w.heap.size≤gb103002));have GE103002:=Za ((by rw[hg];exact(Zy (by repeat(first|(with_reducible first|exact HB.out|apply Zn|apply Zm|apply Zo|refine Zq ?_ GE103001.out)|exact HB.out))):w.heap.size≤gb103002));have NB103001_103002:=Za ((by rw[hg];exact Nat.ne_of_lt (ZM (g:=gb103001) (o:=.cells #[.slice A0_0 l0_0.length c0_0,.slice A0_1 l0_1.length c0_1,.int .i64 a0_2] 25 (0,0)) (by(with_reducible repeat(first|refine Zt ?_ _|refine Zv ?_|refine Zs ?_ _));exact BK103001.out)):gb103001≠gb103002));have NB103002_103001:=Za ((by rw[hg];exact Nat.ne_of_gt (ZM (g:=gb103001) (o:=.cells #[.slice A0_0 l0_0.length c0_0,.slice A0_1 l0_1.length c0_1,.int .i64 a0_2] 25 (0,0)) (by(with_reducible repeat(first|refine Zt ?_ _|refine Zv ?_|refine Zs ?_ _));exact BK103001.out)):gb103002≠gb103001));replace BK103001:=Za (ZA (g:=gb103001) (o:=.cells #[.slice A0_0 l0_0.length c0_0,.slice A0_1 l0_1.length c0_1,.int .i64 a0_2] 25 (0,0)) (by(with_reducible repeat(first|refine Zt ?_ _|refine Zv ?_|refine Zs ?_ _));exact BK103001.out) hb);replace HB:=Za (Zw (by repeat(first|(with_reducible first|exact HB.out|apply Zn|apply Zm|apply Zo|refine Zq ?_ GE103001.out)|exact HB.out)) hb);clear hb hbox hg;have hcz17_0:w15.cell? ⟨gb103001,0,none⟩=some (.slice A0_0 l0_0.length c0_0):=(Zp BK103001.out 0).trans rfl;have hcz17_1:w15.cell? ⟨gb103001,1,none⟩=some (.slice A0_1 l0_1.length c0_1):=(Zp BK103001.out 1).trans rfl;have hcz17_2:w15.cell? ⟨gb103001,2,none⟩=some (.int .i64 a0_2):=(Zp BK103001.out 2).trans rfl)|((with_reducible refine ZJ (f:=19) rfl ?_);refine Zaa (some 6) rfl rfl Tryz.func19 (by kernel_rfl) rfl #[.agg #[.slice A0_0 l0_0.length c0_0,.slice A0_1 l0_1.length c0_1,.int .i64 a0_2]] rfl (by(try simp only[List.map_toArray,List.map_cons,List.map_nil]);first|done|rfl|(simp only[Zk,Zj];rfl)) ?_;(with_reducible refine(ZaR.calls _ _ l0_0 _ _ l0_1 a0_2 false _ ?side1 ?side2 ?side3 ?side4 A3.out).mono ?_);(case side1=>repeat(first|exact(Zb HR0_0.out HB.out)|(with_reducible refine Kd.C_alloc ?_ _)|(with_reducible refine Kd.C_drewN ?_ _)|(with_reducible refine Kd.C_drew ?_)));(case side2=>exact HC0_0.out);(case side3=>repeat(first|exact(Zb HR0_1.out HB.out)|(with_reducible refine Kd.C_alloc ?_ _)|(with_reducible refine Kd.C_drewN ?_ _)|(with_reducible refine Kd.C_drew ?_)));(case side4=>exact HC0_1.out);rintro e w18 ⟨rfl,hb⟩;refine⟨_,rfl,?_⟩;replace BK103001:=Za (ZA (g:=gb103001) (o:=.cells #[.slice A0_0 l0_0.length c0_0,.slice A0_1 l0_1.length c0_1,.int .i64 a0_2] 25 (0,0)) (by(with_reducible repeat(first|refine Zt ?_ _|refine Zv ?_|refine Zs ?_ _));exact BK103001.out) hb);replace BK103002:=Za (ZA (g:=gb103002) (o:=.cells #[.slice A1_0 l1_0.length c1_0,.slice A1_1 l1_1.length c1_1] 58 (0,0)) (by(with_reducible repeat(first|refine Zt ?_ _|refine Zv ?_|refine Zs ?_ _));exact BK103002.out) hb);replace HB:=Za (Zw (by repeat(first|(with_reducible first|exact HB.out|apply Zn|apply Zm|apply Zo|refine Zq ?_ GE103001.out|refine Zq ?_ GE103002.out)|exact HB.out)) hb);(try clear hi)))
  go_ret
  exact⟨by first|rfl|(simp[ZC,ZB] <;> rfl)|(simp[*,ZC,ZB] <;> rfl),by repeat(first|(with_reducible first|exact HB.out|apply Zn|apply Zm|apply Zo|refine Zq ?_ GE103001.out|refine Zq ?_ GE103002.out)|exact HB.out)⟩
end Go.Proofs.YtoeimopgoaffcaaGreatDoor.Pr
namespace Go.Proofs.YtoeimopgoaffcaaGreatDoor.Pr
open Go.RowKit Go.Proofs.YtoeimopgoaffcaaGreatDoorW.PrintWords Go.Proofs.YtoeimopgoaffcaaGreatDoorW.PrintLast Go.Proofs.YtoeimopgoaffcaaGreatDoorW.PrintMore
attribute [local go_sem] ZU ZS ZW ZV ZO ZN ZT ZR
set_option linter.unusedVariables false
set_option linter.unusedSimpArgs false
open Go.Proofs.YtoeimopgoaffcaaGreatDoor.Ni
structure Z5.St (w W:World) (n:Int) (g6 g7:Nat) (uL uR:Value) (L:List S112) (S:List ByteArray):Prop where
 b6:W.heap[g6]? = some (Obj.cells #[Value.int .i64 n,uL] 54 (0,0))
 b7:W.heap[g7]? = some (Obj.cells #[uR] 68 (0,0))
 rl:Kd.R k112 112 W w.heap.size (fun k=>some k≠uR.ownBlock) uL L
 rr:Kd.R Kd.string 9 W w.heap.size (fun k=>some k≠uL.ownBlock) uR S
 hb:Below w.heap.size w W
 g6b:w.heap.size≤g6
 g7b:w.heap.size≤g7
def Z5.Fr (g6:Nat) (W W':World):Prop:=∀(k:Nat) (cs:Array Value) (t:Nat),W.heap[k]? = some (Obj.cells cs t (0,0))→k≠g6→t≠68→t≠112→t≠9→W'.heap[k]? = W.heap[k]?
theorem Z5.g1 {w W w1:World} {n:Int} {g6 g7:Nat} {uL uR v1:Value} {L L1:List S112} {S:List ByteArray} (h:Z5.St w W n g6 g7 uL uR L S) (ho:Kd.R k112 112 w1 w.heap.size (fun k=>some k≠uR.ownBlock) v1 L1) (hb:Below w.heap.size w w1) (hg:W.grownBy w1 uL.ownBlock) (hat:v1.ownBlock=uL.ownBlock∨∃b,v1.ownBlock=some b∧W.heap.size≤b) :
  Z5.St w (w1.setCell ⟨g6,1,none⟩ v1) n g6 g7 v1 uR L1 S∧(∀k,k<W.heap.size→some k≠uL.ownBlock→k≠g6→(w1.setCell ⟨g6,1,none⟩ v1).heap[k]? = W.heap[k]?)∧W.heap.size≤(w1.setCell ⟨g6,1,none⟩ v1).heap.size∧(w1.cell? ⟨g6,1,none⟩=some uL∧w1.frozen? ⟨g6,1,none⟩=false∧w1.cell? ⟨g7,0,none⟩=some uR∧w1.frozen? ⟨g7,0,none⟩=false)∧∃A c,v1=.slice A L1.length c:=by
 obtain⟨b6,b7,rl,rr,hb0,g6b,g7b⟩:=h
 have NE:=Zbs b6 b7 (by decide)
 have HR1:=Kd.R_after (ok:=fun _=>True) (Kd.R_mono rr (fun _ hk=>⟨trivial,hk⟩)) hg hat
 have c6:=Zas b6 hg (Kd.R_ne rl b6 (by decide))
 have c7:=Zas b7 hg (Kd.R_ne rl b7 (by decide))
 refine⟨⟨ZZ (cs:=#[.int .i64 n,uL]) c6 1 v1 rfl,ZQ c7 (p:=⟨g6,1,none⟩) NE.symm v1,?_,?_,Zq hb g6b,g6b,g7b⟩,fun k hk hne h6=>(Below.heap_setCell w1 ⟨g6,1,none⟩ _ k h6).trans (hg.block k hk hne),?_,⟨(Zp c6 1).trans rfl,Zr c6 1,(Zp c7 0).trans rfl,Zr c7 0⟩,Kd.R_slice ho⟩
 ·exact Kd.R_mono (Kd.R_far (p:=⟨g6,1,none⟩) (Kd.R_types ho c6 (by decide)) (fun _ hk=>hk.2) v1) (fun _ hk=>hk.1)
 ·exact Kd.R_mono (Kd.R_far (p:=⟨g6,1,none⟩) (Kd.R_types HR1 c6 (by decide)) (fun _ hk=>hk.2) v1) (fun _ hk=>hk.1.2)
 ·simp only[World.setCell,Array.size_modify];exact hg.size
theorem Z5.g2 {w W w1:World} {n:Int} {g6 g7:Nat} {uL uR v1:Value} {L:List S112} {S S1:List ByteArray} (h:Z5.St w W n g6 g7 uL uR L S) (ho:Kd.R Kd.string 9 w1 w.heap.size (fun k=>some k≠uL.ownBlock) v1 S1) (hb:Below w.heap.size w w1) (hg:W.grownBy w1 uR.ownBlock) (hat:v1.ownBlock=uR.ownBlock∨∃b,v1.ownBlock=some b∧W.heap.size≤b) :
  Z5.St w (w1.setCell ⟨g7,0,none⟩ v1) n g6 g7 uL v1 L S1∧(∀k,k<W.heap.size→some k≠uR.ownBlock→k≠g7→(w1.setCell ⟨g7,0,none⟩ v1).heap[k]? = W.heap[k]?)∧(w1.cell? ⟨g7,0,none⟩=some uR∧w1.frozen? ⟨g7,0,none⟩=false)∧∃A c,v1=.slice A S1.length c:=by
 obtain⟨b6,b7,rl,rr,hb0,g6b,g7b⟩:=h
 have NE:=Zbs b6 b7 (by decide)
 have HR1:=Kd.R_after (ok:=fun _=>True) (Kd.R_mono rl (fun _ hk=>⟨trivial,hk⟩)) hg hat
 have c6:=Zas b6 hg (Kd.R_ne rr b6 (by decide))
 have c7:=Zas b7 hg (Kd.R_ne rr b7 (by decide))
 refine⟨⟨ZQ c6 (p:=⟨g7,0,none⟩) NE v1,ZZ (cs:=#[uR]) c7 0 v1 rfl,?_,?_,Zq hb g7b,g6b,g7b⟩,fun k hk hne h6=>(Below.heap_setCell w1 ⟨g7,0,none⟩ _ k h6).trans (hg.block k hk hne),⟨(Zp c7 0).trans rfl,Zr c7 0⟩,Kd.R_slice ho⟩
 ·exact Kd.R_mono (Kd.R_far (p:=⟨g7,0,none⟩) (Kd.R_types HR1 c7 (by decide)) (fun _ hk=>hk.2) v1) (fun _ hk=>hk.1.2)
 ·exact Kd.R_mono (Kd.R_far (p:=⟨g7,0,none⟩) (Kd.R_types ho c7 (by decide)) (fun _ hk=>hk.2) v1) (fun _ hk=>hk.1)
theorem Z5.fr {w W W1 W2:World} {n:Int} {g6 g7:Nat} {uL uR:Value} {L:List S112} {S:List ByteArray} (h:Z5.St w W n g6 g7 uL uR L S) (f1:∀k,k<W.heap.size→some k≠uL.ownBlock→k≠g6→W1.heap[k]? = W.heap[k]?) (hs:W.heap.size≤W1.heap.size) (f2:∀k,k<W1.heap.size→some k≠uR.ownBlock→k≠g7→W2.heap[k]? = W1.heap[k]?):Z5.Fr g6 W W2:=by
 intro k cs t hk n1 n2 n3 n4
 have typ:∀{v:Value} {e:Nat},(∀k,v.ownBlock=some k→∃cells,W.heap[k]? = some (Obj.cells cells e (0,0)))→t≠e→some k≠v.ownBlock:=fun hv hne he=>by
  obtain⟨cs',hc⟩:=hv k he.symm
  rw[hk] at hc
  injection hc with hc
  injection hc with _ h2
  exact hne h2
 have hlt:=ZM hk
 exact(f2 k (by omega) (typ (Kd.R_typed h.rr) n4) (Zbs hk h.b7 n2)).trans (f1 k hlt (typ (Kd.R_typed h.rl) n3) n1)
set_option maxHeartbeats 4000000 in
set_option maxRecDepth 100000 in
theorem Z5.clo (w W:World) (n:Int) (g6 g7:Nat) (uL uR:Value) (L:List S112) (S:List ByteArray) (x0 x1 x2 x3:Int) (s:ByteArray) (h:Z5.St w W n g6 g7 uL uR L S) (hL:L.length<4398046511104) (hS:S.length<4398046511104) :
  Calls Tryz.prog 161 #[.int .i64 x0,.int .i64 x1,.int .i64 x2,.int .i64 x3,.string s,.pointer (some ⟨g6,0,none⟩),.pointer (some ⟨g7,0,none⟩)] W fun e w'=>e=.returned (.tuple #[])∧∃uL' uR':Value,Z5.St w w' n g6 g7 uL' uR' (L ++ [⟨x0,x1,⟨x2,x3⟩⟩]) (S ++ [s])∧Z5.Fr g6 W w':=by
 have hu:=Tryz.underlying54
 have hul:=Tryz.underlying112
 have hui:=Tryz.underlying110
 have NE:=Zbs h.b6 h.b7 (by decide)
 have NE2:=NE.symm
 have h1:W.cell? ⟨g6,1,none⟩=some uL:=(Zp h.b6 1).trans rfl
 have HL:=Za hL;have HS:=Za hS;have H:=Za h;clear hL hS h
 obtain⟨L1,hL1⟩:∃L1:List S112,L1=L ++ [⟨x0,x1,⟨x2,x3⟩⟩]:=⟨_,rfl⟩
 obtain⟨S1,hS1⟩:∃S1:List ByteArray,S1=S ++ [s]:=⟨_,rfl⟩
 rw[← hL1,← hS1]
 have HL1:=Za hL1;have HS1:=Za hS1;clear hL1 hS1
 go_enter Tryz.func161,Tryz.ntmps161
 go_wp2_with (first|((with_reducible refine Z4 (b:=.append) (xs:=#[.tmp 13,.tmp 20]) rfl ?_);at_builtin;refine Kd.R_append k112 (w0:=w) w.heap.size rfl (.tmp 13) (.tmp 20) 52 112 (.agg #[(.int .i64 0),(.int .i64 0),(.int .i64 0),(.int .i64 0)]) 32 rfl Tryz.underlying52 ZdL rfl (by decide) (by omega) uL L ⟨x0,x1,⟨x2,x3⟩⟩ [.int .i64 x0,.int .i64 x1,.int .i64 x2,.int .i64 x3] (fun k=>some k≠uR.ownBlock) (fun _=>False) rfl (by first|(go_simp;done)|(go_simp;rfl)) ?aP (fun _ hk=>hk.elim) ?aF ?aO ?aB ?aS ?aL ?_;(case aP=>exact Zdd _ _ _ (⟨x0,x1,⟨x2,x3⟩⟩:S112));(case aB=>exact H.out.hb);(case aF=>exact Kd.fresh' (Kd.R_lt H.out.rr));(case aO=>exact H.out.rl);(case aS=>exact H.out.hb.size);(case aL=>have:=HL.out;omega);intro v1 w1 ho hb hg hat;rw[← HL1.out] at ho;obtain⟨h2,f1,sz,⟨k1,k2,k3,k4⟩,A1,c1,e1⟩:=Z5.g1 H.out ho hb hg hat;subst e1;have H2:=Za h2;have F1:=Za f1;have SZ:=Za sz;clear h2 f1 sz ho hb hg hat h1)|((with_reducible refine Z4 (b:=.append) (xs:=#[.tmp 23,.tmp 25]) rfl ?_);at_builtin;refine Kd.R_append Kd.string (w0:=w) w.heap.size rfl (.tmp 23) (.tmp 25) 68 9 (.string ⟨#[]⟩) 16 rfl Tryz.underlying68 info9 rfl (by decide) (by omega) uR S s [.string s] (fun k=>some k≠(Value.slice A1 L1.length c1).ownBlock) (fun _=>False) rfl (by first|(go_simp;done)|(go_simp;rfl)) ?aP (fun _ hk=>hk.elim) ?aF ?aO ?aB ?aS ?aL ?_;(case aP=>exact rfl);(case aB=>exact H2.out.hb);(case aF=>exact Kd.fresh' (Kd.R_lt H2.out.rl));(case aO=>exact H2.out.rr);(case aS=>exact H2.out.hb.size);(case aL=>have:=HS.out;omega);intro v2 w2 ho hb hg hat;rw[← HS1.out] at ho;obtain⟨h2,f1,⟨k5,k6⟩,A2,c2,e2⟩:=Z5.g2 H2.out ho hb hg hat;subst e2;have H3:=Za h2;have F2:=Za f1;clear h2 f1 ho hb hg hat k1 k2 k3 k4))
 refine bodyPost_end (results_none rfl _ _ _) rfl ?_
 exact⟨rfl,_,_,H3.out,Z5.fr H.out F1.out SZ.out F2.out⟩
end Go.Proofs.YtoeimopgoaffcaaGreatDoor.Pr
namespace Go.Proofs.YtoeimopgoaffcaaGreatDoor.Pr
open Go.RowKit Go.Proofs.YtoeimopgoaffcaaGreatDoorW.PrintWords Go.Proofs.YtoeimopgoaffcaaGreatDoorW.PrintLast Go.Proofs.YtoeimopgoaffcaaGreatDoorW.PrintMore
attribute [local go_sem] ZU ZS ZW ZV ZO ZN ZT ZR
set_option linter.unusedVariables false
set_option linter.unusedSimpArgs false
def ZcH.f (a0:Int):Option (Bool):=if a0<(-1) then(some true) else(some (decide (a0 > 1)))
set_option maxHeartbeats 8000000 in
set_option maxRecDepth 100000 in
theorem ZcH.calls (a0:Int) (r:Bool) (w:World) (h:ZcH.f a0=some r) :
  Calls Tryz.prog 239 #[.int .i64 a0] w fun e w'=>e=.returned (.bool r)∧ZE w w':=by
 have H:(if a0<(-1) then(some true) else(some (decide (a0 > 1))))=some r:=h
 clear h
 by_cases c2:a0<(-1)
 ·rw[if_pos c2] at H
  have c2b0:decide (a0<(-1))=true:=Ze c2
  clear c2
  obtain rfl:=Zg H
  go_enter Tryz.func239,Tryz.ntmps239
  go_wp2
  go_ret
  exact⟨by first|rfl|(simp;done)|(simp[*];done),by repeat(first|exact ZE.refl _|apply ZE.step)⟩
 ·rw[if_neg c2] at H
  have c2b0:decide (a0<(-1))=false:=Zf c2
  clear c2
  obtain rfl:=Zg H
  go_enter Tryz.func239,Tryz.ntmps239
  go_wp2
  go_ret
  exact⟨by first|rfl|(simp;done)|(simp[*];done),by repeat(first|exact ZE.refl _|apply ZE.step)⟩
end Go.Proofs.YtoeimopgoaffcaaGreatDoor.Pr
namespace Go.Proofs.YtoeimopgoaffcaaGreatDoor.Pr
open Go.RowKit Go.Proofs.YtoeimopgoaffcaaGreatDoorW.PrintWords Go.Proofs.YtoeimopgoaffcaaGreatDoorW.PrintLast Go.Proofs.YtoeimopgoaffcaaGreatDoorW.PrintMore
attribute [local go_sem] ZU ZS ZW ZV ZO ZN ZT ZR
set_option linter.unusedVariables false
set_option linter.unusedSimpArgs false
open Go.Proofs.YtoeimopgoaffcaaGreatDoor.Ni
def Zcb.f (l0:List Int):Option Bool:=some (Zb8 l0)
theorem Zcb.calls (A0:Option Addr) (c0:Nat) (l0:List Int) (r:Bool) (w:World) (hr0:Kd.C (Kd.int .i64) w A0 l0.length l0) (hc0:l0.length≤c0) (h:Zcb.f l0=some r) :
  Calls Tryz.prog 217 #[.slice A0 l0.length c0] w fun e w'=>e=.returned (.bool r)∧Below w.heap.size w w':=by
 obtain rfl:Zb8 l0=r:=Zg h
 have hv:l0.length=3→(!(l0.any fun n=>decide (n < -1) || decide (n > 1)))=Zb8 l0:=fun hl=>by
  unfold Zb8
  rw[Ze hl,Bool.true_and,List.not_any_eq_all_not]
  congr 1
  funext n
  rw[Bool.eq_iff_iff]
  simp
 have hn:¬l0.length=3→Zb8 l0=false:=fun hl=>by simp[Zb8,hl]
 have HV:=Za hv;have HN:=Za hn
 have HC:=Za (ZbO.any (fun n=>decide (n < -1) || decide (n > 1)) 239 #[] (enters_of Tryz.func239 (by kernel_rfl) rfl) A0 c0 l0 w hr0
  (fun W x _ _=>(ZcH.calls x (decide (x < -1) || decide (x > 1)) W (by
   unfold ZcH.f
   by_cases h1:x < -1
   ·rw[if_pos h1,Ze h1];rfl
   ·rw[if_neg h1,Zf h1];rfl)).mono fun e w' ⟨he,hd⟩=>⟨he,hd.below⟩))
 clear hv hn h hr0 hc0
 by_cases hl:l0.length=3
 ·have h3:((l0.length:Int) == 3)=true:=by rw[beq_iff_eq];omega
  have HL:=Za hl;clear hl
  go_enter Tryz.func217,Tryz.ntmps217
  go_wp2_with (go_at_call 79;refine HC.out.mono ?_;rintro e w' ⟨rfl,hb⟩)
  go_ret
  exact⟨by rw[← HV.out HL.out];rfl,hb⟩
 ·have h3:((l0.length:Int) == 3)=false:=by rw[beq_eq_false_iff_ne];omega
  have HL:=Za hl;clear hl
  go_enter Tryz.func217,Tryz.ntmps217
  go_wp2
  go_ret
  exact⟨by rw[HN.out HL.out];rfl,Below.refl _ _⟩
end Go.Proofs.YtoeimopgoaffcaaGreatDoor.Pr
namespace Go.Proofs.YtoeimopgoaffcaaGreatDoor.Pr
open Go.RowKit Go.Proofs.YtoeimopgoaffcaaGreatDoorW.PrintWords Go.Proofs.YtoeimopgoaffcaaGreatDoorW.PrintLast Go.Proofs.YtoeimopgoaffcaaGreatDoorW.PrintMore
attribute [local go_sem] ZU ZS ZW ZV ZO ZN ZT ZR
set_option linter.unusedVariables false
set_option linter.unusedSimpArgs false
def impl_holds.f (a0:Int) (l1:List Int):Option (Int):=(ZaD.f a0).bind fun t218001=>(if 0≤(wrap64 (t218001 - 1)) then(if (wrap64 (t218001 - 1))<(l1.length:Int) then(if a0<0 then(some (wrap64 (-(rd l1 (wrap64 (t218001 - 1)))))) else(some (rd l1 (wrap64 (t218001 - 1))))) else(none)) else(none))
set_option maxHeartbeats 8000000 in
set_option maxRecDepth 100000 in
theorem impl_holds.calls (a0:Int) (A1:Option Addr) (c1:Nat) (l1:List Int) (r:Int) (w:World) (hr1:Kd.C (Kd.int .i64) w A1 l1.length l1) (hc1:l1.length≤c1) (h:impl_holds.f a0 l1=some r) :
  Calls Tryz.prog 218 #[.int .i64 a0,.slice A1 l1.length c1] w fun e w'=>e=.returned (.int .i64 r)∧Below w.heap.size w w':=by
 have HR1:=Za hr1;have HC1:=Za hc1;clear hr1 hc1
 have HB:=Za (Below.refl w.heap.size w)
 have H:((ZaD.f a0).bind fun t218001=>(if 0≤(wrap64 (t218001 - 1)) then(if (wrap64 (t218001 - 1))<(l1.length:Int) then(if a0<0 then(some (wrap64 (-(rd l1 (wrap64 (t218001 - 1)))))) else(some (rd l1 (wrap64 (t218001 - 1))))) else(none)) else(none)))=some r:=h
 clear h
 replace H:=Zh H
 obtain⟨t218001,A30,H⟩:=H
 replace H:(if 0≤(wrap64 (t218001 - 1)) then(if (wrap64 (t218001 - 1))<(l1.length:Int) then(if a0<0 then(some (wrap64 (-(rd l1 (wrap64 (t218001 - 1)))))) else(some (rd l1 (wrap64 (t218001 - 1))))) else(none)) else(none))=some r:=H
 have A3:=Za A30;clear A30
 obtain⟨ji4,hji4⟩:∃j_:Int,(wrap64 (t218001 - 1))=j_:=⟨_,rfl⟩
 replace H:(if 0≤(ji4) then(if (ji4)<(l1.length:Int) then(if a0<0 then(some (wrap64 (-(rd l1 (ji4))))) else(some (rd l1 (ji4)))) else(none)) else(none))=some r:=by first|(rw[hji4] at H;exact H)|(simp only[hji4] at H ⊢;exact H)
 (try rw[hji4] at A3)
 have hji4w:(IntKind.i64.wrap (t218001 - 1))=ji4:=(i64_w _).trans hji4
 by_cases c5:0≤(ji4)
 ·rw[if_pos c5] at H
  have c5b0:decide (0≤(ji4))=true:=Ze c5
  clear c5
  by_cases c6:(ji4)<(l1.length:Int)
  ·rw[if_pos c6] at H
   have c6b0:decide ((ji4)<(l1.length:Int))=true:=Ze c6
   clear c6
   by_cases c7:a0<0
   ·rw[if_pos c7] at H
    have c7b0:decide (a0<0)=true:=Ze c7
    clear c7
    obtain rfl:=Zg H
    go_enter Tryz.func218,Tryz.ntmps218
    go_wp2_with (first|((with_reducible refine ZJ (f:=144) rfl ?_);refine Zaa (some 8) rfl rfl Tryz.func144 (by kernel_rfl) rfl #[.int .i64 a0] rfl (by(try simp only[List.map_toArray,List.map_cons,List.map_nil]);first|done|rfl|(simp only[Zk,Zj];rfl)) ?_;(with_reducible refine(ZaD.calls a0 t218001 _ A3.out).mono ?_);rintro e w8 ⟨rfl,hb⟩;refine⟨_,rfl,?_⟩;replace HB:=Za (Zw (by repeat(first|(with_reducible first|exact HB.out|apply Zn|apply Zm|apply Zo)|exact HB.out)) hb);(try clear hb);(try clear hb2);(try clear hk);(try clear hi);have p218002:0≤((ji4):Int):=Zd (by first|(with_reducible assumption)|assumption);have q218002:(ji4)<(l1.length:Int):=Zd (by first|(with_reducible assumption)|assumption);obtain⟨ad218002,e218002,hx218002_0⟩:=Kd.at_int HR1.out (ji4) p218002 q218002;cases e218002;replace hx218002_0:=(HB.out.cell (Zc w _ hx218002_0)).trans hx218002_0;replace p218002:=eq_true p218002;replace q218002:=eq_true q218002))
    go_ret
    exact⟨by first|rfl|(simp[ZC,ZB] <;> rfl)|(simp only[← hji4];first|rfl|(simp[ZC,ZB] <;> rfl))|(simp[*,ZC,ZB] <;> rfl),by repeat(first|(with_reducible first|exact HB.out|apply Zn|apply Zm|apply Zo)|exact HB.out)⟩
   ·rw[if_neg c7] at H
    have c7b0:decide (a0<0)=false:=Zf c7
    clear c7
    obtain rfl:=Zg H
    go_enter Tryz.func218,Tryz.ntmps218
    go_wp2_with (first|((with_reducible refine ZJ (f:=144) rfl ?_);refine Zaa (some 8) rfl rfl Tryz.func144 (by kernel_rfl) rfl #[.int .i64 a0] rfl (by(try simp only[List.map_toArray,List.map_cons,List.map_nil]);first|done|rfl|(simp only[Zk,Zj];rfl)) ?_;(with_reducible refine(ZaD.calls a0 t218001 _ A3.out).mono ?_);rintro e w9 ⟨rfl,hb⟩;refine⟨_,rfl,?_⟩;replace HB:=Za (Zw (by repeat(first|(with_reducible first|exact HB.out|apply Zn|apply Zm|apply Zo)|exact HB.out)) hb);(try clear hb);(try clear hb2);(try clear hk);(try clear hi);have p218002:0≤((ji4):Int):=Zd (by first|(with_reducible assumption)|assumption);have q218002:(ji4)<(l1.length:Int):=Zd (by first|(with_reducible assumption)|assumption);obtain⟨ad218002,e218002,hx218002_0⟩:=Kd.at_int HR1.out (ji4) p218002 q218002;cases e218002;replace hx218002_0:=(HB.out.cell (Zc w _ hx218002_0)).trans hx218002_0;replace p218002:=eq_true p218002;replace q218002:=eq_true q218002))
    go_ret
    exact⟨by first|rfl|(simp[ZC,ZB] <;> rfl)|(simp only[← hji4];first|rfl|(simp[ZC,ZB] <;> rfl))|(simp[*,ZC,ZB] <;> rfl),by repeat(first|(with_reducible first|exact HB.out|apply Zn|apply Zm|apply Zo)|exact HB.out)⟩
  ·rw[if_neg c6] at H
   exact absurd H (by simp)
 ·rw[if_neg c5] at H
  exact absurd H (by simp)
mutual
def Z0.j0:Nat→List Int→List Int→Bool→Option (Int)
 | 0,_,_,_=>none
 | k+1,x0,x1,x15=>if x15=true then(some (-1)) else(Z0.l0 k x1 1 x0 (x0.length:Int) 0)
def Z0.l0:Nat→List Int→Int→List Int→Int→Int→Option (Int)
 | 0,_,_,_,_,_=>none
 | k+1,x1,x5,x16,x17,x18=>if x18<x17 then(if 0≤x18 then(if x18<(x16.length:Int) then((impl_holds.f (rd x16 x18) x1).bind fun t198004=>(Z0.l0 k x1 (mn x5 t198004) x16 x17 (wrap64 (x18+1)))) else(none)) else(none)) else(some x5)
end
def Z0.f (k:Nat) (l0:List Int) (l1:List Int):Option (Int):=(Zad.f k l0).bind fun t198001=>(if t198001=true then((Zcb.f l1).bind fun t198002=>(Z0.j0 k l0 l1 (!t198002))) else(Z0.j0 k l0 l1 true))
set_option maxHeartbeats 8000000 in
set_option maxRecDepth 100000 in
theorem Z0.calls (k:Nat) (A0:Option Addr) (c0:Nat) (l0:List Int) (A1:Option Addr) (c1:Nat) (l1:List Int) (r:Int) (w:World) (hr0:Kd.C (Kd.int .i64) w A0 l0.length l0) (hc0:l0.length≤c0) (hr1:Kd.C (Kd.int .i64) w A1 l1.length l1) (hc1:l1.length≤c1) (h:Z0.f k l0 l1=some r) :
  Calls Tryz.prog 198 #[.slice A0 l0.length c0,.slice A1 l1.length c1] w fun e w'=>e=.returned (.int .i64 r)∧Below w.heap.size w w':=by
 have HR0:=Za hr0;have HC0:=Za hc0;clear hr0 hc0;have HR1:=Za hr1;have HC1:=Za hc1;clear hr1 hc1
 have HB:=Za (Below.refl w.heap.size w)
 have H:((Zad.f k l0).bind fun t198001=>(if t198001=true then((Zcb.f l1).bind fun t198002=>(Z0.j0 k l0 l1 (!t198002))) else(Z0.j0 k l0 l1 true)))=some r:=h
 clear h;have HC3:=Za H;clear H
 go_enter Tryz.func198,Tryz.ntmps198
 go_upto_region 1 with (fail)
 go_cut [15] (fun v15 wc=>∃(kq:Nat) (x15_2:Bool),v15=.bool x15_2∧Aside0 (Z0.j0 kq l0 l1 x15_2=some r)∧Aside0 (kq≤k)∧Aside0 (Below w.heap.size w wc))
 case first=>
  have H:=HC3.out
  clear HC3
  replace H:=Zh H
  obtain⟨t198001,A40,H⟩:=H;have A4:=Za A40;clear A40
  by_cases c5:t198001=true
  ·subst c5
   rw[if_pos rfl] at H
   replace H:=Zh H
   obtain⟨t198002,A60,H⟩:=H;have A6:=Za A60;clear A60
   have H':=Za H
   clear H
   go_wp2_with (first|((with_reducible refine ZJ (f:=87) rfl ?_);refine Zaa (some 9) rfl rfl Tryz.func87 (by kernel_rfl) rfl #[.slice A0 l0.length c0] rfl (by(try simp only[List.map_toArray,List.map_cons,List.map_nil]);first|done|rfl|(simp only[Zk,Zj];rfl)) ?_;(with_reducible refine(Zad.calls k _ _ l0 true _ ?side1 ?side2 A4.out).mono ?_);(case side1=>repeat(first|exact(Zb HR0.out HB.out)|(with_reducible refine Kd.C_alloc ?_ _)|(with_reducible refine Kd.C_drewN ?_ _)|(with_reducible refine Kd.C_drew ?_)));(case side2=>exact HC0.out);rintro e w7 ⟨rfl,hb⟩;refine⟨_,rfl,?_⟩;replace HB:=Za (Zw (by repeat(first|(with_reducible first|exact HB.out|apply Zn|apply Zm|apply Zo)|exact HB.out)) hb);(try clear hi))|(go_at_call 217;(with_reducible refine(Zcb.calls _ _ l1 t198002 _ ?side1 ?side2 A6.out).mono ?_);(case side1=>repeat(first|exact(Zb HR1.out HB.out)|(with_reducible refine Kd.C_alloc ?_ _)|(with_reducible refine Kd.C_drewN ?_ _)|(with_reducible refine Kd.C_drew ?_)));(case side2=>exact HC1.out);rintro e w8 ⟨rfl,hb⟩;replace HB:=Za (Zw (by repeat(first|(with_reducible first|exact HB.out|apply Zn|apply Zm|apply Zo)|exact HB.out)) hb);(try clear hi)))
   go_meet
   case rel=>exact⟨_,(!t198002),(by first|rfl|(simp;done)|(simp[*];done)),H',⟨by first|omega|exact Nat.le_refl _⟩,⟨by repeat(first|(with_reducible first|exact HB.out|apply Zn|apply Zm|apply Zo)|exact HB.out)⟩⟩
  ·replace c5:=Bool.eq_false_iff.mpr c5
   subst c5
   have H1:(Z0.j0 k l0 l1 true)=some r:=by rw[if_neg (show ¬(false=true) by decide)] at H;exact H
   clear H
   have H:=H1
   clear H1
   have H':=Za H
   clear H
   go_wp2_with (first|((with_reducible refine ZJ (f:=87) rfl ?_);refine Zaa (some 9) rfl rfl Tryz.func87 (by kernel_rfl) rfl #[.slice A0 l0.length c0] rfl (by(try simp only[List.map_toArray,List.map_cons,List.map_nil]);first|done|rfl|(simp only[Zk,Zj];rfl)) ?_;(with_reducible refine(Zad.calls k _ _ l0 false _ ?side1 ?side2 A4.out).mono ?_);(case side1=>repeat(first|exact(Zb HR0.out HB.out)|(with_reducible refine Kd.C_alloc ?_ _)|(with_reducible refine Kd.C_drewN ?_ _)|(with_reducible refine Kd.C_drew ?_)));(case side2=>exact HC0.out);rintro e w9 ⟨rfl,hb⟩;refine⟨_,rfl,?_⟩;replace HB:=Za (Zw (by repeat(first|(with_reducible first|exact HB.out|apply Zn|apply Zm|apply Zo)|exact HB.out)) hb);(try clear hi)))
   go_meet
   case rel=>exact⟨_,(true),(by first|rfl|(simp;done)|(simp[*];done)),H',⟨by first|omega|exact Nat.le_refl _⟩,⟨by repeat(first|(with_reducible first|exact HB.out|apply Zn|apply Zm|apply Zo)|exact HB.out)⟩⟩
 case rest=>
  clear HC3
  try clear c1
  try clear p2
  try clear c5
  try clear c8
  obtain⟨kq,x15_2,rfl,HA,HJ2,HB⟩:=hcut
  cases kq with
  | zero=>exact absurd HA.out (by simp[Z0.j0])
  | succ kj2=>
   have H:=HA.out
   clear HA
   simp only[Z0.j0] at H
   by_cases c10:x15_2=true
   ·subst c10
    rw[if_pos rfl] at H
    obtain rfl:=Zg H
    go_wp2
    go_ret
    exact⟨by first|rfl|(simp[ZC,ZB] <;> rfl)|(simp[*,ZC,ZB] <;> rfl),by repeat(first|(with_reducible first|exact HB.out|apply Zn|apply Zm|apply Zo)|exact HB.out)⟩
   ·replace c10:=Bool.eq_false_iff.mpr c10
    subst c10
    have H1:(Z0.l0 kj2 l1 1 l0 (l0.length:Int) 0)=some r:=by rw[if_neg (show ¬(false=true) by decide)] at H;exact H
    clear H
    have H:=H1
    clear H1
    have H':=Za H
    clear H
    go_wp2
    go_loopg [5,18] kj2 (fun kq v5 v18 w'=>∃(x5_2:Int) (x18_2:Int),v5=.int .i64 x5_2∧v18=.int .i64 x18_2∧Aside0 (Z0.l0 kq l1 x5_2 l0 (l0.length:Int) x18_2=some r)∧Aside0 (kq≤kj2)∧Aside0 (Below w.heap.size w w'))
    case atStart=>exact⟨(1),(0),(by first|rfl|(simp;done)|(simp[*];done)),(by first|rfl|(simp;done)|(simp[*];done)),H',⟨Nat.le_refl _⟩,⟨by repeat(first|(with_reducible first|exact HB.out|apply Zn|apply Zm|apply Zo)|exact HB.out)⟩⟩
    case round=>
     clear H'
     try clear c1
     try clear p2
     try clear c5
     try clear c8
     try clear c10
     try clear p2
     obtain⟨x5_2,x18_2,rfl,rfl,HA,HK2,HB⟩:=hrel
     cases gk with
     | zero=>exact absurd HA.out (by simp[Z0.l0])
     | succ k2=>
      have H:=HA.out
      clear HA
      simp only[Z0.l0] at H
      by_cases c11:x18_2<(l0.length:Int)
      ·rw[if_pos c11] at H
       have c11b0:decide (x18_2<(l0.length:Int))=true:=Ze c11
       clear c11
       by_cases c12:0≤x18_2
       ·rw[if_pos c12] at H
        have c12b0:decide (0≤x18_2)=true:=Ze c12
        clear c12
        by_cases c13:x18_2<(l0.length:Int)
        ·rw[if_pos c13] at H
         have c13b0:decide (x18_2<(l0.length:Int))=true:=Ze c13
         clear c13
         replace H:=Zh H
         obtain⟨t198004,A140,H⟩:=H;have A14:=Za A140;clear A140
         obtain⟨ji15,hji15⟩:∃j_:Int,(mn x5_2 t198004)=j_:=⟨_,rfl⟩
         replace H:(Z0.l0 k2 l1 ji15 l0 (l0.length:Int) (wrap64 (x18_2+1)))=some r:=by first|(rw[hji15] at H;exact H)|(simp only[hji15] at H ⊢;exact H)
         (try rw[hji15] at A14)
         have hji15_:(if t198004<x5_2 then t198004 else x5_2)=ji15:=hji15
         have H':=Za H
         clear H
         have p198003:0≤(x18_2:Int):=Zd (by first|(with_reducible assumption)|assumption)
         have q198003:x18_2<(l0.length:Int):=Zd (by first|(with_reducible assumption)|assumption)
         obtain⟨ad198003,e198003,hx198003_0⟩:=Kd.at_int HR0.out x18_2 p198003 q198003
         cases e198003
         replace hx198003_0:=(HB.out.cell (Zc w _ hx198003_0)).trans hx198003_0
         replace p198003:=eq_true p198003
         replace q198003:=eq_true q198003
         go_wp2_with (first|((with_reducible refine ZJ (f:=218) rfl ?_);refine Zaa (some 25) rfl rfl Tryz.func218 (by kernel_rfl) rfl #[.int .i64 (rd l0 x18_2),.slice A1 l1.length c1] rfl (by(try simp only[List.map_toArray,List.map_cons,List.map_nil]);first|done|rfl|(simp only[Zk,Zj];rfl)) ?_;(with_reducible refine(impl_holds.calls (rd l0 x18_2) _ _ l1 t198004 _ ?side1 ?side2 A14.out).mono ?_);(case side1=>repeat(first|exact(Zb HR1.out HB.out)|(with_reducible refine Kd.C_alloc ?_ _)|(with_reducible refine Kd.C_drewN ?_ _)|(with_reducible refine Kd.C_drew ?_)));(case side2=>exact HC1.out);rintro e w16 ⟨rfl,hb⟩;refine⟨_,rfl,?_⟩;replace HB:=Za (Zw (by repeat(first|(with_reducible first|exact HB.out|apply Zn|apply Zm|apply Zo)|exact HB.out)) hb);(try clear hi)))
         go_roundg k2
         case measure=>have:=HJ2.out;have:=HK2.out;omega
         case rel=>exact⟨(ji15),(wrap64 (x18_2+1)),(by first|rfl|(simp;done)|(simp only[← hji15] <;> (first|rfl|simp))|(simp[*];done)),(by first|rfl|(simp;done)|(simp[*];done)),H',⟨by have:=HJ2.out;have:=HK2.out;omega⟩,⟨by repeat(first|(with_reducible first|exact HB.out|apply Zn|apply Zm|apply Zo)|exact HB.out)⟩⟩
        ·rw[if_neg c13] at H
         exact absurd H (by simp)
       ·rw[if_neg c12] at H
        exact absurd H (by simp)
      ·rw[if_neg c11] at H
       have c11b0:decide (x18_2<(l0.length:Int))=false:=Zf c11
       clear c11
       obtain rfl:=Zg H
       go_wp2
       go_ret
       exact⟨by first|rfl|(simp[ZC,ZB] <;> rfl)|(simp[*,ZC,ZB] <;> rfl),by repeat(first|(with_reducible first|exact HB.out|apply Zn|apply Zm|apply Zo)|exact HB.out)⟩
def ZaO.f (k:Nat) (l0_0:List (S39)) (l0_1:List (S82)) (a0_2:Int) (l1_0:List Int) (l1_1:List Int) (a2:Int):Option (Bool):=if 0≤a2 then(if a2<(l0_0.length:Int) then((Z0.f k ((ZH l0_0 a2).f1) l1_1).bind fun t162004=>(some (t162004 == 1))) else(none)) else(none)
def ZaO.T1:Bool×List (List Nat×List Nat):=(true,[([],[]),([0],[0]),([],[]),([1,2],[1,2]),([3],[3]),([4],[4]),([],[]),([6],[6]),([5,7],[5,7]),([8],[8]),([9,8,0,1,2,3,4,5,6,7,8,9],[9])])
def ZaO.B1:List Nat:=[0,1,0,7,15,31,0,64,255,511,1023]
theorem ZaO.tab1:rtab .any (opsOf Tryz.f162 1)=ZaO.T1:=by kernel_rfl
theorem ZaO.bits1:ZeP ZaO.T1.2 ZaO.B1=true:=by kernel_rfl
set_option maxHeartbeats 8000000 in
set_option maxRecDepth 100000 in
theorem ZaO.calls (k:Nat) (A0_0:Option Addr) (c0_0:Nat) (l0_0:List (S39)) (A0_1:Option Addr) (c0_1:Nat) (l0_1:List (S82)) (a0_2:Int) (A1_0:Option Addr) (c1_0:Nat) (l1_0:List Int) (A1_1:Option Addr) (c1_1:Nat) (l1_1:List Int) (a2:Int) (r:Bool) (w:World) (hr0_0:Kd.C k39 w A0_0 l0_0.length l0_0) (hc0_0:l0_0.length≤c0_0) (hr0_1:Kd.C k82 w A0_1 l0_1.length l0_1) (hc0_1:l0_1.length≤c0_1) (hr1_0:Kd.C (Kd.int .i64) w A1_0 l1_0.length l1_0) (hc1_0:l1_0.length≤c1_0) (hr1_1:Kd.C (Kd.int .i64) w A1_1 l1_1.length l1_1) (hc1_1:l1_1.length≤c1_1) (h:ZaO.f k l0_0 l0_1 a0_2 l1_0 l1_1 a2=some r) :
  Calls Tryz.prog 162 #[.agg #[.slice A0_0 l0_0.length c0_0,.slice A0_1 l0_1.length c0_1,.int .i64 a0_2],.agg #[.slice A1_0 l1_0.length c1_0,.slice A1_1 l1_1.length c1_1],.int .i64 a2] w fun e w'=>e=.returned (.bool r)∧Below w.heap.size w w':=by
 have hu25:=Tryz.underlying25
 have hu58:=Tryz.underlying58
 have HR0_0:=Za hr0_0;have HC0_0:=Za hc0_0;clear hr0_0 hc0_0;have HR0_1:=Za hr0_1;have HC0_1:=Za hc0_1;clear hr0_1 hc0_1;have HR1_0:=Za hr1_0;have HC1_0:=Za hc1_0;clear hr1_0 hc1_0;have HR1_1:=Za hr1_1;have HC1_1:=Za hc1_1;clear hr1_1 hc1_1
 have HB:=Za (Below.refl w.heap.size w)
 have H:(if 0≤a2 then(if a2<(l0_0.length:Int) then((Z0.f k ((ZH l0_0 a2).f1) l1_1).bind fun t162004=>(some (t162004 == 1))) else(none)) else(none))=some r:=h
 clear h
 by_cases c4:0≤a2
 ·rw[if_pos c4] at H
  have c4b0:decide (0≤a2)=true:=Ze c4
  clear c4
  by_cases c5:a2<(l0_0.length:Int)
  ·rw[if_pos c5] at H
   have c5b0:decide (a2<(l0_0.length:Int))=true:=Ze c5
   clear c5
   replace H:=Zh H
   obtain⟨t162004,A60,H⟩:=H
   replace H:(some (t162004 == 1))=some r:=H
   have A6:=Za A60;clear A60
   obtain rfl:=Zg H
   go_enter Tryz.func162,Tryz.ntmps162
   try go_wp2_with (first|((with_reducible refine ZF (N:=3) rfl ?_);refine ZG ?hg (N:=3) ?hd (cs:=#[.slice A0_0 l0_0.length c0_0,.slice A0_1 l0_1.length c0_1,.int .i64 a0_2]) (t:=25) ?hr ?_;(case hd=>rfl);(case hg=>rfl);(case hr=>first|(go_simp;done)|(go_simp;rfl));intro gb162001 hg w7 hbox hb;have BK162001:=Za (hbox);have GW162001:=Za ((by rw[hg];exact(Zy (by repeat(first|(with_reducible first|exact HB.out|apply Zn|apply Zm|apply Zo)|exact HB.out))):w.heap.size≤gb162001));have GE162001:=Za ((by rw[hg];exact(Zy (by repeat(first|(with_reducible first|exact HB.out|apply Zn|apply Zm|apply Zo)|exact HB.out))):w.heap.size≤gb162001));replace HB:=Za (Zw (by repeat(first|(with_reducible first|exact HB.out|apply Zn|apply Zm|apply Zo)|exact HB.out)) hb);clear hb hbox hg)|((with_reducible refine ZF (N:=4) rfl ?_);refine ZG ?hg (N:=4) ?hd (cs:=#[.slice A1_0 l1_0.length c1_0,.slice A1_1 l1_1.length c1_1]) (t:=58) ?hr ?_;(case hd=>rfl);(case hg=>rfl);(case hr=>first|(go_simp;done)|(go_simp;rfl));intro gb162002 hg w8 hbox hb;have BK162002:=Za (hbox);have GW162002:=Za ((by rw[hg];exact(Zy (by repeat(first|(with_reducible first|exact HB.out|apply Zn|apply Zm|apply Zo|refine Zq ?_ GE162001.out)|exact HB.out))):w.heap.size≤gb162002));have GE162002:=Za ((by rw[hg];exact(Zy (by repeat(first|(with_reducible first|exact HB.out|apply Zn|apply Zm|apply Zo|refine Zq ?_ GE162001.out)|exact HB.out))):w.heap.size≤gb162002));have NB162001_162002:=Za ((by rw[hg];exact Nat.ne_of_lt (ZM (g:=gb162001) (o:=.cells #[.slice A0_0 l0_0.length c0_0,.slice A0_1 l0_1.length c0_1,.int .i64 a0_2] 25 (0,0)) (by(with_reducible repeat(first|refine Zt ?_ _|refine Zv ?_|refine Zs ?_ _));exact BK162001.out)):gb162001≠gb162002));have NB162002_162001:=Za ((by rw[hg];exact Nat.ne_of_gt (ZM (g:=gb162001) (o:=.cells #[.slice A0_0 l0_0.length c0_0,.slice A0_1 l0_1.length c0_1,.int .i64 a0_2] 25 (0,0)) (by(with_reducible repeat(first|refine Zt ?_ _|refine Zv ?_|refine Zs ?_ _));exact BK162001.out)):gb162002≠gb162001));replace BK162001:=Za (ZA (g:=gb162001) (o:=.cells #[.slice A0_0 l0_0.length c0_0,.slice A0_1 l0_1.length c0_1,.int .i64 a0_2] 25 (0,0)) (by(with_reducible repeat(first|refine Zt ?_ _|refine Zv ?_|refine Zs ?_ _));exact BK162001.out) hb);replace HB:=Za (Zw (by repeat(first|(with_reducible first|exact HB.out|apply Zn|apply Zm|apply Zo|refine Zq ?_ GE162001.out)|exact HB.out)) hb);clear hb hbox hg))
   replace BK162001:=Za (Zv BK162001.out);replace BK162002:=Za (Zv BK162002.out);replace HB:=Za (Zo HB.out)
   have p162003:0≤(a2:Int):=Zd (by first|(with_reducible assumption)|assumption)
   have q162003:a2<(l0_0.length:Int):=Zd (by first|(with_reducible assumption)|assumption)
   obtain⟨ad162003,A162003_1,c162003_1,e162003,hx162003_0,hx162003_1,hx162003_2,hl162003_1,hi162003_1⟩:=Za0 HR0_0.out a2 p162003 q162003
   have hw162003_2:=hx162003_2
   have hw162003_1:=hx162003_1
   have hw162003_0:=hx162003_0
   cases e162003
   replace hx162003_0:=(HB.out.cell (Zc w _ hx162003_0)).trans hx162003_0
   replace hx162003_1:=(HB.out.cell (Zc w _ hx162003_1)).trans hx162003_1
   replace hx162003_2:=(HB.out.cell (Zc w _ hx162003_2)).trans hx162003_2
   have HR162003_1:=Za hi162003_1;have HC162003_1:=Za hl162003_1;clear hi162003_1 hl162003_1
   replace p162003:=eq_true p162003
   replace q162003:=eq_true q162003
   refine Zcn (n:=11) (S:=fun w'=>w'.cell? ⟨gb162001,0,none⟩=some (.slice (some ad162003) l0_0.length c0_0)∧w'.cell? ⟨gb162001,1,none⟩=some (.slice A0_1 l0_1.length c0_1)∧w'.cell? ⟨gb162001,2,none⟩=some (.int .i64 a0_2)∧w'.cell? ⟨gb162002,0,none⟩=some (.slice A1_0 l1_0.length c1_0)∧w'.cell? ⟨gb162002,1,none⟩=some (.slice A1_1 l1_1.length c1_1)∧w'.cell? (ad162003.add ((a2).toNat * 3))=some (.string ((ZH l0_0 a2).f0))∧w'.cell? ⟨(ad162003.add ((a2).toNat * 3)).block,(ad162003.add ((a2).toNat * 3)).off+1,none⟩=some (.slice A162003_1 ((ZH l0_0 a2).f1).length c162003_1)∧w'.cell? ⟨(ad162003.add ((a2).toNat * 3)).block,(ad162003.add ((a2).toNat * 3)).off+2,none⟩=some (.int .i64 ((ZH l0_0 a2).f2))) (ds:=[]) #[false,false,false,false,false,false,false,false,false,false,false] (by kernel_rfl) rfl rfl ⟨(Zp BK162001.out 0).trans rfl,(Zp BK162001.out 1).trans rfl,(Zp BK162001.out 2).trans rfl,(Zp BK162002.out 0).trans rfl,(Zp BK162002.out 1).trans rfl,((HB.out.cell (Zc w _ hw162003_0)).trans hw162003_0),((HB.out.cell (Zc w _ hw162003_1)).trans hw162003_1),((HB.out.cell (Zc w _ hw162003_2)).trans hw162003_2)⟩ (fun hHeld=>?_);refine with_tabW ZaO.tab1 ZaO.bits1 (fun HT_ HW_=>?_)
   generalize w8.drew=w9 at BK162001 BK162002 HB HR162003_1 hx162003_0 hx162003_1 hx162003_2 hHeld ⊢
   refine pu (N:=some 7) 0 ?_
   refine pu (N:=some 9) 2 ?_
   refine pu (N:=some 13) 6 ?_
   refine tk (N:=some 8) 1 hHeld ?_
   refine pu (N:=some 10) 3 ?_
   refine pu (N:=some 11) 4 ?_
   refine tk (N:=some 12) 5 hHeld ?_
   refine tk (N:=some 14) 7 hHeld ?_
   refine onl (N:=some 15) 8 (fun K hK=>?_)
   refine Zcw Tryz.func198 (by kernel_rfl) rfl #[.slice A162003_1 ((ZH l0_0 a2).f1).length c162003_1,.slice A1_1 l1_1.length c1_1] (by rfl) rfl rfl (by(try simp only[List.map_toArray,List.map_cons,List.map_nil]);first|done|rfl|(simp only[Zk,Zj];rfl)) ?_
   with_reducible refine(Z0.calls k _ _ ((ZH l0_0 a2).f1) _ _ l1_1 t162004 _ ?side1 ?side2 ?side3 ?side4 A6.out).mono ?_
   (case side1=>repeat(first|exact(Zb HR162003_1.out HB.out)|(with_reducible refine Kd.C_alloc ?_ _)|(with_reducible refine Kd.C_drewN ?_ _)|(with_reducible refine Kd.C_drew ?_)))
   (case side2=>exact HC162003_1.out)
   (case side3=>repeat(first|exact(Zb HR1_1.out HB.out)|(with_reducible refine Kd.C_alloc ?_ _)|(with_reducible refine Kd.C_drewN ?_ _)|(with_reducible refine Kd.C_drew ?_)))
   (case side4=>exact HC1_1.out)
   rintro e w10 ⟨rfl,hb⟩
   refine⟨_,rfl,?_⟩
   replace BK162001:=Za (ZA (g:=gb162001) (o:=.cells #[.slice (some ad162003) l0_0.length c0_0,.slice A0_1 l0_1.length c0_1,.int .i64 a0_2] 25 (0,0)) (by(with_reducible repeat(first|refine Zt ?_ _|refine Zv ?_|refine Zs ?_ _));exact BK162001.out) hb);replace BK162002:=Za (ZA (g:=gb162002) (o:=.cells #[.slice A1_0 l1_0.length c1_0,.slice A1_1 l1_1.length c1_1] 58 (0,0)) (by(with_reducible repeat(first|refine Zt ?_ _|refine Zv ?_|refine Zs ?_ _));exact BK162002.out) hb);replace HB:=Za (Zw (by repeat(first|(with_reducible first|exact HB.out|apply Zn|apply Zm|apply Zo|refine Zq ?_ GE162001.out|refine Zq ?_ GE162002.out)|exact HB.out)) hb)
   (try clear hb)
   (try clear hb2)
   (try clear hk)
   (try clear hi)
   refine hK.out _ _ ⟨(Zp BK162001.out 0).trans rfl,(Zp BK162001.out 1).trans rfl,(Zp BK162001.out 2).trans rfl,(Zp BK162002.out 0).trans rfl,(Zp BK162002.out 1).trans rfl,((HB.out.cell (Zc w _ hw162003_0)).trans hw162003_0),((HB.out.cell (Zc w _ hw162003_1)).trans hw162003_1),((HB.out.cell (Zc w _ hw162003_2)).trans hw162003_2)⟩ (fun hHeld=>?_)
   clear hK K
   refine nrm (some 15) ?_
   refine pu (N:=some 16) 9 ?_
   refine pu (N:=some 6) 10 ?_
   refine ZcR (done_of HT_.out (by kernel_rfl)) ?_
   try go_wp2
   go_ret
   exact⟨by first|rfl|(simp[ZC,ZB] <;> rfl)|(simp[*,ZC,ZB] <;> rfl),by repeat(first|(with_reducible first|exact HB.out|apply Zn|apply Zm|apply Zo|refine Zq ?_ GE162001.out|refine Zq ?_ GE162002.out)|exact HB.out)⟩
  ·rw[if_neg c5] at H
   exact absurd H (by simp)
 ·rw[if_neg c4] at H
  exact absurd H (by simp)
end Go.Proofs.YtoeimopgoaffcaaGreatDoor.Pr
namespace Go.Proofs
open Go.Shelf
def Tryz.laysM171_ren:Go.Shelf.Ren:=⟨fun|171=>143|243=>191|246=>214|283=>233|284=>234|285=>235|286=>236|129=>248|317=>247|318=>249|319=>250|320=>251|337=>254|338=>255|n=>n,fun|3=>3|9=>9|2=>2|4=>4|171=>204|0=>0|53=>205|37=>31|5=>5|173=>208|212=>231|51=>214|20=>20|213=>232|46=>162|232=>239|233=>240|n=>n,fun|17=>5|18=>6|19=>7|n=>n⟩
theorem Tryz.laysM171:Go.Proofs.LaysM.n171 Tryz.prog Tryz.laysM171_ren:={
 mixed:=by kernel_rfl
 f129:=Tryz.func248.trans (congrArg some (by kernel_rfl))
 f171:=Tryz.func143.trans (congrArg some (by kernel_rfl))
 f243:=Tryz.func191.trans (congrArg some (by kernel_rfl))
 f246:=Tryz.func214.trans (congrArg some (by kernel_rfl))
 f283:=Tryz.func233.trans (congrArg some (by kernel_rfl))
 f284:=Tryz.func234.trans (congrArg some (by kernel_rfl))
 f285:=Tryz.func235.trans (congrArg some (by kernel_rfl))
 f286:=Tryz.func236.trans (congrArg some (by kernel_rfl))
 f317:=Tryz.func247.trans (congrArg some (by kernel_rfl))
 f318:=Tryz.func249.trans (congrArg some (by kernel_rfl))
 f319:=Tryz.func250.trans (congrArg some (by kernel_rfl))
 f320:=Tryz.func251.trans (congrArg some (by kernel_rfl))
 f337:=Tryz.func254.trans (congrArg some (by kernel_rfl))
 f338:=Tryz.func255.trans (congrArg some (by kernel_rfl))
 t0:=Tryz.underlying0
 a0:=Tryz.isAgg0
 z0:=Tryz.sizeOf0
 v0:=Tryz.zeroValue0
 t2:=Tryz.underlying2
 a2:=Tryz.isAgg2
 z2:=Tryz.sizeOf2
 v2:=Tryz.zeroValue2
 t3:=Tryz.underlying3
 a3:=Tryz.isAgg3
 z3:=Tryz.sizeOf3
 v3:=Tryz.zeroValue3
 t4:=Tryz.underlying4
 a4:=Tryz.isAgg4
 z4:=Tryz.sizeOf4
 v4:=Tryz.zeroValue4
 t5:=Tryz.underlying5
 a5:=Tryz.isAgg5
 z5:=Tryz.sizeOf5
 v5:=Tryz.zeroValue5
 t9:=Tryz.underlying9
 a9:=Tryz.isAgg9
 z9:=Tryz.sizeOf9
 v9:=Tryz.zeroValue9
 t20:=Tryz.underlying20
 a20:=Tryz.isAgg20
 z20:=Tryz.sizeOf20
 v20:=Tryz.zeroValue20
 t37:=Tryz.underlying31
 a37:=Tryz.isAgg31
 z37:=Tryz.sizeOf31
 v37:=Tryz.zeroValue31
 t46:=Tryz.underlying162
 a46:=Tryz.isAgg162
 z46:=Tryz.sizeOf162
 v46:=Tryz.zeroValue162
 t51:=Tryz.underlying214
 a51:=Tryz.isAgg214
 z51:=Tryz.sizeOf214
 v51:=Tryz.zeroValue214
 t53:=Tryz.underlying205
 a53:=Tryz.isAgg205
 z53:=Tryz.sizeOf205
 v53:=Tryz.zeroValue205
 t171:=Tryz.underlying204
 a171:=Tryz.isAgg204
 z171:=Tryz.sizeOf204
 v171:=Tryz.zeroValue204
 t173:=Tryz.underlying208
 a173:=Tryz.isAgg208
 z173:=Tryz.sizeOf208
 v173:=Tryz.zeroValue208
 t212:=Tryz.underlying231
 a212:=Tryz.isAgg231
 z212:=Tryz.sizeOf231
 v212:=Tryz.zeroValue231
 t213:=Tryz.underlying232
 a213:=Tryz.isAgg232
 z213:=Tryz.sizeOf232
 t232:=Tryz.underlying239
 a232:=Tryz.isAgg239
 z232:=Tryz.sizeOf239
 v232:=Tryz.zeroValue239
 t233:=Tryz.underlying240
 a233:=Tryz.isAgg240
 z233:=Tryz.sizeOf240
 v233:=Tryz.zeroValue240
 g17:=by kernel_rfl
 g18:=by kernel_rfl
 g19:=by kernel_rfl
 i0:=by kernel_rfl
 i2:=by kernel_rfl
 i3:=by kernel_rfl
 i4:=by kernel_rfl
 i5:=by kernel_rfl
 i9:=by kernel_rfl
 i20:=by kernel_rfl
 i37:=by kernel_rfl
 i46:=by kernel_rfl
 i51:=by kernel_rfl
 i53:=by kernel_rfl
 i171:=by kernel_rfl
 i173:=by kernel_rfl
 i212:=by kernel_rfl
 i232:=by kernel_rfl
 i233:=by kernel_rfl
 m17:=by kernel_rfl
 m18:=by kernel_rfl
 m19:=by kernel_rfl }
open Go.RowKit Go.Sort Go.Lib in
theorem Tryz.strconv_Itoa (n : Int) (h0 : -9223372036854775808 ≤ n) (h1 : n ≤ 9223372036854775807) (w : World) (htab : Lib.TabIs Tryz.prog w "internal/strconv.uint64pow10" .u64 Lib.pow10Tab) :
  Calls Tryz.prog 143 #[.int .i64 n] w fun e w'=>e=.returned (.string ⟨(Lib.itoa n).toArray⟩)∧∃k os,w'=grow (w.drewN k) os:=Any.strconv_Itoa Tryz.laysM171 n h0 h1 w htab
def Tryz.lays156_ren:Go.Shelf.Ren:=⟨fun|156=>145|165=>192|166=>193|169=>194|240=>215|241=>216|276=>237|277=>238|n=>n,fun|31=>68|9=>9|3=>3|4=>4|0=>0|20=>20|72=>175|76=>169|70=>173|37=>31|75=>168|127=>192|164=>210|5=>5|80=>177|n=>n,fun|n=>n⟩
theorem Tryz.lays156:Go.Proofs.Lays.n156 Tryz.prog Tryz.lays156_ren:={
 mixed:=by kernel_rfl
 f156:=Tryz.func145.trans (congrArg some (by kernel_rfl))
 f165:=Tryz.func192.trans (congrArg some (by kernel_rfl))
 f166:=Tryz.func193.trans (congrArg some (by kernel_rfl))
 f169:=Tryz.func194.trans (congrArg some (by kernel_rfl))
 f240:=Tryz.func215.trans (congrArg some (by kernel_rfl))
 f241:=Tryz.func216.trans (congrArg some (by kernel_rfl))
 f276:=Tryz.func237.trans (congrArg some (by kernel_rfl))
 f277:=Tryz.func238.trans (congrArg some (by kernel_rfl))
 t0:=Tryz.underlying0
 a0:=Tryz.isAgg0
 z0:=Tryz.sizeOf0
 v0:=Tryz.zeroValue0
 t3:=Tryz.underlying3
 a3:=Tryz.isAgg3
 z3:=Tryz.sizeOf3
 v3:=Tryz.zeroValue3
 t4:=Tryz.underlying4
 a4:=Tryz.isAgg4
 z4:=Tryz.sizeOf4
 v4:=Tryz.zeroValue4
 t9:=Tryz.underlying9
 a9:=Tryz.isAgg9
 z9:=Tryz.sizeOf9
 v9:=Tryz.zeroValue9
 t20:=Tryz.underlying20
 a20:=Tryz.isAgg20
 z20:=Tryz.sizeOf20
 v20:=Tryz.zeroValue20
 t31:=Tryz.underlying68
 a31:=Tryz.isAgg68
 z31:=Tryz.sizeOf68
 v31:=Tryz.zeroValue68
 t37:=Tryz.underlying31
 a37:=Tryz.isAgg31
 z37:=Tryz.sizeOf31
 v37:=Tryz.zeroValue31
 t70:=Tryz.underlying173
 a70:=Tryz.isAgg173
 z70:=Tryz.sizeOf173
 v70:=Tryz.zeroValue173
 t72:=Tryz.underlying175
 a72:=Tryz.isAgg175
 z72:=Tryz.sizeOf175
 v72:=Tryz.zeroValue175
 t75:=Tryz.underlying168
 a75:=Tryz.isAgg168
 z75:=Tryz.sizeOf168
 v75:=Tryz.zeroValue168
 t76:=Tryz.underlying169
 a76:=Tryz.isAgg169
 z76:=Tryz.sizeOf169
 v76:=Tryz.zeroValue169
 t127:=Tryz.underlying192
 a127:=Tryz.isAgg192
 z127:=Tryz.sizeOf192
 v127:=Tryz.zeroValue192
 t164:=Tryz.underlying210
 a164:=Tryz.isAgg210
 z164:=Tryz.sizeOf210
 v164:=Tryz.zeroValue210 }
theorem Tryz.Builder_Extra_156:Builder.Extra Tryz.prog Tryz.lays156_ren:={
 sizeBuilder:=by kernel_rfl
 liesBuilder:=by kernel_rfl
 t5:=Tryz.underlying5
 a5:=Tryz.isAgg5
 z5:=Tryz.sizeOf5
 v5:=Tryz.zeroValue5
 infoByte:=by kernel_rfl
 cellsByte:=by kernel_rfl
 sizeByte:=by kernel_rfl
 neB5:=by decide }
open Go.RowKit in
theorem Tryz.strings_Join (bk o c:Nat) (xs:List ByteArray) (sep:ByteArray) (w:World) (hcells:∀(j:Nat) x,xs[j]? = some x→w.cell? ⟨bk,o+j,none⟩=some (.string x)) (hbk:bk<w.heap.size) (hN:xs.length≤140737488355328) (hcap:xs.length≤c) (hlen:(Lib.join (xs.map (·.data.toList)) sep.data.toList).length≤140737488355328) :
  Calls Tryz.prog 145 #[.slice (some ⟨bk,o,none⟩) xs.length c,.string sep] w fun e w'=>e=.returned (.string ⟨(Lib.join (xs.map (·.data.toList)) sep.data.toList).toArray⟩)∧Below w.heap.size w w':=Any.strings_Join Tryz.lays156 Tryz.Builder_Extra_156 bk o c xs sep w hcells hbk hN hcap hlen
open Go.RowKit in
theorem Tryz.strings_Join_none (a:Option Addr) (c:Nat) (sep:ByteArray) (w:World) :
  Calls Tryz.prog 145 #[.slice a 0 c,.string sep] w fun e w'=>e=.returned (.string ⟨#[]⟩)∧w'=w:=Any.strings_Join_none Tryz.lays156 Tryz.Builder_Extra_156 a c sep w
def Tryz.lays137_ren:Go.Shelf.Ren:=⟨fun|137=>186|217=>211|266=>227|n=>n,fun|9=>9|5=>5|3=>3|n=>n,fun|n=>n⟩
theorem Tryz.lays137:Go.Proofs.Lays.n137 Tryz.prog Tryz.lays137_ren:={
 mixed:=by kernel_rfl
 f137:=Tryz.func186.trans (congrArg some (by kernel_rfl))
 f217:=Tryz.func211.trans (congrArg some (by kernel_rfl))
 f266:=Tryz.func227.trans (congrArg some (by kernel_rfl))
 t3:=Tryz.underlying3
 a3:=Tryz.isAgg3
 z3:=Tryz.sizeOf3
 v3:=Tryz.zeroValue3
 t5:=Tryz.underlying5
 a5:=Tryz.isAgg5
 z5:=Tryz.sizeOf5
 v5:=Tryz.zeroValue5
 t9:=Tryz.underlying9
 a9:=Tryz.isAgg9
 z9:=Tryz.sizeOf9
 v9:=Tryz.zeroValue9 }
open Go.RowKit in
theorem Tryz.strings_IndexByte (s:ByteArray) (c:Int) (w:World) :
  Calls Tryz.prog 186 #[.string s,.int .u8 c] w fun e w'=>e=.returned (.int .i64 (Lib.indexByte s.data.toList c.toNat.toUInt8))∧w'=w:=Any.strings_IndexByte Tryz.lays137 s c w
end Go.Proofs
namespace Go.Proofs.YtoeimopgoaffcaaGreatDoor.Pr
open Go.RowKit Go.Proofs.YtoeimopgoaffcaaGreatDoorW.PrintWords Go.Proofs.YtoeimopgoaffcaaGreatDoorW.PrintLast Go.Proofs.YtoeimopgoaffcaaGreatDoorW.PrintMore
attribute [local go_sem] ZU ZS ZW ZV ZO ZN ZT ZR
set_option linter.unusedVariables false
set_option linter.unusedSimpArgs false
def Zar.f (a0:Int):Option (ByteArray):=if -9223372036854775808≤a0∧a0≤9223372036854775807 then some ⟨(Lib.itoa a0).toArray⟩ else none
set_option maxHeartbeats 4000000 in
theorem Zar.calls (a0:Int) (r:ByteArray) (w:World) (ht:TW w) (h:Zar.f a0=some r) :
  Calls Tryz.prog 70 #[.int .i64 a0] w fun e w'=>e=.returned (.string r)∧Below w.heap.size w w':=by
 unfold Zar.f at h
 by_cases hb : -9223372036854775808≤a0∧a0≤9223372036854775807
 case neg=>rw[if_neg hb] at h;exact absurd h (by simp)
 rw[if_pos hb] at h
 obtain rfl:=Zg h
 have HC:=Za (Tryz.strconv_Itoa a0 hb.1 hb.2 w (Lib.TabBelow.here ht))
 clear h ht hb
 go_enter Tryz.func70,Tryz.ntmps70
 go_wp2_with (go_at_call 143;refine HC.out.mono ?_;rintro e w' ⟨rfl,k,os,hw⟩;have hB:=Lib.below_grow w.heap.size w (Nat.le_refl _) k os;rw[← hw] at hB;clear hw)
 go_ret
 exact⟨rfl,hB⟩
def Zbo.f (l0:List ByteArray) (a1:ByteArray):Option (ByteArray):=if l0.length≤1048576∧(Lib.join (l0.map (·.data.toList)) a1.data.toList).length≤140737488355328 then some ⟨(Lib.join (l0.map (·.data.toList)) a1.data.toList).toArray⟩ else none
set_option maxHeartbeats 4000000 in
theorem Zbo.lib (A0:Option Addr) (c0:Nat) (l0:List ByteArray) (a1:ByteArray) (w:World) (hr0:Kd.C Kd.string w A0 l0.length l0) (hc0:l0.length≤c0) (hs0:∀ad,A0=some ad→ad.spot=none) (h1:l0.length≤1048576) (h2:(Lib.join (l0.map (·.data.toList)) a1.data.toList).length≤140737488355328) :
  Calls Tryz.prog 145 #[.slice A0 l0.length c0,.string a1] w fun e w'=>e=.returned (.string ⟨(Lib.join (l0.map (·.data.toList)) a1.data.toList).toArray⟩)∧Below w.heap.size w w':=by
 cases l0 with
 | nil=>exact(Tryz.strings_Join_none A0 c0 a1 w).mono fun e w' ⟨he,hw⟩=>⟨he,hw ▸ Below.refl _ _⟩
 | cons x t=>
  obtain⟨ad,hA,_⟩:=hr0.2.2 (by simp)
  have hsp:=hs0 ad hA
  obtain⟨b,o,sp⟩:=ad
  simp only at hsp
  subst hsp;subst hA
  have hcells:∀(j:Nat) y,(x :: t)[j]? = some y→w.cell? ⟨b,o+j,none⟩=some (.string y):=fun j y hy=>by
   have hj:=(List.getElem?_eq_some_iff.1 hy).1
   obtain⟨ad,he,hc⟩:=Kd.at_string hr0 (j:Int) (by omega) (by omega)
   cases he
   rw[Int.toNat_natCast,add_spot] at hc
   rw[hc]
   unfold rdOf
   rw[Int.toNat_natCast,List.getD_eq_getElem?_getD,hy];rfl
  have hbk:b<w.heap.size:=Zc w _ (hcells 0 x rfl)
  exact Tryz.strings_Join b o c0 (x :: t) a1 w hcells hbk (by omega) hc0 h2
set_option maxHeartbeats 4000000 in
theorem Zbo.calls (A0:Option Addr) (c0:Nat) (l0:List ByteArray) (a1:ByteArray) (r:ByteArray) (w:World) (hr0:Kd.C Kd.string w A0 l0.length l0) (hc0:l0.length≤c0) (hs0:∀ad,A0=some ad→ad.spot=none) (h:Zbo.f l0 a1=some r) :
  Calls Tryz.prog 73 #[.slice A0 l0.length c0,.string a1] w fun e w'=>e=.returned (.string r)∧Below w.heap.size w w':=by
 unfold Zbo.f at h
 by_cases hb:l0.length≤1048576∧(Lib.join (l0.map (·.data.toList)) a1.data.toList).length≤140737488355328
 case neg=>rw[if_neg hb] at h;exact absurd h (by simp)
 rw[if_pos hb] at h
 obtain rfl:=Zg h
 have HC:=Za (Zbo.lib A0 c0 l0 a1 w hr0 hc0 hs0 hb.1 hb.2)
 clear h hr0 hc0 hs0 hb
 go_enter Tryz.func73,Tryz.ntmps73
 go_wp2_with (go_at_call 145;refine HC.out.mono ?_;rintro e w' ⟨rfl,hb⟩)
 go_ret
 exact⟨rfl,hb⟩
end Go.Proofs.YtoeimopgoaffcaaGreatDoor.Pr
