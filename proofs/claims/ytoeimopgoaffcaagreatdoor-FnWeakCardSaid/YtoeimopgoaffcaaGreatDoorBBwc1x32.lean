/- By a program of this session. -/
import Derived.Test.YtoeimopgoaffcaaGreatDoorBBwc1x28
import Derived.Test.YtoeimopgoaffcaaGreatDoorBBwc1x31
set_option maxHeartbeats 8000000
set_option maxRecDepth 100000
namespace Go.Proofs.YtoeimopgoaffcaaGreatDoor.Pr
open RowKit YtoeimopgoaffcaaGreatDoorW.PrintWords YtoeimopgoaffcaaGreatDoorW.PrintLast YtoeimopgoaffcaaGreatDoorW.PrintMore
attribute [local go_sem] Zak Zai Zax Zaw Zac Zab Zaj Zah
set_option linter.unusedVariables false
set_option linter.unusedSimpArgs false
def ZbJ.f (k:Nat) (a0_0:Int) (l0_1:List (S112)):Option (Int×(List (S184))):=(Za1.f k a0_0 l0_1).bind fun t3=>(if t3=true then((ZbQ.f k a0_0 l0_1).bind fun bt4=>(some (a0_0,bt4.1))) else(some (0,([]:List (S184)))))
theorem ZbJ.calls (k:Nat) (a0_0:Int) (A0_1:Option Addr) (c0_1:Nat) (l0_1:List (S112)) (r1:Int) (r2:List (S184)) (w:World) (hr0_1:Kd.C k112 w A0_1 l0_1.length l0_1) (hc0_1:l0_1.length≤c0_1) (h:ZbJ.f k a0_0 l0_1=some (r1,r2)) :
  Calls Tryz.prog 169 #[.agg #[.int .i64 a0_0,.slice A0_1 l0_1.length c0_1]] w fun e w'=>∃v1_:Value,e=.returned (.agg #[.int .i64 r1,v1_])∧Kd.R k184 184 w' w.heap.size (fun _=>True) v1_ r2∧Below w.heap.size w w':=by
 have hu54:=Tryz.underlying54
 have hu156:=Tryz.underlying156
 have HR0_1:=Za hr0_1;have HC0_1:=Za hc0_1;clear hr0_1 hc0_1
 have HB:=Za (Below.refl w.heap.size w)
 have H:((Za1.f k a0_0 l0_1).bind fun t3=>(if t3=true then((ZbQ.f k a0_0 l0_1).bind fun bt4=>(some (a0_0,bt4.1))) else(some (0,([]:List (S184))))))=some (r1,r2):=h
 clear h
 replace H:=Zh H
 obtain⟨t3,A20,H⟩:=H;have A2:=Za A20;clear A20
 by_cases c3:t3=true
 ·subst c3
  rw[if_pos rfl] at H
  replace H:=Zh H
  obtain⟨⟨t4,t7⟩,A40,H⟩:=H;have A4:=Za A40;clear A40
  simp only[Option.some.injEq,Prod.mk.injEq] at H
  obtain⟨rfl,rfl⟩:=H
  go_enter Tryz.func169,Tryz.ntmps169
  go_wp2_with (first|((with_reducible refine ZF (N:=1) rfl ?_);refine ZG ?hg (N:=1) ?hd (cs:=#[.int .i64 a0_0,.slice A0_1 l0_1.length c0_1]) (t:=54) ?hr ?_;(case hd=>rfl);(case hg=>rfl);(case hr=>first|(go_simp;done)|(go_simp;rfl));intro gb1 hg w5 hbox hb;have BK1:=Za (hbox);have GW1:=Za ((by rw[hg];exact(Zv (by exact HB.out)):w.heap.size≤gb1));have GE1:=Za ((by rw[hg];exact(Zv (by exact HB.out)):w.heap.size≤gb1));replace HB:=Za (Zr (by exact HB.out) hb);clear hb hbox hg)|((with_reducible refine ZF (N:=2) rfl ?_);refine ZG ?hg (N:=2) ?hd (cs:=#[.int .i64 0,.slice none 0 0]) (t:=156) ?hr ?_;(case hd=>rfl);(case hg=>rfl);(case hr=>first|(go_simp;done)|(go_simp;rfl));intro gb2 hg w6 hbox hb;have BK2:=Za (hbox);have GW2:=Za ((by rw[hg];exact(Zv (by exact HB.out)):w.heap.size≤gb2));have GE2:=Za ((by rw[hg];exact(Zv (by exact HB.out)):w.heap.size≤gb2));have NB1_2:=Za ((by rw[hg];exact Nat.ne_of_lt (ZN (g:=gb1) (o:=.cells #[.int .i64 a0_0,.slice A0_1 l0_1.length c0_1] 54 (0,0)) (by exact BK1.out)):gb1≠gb2));have NB2_1:=Za ((by rw[hg];exact Nat.ne_of_gt (ZN (g:=gb1) (o:=.cells #[.int .i64 a0_0,.slice A0_1 l0_1.length c0_1] 54 (0,0)) (by exact BK1.out)):gb2≠gb1));replace BK1:=Za (Zs (g:=gb1) (o:=.cells #[.int .i64 a0_0,.slice A0_1 l0_1.length c0_1] 54 (0,0)) (by exact BK1.out) hb);replace HB:=Za (Zr (by exact HB.out) hb);clear hb hbox hg;have hcz8_0:w6.cell? ⟨gb1,0,none⟩=some (.int .i64 a0_0):=(Zm BK1.out 0).trans rfl;have hcz8_1:w6.cell? ⟨gb1,1,none⟩=some (.slice A0_1 l0_1.length c0_1):=(Zm BK1.out 1).trans rfl;have hfz8_0:=Zq BK1.out 0;have hfz8_1:=Zq BK1.out 1)|((with_reducible refine ZM (f:=99) rfl ?_);refine Z7 (some 6) rfl rfl Tryz.func99 (by kernel_rfl) rfl #[.agg #[.int .i64 a0_0,.slice A0_1 l0_1.length c0_1]] rfl (by(try simp only[List.map_toArray,List.map_cons,List.map_nil]);first|done|rfl|(simp only[Zk,Zj];rfl)) ?_;(with_reducible refine(Za1.calls k a0_0 _ _ l0_1 true _ ?side1 ?side2 A2.out).mono ?_);(case side1=>exact(Zb HR0_1.out HB.out));(case side2=>exact HC0_1.out);rintro e w9 ⟨rfl,hb⟩;refine⟨_,rfl,?_⟩;replace BK1:=Za (Zs (g:=gb1) (o:=.cells #[.int .i64 a0_0,.slice A0_1 l0_1.length c0_1] 54 (0,0)) (by exact BK1.out) hb);replace BK2:=Za (Zs (g:=gb2) (o:=.cells #[.int .i64 0,.slice none 0 0] 156 (0,0)) (by exact BK2.out) hb);replace HB:=Za (Zr (by exact HB.out) hb);have hcz10_0:w9.cell? ⟨gb1,0,none⟩=some (.int .i64 a0_0):=(Zm BK1.out 0).trans rfl;have hcz10_1:w9.cell? ⟨gb1,1,none⟩=some (.slice A0_1 l0_1.length c0_1):=(Zm BK1.out 1).trans rfl;have hfz10_0:=Zq BK1.out 0;have hfz10_1:=Zq BK1.out 1)|((with_reducible refine ZM (f:=173) rfl ?_);refine Z7 (some 11) rfl rfl Tryz.func173 (by kernel_rfl) rfl #[.agg #[.int .i64 a0_0,.slice A0_1 l0_1.length c0_1]] rfl (by(try simp only[List.map_toArray,List.map_cons,List.map_nil]);first|done|rfl|(simp only[Zk,Zj];rfl)) ?_;(with_reducible refine(ZbQ.calls k a0_0 _ _ l0_1 t4 t7 _ ?side1 ?side2 A4.out).mono ?_);(case side1=>exact(Zb HR0_1.out HB.out));(case side2=>exact HC0_1.out);rintro e w11 ⟨v5,v8,rfl,ho0,ho1,hb⟩;refine⟨_,rfl,?_⟩;have HO6:=Za (Kd.R_lower ho0 (Zv (by exact HB.out)));have HO9:=Za (Kd.R_lower ho1 (Zv (by exact HB.out)));replace BK1:=Za (Zs (g:=gb1) (o:=.cells #[.int .i64 a0_0,.slice A0_1 l0_1.length c0_1] 54 (0,0)) (by exact BK1.out) hb);replace BK2:=Za (Zs (g:=gb2) (o:=.cells #[.int .i64 0,.slice none 0 0] 156 (0,0)) (by exact BK2.out) hb);replace HB:=Za (Zr (by exact HB.out) hb);have hcz12_0:w11.cell? ⟨gb1,0,none⟩=some (.int .i64 a0_0):=(Zm BK1.out 0).trans rfl;have hcz12_1:w11.cell? ⟨gb1,1,none⟩=some (.slice A0_1 l0_1.length c0_1):=(Zm BK1.out 1).trans rfl;have hfz12_0:=Zq BK1.out 0;have hfz12_1:=Zq BK1.out 1;obtain⟨Ao13,co13,eo13⟩:=Kd.R_slice HO6.out;subst eo13;have hcz14_0:w11.cell? ⟨gb2,0,none⟩=some (.int .i64 0):=(Zm BK2.out 0).trans rfl;have hcz14_1:w11.cell? ⟨gb2,1,none⟩=some (.slice none 0 0):=(Zm BK2.out 1).trans rfl;have hfz14_0:=Zq BK2.out 0;have hfz14_1:=Zq BK2.out 1))
  refine bodyPost_ret (results_cell_row rfl _ _ gb2 156 #[.int .i64 a0_0,.slice Ao13 t4.length co13] (0,0) _ rfl (by(with_reducible repeat(first|refine ZD ?_ _|refine Zz ?_|refine Zy ?_ _));refine ZR (cs:=#[.int .i64 a0_0,.slice none 0 0]) ?_ 1 _ rfl;(with_reducible repeat(first|refine ZD ?_ _|refine Zz ?_|refine Zy ?_ _));refine ZR (cs:=#[.int .i64 0,.slice none 0 0]) ?_ 0 _ rfl;(with_reducible repeat(first|refine ZD ?_ _|refine Zz ?_|refine Zy ?_ _));exact BK2.out) Tryz.underlying156 rfl (by kernel_rfl)) rfl ?_
  exact⟨_,by first|rfl|(simp[ZC,ZB] <;> rfl)|(simp[*,ZC,ZB] <;> rfl),by(with_reducible repeat(first|apply Kd.R_alloc|apply Kd.R_drewN|apply Kd.R_drew));exact Kd.R_mono (Kd.R_far (p:=⟨gb2,1,none⟩) (Kd.R_far (p:=⟨gb2,0,none⟩) (Kd.R_types HO6.out BK2.out (by decide)) (fun _ hk=>hk.2) (.int .i64 a0_0)) (fun _ hk=>hk.2) (.slice Ao13 t4.length co13)) (fun _ hk=>trivial),by repeat(first|(with_reducible first|exact HB.out|apply Zo|apply Zn|apply Zp|refine Zt ?_ GE1.out|refine Zt ?_ GE2.out)|exact HB.out)⟩
 ·replace c3:=Bool.eq_false_iff.mpr c3
  subst c3
  have H1:(some (0,([]:List (S184))))=some (r1,r2):=by rw[if_neg (show ¬(false=true) by decide)] at H;exact H
  clear H
  have H:=H1
  clear H1
  simp only[Option.some.injEq,Prod.mk.injEq] at H
  obtain⟨rfl,rfl⟩:=H
  go_enter Tryz.func169,Tryz.ntmps169
  go_wp2_with (first|((with_reducible refine ZF (N:=1) rfl ?_);refine ZG ?hg (N:=1) ?hd (cs:=#[.int .i64 a0_0,.slice A0_1 l0_1.length c0_1]) (t:=54) ?hr ?_;(case hd=>rfl);(case hg=>rfl);(case hr=>first|(go_simp;done)|(go_simp;rfl));intro gb1 hg w15 hbox hb;have BK1:=Za (hbox);have GW1:=Za ((by rw[hg];exact(Zv (by exact HB.out)):w.heap.size≤gb1));have GE1:=Za ((by rw[hg];exact(Zv (by exact HB.out)):w.heap.size≤gb1));replace HB:=Za (Zr (by exact HB.out) hb);clear hb hbox hg)|((with_reducible refine ZF (N:=2) rfl ?_);refine ZG ?hg (N:=2) ?hd (cs:=#[.int .i64 0,.slice none 0 0]) (t:=156) ?hr ?_;(case hd=>rfl);(case hg=>rfl);(case hr=>first|(go_simp;done)|(go_simp;rfl));intro gb2 hg w16 hbox hb;have BK2:=Za (hbox);have GW2:=Za ((by rw[hg];exact(Zv (by exact HB.out)):w.heap.size≤gb2));have GE2:=Za ((by rw[hg];exact(Zv (by exact HB.out)):w.heap.size≤gb2));have NB1_2:=Za ((by rw[hg];exact Nat.ne_of_lt (ZN (g:=gb1) (o:=.cells #[.int .i64 a0_0,.slice A0_1 l0_1.length c0_1] 54 (0,0)) (by exact BK1.out)):gb1≠gb2));have NB2_1:=Za ((by rw[hg];exact Nat.ne_of_gt (ZN (g:=gb1) (o:=.cells #[.int .i64 a0_0,.slice A0_1 l0_1.length c0_1] 54 (0,0)) (by exact BK1.out)):gb2≠gb1));replace BK1:=Za (Zs (g:=gb1) (o:=.cells #[.int .i64 a0_0,.slice A0_1 l0_1.length c0_1] 54 (0,0)) (by exact BK1.out) hb);replace HB:=Za (Zr (by exact HB.out) hb);clear hb hbox hg;have hcz18_0:w16.cell? ⟨gb1,0,none⟩=some (.int .i64 a0_0):=(Zm BK1.out 0).trans rfl;have hcz18_1:w16.cell? ⟨gb1,1,none⟩=some (.slice A0_1 l0_1.length c0_1):=(Zm BK1.out 1).trans rfl;have hfz18_0:=Zq BK1.out 0;have hfz18_1:=Zq BK1.out 1)|((with_reducible refine ZM (f:=99) rfl ?_);refine Z7 (some 6) rfl rfl Tryz.func99 (by kernel_rfl) rfl #[.agg #[.int .i64 a0_0,.slice A0_1 l0_1.length c0_1]] rfl (by(try simp only[List.map_toArray,List.map_cons,List.map_nil]);first|done|rfl|(simp only[Zk,Zj];rfl)) ?_;(with_reducible refine(Za1.calls k a0_0 _ _ l0_1 false _ ?side1 ?side2 A2.out).mono ?_);(case side1=>exact(Zb HR0_1.out HB.out));(case side2=>exact HC0_1.out);rintro e w19 ⟨rfl,hb⟩;refine⟨_,rfl,?_⟩;replace BK1:=Za (Zs (g:=gb1) (o:=.cells #[.int .i64 a0_0,.slice A0_1 l0_1.length c0_1] 54 (0,0)) (by exact BK1.out) hb);replace BK2:=Za (Zs (g:=gb2) (o:=.cells #[.int .i64 0,.slice none 0 0] 156 (0,0)) (by exact BK2.out) hb);replace HB:=Za (Zr (by exact HB.out) hb);have hcz20_0:w19.cell? ⟨gb2,0,none⟩=some (.int .i64 0):=(Zm BK2.out 0).trans rfl;have hcz20_1:w19.cell? ⟨gb2,1,none⟩=some (.slice none 0 0):=(Zm BK2.out 1).trans rfl;have hfz20_0:=Zq BK2.out 0;have hfz20_1:=Zq BK2.out 1))
  refine bodyPost_ret (results_cell_row rfl _ _ gb2 156 #[.int .i64 0,.slice none 0 0] (0,0) _ rfl (by(with_reducible repeat(first|refine ZD ?_ _|refine Zz ?_|refine Zy ?_ _));refine ZR (cs:=#[.int .i64 0,.slice none 0 0]) ?_ 1 _ rfl;(with_reducible repeat(first|refine ZD ?_ _|refine Zz ?_|refine Zy ?_ _));refine ZR (cs:=#[.int .i64 0,.slice none 0 0]) ?_ 0 _ rfl;(with_reducible repeat(first|refine ZD ?_ _|refine Zz ?_|refine Zy ?_ _));exact BK2.out) Tryz.underlying156 rfl (by kernel_rfl)) rfl ?_
  exact⟨_,by first|rfl|(simp[ZC,ZB] <;> rfl)|(simp[*,ZC,ZB] <;> rfl),by first|exact Kd.R_nil _ _ _ _ _|exact Kd.N_nil _ _ _ _ _|exact Kd.V_nil _ _ _ _ _|exact Kd.Q_nil _ _ _ _ _|exact Kd.S_nil _ _ _ _ _,by repeat(first|(with_reducible first|exact HB.out|apply Zo|apply Zn|apply Zp|refine Zt ?_ GE1.out|refine Zt ?_ GE2.out)|exact HB.out)⟩
open Ni
abbrev SSt:=List Int×List Int×List Bool×Int
def Zee (s:SSt) (i:Nat) (e:Zan):SSt:=
 if rb s.2.2.1 e.f0=true∧(rb s.2.2.1 e.f1=false∨wrap64 (rd s.1 e.f0+e.f2)<rd s.1 e.f1) then(s.1.set e.f1.toNat (wrap64 (rd s.1 e.f0+e.f2)),s.2.1.set e.f1.toNat (i:Int),s.2.2.1.set e.f1.toNat true,(i:Int)) else s
def srnd:List Zan→Nat→SSt→SSt
 | [],_,s=>s
 | e :: t,i,s=>srnd t (i+1) (Zee s i e)
theorem rb_all {N:Nat} {x:Int} (h0:0≤x) (h:x<N):rb (List.replicate N true) x=true:=by
 unfold rb
 rw[List.getD_eq_getElem?_getD,List.getElem?_replicate,if_pos (by omega)];rfl
theorem srelax_all {N i:Nat} {d l:List Int} {ch:Int} {e:Zan} (h:0≤e.f0∧e.f0<N∧0≤e.f1∧e.f1<N):Zee (d,l,List.replicate N true,ch) i e=((relax (d,l,ch) i e).1,(relax (d,l,ch) i e).2.1,List.replicate N true,(relax (d,l,ch) i e).2.2):=by
 unfold Zee relax
 dsimp only
 rw[rb_all h.1 h.2.1,rb_all h.2.2.1 h.2.2.2]
 by_cases c:wrap64 (rd d e.f0+e.f2)<rd d e.f1
 ·rw[if_pos ⟨rfl,.inr c⟩,if_pos c]
  simp
 ·rw[if_neg (by simp[c]),if_neg c]
theorem srnd_all {N:Nat}:∀(E:List Zan) (i:Nat) (d l:List Int) (ch:Int),ZbO E N→srnd E i (d,l,List.replicate N true,ch)=((rnd E i (d,l,ch)).1,(rnd E i (d,l,ch)).2.1,List.replicate N true,(rnd E i (d,l,ch)).2.2)
 | [],_,_,_,_,_=>rfl
 | e :: t,i,d,l,ch,h=>by
  show srnd t (i+1) (Zee _ i e)=_
  rw[srelax_all (h e (by simp))]
  rw[srnd_all t (i+1) _ _ _ (fun x hx=>h x (by simp[hx]))]
  rfl
mutual
def Zaf.j0:Nat→Bool→Int→List (S184)→Option (Bool)
 | 0,_,_,_=>none
 | k+1,x14,x201002000,x201002001=>if x14=true then(some false) else(Zaf.l0 k x201002001 (x201002001.length:Int) 0 x201002000 x201002001)
def Zaf.l0:Nat→List (S184)→Int→Int→Int→List (S184)→Option (Bool)
 | 0,_,_,_,_,_=>none
 | k+1,x16,x17,x18,x201002000,x201002001=>if x18<x17 then(if 0≤x18 then(if x18<(x16.length:Int) then((ZX.f ((ZaD x16 x18).f0) 0 (wrap64 (x201002000 - 1))).bind fun t5=>(if t5=true then((ZX.f ((ZaD x16 x18).f1) 0 (wrap64 (x201002000 - 1))).bind fun t6=>(if t6=true then((ZX.f ((ZaD x16 x18).f2) (-999999) 999999).bind fun t7=>(if t7=true then(Zaf.l0 k x16 x17 (wrap64 (x18+1)) x201002000 x201002001) else(some false))) else(some false))) else(some false))) else(none)) else(none)) else(some true)
end
def Zaf.f (k:Nat) (a0_0:Int) (l0_1:List (S184)):Option (Bool):=(ZX.f a0_0 0 8).bind fun t2=>(if t2=true then(Zaf.j0 k (decide ((l0_1.length:Int) > 80)) a0_0 l0_1) else(Zaf.j0 k true a0_0 l0_1))
theorem Zaf.calls (k:Nat) (a0_0:Int) (A0_1:Option Addr) (c0_1:Nat) (l0_1:List (S184)) (r:Bool) (w:World) (hr0_1:Kd.C k184 w A0_1 l0_1.length l0_1) (hc0_1:l0_1.length≤c0_1) (h:Zaf.f k a0_0 l0_1=some r) :
  Calls Tryz.prog 201 #[.agg #[.int .i64 a0_0,.slice A0_1 l0_1.length c0_1]] w fun e w'=>e=.returned (.bool r)∧Below w.heap.size w w':=by
 have hu156:=Tryz.underlying156
 have hu184:=Tryz.underlying184
 have HR0_1:=Za hr0_1;have HC0_1:=Za hc0_1;clear hr0_1 hc0_1
 have HB:=Za (Below.refl w.heap.size w)
 have H:((ZX.f a0_0 0 8).bind fun t2=>(if t2=true then(Zaf.j0 k (decide ((l0_1.length:Int) > 80)) a0_0 l0_1) else(Zaf.j0 k true a0_0 l0_1)))=some r:=h
 clear h;have HC2:=Za H;clear H
 go_enter Tryz.func201,Tryz.ntmps201
 go_upto_region 1 with (first|((with_reducible refine ZF (N:=1) rfl ?_);refine ZG ?hg (N:=1) ?hd (cs:=#[.int .i64 a0_0,.slice A0_1 l0_1.length c0_1]) (t:=156) ?hr ?_;(case hd=>rfl);(case hg=>rfl);(case hr=>first|(go_simp;done)|(go_simp;rfl));intro gb1 hg w3 hbox hb;have BK1:=Za (hbox);have GW1:=Za ((by rw[hg];exact(Zv (by exact HB.out)):w.heap.size≤gb1));have GE1:=Za ((by rw[hg];exact(Zv (by exact HB.out)):w.heap.size≤gb1));replace HB:=Za (Zr (by exact HB.out) hb);clear hb hbox hg))
 (try simp only[Act.put,List.setIfInBounds_toArray,List.set_cons_zero,List.set_cons_succ])
 go_cut [14] (fun v14 wc=>∃(kq:Nat) (x14_1:Bool),v14=.bool x14_1∧Aside0 (Zaf.j0 kq x14_1 a0_0 l0_1=some r)∧Aside0 (kq≤k)∧Aside0 (wc.heap[gb1]? = some (.cells #[.int .i64 a0_0,(.slice A0_1 l0_1.length c0_1)] 156 (0,0)))∧Aside0 (Below w.heap.size w wc))
 case first=>
  have H:=HC2.out
  clear HC2
  replace H:=Zh H
  obtain⟨t2,A40,H⟩:=H;have A4:=Za A40;clear A40
  by_cases c5:t2=true
  ·subst c5
   rw[if_pos rfl] at H
   have H':=Za H
   clear H
   have hcz6_0:w3.cell? ⟨gb1,0,none⟩=some (.int .i64 a0_0):=(Zm BK1.out 0).trans rfl
   have hcz6_1:w3.cell? ⟨gb1,1,none⟩=some (.slice A0_1 l0_1.length c0_1):=(Zm BK1.out 1).trans rfl
   have hfz6_0:=Zq BK1.out 0
   have hfz6_1:=Zq BK1.out 1
   go_wp2_with (first|((with_reducible refine ZM (f:=127) rfl ?_);refine Z7 (some 7) rfl rfl Tryz.func127 (by kernel_rfl) rfl #[.int .i64 a0_0,.int .i64 0,.int .i64 8] rfl (by(try simp only[List.map_toArray,List.map_cons,List.map_nil]);first|done|rfl|(simp only[Zk,Zj];rfl)) ?_;(with_reducible refine(ZX.calls a0_0 0 8 true _ A4.out).mono ?_);rintro e w' ⟨rfl,⟨nd,rfl⟩⟩;refine⟨_,rfl,?_⟩))
   go_meet
   case rel=>exact⟨_,(decide ((l0_1.length:Int) > 80)),(by first|rfl|(simp;done)|(simp[*];done)),H',⟨by first|omega|exact Nat.le_refl _⟩,⟨by(with_reducible repeat(first|refine ZD ?_ _|refine Zz ?_|refine Zy ?_ _));exact BK1.out⟩,⟨by repeat(first|(with_reducible first|exact HB.out|apply Zo|apply Zn|apply Zp|refine Zt ?_ GE1.out)|exact HB.out)⟩⟩
  ·replace c5:=Bool.eq_false_iff.mpr c5
   subst c5
   have H1:(Zaf.j0 k true a0_0 l0_1)=some r:=by rw[if_neg (show ¬(false=true) by decide)] at H;exact H
   clear H
   have H:=H1
   clear H1
   have H':=Za H
   clear H
   have hcz7_0:w3.cell? ⟨gb1,0,none⟩=some (.int .i64 a0_0):=(Zm BK1.out 0).trans rfl
   have hcz7_1:w3.cell? ⟨gb1,1,none⟩=some (.slice A0_1 l0_1.length c0_1):=(Zm BK1.out 1).trans rfl
   have hfz7_0:=Zq BK1.out 0
   have hfz7_1:=Zq BK1.out 1
   go_wp2_with (first|((with_reducible refine ZM (f:=127) rfl ?_);refine Z7 (some 7) rfl rfl Tryz.func127 (by kernel_rfl) rfl #[.int .i64 a0_0,.int .i64 0,.int .i64 8] rfl (by(try simp only[List.map_toArray,List.map_cons,List.map_nil]);first|done|rfl|(simp only[Zk,Zj];rfl)) ?_;(with_reducible refine(ZX.calls a0_0 0 8 false _ A4.out).mono ?_);rintro e w' ⟨rfl,⟨nd,rfl⟩⟩;refine⟨_,rfl,?_⟩))
   go_meet
   case rel=>exact⟨_,(true),(by first|rfl|(simp;done)|(simp[*];done)),H',⟨by first|omega|exact Nat.le_refl _⟩,⟨by(with_reducible repeat(first|refine ZD ?_ _|refine Zz ?_|refine Zy ?_ _));exact BK1.out⟩,⟨by repeat(first|(with_reducible first|exact HB.out|apply Zo|apply Zn|apply Zp|refine Zt ?_ GE1.out)|exact HB.out)⟩⟩
 case rest=>
  clear HC2
  try clear c1
  try clear c2
  try clear p2
  try clear c5
  try clear hcz6_0
  try clear hcz6_1
  try clear hcz7_0
  try clear hcz7_1
  try clear hfz6_0
  try clear hfz6_1
  try clear hfz7_0
  try clear hfz7_1
  obtain⟨kq,x14_1,rfl,HA,HJ1,BK1,HB⟩:=hcut
  cases kq with
  | zero=>exact absurd HA.out (by simp[Zaf.j0])
  | succ kj1=>
   have H:=HA.out
   clear HA
   simp only[Zaf.j0] at H
   by_cases c8:x14_1=true
   ·subst c8
    rw[if_pos rfl] at H
    obtain rfl:=Zg H
    go_wp2
    go_ret
    exact⟨by first|rfl|(simp[ZC,ZB] <;> rfl)|(simp[*,ZC,ZB] <;> rfl),by repeat(first|(with_reducible first|exact HB.out|apply Zo|apply Zn|apply Zp|refine Zt ?_ GE1.out)|exact HB.out)⟩
   ·replace c8:=Bool.eq_false_iff.mpr c8
    subst c8
    have H1:(Zaf.l0 kj1 l0_1 (l0_1.length:Int) 0 a0_0 l0_1)=some r:=by rw[if_neg (show ¬(false=true) by decide)] at H;exact H
    clear H
    have H:=H1
    clear H1
    have H':=Za H
    clear H
    have hcz9_0:wc.cell? ⟨gb1,0,none⟩=some (.int .i64 a0_0):=(Zm BK1.out 0).trans rfl
    have hcz9_1:wc.cell? ⟨gb1,1,none⟩=some (.slice A0_1 l0_1.length c0_1):=(Zm BK1.out 1).trans rfl
    have hfz9_0:=Zq BK1.out 0
    have hfz9_1:=Zq BK1.out 1
    go_wp2
    go_loopg [18] kj1 (fun kq v18 w'=>∃(x18_2:Int),v18=.int .i64 x18_2∧Aside0 (Zaf.l0 kq l0_1 (l0_1.length:Int) x18_2 a0_0 l0_1=some r)∧Aside0 (kq≤kj1)∧Aside0 (w'.heap[gb1]? = some (.cells #[.int .i64 a0_0,(.slice A0_1 l0_1.length c0_1)] 156 (0,0)))∧Aside0 (Below w.heap.size w w'))
    case atStart=>exact⟨(0),(by first|rfl|(simp;done)|(simp[*];done)),H',⟨Nat.le_refl _⟩,⟨by(with_reducible repeat(first|refine ZD ?_ _|refine Zz ?_|refine Zy ?_ _));exact BK1.out⟩,⟨by repeat(first|(with_reducible first|exact HB.out|apply Zo|apply Zn|apply Zp|refine Zt ?_ GE1.out)|exact HB.out)⟩⟩
    case round=>
     clear H'
     try clear c1
     try clear c2
     try clear p2
     try clear c5
     try clear c8
     try clear hcz6_0
     try clear hcz6_1
     try clear hcz7_0
     try clear hcz7_1
     try clear hcz9_0
     try clear hcz9_1
     try clear hfz6_0
     try clear hfz6_1
     try clear hfz7_0
     try clear hfz7_1
     try clear hfz9_0
     try clear hfz9_1
     try clear p2
     obtain⟨x18_2,rfl,HA,HK2,BK1,HB⟩:=hrel
     cases gk with
     | zero=>exact absurd HA.out (by simp[Zaf.l0])
     | succ k2=>
      have H:=HA.out
      clear HA
      simp only[Zaf.l0] at H
      by_cases c10:x18_2<(l0_1.length:Int)
      ·rw[if_pos c10] at H
       have c10b0:decide (x18_2<(l0_1.length:Int))=true:=Ze c10
       clear c10
       by_cases c11:0≤x18_2
       ·rw[if_pos c11] at H
        have c11b0:decide (0≤x18_2)=true:=Ze c11
        clear c11
        by_cases c12:x18_2<(l0_1.length:Int)
        ·rw[if_pos c12] at H
         have c12b0:decide (x18_2<(l0_1.length:Int))=true:=Ze c12
         clear c12
         replace H:=Zh H
         obtain⟨t5,A130,H⟩:=H;have A13:=Za A130;clear A130
         by_cases c14:t5=true
         ·subst c14
          rw[if_pos rfl] at H
          replace H:=Zh H
          obtain⟨t6,A150,H⟩:=H;have A15:=Za A150;clear A150
          by_cases c16:t6=true
          ·subst c16
           rw[if_pos rfl] at H
           replace H:=Zh H
           obtain⟨t7,A170,H⟩:=H;have A17:=Za A170;clear A170
           by_cases c18:t7=true
           ·subst c18
            rw[if_pos rfl] at H
            have H':=Za H
            clear H
            have p3:0≤(x18_2:Int):=Zd (by with_reducible assumption)
            have q3:x18_2<(l0_1.length:Int):=Zd (by with_reducible assumption)
            obtain⟨ad3,e3,hx3_0,hx3_1,hx3_2⟩:=Zch HR0_1.out x18_2 p3 q3
            cases e3
            replace hx3_0:=(HB.out.cell (Zc w _ hx3_0)).trans hx3_0
            replace hx3_1:=(HB.out.cell (Zc w _ hx3_1)).trans hx3_1
            replace hx3_2:=(HB.out.cell (Zc w _ hx3_2)).trans hx3_2
            replace p3:=eq_true p3
            replace q3:=eq_true q3
            go_wp2_with (first|((with_reducible refine ZF (N:=4) rfl ?_);refine ZG ?hg (N:=4) ?hd (cs:=#[.int .i64 0,.int .i64 0,.int .i64 0]) (t:=184) ?hr ?_;(case hd=>rfl);(case hg=>rfl);(case hr=>first|(go_simp;done)|(go_simp;rfl));intro gb4 hg w19 hbox hb;have BK4:=Za (hbox);have GW4:=Za ((by rw[hg];exact(Zv (by exact HB.out)):w.heap.size≤gb4));have GE4:=Za ((by rw[hg];exact(Zv (by exact HB.out)):w.heap.size≤gb4));have NB1_4:=Za ((by rw[hg];exact Nat.ne_of_lt (ZN (g:=gb1) (o:=.cells #[.int .i64 a0_0,.slice (some ad3) l0_1.length c0_1] 156 (0,0)) (by exact BK1.out)):gb1≠gb4));have NB4_1:=Za ((by rw[hg];exact Nat.ne_of_gt (ZN (g:=gb1) (o:=.cells #[.int .i64 a0_0,.slice (some ad3) l0_1.length c0_1] 156 (0,0)) (by exact BK1.out)):gb4≠gb1));replace BK1:=Za (Zs (g:=gb1) (o:=.cells #[.int .i64 a0_0,.slice (some ad3) l0_1.length c0_1] 156 (0,0)) (by exact BK1.out) hb);replace HB:=Za (Zr (by exact HB.out) hb);clear hb hbox hg;have hnb20:=NB4_1.out;have hnc20:=NB1_4.out;have hcz21_0:w19.cell? ⟨gb4,0,none⟩=some (.int .i64 0):=(Zm BK4.out 0).trans rfl;have hcz21_1:w19.cell? ⟨gb4,1,none⟩=some (.int .i64 0):=(Zm BK4.out 1).trans rfl;have hcz21_2:w19.cell? ⟨gb4,2,none⟩=some (.int .i64 0):=(Zm BK4.out 2).trans rfl;have hfz21_0:=Zq BK4.out 0;have hfz21_1:=Zq BK4.out 1;have hfz21_2:=Zq BK4.out 2;have hcz22_0:w19.cell? ⟨gb1,0,none⟩=some (.int .i64 a0_0):=(Zm BK1.out 0).trans rfl;have hcz22_1:w19.cell? ⟨gb1,1,none⟩=some (.slice (some ad3) l0_1.length c0_1):=(Zm BK1.out 1).trans rfl)|((with_reducible refine ZM (f:=127) rfl ?_);refine Z7 (some 27) rfl rfl Tryz.func127 (by kernel_rfl) rfl #[.int .i64 ((ZaD l0_1 x18_2).f0),.int .i64 0,.int .i64 (wrap64 (a0_0 - 1))] rfl (by(try simp only[List.map_toArray,List.map_cons,List.map_nil]);first|done|rfl|(simp only[Zk,Zj];rfl)) ?_;(with_reducible refine(ZX.calls ((ZaD l0_1 x18_2).f0) 0 (wrap64 (a0_0 - 1)) true _ A13.out).mono ?_);rintro e w' ⟨rfl,⟨nd,rfl⟩⟩;refine⟨_,rfl,?_⟩)|(go_at_call 127;(with_reducible refine(ZX.calls ((ZaD l0_1 x18_2).f1) 0 (wrap64 (a0_0 - 1)) true _ A15.out).mono ?_);rintro e w' ⟨rfl,⟨nd,rfl⟩⟩)|(go_at_call 127;(with_reducible refine(ZX.calls ((ZaD l0_1 x18_2).f2) (-999999) 999999 true _ A17.out).mono ?_);rintro e w' ⟨rfl,⟨nd,rfl⟩⟩))
            go_roundg k2
            case measure=>have:=HJ1.out;have:=HK2.out;omega
            case rel=>exact⟨(wrap64 (x18_2+1)),(by first|rfl|(simp;done)|(simp[*];done)),H',⟨by have:=HJ1.out;have:=HK2.out;omega⟩,⟨by(with_reducible repeat(first|refine ZD ?_ _|refine Zz ?_|refine Zy ?_ _));refine ZL ?_ NB1_4.out _;(with_reducible repeat(first|refine ZD ?_ _|refine Zz ?_|refine Zy ?_ _));refine ZL ?_ NB1_4.out _;(with_reducible repeat(first|refine ZD ?_ _|refine Zz ?_|refine Zy ?_ _));refine ZL ?_ NB1_4.out _;(with_reducible repeat(first|refine ZD ?_ _|refine Zz ?_|refine Zy ?_ _));exact BK1.out⟩,⟨by repeat(first|(with_reducible first|exact HB.out|apply Zo|apply Zn|apply Zp|refine Zt ?_ GE1.out|refine Zt ?_ GE4.out)|exact HB.out)⟩⟩
           ·replace c18:=Bool.eq_false_iff.mpr c18
            subst c18
            have H1:(some false)=some r:=by rw[if_neg (show ¬(false=true) by decide)] at H;exact H
            clear H
            have H:=H1
            clear H1
            obtain rfl:=Zg H
            have p3:0≤(x18_2:Int):=Zd (by with_reducible assumption)
            have q3:x18_2<(l0_1.length:Int):=Zd (by with_reducible assumption)
            obtain⟨ad3,e3,hx3_0,hx3_1,hx3_2⟩:=Zch HR0_1.out x18_2 p3 q3
            cases e3
            replace hx3_0:=(HB.out.cell (Zc w _ hx3_0)).trans hx3_0
            replace hx3_1:=(HB.out.cell (Zc w _ hx3_1)).trans hx3_1
            replace hx3_2:=(HB.out.cell (Zc w _ hx3_2)).trans hx3_2
            replace p3:=eq_true p3
            replace q3:=eq_true q3
            go_wp2_with (first|((with_reducible refine ZF (N:=4) rfl ?_);refine ZG ?hg (N:=4) ?hd (cs:=#[.int .i64 0,.int .i64 0,.int .i64 0]) (t:=184) ?hr ?_;(case hd=>rfl);(case hg=>rfl);(case hr=>first|(go_simp;done)|(go_simp;rfl));intro gb4 hg w23 hbox hb;have BK4:=Za (hbox);have GW4:=Za ((by rw[hg];exact(Zv (by exact HB.out)):w.heap.size≤gb4));have GE4:=Za ((by rw[hg];exact(Zv (by exact HB.out)):w.heap.size≤gb4));have NB1_4:=Za ((by rw[hg];exact Nat.ne_of_lt (ZN (g:=gb1) (o:=.cells #[.int .i64 a0_0,.slice (some ad3) l0_1.length c0_1] 156 (0,0)) (by exact BK1.out)):gb1≠gb4));have NB4_1:=Za ((by rw[hg];exact Nat.ne_of_gt (ZN (g:=gb1) (o:=.cells #[.int .i64 a0_0,.slice (some ad3) l0_1.length c0_1] 156 (0,0)) (by exact BK1.out)):gb4≠gb1));replace BK1:=Za (Zs (g:=gb1) (o:=.cells #[.int .i64 a0_0,.slice (some ad3) l0_1.length c0_1] 156 (0,0)) (by exact BK1.out) hb);replace HB:=Za (Zr (by exact HB.out) hb);clear hb hbox hg;have hnb24:=NB4_1.out;have hnc24:=NB1_4.out;have hcz25_0:w23.cell? ⟨gb4,0,none⟩=some (.int .i64 0):=(Zm BK4.out 0).trans rfl;have hcz25_1:w23.cell? ⟨gb4,1,none⟩=some (.int .i64 0):=(Zm BK4.out 1).trans rfl;have hcz25_2:w23.cell? ⟨gb4,2,none⟩=some (.int .i64 0):=(Zm BK4.out 2).trans rfl;have hfz25_0:=Zq BK4.out 0;have hfz25_1:=Zq BK4.out 1;have hfz25_2:=Zq BK4.out 2;have hcz26_0:w23.cell? ⟨gb1,0,none⟩=some (.int .i64 a0_0):=(Zm BK1.out 0).trans rfl;have hcz26_1:w23.cell? ⟨gb1,1,none⟩=some (.slice (some ad3) l0_1.length c0_1):=(Zm BK1.out 1).trans rfl)|((with_reducible refine ZM (f:=127) rfl ?_);refine Z7 (some 27) rfl rfl Tryz.func127 (by kernel_rfl) rfl #[.int .i64 ((ZaD l0_1 x18_2).f0),.int .i64 0,.int .i64 (wrap64 (a0_0 - 1))] rfl (by(try simp only[List.map_toArray,List.map_cons,List.map_nil]);first|done|rfl|(simp only[Zk,Zj];rfl)) ?_;(with_reducible refine(ZX.calls ((ZaD l0_1 x18_2).f0) 0 (wrap64 (a0_0 - 1)) true _ A13.out).mono ?_);rintro e w' ⟨rfl,⟨nd,rfl⟩⟩;refine⟨_,rfl,?_⟩)|(go_at_call 127;(with_reducible refine(ZX.calls ((ZaD l0_1 x18_2).f1) 0 (wrap64 (a0_0 - 1)) true _ A15.out).mono ?_);rintro e w' ⟨rfl,⟨nd,rfl⟩⟩)|(go_at_call 127;(with_reducible refine(ZX.calls ((ZaD l0_1 x18_2).f2) (-999999) 999999 false _ A17.out).mono ?_);rintro e w' ⟨rfl,⟨nd,rfl⟩⟩))
            go_ret
            exact⟨by first|rfl|(simp[ZC,ZB] <;> rfl)|(simp[*,ZC,ZB] <;> rfl),by repeat(first|(with_reducible first|exact HB.out|apply Zo|apply Zn|apply Zp|refine Zt ?_ GE1.out|refine Zt ?_ GE4.out)|exact HB.out)⟩
          ·replace c16:=Bool.eq_false_iff.mpr c16
           subst c16
           have H1:(some false)=some r:=by rw[if_neg (show ¬(false=true) by decide)] at H;exact H
           clear H
           have H:=H1
           clear H1
           obtain rfl:=Zg H
           have p3:0≤(x18_2:Int):=Zd (by with_reducible assumption)
           have q3:x18_2<(l0_1.length:Int):=Zd (by with_reducible assumption)
           obtain⟨ad3,e3,hx3_0,hx3_1,hx3_2⟩:=Zch HR0_1.out x18_2 p3 q3
           cases e3
           replace hx3_0:=(HB.out.cell (Zc w _ hx3_0)).trans hx3_0
           replace hx3_1:=(HB.out.cell (Zc w _ hx3_1)).trans hx3_1
           replace hx3_2:=(HB.out.cell (Zc w _ hx3_2)).trans hx3_2
           replace p3:=eq_true p3
           replace q3:=eq_true q3
           go_wp2_with (first|((with_reducible refine ZF (N:=4) rfl ?_);refine ZG ?hg (N:=4) ?hd (cs:=#[.int .i64 0,.int .i64 0,.int .i64 0]) (t:=184) ?hr ?_;(case hd=>rfl);(case hg=>rfl);(case hr=>first|(go_simp;done)|(go_simp;rfl));intro gb4 hg w27 hbox hb;have BK4:=Za (hbox);have GW4:=Za ((by rw[hg];exact(Zv (by exact HB.out)):w.heap.size≤gb4));have GE4:=Za ((by rw[hg];exact(Zv (by exact HB.out)):w.heap.size≤gb4));have NB1_4:=Za ((by rw[hg];exact Nat.ne_of_lt (ZN (g:=gb1) (o:=.cells #[.int .i64 a0_0,.slice (some ad3) l0_1.length c0_1] 156 (0,0)) (by exact BK1.out)):gb1≠gb4));have NB4_1:=Za ((by rw[hg];exact Nat.ne_of_gt (ZN (g:=gb1) (o:=.cells #[.int .i64 a0_0,.slice (some ad3) l0_1.length c0_1] 156 (0,0)) (by exact BK1.out)):gb4≠gb1));replace BK1:=Za (Zs (g:=gb1) (o:=.cells #[.int .i64 a0_0,.slice (some ad3) l0_1.length c0_1] 156 (0,0)) (by exact BK1.out) hb);replace HB:=Za (Zr (by exact HB.out) hb);clear hb hbox hg;have hnb28:=NB4_1.out;have hnc28:=NB1_4.out;have hcz29_0:w27.cell? ⟨gb4,0,none⟩=some (.int .i64 0):=(Zm BK4.out 0).trans rfl;have hcz29_1:w27.cell? ⟨gb4,1,none⟩=some (.int .i64 0):=(Zm BK4.out 1).trans rfl;have hcz29_2:w27.cell? ⟨gb4,2,none⟩=some (.int .i64 0):=(Zm BK4.out 2).trans rfl;have hfz29_0:=Zq BK4.out 0;have hfz29_1:=Zq BK4.out 1;have hfz29_2:=Zq BK4.out 2;have hcz30_0:w27.cell? ⟨gb1,0,none⟩=some (.int .i64 a0_0):=(Zm BK1.out 0).trans rfl;have hcz30_1:w27.cell? ⟨gb1,1,none⟩=some (.slice (some ad3) l0_1.length c0_1):=(Zm BK1.out 1).trans rfl)|((with_reducible refine ZM (f:=127) rfl ?_);refine Z7 (some 27) rfl rfl Tryz.func127 (by kernel_rfl) rfl #[.int .i64 ((ZaD l0_1 x18_2).f0),.int .i64 0,.int .i64 (wrap64 (a0_0 - 1))] rfl (by(try simp only[List.map_toArray,List.map_cons,List.map_nil]);first|done|rfl|(simp only[Zk,Zj];rfl)) ?_;(with_reducible refine(ZX.calls ((ZaD l0_1 x18_2).f0) 0 (wrap64 (a0_0 - 1)) true _ A13.out).mono ?_);rintro e w' ⟨rfl,⟨nd,rfl⟩⟩;refine⟨_,rfl,?_⟩)|(go_at_call 127;(with_reducible refine(ZX.calls ((ZaD l0_1 x18_2).f1) 0 (wrap64 (a0_0 - 1)) false _ A15.out).mono ?_);rintro e w' ⟨rfl,⟨nd,rfl⟩⟩))
           go_ret
           exact⟨by first|rfl|(simp[ZC,ZB] <;> rfl)|(simp[*,ZC,ZB] <;> rfl),by repeat(first|(with_reducible first|exact HB.out|apply Zo|apply Zn|apply Zp|refine Zt ?_ GE1.out|refine Zt ?_ GE4.out)|exact HB.out)⟩
         ·replace c14:=Bool.eq_false_iff.mpr c14
          subst c14
          have H1:(some false)=some r:=by rw[if_neg (show ¬(false=true) by decide)] at H;exact H
          clear H
          have H:=H1
          clear H1
          obtain rfl:=Zg H
          have p3:0≤(x18_2:Int):=Zd (by with_reducible assumption)
          have q3:x18_2<(l0_1.length:Int):=Zd (by with_reducible assumption)
          obtain⟨ad3,e3,hx3_0,hx3_1,hx3_2⟩:=Zch HR0_1.out x18_2 p3 q3
          cases e3
          replace hx3_0:=(HB.out.cell (Zc w _ hx3_0)).trans hx3_0
          replace hx3_1:=(HB.out.cell (Zc w _ hx3_1)).trans hx3_1
          replace hx3_2:=(HB.out.cell (Zc w _ hx3_2)).trans hx3_2
          replace p3:=eq_true p3
          replace q3:=eq_true q3
          go_wp2_with (first|((with_reducible refine ZF (N:=4) rfl ?_);refine ZG ?hg (N:=4) ?hd (cs:=#[.int .i64 0,.int .i64 0,.int .i64 0]) (t:=184) ?hr ?_;(case hd=>rfl);(case hg=>rfl);(case hr=>first|(go_simp;done)|(go_simp;rfl));intro gb4 hg w31 hbox hb;have BK4:=Za (hbox);have GW4:=Za ((by rw[hg];exact(Zv (by exact HB.out)):w.heap.size≤gb4));have GE4:=Za ((by rw[hg];exact(Zv (by exact HB.out)):w.heap.size≤gb4));have NB1_4:=Za ((by rw[hg];exact Nat.ne_of_lt (ZN (g:=gb1) (o:=.cells #[.int .i64 a0_0,.slice (some ad3) l0_1.length c0_1] 156 (0,0)) (by exact BK1.out)):gb1≠gb4));have NB4_1:=Za ((by rw[hg];exact Nat.ne_of_gt (ZN (g:=gb1) (o:=.cells #[.int .i64 a0_0,.slice (some ad3) l0_1.length c0_1] 156 (0,0)) (by exact BK1.out)):gb4≠gb1));replace BK1:=Za (Zs (g:=gb1) (o:=.cells #[.int .i64 a0_0,.slice (some ad3) l0_1.length c0_1] 156 (0,0)) (by exact BK1.out) hb);replace HB:=Za (Zr (by exact HB.out) hb);clear hb hbox hg;have hnb32:=NB4_1.out;have hnc32:=NB1_4.out;have hcz33_0:w31.cell? ⟨gb4,0,none⟩=some (.int .i64 0):=(Zm BK4.out 0).trans rfl;have hcz33_1:w31.cell? ⟨gb4,1,none⟩=some (.int .i64 0):=(Zm BK4.out 1).trans rfl;have hcz33_2:w31.cell? ⟨gb4,2,none⟩=some (.int .i64 0):=(Zm BK4.out 2).trans rfl;have hfz33_0:=Zq BK4.out 0;have hfz33_1:=Zq BK4.out 1;have hfz33_2:=Zq BK4.out 2;have hcz34_0:w31.cell? ⟨gb1,0,none⟩=some (.int .i64 a0_0):=(Zm BK1.out 0).trans rfl;have hcz34_1:w31.cell? ⟨gb1,1,none⟩=some (.slice (some ad3) l0_1.length c0_1):=(Zm BK1.out 1).trans rfl)|((with_reducible refine ZM (f:=127) rfl ?_);refine Z7 (some 27) rfl rfl Tryz.func127 (by kernel_rfl) rfl #[.int .i64 ((ZaD l0_1 x18_2).f0),.int .i64 0,.int .i64 (wrap64 (a0_0 - 1))] rfl (by(try simp only[List.map_toArray,List.map_cons,List.map_nil]);first|done|rfl|(simp only[Zk,Zj];rfl)) ?_;(with_reducible refine(ZX.calls ((ZaD l0_1 x18_2).f0) 0 (wrap64 (a0_0 - 1)) false _ A13.out).mono ?_);rintro e w' ⟨rfl,⟨nd,rfl⟩⟩;refine⟨_,rfl,?_⟩))
          go_ret
          exact⟨by first|rfl|(simp[ZC,ZB] <;> rfl)|(simp[*,ZC,ZB] <;> rfl),by repeat(first|(with_reducible first|exact HB.out|apply Zo|apply Zn|apply Zp|refine Zt ?_ GE1.out|refine Zt ?_ GE4.out)|exact HB.out)⟩
        ·rw[if_neg c12] at H
         exact absurd H (by simp)
       ·rw[if_neg c11] at H
        exact absurd H (by simp)
      ·rw[if_neg c10] at H
       have c10b0:decide (x18_2<(l0_1.length:Int))=false:=Zf c10
       clear c10
       obtain rfl:=Zg H
       go_wp2
       go_ret
       exact⟨by first|rfl|(simp[ZC,ZB] <;> rfl)|(simp[*,ZC,ZB] <;> rfl),by repeat(first|(with_reducible first|exact HB.out|apply Zo|apply Zn|apply Zp|refine Zt ?_ GE1.out)|exact HB.out)⟩
theorem sedge_ok {n:Int} (h0:0≤n) (h8:n≤8) (y:S184):(inR y.f0 0 (wrap64 (n - 1)) && (inR y.f1 0 (wrap64 (n - 1)) && inR y.f2 (-999999) 999999))=Zb9 n y:=by
 rw[Z9 (by omega) (by omega)]
 unfold inR Zb9 inN wgtB
 rw[Bool.eq_iff_iff]
 simp only[Bool.and_eq_true,decide_eq_true_eq]
 omega
theorem sgraph_l (n:Int) (E:List S184) (h0:0≤n) (h8:n≤8) (hl:E.length≤80) (k:Nat) (hk:2 ^ 64≤k):Zaf.l0 k E (E.length:Int) 0 n E=some (!(E.any fun x=>!Zb9 n x)):=by
 have key:=Zb7 E.length (fun k i=>Zaf.l0 k E (E.length:Int) (i:Int) n E=some (!((E.drop i).any fun x=>!Zb9 n x))) 0
  (fun k _=>by
   simp only[Zaf.l0]
   rw[if_neg (by omega),List.drop_length];rfl)
  (fun k i _ hi ih=>by
   simp only[Zaf.l0]
   rw[if_pos (by omega),if_pos (by omega),if_pos (by omega),ZO hi (by omega),ih,Zal hi z184,List.any_cons,show ZaD E (i:Int)=E.getD i z184 by unfold ZaD;rw[Int.toNat_natCast]]
   generalize E.getD i z184=y
   rw[← sedge_ok h0 h8 y]
   simp only[inR_f,Zi]
   cases inR y.f0 0 (wrap64 (n - 1)) <;> cases inR y.f1 0 (wrap64 (n - 1)) <;> cases inR y.f2 (-999999) 999999 <;> rfl) 0 k (Nat.zero_le _) (by omega)
 simpa using key
theorem ZfT (n:Int) (E:List S184) (k:Nat) (hk:2 ^ 66≤k):Zaf.f k n E=some (ZbW n E):=by
 obtain⟨k,rfl⟩:∃m,k=m+1:=⟨k - 1,by omega⟩
 unfold Zaf.f ZbW
 simp only[inR_f,Zi,Zaf.j0]
 by_cases h:0≤n∧n≤8
 ·rw[show inR n 0 8=true by unfold inR;simp[h.1,h.2],if_pos rfl,Zf (show ¬n<0 by omega),Zf (show ¬8<n by omega)]
  by_cases h2:(E.length:Int) > 80
  ·rw[Ze h2,if_pos rfl,Ze (show 80<E.length by omega)];rfl
  ·rw[Zf h2,if_neg (by simp),Zf (show ¬80<E.length by omega),sgraph_l n E h.1 h.2 (by omega) k (by omega)]
   simp
 ·rw[show inR n 0 8=false by unfold inR;rw[Bool.eq_false_iff];simp only[ne_eq,Bool.and_eq_true,decide_eq_true_eq];exact h,if_neg (by simp),if_pos trivial]
  by_cases h3:n<0
  ·rw[Ze h3];rfl
  ·rw[Zf h3,Ze (show 8<n by omega)];rfl
theorem Zca.two {d l:List Int} {kn:List Bool} {E:List Zan} {j:Nat} {ch:Int} (hj:j<E.length):srnd (E.drop j) j (d,l,kn,ch)=srnd (E.drop (j+1)) (j+1) (Zee (d,l,kn,ch) j (E.getD j zE)):=by
 rw[Zal hj zE];rfl
structure Zca.St (w W:World) (B b gd gl gn n cd cl ck:Nat) (d l:List Int) (kn:List Bool):Prop where
 d:IR W B gd n cd d
 l:IR W B gl n cl l
 k:BR W B gn n ck kn
 b:Below b w W
theorem Zca.own (a0_0:Int) (A0_1:Option Addr) (c0_1:Nat) (l0_1:List S184) (w0 w:World) (hr0_1:Kd.C k184 w0 A0_1 l0_1.length l0_1) (hB0:Below w0.heap.size w0 w) (B b gd gl gn n cd cl ck:Nat) (d l:List Int) (kn:List Bool) (hE:ZbO l0_1 n) (h80:l0_1.length≤80) (hn8:n≤8) (S:Zca.St w w B b gd gl gn n cd cl ck d l kn) (hb:w0.heap.size≤b∧b≤w.heap.size∧b≤gd∧b≤gl∧b≤gn) (hdl:gd≠gl) (hdk:gd≠gn) (hlk:gl≠gn) :
  Calls Tryz.prog 202 #[.agg #[.int .i64 a0_0,.slice A0_1 l0_1.length c0_1],.slice (some ⟨gd,0,none⟩) n cd,.slice (some ⟨gl,0,none⟩) n cl,.slice (some ⟨gn,0,none⟩) n ck] w fun e w'=>e=.returned (.int .i64 (srnd l0_1 0 (d,l,kn,-1)).2.2.2)∧Zca.St w w' B b gd gl gn n cd cl ck (srnd l0_1 0 (d,l,kn,-1)).1 (srnd l0_1 0 (d,l,kn,-1)).2.1 (srnd l0_1 0 (d,l,kn,-1)).2.2.1:=by
 have hu:=Tryz.underlying156
 have hu2:=Tryz.underlying184
 have HRE:=Za hr0_1;have HED:=Za hE
 have hL:l0_1.length≤9223372036854775807:=by omega
 have HS:=Za S;have HB:=Za hb;have HB0:=Za hB0
 have hdl2:=hdl.symm
 have hdk2:=hdk.symm
 have hlk2:=hlk.symm
 obtain⟨hb0,hb1,hb2,hb3,hb4⟩:=hb
 clear hr0_1 hE S hB0
 obtain⟨X,hX⟩:∃X,X=srnd l0_1 0 (d,l,kn,-1):=⟨_,rfl⟩
 rw[← hX]
 have HX:=Za hX;clear hX
 go_enter Tryz.func202,Tryz.ntmps202
 go_wp2
 go_loopg [9,15] l0_1.length (fun gg s9 s15 wr=>∃(j:Nat) (d' l':List Int) (kn':List Bool) (ch':Int),s9=.int .i64 ch'∧s15=.int .i64 (j:Int)∧Aside0 (j≤l0_1.length)∧Aside0 (l0_1.length - j≤gg)∧Aside0 (srnd (l0_1.drop j) j (d',l',kn',ch')=X)∧Aside0 (Zca.St w wr B b gd gl gn n cd cl ck d' l' kn'))
 case atStart=>
  have hA:=Zo (Below.refl w.heap.size w) (.cells #[.int .i64 a0_0,.slice A0_1 l0_1.length c0_1] 156)
  exact⟨0,d,l,kn,-1,rfl,rfl,⟨Nat.zero_le _⟩,⟨by omega⟩,⟨HX.out.symm⟩,⟨⟨HS.out.d.low hA,HS.out.l.low hA,HS.out.k.low hA,hA.mono hb1⟩⟩⟩
 case round=>
  obtain⟨j,d',l',kn',ch',rfl,rfl,HJ,HG2,HRN,HI2⟩:=hrel
  by_cases hjn:j<l0_1.length
  ·have hjz:(j:Int)<(l0_1.length:Int):=by omega
   have HB2:=Za (HB0.out.trans (HI2.out.b.mono HB.out.1))
   obtain⟨ad,e1,m0,m1,m2⟩:=Zch HRE.out (j:Int) (by omega) hjz
   cases e1
   rw[Int.toNat_natCast] at m0 m1 m2
   have hy:=HED.out _ (ZaJ hjn zE)
   have HT:=Za (Zca.two (d:=d') (l:=l') (kn:=kn') (ch:=ch') hjn)
   rw[show ZaD l0_1 (j:Int)=l0_1.getD j zE by unfold ZaD;rw[Int.toNat_natCast]] at m0 m1 m2
   generalize l0_1.getD j zE=y at m0 m1 m2 hy HT
   obtain⟨f0,f1,f2⟩:=y
   obtain⟨y0,y1,y2,y3⟩:=hy
   dsimp only at m0 m1 m2 y0 y1 y2 y3
   replace m0:=Zx HB2.out m0
   replace m1:=Zx HB2.out m1
   replace m2:=Zx HB2.out m2
   have hlta:=Zc wr _ m0
   obtain⟨xu,_⟩:=HI2.out.d.cell y0 y1
   obtain⟨xv,zv⟩:=HI2.out.d.cell y2 y3
   obtain⟨xl,zl⟩:=HI2.out.l.cell y2 y3
   obtain⟨xp,_⟩:=HI2.out.k.cell y0 y1
   obtain⟨xq,zq⟩:=HI2.out.k.cell y2 y3
   have hgd:=HI2.out.d.lt
   have hgl:=HI2.out.l.lt
   have hgk:=HI2.out.k.lt
   have HW:=Za fun (nq:Nat)=>Zn (Zo (Below.refl wr.heap.size wr) (.cells #[.int .i64 f0,.int .i64 f1,.int .i64 f2] 184)) nq
   have HBX:=Za fun (nq:Nat)=>(show(((wr.alloc (.cells #[.int .i64 f0,.int .i64 f1,.int .i64 f2] 184)).drewN nq).cell? ⟨wr.heap.size,0,none⟩=some (.int .i64 f0)∧((wr.alloc (.cells #[.int .i64 f0,.int .i64 f1,.int .i64 f2] 184)).drewN nq).cell? ⟨wr.heap.size,1,none⟩=some (.int .i64 f1)∧((wr.alloc (.cells #[.int .i64 f0,.int .i64 f1,.int .i64 f2] 184)).drewN nq).cell? ⟨wr.heap.size,2,none⟩=some (.int .i64 f2)) from⟨by go_simp,by go_simp,by go_simp⟩)
   have HPQ:=Za (show Zee (d',l',kn',ch') j ⟨f0,f1,f2⟩=if kn'.getD f0.toNat false=true∧(kn'.getD f1.toNat false=false∨wrap64 (rd d' f0+f2)<rd d' f1) then(d'.set f1.toNat (wrap64 (rd d' f0+f2)),l'.set f1.toNat (j:Int),kn'.set f1.toNat true,(j:Int)) else(d',l',kn',ch') from rfl)
   generalize kn'.getD f0.toNat false=p at xp HPQ
   generalize kn'.getD f1.toNat false=q at xq HPQ
   rcases(show(Aside0 (p=true∧(q=false∨wrap64 (rd d' f0+f2)<rd d' f1))∧((p=true∧q=false)∨(p=true∧q=true∧wrap64 (rd d' f0+f2)<rd d' f1)))∨(Aside0 (¬(p=true∧(q=false∨wrap64 (rd d' f0+f2)<rd d' f1)))∧((p=false)∨(p=true∧q=true∧¬wrap64 (rd d' f0+f2)<rd d' f1))) by
    cases p
    ·right;exact⟨⟨by simp⟩,.inl rfl⟩
    ·cases q
     ·left;exact⟨⟨by simp⟩,.inl ⟨rfl,rfl⟩⟩
     ·by_cases h:wrap64 (rd d' f0+f2)<rd d' f1
      ·left;exact⟨⟨by simp[h]⟩,.inr ⟨rfl,rfl,h⟩⟩
      ·right;exact⟨⟨by simp[h]⟩,.inr ⟨rfl,rfl,h⟩⟩) with ⟨hyes,hway⟩|⟨hno,hway⟩
   ·rcases hway with ⟨rfl,rfl⟩|⟨rfl,rfl,hlt⟩
    all_goals
     have HS2:=Za (HPQ.out.trans (if_pos hyes.out))
     clear hyes HPQ
     go_wp2
     go_quiet (fail)
     go_wp2
     have hW:=HW.out nq
     have hx:=HBX.out nq
     generalize (wr.alloc (.cells #[.int .i64 f0,.int .i64 f1,.int .i64 f2] 184)).drewN nq=W at hW hx ⊢
     obtain⟨x0,x1,x2⟩:=hx
     have HWI:=Za (And.intro (HI2.out.d.low hW) (And.intro (HI2.out.l.low hW) (HI2.out.k.low hW)))
     clear xu xv zv xl zl xp xq zq m0 m1 m2 HW HBX
     obtain⟨xu,_⟩:=HWI.out.1.cell y0 y1
     obtain⟨xv,zv⟩:=HWI.out.1.cell y2 y3
     obtain⟨xl,zl⟩:=HWI.out.2.1.cell y2 y3
     obtain⟨xq,zq⟩:=HWI.out.2.2.cell y2 y3
     have HWB:=Za (HI2.out.b.trans (hW.mono (Nat.le_trans hb1 HI2.out.b.size)))
     have hsz:=hW.size
     clear hW
     go_region
     go_wp2
     go_roundg (l0_1.length - (j+1))
     case measure=>have:=HG2.out;omega
     case rel=>
      exact⟨j+1,d'.set f1.toNat (wrap64 (rd d' f0+f2)),l'.set f1.toNat (j:Int),kn'.set f1.toNat true,(j:Int),rfl,by go_num,⟨by omega⟩,⟨by omega⟩,⟨by rw[← HRN.out,HT.out,HS2.out]⟩,
       ⟨Kd.R_drew (((HWI.out.1.put f1 _).far hdk _).far hdl _),Kd.R_drew (((HWI.out.2.1.far hdl2 _).far hlk _).put f1 _),Kd.R_drew (((HWI.out.2.2.far hdk2 _).put f1 _).far hlk2 _),(((HWB.out.setCell (p:=⟨gd,f1.toNat,none⟩) hb2 _).setCell (p:=⟨gn,f1.toNat,none⟩) hb4 _).setCell (p:=⟨gl,f1.toNat,none⟩) hb3 _).drew⟩⟩
   ·rcases hway with rfl|⟨rfl,rfl,hlt⟩
    all_goals
     have HS2:=Za (HPQ.out.trans (if_neg hno.out))
     clear hno HPQ
     go_wp2
     go_quiet (fail)
     go_wp2
     have hW:=HW.out nq
     generalize (wr.alloc (.cells #[.int .i64 f0,.int .i64 f1,.int .i64 f2] 184)).drewN nq=W at hW ⊢
     go_roundg (l0_1.length - (j+1))
     case measure=>have:=HG2.out;omega
     case rel=>
      exact⟨j+1,d',l',kn',ch',rfl,by go_num,⟨by omega⟩,⟨by omega⟩,⟨by rw[← HRN.out,HT.out,HS2.out]⟩,⟨HI2.out.d.low hW,HI2.out.l.low hW,HI2.out.k.low hW,HI2.out.b.trans (hW.mono (Nat.le_trans hb1 HI2.out.b.size))⟩⟩
  ·have hjz:¬(j:Int)<(l0_1.length:Int):=by omega
   obtain rfl:j=l0_1.length:=by have:=HJ.out;omega
   have HX2:=Za (show(d',l',kn',ch')=X by have:=HRN.out;rw[List.drop_length] at this;exact this)
   go_wp2
   go_ret
   exact⟨by rw[← HX2.out];rfl,by rw[← HX2.out];exact HI2.out⟩
end Go.Proofs.YtoeimopgoaffcaaGreatDoor.Pr
