/- The texts of one claim, put together by a program of this session. -/
import Derived.Deep.LoopGhost
import Derived.Test.YtoeimopgoaffcaaGreatDoorBBpc1x1
namespace Go.Proofs.YtoeimopgoaffcaaGreatDoor.Pr
open Go.RowKit Go.Proofs.YtoeimopgoaffcaaGreatDoorW.PrintWords Go.Proofs.YtoeimopgoaffcaaGreatDoorW.PrintLast Go.Proofs.YtoeimopgoaffcaaGreatDoorW.PrintMore
attribute [local go_sem] Z2 Z0 Zac Zab ZU ZT Z1 ZZ
set_option linter.unusedVariables false
set_option linter.unusedSimpArgs false
def Zay.l0:Nat→List (S143)→List (S39)→Int→Option ((List (S39)))
 | 0,_,_,_=>none
 | k+1,x0,x3,x4=>if x4<(x0.length:Int) then(if 0≤x4 then((Zcm.f k ((ZaC x0 x4).f0) ((ZaC x0 x4).f1) ((ZaC x0 x4).f2)).bind fun bt100005=>(if x4<(x3.length:Int) then(Zay.l0 k x0 (x3.set (x4:Int).toNat (⟨bt100005.1,bt100005.2.1,bt100005.2.2⟩:S39)) (wrap64 (x4+1))) else(none))) else(none)) else(some x3)
def Zay.f (k:Nat) (l0:List (S143)):Option ((List (S39))):=if 0≤(l0.length:Int) then(if ((l0.length:Int):Int).toNat≤5864062014805 then(Zay.l0 k l0 (List.replicate ((l0.length:Int):Int).toNat z39) 0) else(none)) else(none)
set_option maxHeartbeats 8000000 in
set_option maxRecDepth 100000 in
theorem Zay.calls (k:Nat) (A0:Option Addr) (c0:Nat) (l0:List (S143)) (r:List (S39)) (w:World) (hr0:Kd.C k143 w A0 l0.length l0) (hc0:l0.length≤c0) (h:Zay.f k l0=some r) :
  Calls Tryz.prog 100 #[.slice A0 l0.length c0] w fun e w'=>∃v0_:Value,e=.returned (v0_)∧Kd.S k39 39 w' w.heap.size (fun _=>True) v0_ r∧Below w.heap.size w w':=by
 have hu143:=Tryz.underlying143
 have hu39:=Tryz.underlying39
 have HR0:=Za hr0;have HC0:=Za hc0;clear hr0 hc0
 have HB:=Za (Below.refl w.heap.size w)
 have H:(if 0≤(l0.length:Int) then(if ((l0.length:Int):Int).toNat≤5864062014805 then(Zay.l0 k l0 (List.replicate ((l0.length:Int):Int).toNat z39) 0) else(none)) else(none))=some r:=h
 clear h
 by_cases c2:0≤(l0.length:Int)
 ·rw[if_pos c2] at H
  have c2b0:=eq_true c2
  have c2b1:decide (0≤(l0.length:Int))=true:=Ze c2
  clear c2
  by_cases c3:((l0.length:Int):Int).toNat≤5864062014805
  ·rw[if_pos c3] at H
   have c3b0:=eq_true c3
   have c3b1:decide (((l0.length:Int):Int).toNat≤5864062014805)=true:=Ze c3
   clear c3
   obtain⟨y100001,hy100001⟩:∃y_:List (S39),y_=(List.replicate ((l0.length:Int):Int).toNat z39):=⟨_,rfl⟩
   replace H:(Zay.l0 k l0 y100001 0)=some r:=by first|(rw[hy100001];with_reducible exact H)|(have H2_:=(Zi _ _).symm.trans H;rw[hy100001];with_reducible exact H2_)|(have H2_:=(Zi _ _).symm.trans H;with_reducible exact H2_)|with_reducible exact H|(rw[hy100001];exact H)|exact H
   have Ny100001:=Za hy100001;clear hy100001
   have H':=Za H
   clear H
   go_enter Tryz.func100,Tryz.ntmps100
   go_wp2_with (first|((with_reducible refine ZI (N:=7) rfl ?_);refine Kd.S_make k39 _ 39 rfl (N:=7) rfl 22 _ _ rfl (l0.length:Int) rfl rfl Tryz.underlying22 (.agg #[(.string ⟨#[]⟩),(.slice none 0 0),(.int .i64 0)]) 48 info39 rfl (by decide) (by omega) z39 (ok:=fun _=>True) (okp:=fun _=>True) (k39_mkM _ _ _ z39 (Kd.R_nil _ _ _ _ _)) (fun _ hk=>hk) trivial (Zd (by first|(with_reducible assumption)|assumption)) (Nat.le_trans (Nat.mul_le_mul_right _ (Zd (by first|(with_reducible assumption)|assumption):(l0.length:Int).toNat≤5864062014805)) (by omega)) (Below.refl _ _) (Nat.le_refl _) ?_;intro v100002 w4 ho5 hb hg_ hnew_;clear hg_ hnew_;(first|rw[← Ny100001.out] at ho5|(simp only[Int.reduceToNat] at ho5;rw[← Ny100001.out] at ho5));have HO100003:=Za (Kd.S_lower ho5 (ZC (by repeat(first|(with_reducible first|exact HB.out|apply Zn|apply Zm|apply Zo)|exact HB.out))));replace HB:=Za (Zt (by repeat(first|(with_reducible first|exact HB.out|apply Zn|apply Zm|apply Zo)|exact HB.out)) hb);clear hb ho5))
   go_loopg [4] k (fun kq v4 w'=>∃(x3_1:List (S39)) (x4_1:Int),v4=.int .i64 x4_1∧Aside0 (Zay.l0 kq l0 x3_1 x4_1=some r)∧Aside0 (kq≤k)∧Aside0 (Kd.S k39 39 w' w.heap.size (fun _=>True) v100002 x3_1)∧Aside0 (Below w.heap.size w w'))
   case atStart=>exact⟨(y100001),(0),(by first|rfl|(simp;done)|(simp[*];done)),H',⟨Nat.le_refl _⟩,⟨by(with_reducible repeat(first|apply Kd.S_alloc|apply Kd.S_drewN|apply Kd.S_drew));exact HO100003.out⟩,⟨by repeat(first|(with_reducible first|exact HB.out|apply Zn|apply Zm|apply Zo)|exact HB.out)⟩⟩
   case round=>
    clear H'
    try clear c1
    try clear c2
    try clear c2b0
    try clear c2b1
    try clear p2
    try clear c3
    try clear c3b0
    try clear c3b1
    obtain⟨x3_1,x4_1,rfl,HA,HK1,HO_3,HB⟩:=hrel
    cases gk with
    | zero=>exact absurd HA.out (by simp[Zay.l0])
    | succ k1=>
     have H:=HA.out
     clear HA
     simp only[Zay.l0] at H
     by_cases c6:x4_1<(l0.length:Int)
     ·rw[if_pos c6] at H
      have c6b0:decide (x4_1<(l0.length:Int))=true:=Ze c6
      clear c6
      by_cases c7:0≤x4_1
      ·rw[if_pos c7] at H
       have c7b0:decide (0≤x4_1)=true:=Ze c7
       clear c7
       replace H:=Zh H
       obtain⟨⟨t100005,t100006,t100009⟩,A80,H⟩:=H;have A8:=Za A80;clear A80
       by_cases c9:x4_1<(x3_1.length:Int)
       ·rw[if_pos c9] at H
        have c9b0:decide (x4_1<(x3_1.length:Int))=true:=Ze c9
        clear c9
        obtain⟨y100010,hy100010⟩:∃y_:List (S39),y_=(x3_1.set (x4_1:Int).toNat (⟨t100005,t100006,t100009⟩:S39)):=⟨_,rfl⟩
        replace H:(Zay.l0 k1 l0 y100010 (wrap64 (x4_1+1)))=some r:=by first|(rw[hy100010];with_reducible exact H)|(have H2_:=(Zi _ _).symm.trans H;rw[hy100010];with_reducible exact H2_)|(have H2_:=(Zi _ _).symm.trans H;with_reducible exact H2_)|with_reducible exact H|(rw[hy100010];exact H)|exact H
        have Ny100010:=Za hy100010;clear hy100010
        have H':=Za H
        clear H
        have p100004:0≤(x4_1:Int):=Zd (by first|(with_reducible assumption)|assumption)
        have q100004:x4_1<(l0.length:Int):=Zd (by first|(with_reducible assumption)|assumption)
        obtain⟨ad100004,A100004_1,c100004_1,e100004,hx100004_0,hx100004_1,hx100004_2,hl100004_1,hi100004_1⟩:=at_T143 HR0.out x4_1 p100004 q100004
        cases e100004
        replace hx100004_0:=(HB.out.cell (Zc w _ hx100004_0)).trans hx100004_0
        replace hx100004_1:=(HB.out.cell (Zc w _ hx100004_1)).trans hx100004_1
        replace hx100004_2:=(HB.out.cell (Zc w _ hx100004_2)).trans hx100004_2
        have HR100004_1:=Za hi100004_1;have HC100004_1:=Za hl100004_1;clear hi100004_1 hl100004_1
        replace p100004:=eq_true p100004
        replace q100004:=eq_true q100004
        go_wp2_with (first|((with_reducible refine ZK (f:=158) rfl ?_);refine Z6 (some 20) rfl rfl Tryz.func158 (by kernel_rfl) rfl #[.agg #[.string ((ZaC l0 x4_1).f0),.slice A100004_1 ((ZaC l0 x4_1).f1).length c100004_1,.int .i64 ((ZaC l0 x4_1).f2)]] rfl (by(try simp only[List.map_toArray,List.map_cons,List.map_nil]);first|done|rfl|(simp only[Zk,Zj];rfl)) ?_;(with_reducible refine(Zcm.calls k1 ((ZaC l0 x4_1).f0) _ _ ((ZaC l0 x4_1).f1) ((ZaC l0 x4_1).f2) t100005 t100006 t100009 _ ?side1 ?side2 A8.out).mono ?_);(case side1=>repeat(first|exact(Zb HR100004_1.out HB.out)|(with_reducible refine Kd.C_alloc ?_ _)|(with_reducible refine Kd.C_drewN ?_ _)|(with_reducible refine Kd.C_drew ?_)));(case side2=>exact HC100004_1.out);rintro e w11 ⟨v100007,rfl,ho0,hb⟩;refine⟨_,rfl,?_⟩;have HO100008:=Za (Kd.R_lower ho0 (ZC (by repeat(first|(with_reducible first|exact HB.out|apply Zn|apply Zm|apply Zo)|exact HB.out))));replace HO_3:=Za (Kd.S_elder' (by(with_reducible repeat(first|apply Kd.S_alloc|apply Kd.S_drewN|apply Kd.S_drew));exact HO_3.out) (Kd.R_base ho0) hb);replace HB:=Za (Zt (by repeat(first|(with_reducible first|exact HB.out|apply Zn|apply Zm|apply Zo)|exact HB.out)) hb);(try clear hb);(try clear hb2);(try clear hk);(try clear hi);(try clear ho0);obtain⟨As_,cs_,es_⟩:=Kd.R_slice HO100008.out;subst es_;have p10:0≤(x4_1:Int):=Zd (by first|(with_reducible assumption)|assumption);have q10:(x4_1:Int)<((x3_1.length:Int):Int):=Zd (by first|(with_reducible assumption)|assumption);obtain⟨go10,co10,eo10,gb10,gl10,cl10,HG10⟩:=Kd.S_form HO_3.out (by omega);(first|cases eo10|(injection eo10 with ea_ en_ ec_;(first|subst ea_|(injection ea_ with ea_;subst ea_));subst ec_;clear en_));have GB10:=Za gb10;have GG10:=Za HG10;clear gb10 gl10 HG10;obtain⟨_,ce10,hcl10,hM10,hcc10,hfr10,_,_⟩:=Kd.S_elem HO_3.out z39 (x4_1:Int) p10 q10;obtain⟨ve10_1,rfl,ge10_1⟩:=ZdX hM10;have hx10_0:w11.cell? ⟨go10,(x4_1:Int).toNat * 3,none⟩=some (.string ((ZD x3_1 x4_1).f0)):=hcc10 0 _ rfl;have hx10_1:w11.cell? ⟨go10,(x4_1:Int).toNat * 3+1,none⟩=some (ve10_1):=hcc10 1 _ rfl;have hx10_2:w11.cell? ⟨go10,(x4_1:Int).toNat * 3+2,none⟩=some (.int .i64 ((ZD x3_1 x4_1).f2)):=hcc10 2 _ rfl;have hf10_0:w11.frozen? ⟨go10,(x4_1:Int).toNat * 3,none⟩=false:=hfr10 0;have hf10_1:w11.frozen? ⟨go10,(x4_1:Int).toNat * 3+1,none⟩=false:=hfr10 1;have hf10_2:w11.frozen? ⟨go10,(x4_1:Int).toNat * 3+2,none⟩=false:=hfr10 2;clear hcl10 hcc10 hfr10 hM10;replace p10:=eq_true p10;replace q10:=eq_true q10;have n_:=Za (Kd.S_mono (ok':=(fun k_=>some k_≠(.slice As_ t100006.length cs_:Value).ownBlock)) HO_3.out (fun k_ hk=>hk.2));clear HO_3;have HO_3:=n_;clear n_;have HX12:=Za (show Kd.S k39 39 w11 w.heap.size (fun k_=>((fun _=>True)) k_∧¬((fun k_=>some k_=(.slice As_ t100006.length cs_:Value).ownBlock)) k_) (.slice (some ⟨go10,0,none⟩) x3_1.length co10) x3_1 from(by(with_reducible repeat(first|apply Kd.S_alloc|apply Kd.S_drewN|apply Kd.S_drew));exact Kd.S_mono HO_3.out (fun k_ hk=>⟨trivial,fun e_=>hk e_⟩)));obtain⟨oki12,ce12,hcl12,hM12,hcc12,hfr12,hoki12,hH12⟩:=Kd.S_elem HX12.out z39 (x4_1:Int) (Zd (by first|(with_reducible assumption)|assumption)) (by have h_:(x4_1:Int)<((x3_1.length:Int):Int):=Zd (by first|(with_reducible assumption)|assumption);first|exact h_|(have e_:=(Kd.S_reads' HO_3.out).1;omega)|simpa using h_);obtain⟨ve12_1,rfl,ge12_1⟩:=ZdX hM12;have HP12:=Kd.S_seg hH12 (Zd (by first|(with_reducible assumption)|assumption)) (by have h_:(x4_1:Int)<((x3_1.length:Int):Int):=Zd (by first|(with_reducible assumption)|assumption);first|exact h_|(have e_:=(Kd.S_reads' HO_3.out).1;omega)|simpa using h_) (seg:=[.string t100005,(.slice As_ t100006.length cs_),.int .i64 t100009]) (j:=0) (show 3≤3 from by decide) (x':=(⟨t100005,t100006,t100009⟩:S39)) (k39_mkM _ _ _ (⟨t100005,t100006,t100009⟩:S39) (Kd.R_mono (Kd.R_tight rfl (Kd.R_mono (ok':=fun k_=>((fun _=>True)) k_∧k_≠go10) (Kd.R_apart' (HO100008.out) (Kd.S_typed HO_3.out) (by decide)) (fun k_ hk=>⟨trivial,fun e_=>(hk.2) (by rw[e_];rfl)⟩))) (fun _ h_=>Or.inr (h_)))) (fun _ hk=>hk) (fun k_ hk_=>((Kd.R_mono (ok':=fun k_=>((fun _=>True)) k_∧k_≠go10) (Kd.R_apart' (HO100008.out) (Kd.S_typed HO_3.out) (by decide)) (fun k_ hk=>⟨trivial,fun e_=>(hk.2) (by rw[e_];rfl)⟩))).1 k_ hk_.symm);have hx12_0:=hcc12 0 _ rfl;(try simp only[show(k39).sz=3 from rfl,Nat.mul_one,Nat.add_zero] at hx12_0);have hf12_0:=hfr12 0;(try simp only[show(k39).sz=3 from rfl,Nat.mul_one,Nat.add_zero] at hf12_0);have hx12_1:=hcc12 1 _ rfl;(try simp only[show(k39).sz=3 from rfl,Nat.mul_one,Nat.add_zero] at hx12_1);have hf12_1:=hfr12 1;(try simp only[show(k39).sz=3 from rfl,Nat.mul_one,Nat.add_zero] at hf12_1);have hx12_2:=hcc12 2 _ rfl;(try simp only[show(k39).sz=3 from rfl,Nat.mul_one,Nat.add_zero] at hx12_2);have hf12_2:=hfr12 2;(try simp only[show(k39).sz=3 from rfl,Nat.mul_one,Nat.add_zero] at hf12_2);clear hcl12 hcc12 hfr12 hM12 hoki12 hH12)|((with_reducible refine ZbM (t:=39) (p:=21) rfl ?_);refine Zbx (t:=39) (p:=21) (v:=?vo_w13) (w1:=(((w11.setCell ⟨go10,(x4_1:Int).toNat * 3,none⟩ (.string t100005)).setCell ⟨go10,(x4_1:Int).toNat * 3+1,none⟩ (.slice As_ t100006.length cs_)).setCell ⟨go10,(x4_1:Int).toNat * 3+2,none⟩ (.int .i64 t100009))) ?hg ?ho ?hn ?hr ?_;(case ho=>rfl);(case hg=>rfl);(case hn=>rfl);(case hr=>first|(go_simp;done)|(go_simp;rfl));intro w13 hw;have hg:w11.grownBy w13 (some go10):=(by rw[hw];exact HP12.2);have hp_:Kd.S k39 39 w13 w.heap.size (fun _=>True) (.slice (some ⟨go10,0,none⟩) x3_1.length co10) y100010:=(by rw[hw,Ny100010.out];exact HP12.1);clear HP12;replace HO_3:=Za (hp_);replace HB:=Za ((by rw[hw];exact Zq (Zq (Zq (HB.out) GB10.out) GB10.out) GB10.out:Below w.heap.size w w13));clear HO100008;clear hg hw hp_))
        go_roundg k1
        case measure=>have:=HK1.out;omega
        case rel=>exact⟨(y100010),(wrap64 (x4_1+1)),(by first|rfl|(simp;done)|(simp[*];done)),H',⟨by have:=HK1.out;omega⟩,⟨by(with_reducible repeat(first|apply Kd.S_alloc|apply Kd.S_drewN|apply Kd.S_drew));exact HO_3.out⟩,⟨by repeat(first|(with_reducible first|exact HB.out|apply Zn|apply Zm|apply Zo)|exact HB.out)⟩⟩
       ·rw[if_neg c9] at H
        exact absurd H (by simp)
      ·rw[if_neg c7] at H
       exact absurd H (by simp)
     ·rw[if_neg c6] at H
      have c6b0:decide (x4_1<(l0.length:Int))=false:=Zf c6
      clear c6
      obtain rfl:=Zg H
      go_wp2
      go_ret
      exact⟨_,by first|rfl|(simp[ZA,Zz] <;> rfl)|(simp[*,ZA,Zz] <;> rfl),by(with_reducible repeat(first|apply Kd.S_alloc|apply Kd.S_drewN|apply Kd.S_drew));exact HO_3.out,by repeat(first|(with_reducible first|exact HB.out|apply Zn|apply Zm|apply Zo)|exact HB.out)⟩
  ·rw[if_neg c3] at H
   exact absurd H (by simp)
 ·rw[if_neg c2] at H
  exact absurd H (by simp)
def ZcD.f (a0_0:Int) (a0_1:Int) (a0_2:Int) (a0_3:Int) (a0_4:Bool):Option (Int×Int×Int×Int×Bool):=some (a0_0,a0_1,a0_2,a0_3,a0_4)
set_option maxHeartbeats 8000000 in
set_option maxRecDepth 100000 in
theorem ZcD.calls (a0_0:Int) (a0_1:Int) (a0_2:Int) (a0_3:Int) (a0_4:Bool) (r1:Int) (r2:Int) (r3:Int) (r4:Int) (r5:Bool) (w:World) (h:ZcD.f a0_0 a0_1 a0_2 a0_3 a0_4=some (r1,r2,r3,r4,r5)) :
  Calls Tryz.prog 159 #[.agg #[.int .i64 a0_0,.int .i64 a0_1,.int .i64 a0_2,.int .i64 a0_3,.bool a0_4]] w fun e w'=>e=.returned (.agg #[.int .i64 r1,.int .i64 r2,.int .i64 r3,.int .i64 r4,.bool r5])∧Below w.heap.size w w':=by
 have hu147:=Tryz.underlying147
 have hu82:=Tryz.underlying82
 have HB:=Za (Below.refl w.heap.size w)
 have H:(some (a0_0,a0_1,a0_2,a0_3,a0_4))=some (r1,r2,r3,r4,r5):=h
 clear h
 simp only[Option.some.injEq,Prod.mk.injEq] at H
 obtain⟨rfl,rfl,rfl,rfl,rfl⟩:=H
 go_enter Tryz.func159,Tryz.ntmps159
 go_wp2_with (first|((with_reducible refine ZI (N:=1) rfl ?_);refine ZG ?hg (N:=1) ?hd (cs:=#[.int .i64 a0_0,.int .i64 a0_1,.int .i64 a0_2,.int .i64 a0_3,.bool a0_4]) (t:=147) ?hr ?_;(case hd=>rfl);(case hg=>rfl);(case hr=>first|(go_simp;done)|(go_simp;rfl));intro gb159001 hg w2 hbox hb;have BK159001:=Za (hbox);have GW159001:=Za ((by rw[hg];exact(ZC (by repeat(first|(with_reducible first|exact HB.out|apply Zn|apply Zm|apply Zo)|exact HB.out))):w.heap.size≤gb159001));have GE159001:=Za ((by rw[hg];exact(ZC (by repeat(first|(with_reducible first|exact HB.out|apply Zn|apply Zm|apply Zo)|exact HB.out))):w.heap.size≤gb159001));replace HB:=Za (Zt (by repeat(first|(with_reducible first|exact HB.out|apply Zn|apply Zm|apply Zo)|exact HB.out)) hb);clear hb hbox hg)|((with_reducible refine ZI (N:=2) rfl ?_);refine ZG ?hg (N:=2) ?hd (cs:=#[.int .i64 0,.int .i64 0,.int .i64 0,.int .i64 0,.bool false]) (t:=82) ?hr ?_;(case hd=>rfl);(case hg=>rfl);(case hr=>first|(go_simp;done)|(go_simp;rfl));intro gb159002 hg w3 hbox hb;have n0_:=Za (Zx (g:=gb159001) (o:=.cells #[.int .i64 a0_0,.int .i64 a0_1,.int .i64 a0_2,.int .i64 a0_3,.bool a0_4] 147 (0,0)) BK159001.out hb);have n1_:=Za (Zt (by repeat(first|(with_reducible first|exact HB.out|apply Zn|apply Zm|apply Zo|refine Zq ?_ GE159001.out)|exact HB.out)) hb);have n2_:=Za (hbox);have n3_:=Za ((by rw[hg];exact(ZC (by repeat(first|(with_reducible first|exact HB.out|apply Zn|apply Zm|apply Zo|refine Zq ?_ GE159001.out)|exact HB.out))):w.heap.size≤gb159002));have n4_:=n3_;have n5_:=Za ((by rw[hg];exact Nat.ne_of_lt (ZW (g:=gb159001) (o:=.cells #[.int .i64 a0_0,.int .i64 a0_1,.int .i64 a0_2,.int .i64 a0_3,.bool a0_4] 147 (0,0)) BK159001.out):gb159001≠gb159002));have n6_:=Za n5_.out.symm;clear BK159001;clear HB;have BK159001:=n0_;have HB:=n1_;have BK159002:=n2_;have GW159002:=n3_;have GE159002:=n4_;have NB159001_159002:=n5_;have NB159002_159001:=n6_;clear n0_ n1_ n2_ n3_ n4_ n5_ n6_;clear hb hbox hg)|((with_reducible refine ZI (N:=3) rfl ?_);refine ZG ?hg (N:=3) ?hd (cs:=#[.int .i64 0,.int .i64 0,.int .i64 0,.int .i64 0,.bool false]) (t:=82) ?hr ?_;(case hd=>rfl);(case hg=>rfl);(case hr=>first|(go_simp;done)|(go_simp;rfl));intro gb159003 hg w4 hbox hb;have n0_:=Za (Zx (g:=gb159001) (o:=.cells #[.int .i64 a0_0,.int .i64 a0_1,.int .i64 a0_2,.int .i64 a0_3,.bool a0_4] 147 (0,0)) BK159001.out hb);have n1_:=Za (Zx (g:=gb159002) (o:=.cells #[.int .i64 0,.int .i64 0,.int .i64 0,.int .i64 0,.bool false] 82 (0,0)) BK159002.out hb);have n2_:=Za (Zt (by repeat(first|(with_reducible first|exact HB.out|apply Zn|apply Zm|apply Zo|refine Zq ?_ GE159001.out|refine Zq ?_ GE159002.out)|exact HB.out)) hb);have n3_:=Za (hbox);have n4_:=Za ((by rw[hg];exact(ZC (by repeat(first|(with_reducible first|exact HB.out|apply Zn|apply Zm|apply Zo|refine Zq ?_ GE159001.out|refine Zq ?_ GE159002.out)|exact HB.out))):w.heap.size≤gb159003));have n5_:=n4_;have n6_:=Za ((by rw[hg];exact Nat.ne_of_lt (ZW (g:=gb159001) (o:=.cells #[.int .i64 a0_0,.int .i64 a0_1,.int .i64 a0_2,.int .i64 a0_3,.bool a0_4] 147 (0,0)) BK159001.out):gb159001≠gb159003));have n7_:=Za n6_.out.symm;have n8_:=Za ((by rw[hg];exact Nat.ne_of_lt (ZW (g:=gb159002) (o:=.cells #[.int .i64 0,.int .i64 0,.int .i64 0,.int .i64 0,.bool false] 82 (0,0)) BK159002.out):gb159002≠gb159003));have n9_:=Za n8_.out.symm;clear BK159001;clear BK159002;clear HB;have BK159001:=n0_;have BK159002:=n1_;have HB:=n2_;have BK159003:=n3_;have GW159003:=n4_;have GE159003:=n5_;have NB159001_159003:=n6_;have NB159003_159001:=n7_;have NB159002_159003:=n8_;have NB159003_159002:=n9_;clear n0_ n1_ n2_ n3_ n4_ n5_ n6_ n7_ n8_ n9_;clear hb hbox hg;have hnb5:=NB159001_159002.out;have hnc5:=NB159002_159001.out;have hnb6:=NB159001_159003.out;have hnc6:=NB159003_159001.out;have hcz7_0:w4.cell? ⟨gb159001,0,none⟩=some (.int .i64 a0_0):=(Zp BK159001.out 0).trans rfl;have hcz7_1:w4.cell? ⟨gb159001,1,none⟩=some (.int .i64 a0_1):=(Zp BK159001.out 1).trans rfl;have hcz7_2:w4.cell? ⟨gb159001,2,none⟩=some (.int .i64 a0_2):=(Zp BK159001.out 2).trans rfl;have hcz7_3:w4.cell? ⟨gb159001,3,none⟩=some (.int .i64 a0_3):=(Zp BK159001.out 3).trans rfl;have hcz7_4:w4.cell? ⟨gb159001,4,none⟩=some (.bool a0_4):=(Zp BK159001.out 4).trans rfl;have hfz7_0:=Zs BK159001.out 0;have hfz7_1:=Zs BK159001.out 1;have hfz7_2:=Zs BK159001.out 2;have hfz7_3:=Zs BK159001.out 3;have hfz7_4:=Zs BK159001.out 4;have hnb8:=NB159003_159002.out;have hnc8:=NB159002_159003.out;have hcz9_0:w4.cell? ⟨gb159003,0,none⟩=some (.int .i64 0):=(Zp BK159003.out 0).trans rfl;have hcz9_1:w4.cell? ⟨gb159003,1,none⟩=some (.int .i64 0):=(Zp BK159003.out 1).trans rfl;have hcz9_2:w4.cell? ⟨gb159003,2,none⟩=some (.int .i64 0):=(Zp BK159003.out 2).trans rfl;have hcz9_3:w4.cell? ⟨gb159003,3,none⟩=some (.int .i64 0):=(Zp BK159003.out 3).trans rfl;have hcz9_4:w4.cell? ⟨gb159003,4,none⟩=some (.bool false):=(Zp BK159003.out 4).trans rfl;have hfz9_0:=Zs BK159003.out 0;have hfz9_1:=Zs BK159003.out 1;have hfz9_2:=Zs BK159003.out 2;have hfz9_3:=Zs BK159003.out 3;have hfz9_4:=Zs BK159003.out 4;have hcz10_0:w4.cell? ⟨gb159002,0,none⟩=some (.int .i64 0):=(Zp BK159002.out 0).trans rfl;have hcz10_1:w4.cell? ⟨gb159002,1,none⟩=some (.int .i64 0):=(Zp BK159002.out 1).trans rfl;have hcz10_2:w4.cell? ⟨gb159002,2,none⟩=some (.int .i64 0):=(Zp BK159002.out 2).trans rfl;have hcz10_3:w4.cell? ⟨gb159002,3,none⟩=some (.int .i64 0):=(Zp BK159002.out 3).trans rfl;have hcz10_4:w4.cell? ⟨gb159002,4,none⟩=some (.bool false):=(Zp BK159002.out 4).trans rfl;have hfz10_0:=Zs BK159002.out 0;have hfz10_1:=Zs BK159002.out 1;have hfz10_2:=Zs BK159002.out 2;have hfz10_3:=Zs BK159002.out 3;have hfz10_4:=Zs BK159002.out 4))
 refine bodyPost_ret (results_cell_row rfl _ _ gb159002 82 #[.int .i64 a0_0,.int .i64 a0_1,.int .i64 a0_2,.int .i64 a0_3,.bool a0_4] (0,0) _ rfl (by(with_reducible repeat(first|refine Zw ?_ _|refine ZB ?_|refine Zv ?_ _));refine ZP (cs:=#[.int .i64 a0_0,.int .i64 a0_1,.int .i64 a0_2,.int .i64 a0_3,.bool false]) ?_ 4 _ rfl;(with_reducible repeat(first|refine Zw ?_ _|refine ZB ?_|refine Zv ?_ _));refine ZP (cs:=#[.int .i64 a0_0,.int .i64 a0_1,.int .i64 a0_2,.int .i64 0,.bool false]) ?_ 3 _ rfl;(with_reducible repeat(first|refine Zw ?_ _|refine ZB ?_|refine Zv ?_ _));refine ZP (cs:=#[.int .i64 a0_0,.int .i64 a0_1,.int .i64 0,.int .i64 0,.bool false]) ?_ 2 _ rfl;(with_reducible repeat(first|refine Zw ?_ _|refine ZB ?_|refine Zv ?_ _));refine ZP (cs:=#[.int .i64 a0_0,.int .i64 0,.int .i64 0,.int .i64 0,.bool false]) ?_ 1 _ rfl;(with_reducible repeat(first|refine Zw ?_ _|refine ZB ?_|refine Zv ?_ _));refine ZP (cs:=#[.int .i64 0,.int .i64 0,.int .i64 0,.int .i64 0,.bool false]) ?_ 0 _ rfl;(with_reducible repeat(first|refine Zw ?_ _|refine ZB ?_|refine Zv ?_ _));refine ZL ?_ NB159002_159003.out _;(with_reducible repeat(first|refine Zw ?_ _|refine ZB ?_|refine Zv ?_ _));refine ZL ?_ NB159002_159003.out _;(with_reducible repeat(first|refine Zw ?_ _|refine ZB ?_|refine Zv ?_ _));refine ZL ?_ NB159002_159003.out _;(with_reducible repeat(first|refine Zw ?_ _|refine ZB ?_|refine Zv ?_ _));refine ZL ?_ NB159002_159003.out _;(with_reducible repeat(first|refine Zw ?_ _|refine ZB ?_|refine Zv ?_ _));refine ZL ?_ NB159002_159003.out _;(with_reducible repeat(first|refine Zw ?_ _|refine ZB ?_|refine Zv ?_ _));exact BK159002.out) Tryz.underlying82 rfl (by kernel_rfl)) rfl ?_
 exact⟨by first|rfl|(simp[ZA,Zz] <;> rfl)|(simp[*,ZA,Zz] <;> rfl),by repeat(first|(with_reducible first|exact HB.out|apply Zn|apply Zm|apply Zo|refine Zq ?_ GE159001.out|refine Zq ?_ GE159002.out|refine Zq ?_ GE159003.out)|exact HB.out)⟩
def ZaI.l0:Nat→List (S147)→List (S82)→Int→Option ((List (S82)))
 | 0,_,_,_=>none
 | k+1,x0,x3,x4=>if x4<(x0.length:Int) then(if 0≤x4 then((ZcD.f ((Za2 x0 x4).f0) ((Za2 x0 x4).f1) ((Za2 x0 x4).f2) ((Za2 x0 x4).f3) ((Za2 x0 x4).f4)).bind fun bt101005=>(if x4<(x3.length:Int) then(ZaI.l0 k x0 (x3.set (x4:Int).toNat (⟨bt101005.1,bt101005.2.1,bt101005.2.2.1,bt101005.2.2.2.1,bt101005.2.2.2.2⟩:S82)) (wrap64 (x4+1))) else(none))) else(none)) else(some x3)
def ZaI.f (k:Nat) (l0:List (S147)):Option ((List (S82))):=if 0≤(l0.length:Int) then(if ((l0.length:Int):Int).toNat≤7036874417766 then(ZaI.l0 k l0 (List.replicate ((l0.length:Int):Int).toNat z82) 0) else(none)) else(none)
set_option maxHeartbeats 8000000 in
set_option maxRecDepth 100000 in
theorem ZaI.calls (k:Nat) (A0:Option Addr) (c0:Nat) (l0:List (S147)) (r:List (S82)) (w:World) (hr0:Kd.C k147 w A0 l0.length l0) (hc0:l0.length≤c0) (h:ZaI.f k l0=some r) :
  Calls Tryz.prog 101 #[.slice A0 l0.length c0] w fun e w'=>∃v0_:Value,e=.returned (v0_)∧Kd.R k82 82 w' w.heap.size (fun _=>True) v0_ r∧Below w.heap.size w w':=by
 have hu147:=Tryz.underlying147
 have hu82:=Tryz.underlying82
 have HR0:=Za hr0;have HC0:=Za hc0;clear hr0 hc0
 have HB:=Za (Below.refl w.heap.size w)
 have H:(if 0≤(l0.length:Int) then(if ((l0.length:Int):Int).toNat≤7036874417766 then(ZaI.l0 k l0 (List.replicate ((l0.length:Int):Int).toNat z82) 0) else(none)) else(none))=some r:=h
 clear h
 by_cases c2:0≤(l0.length:Int)
 ·rw[if_pos c2] at H
  have c2b0:=eq_true c2
  have c2b1:decide (0≤(l0.length:Int))=true:=Ze c2
  clear c2
  by_cases c3:((l0.length:Int):Int).toNat≤7036874417766
  ·rw[if_pos c3] at H
   have c3b0:=eq_true c3
   have c3b1:decide (((l0.length:Int):Int).toNat≤7036874417766)=true:=Ze c3
   clear c3
   obtain⟨y101001,hy101001⟩:∃y_:List (S82),y_=(List.replicate ((l0.length:Int):Int).toNat z82):=⟨_,rfl⟩
   replace H:(ZaI.l0 k l0 y101001 0)=some r:=by first|(rw[hy101001];with_reducible exact H)|(have H2_:=(Zi _ _).symm.trans H;rw[hy101001];with_reducible exact H2_)|(have H2_:=(Zi _ _).symm.trans H;with_reducible exact H2_)|with_reducible exact H|(rw[hy101001];exact H)|exact H
   have Ny101001:=Za hy101001;clear hy101001
   have H':=Za H
   clear H
   go_enter Tryz.func101,Tryz.ntmps101
   go_wp2_with (first|((with_reducible refine ZI (N:=7) rfl ?_);refine Kd.R_make k82 _ 82 rfl (N:=7) rfl 23 _ _ rfl (l0.length:Int) rfl rfl Tryz.underlying23 (.agg #[(.int .i64 0),(.int .i64 0),(.int .i64 0),(.int .i64 0),(.bool false)]) 40 info82 rfl (by decide) (by omega) z82 (ok:=fun _=>True) (okp:=fun _=>True) (ZcJ _ _ _ z82 ) (fun _ hk=>hk) trivial (Zd (by first|(with_reducible assumption)|assumption)) (Nat.le_trans (Nat.mul_le_mul_right _ (Zd (by first|(with_reducible assumption)|assumption):(l0.length:Int).toNat≤7036874417766)) (by omega)) (Below.refl _ _) (Nat.le_refl _) ?_;intro v101002 w4 ho5 hb hg_ hnew_;clear hg_ hnew_;(first|rw[← Ny101001.out] at ho5|(simp only[Int.reduceToNat] at ho5;rw[← Ny101001.out] at ho5));have HO101003:=Za (Kd.R_lower ho5 (ZC (by repeat(first|(with_reducible first|exact HB.out|apply Zn|apply Zm|apply Zo)|exact HB.out))));replace HB:=Za (Zt (by repeat(first|(with_reducible first|exact HB.out|apply Zn|apply Zm|apply Zo)|exact HB.out)) hb);clear hb ho5))
   go_loopg [4] k (fun kq v4 w'=>∃(x3_1:List (S82)) (x4_1:Int),v4=.int .i64 x4_1∧Aside0 (ZaI.l0 kq l0 x3_1 x4_1=some r)∧Aside0 (kq≤k)∧Aside0 (Kd.R k82 82 w' w.heap.size (fun _=>True) v101002 x3_1)∧Aside0 (Below w.heap.size w w'))
   case atStart=>exact⟨(y101001),(0),(by first|rfl|(simp;done)|(simp[*];done)),H',⟨Nat.le_refl _⟩,⟨by(with_reducible repeat(first|apply Kd.R_alloc|apply Kd.R_drewN|apply Kd.R_drew));exact HO101003.out⟩,⟨by repeat(first|(with_reducible first|exact HB.out|apply Zn|apply Zm|apply Zo)|exact HB.out)⟩⟩
   case round=>
    clear H'
    try clear c1
    try clear c2
    try clear c2b0
    try clear c2b1
    try clear p2
    try clear c3
    try clear c3b0
    try clear c3b1
    obtain⟨x3_1,x4_1,rfl,HA,HK1,HO_3,HB⟩:=hrel
    cases gk with
    | zero=>exact absurd HA.out (by simp[ZaI.l0])
    | succ k1=>
     have H:=HA.out
     clear HA
     simp only[ZaI.l0] at H
     by_cases c6:x4_1<(l0.length:Int)
     ·rw[if_pos c6] at H
      have c6b0:decide (x4_1<(l0.length:Int))=true:=Ze c6
      clear c6
      by_cases c7:0≤x4_1
      ·rw[if_pos c7] at H
       have c7b0:decide (0≤x4_1)=true:=Ze c7
       clear c7
       replace H:=Zh H
       obtain⟨⟨t101005,t101006,t101007,t101008,t101009⟩,A80,H⟩:=H;have A8:=Za A80;clear A80
       by_cases c9:x4_1<(x3_1.length:Int)
       ·rw[if_pos c9] at H
        have c9b0:decide (x4_1<(x3_1.length:Int))=true:=Ze c9
        clear c9
        obtain⟨y101010,hy101010⟩:∃y_:List (S82),y_=(x3_1.set (x4_1:Int).toNat (⟨t101005,t101006,t101007,t101008,t101009⟩:S82)):=⟨_,rfl⟩
        replace H:(ZaI.l0 k1 l0 y101010 (wrap64 (x4_1+1)))=some r:=by first|(rw[hy101010];with_reducible exact H)|(have H2_:=(Zi _ _).symm.trans H;rw[hy101010];with_reducible exact H2_)|(have H2_:=(Zi _ _).symm.trans H;with_reducible exact H2_)|with_reducible exact H|(rw[hy101010];exact H)|exact H
        have Ny101010:=Za hy101010;clear hy101010
        have H':=Za H
        clear H
        have p101004:0≤(x4_1:Int):=Zd (by first|(with_reducible assumption)|assumption)
        have q101004:x4_1<(l0.length:Int):=Zd (by first|(with_reducible assumption)|assumption)
        obtain⟨ad101004,e101004,hx101004_0,hx101004_1,hx101004_2,hx101004_3,hx101004_4⟩:=at_T147 HR0.out x4_1 p101004 q101004
        cases e101004
        replace hx101004_0:=(HB.out.cell (Zc w _ hx101004_0)).trans hx101004_0
        replace hx101004_1:=(HB.out.cell (Zc w _ hx101004_1)).trans hx101004_1
        replace hx101004_2:=(HB.out.cell (Zc w _ hx101004_2)).trans hx101004_2
        replace hx101004_3:=(HB.out.cell (Zc w _ hx101004_3)).trans hx101004_3
        replace hx101004_4:=(HB.out.cell (Zc w _ hx101004_4)).trans hx101004_4
        replace p101004:=eq_true p101004
        replace q101004:=eq_true q101004
        go_wp2_with (first|((with_reducible refine ZK (f:=159) rfl ?_);refine Z6 (some 20) rfl rfl Tryz.func159 (by kernel_rfl) rfl #[.agg #[.int .i64 ((Za2 l0 x4_1).f0),.int .i64 ((Za2 l0 x4_1).f1),.int .i64 ((Za2 l0 x4_1).f2),.int .i64 ((Za2 l0 x4_1).f3),.bool ((Za2 l0 x4_1).f4)]] rfl (by(try simp only[List.map_toArray,List.map_cons,List.map_nil]);first|done|rfl|(simp only[Zk,Zj];rfl)) ?_;(with_reducible refine(ZcD.calls ((Za2 l0 x4_1).f0) ((Za2 l0 x4_1).f1) ((Za2 l0 x4_1).f2) ((Za2 l0 x4_1).f3) ((Za2 l0 x4_1).f4) t101005 t101006 t101007 t101008 t101009 _ A8.out).mono ?_);rintro e w11 ⟨rfl,hb⟩;refine⟨_,rfl,?_⟩;replace HO_3:=Za (Kd.R_below (by(with_reducible repeat(first|apply Kd.R_alloc|apply Kd.R_drewN|apply Kd.R_drew));exact HO_3.out) hb);replace HB:=Za (Zt (by repeat(first|(with_reducible first|exact HB.out|apply Zn|apply Zm|apply Zo)|exact HB.out)) hb);(try clear hb);(try clear hb2);(try clear hk);(try clear hi);have p10:0≤(x4_1:Int):=Zd (by first|(with_reducible assumption)|assumption);have q10:(x4_1:Int)<((x3_1.length:Int):Int):=Zd (by first|(with_reducible assumption)|assumption);obtain⟨go10,co10,eo10,gb10,gl10,cl10,HG10⟩:=Kd.R_form HO_3.out (by omega);(first|cases eo10|(injection eo10 with ea_ en_ ec_;(first|subst ea_|(injection ea_ with ea_;subst ea_));subst ec_;clear en_));have GB10:=Za gb10;have GG10:=Za HG10;clear gb10 gl10 HG10;obtain⟨ce10,hcl10,hM10,hcc10,hfr10⟩:=Kd.R_elem HO_3.out z82 (x4_1:Int) p10 q10;obtain rfl:=Zbt hM10;have hx10_0:w11.cell? ⟨go10,(x4_1:Int).toNat * 5,none⟩=some (.int .i64 ((Zu x3_1 x4_1).f0)):=hcc10 0 _ rfl;have hx10_1:w11.cell? ⟨go10,(x4_1:Int).toNat * 5+1,none⟩=some (.int .i64 ((Zu x3_1 x4_1).f1)):=hcc10 1 _ rfl;have hx10_2:w11.cell? ⟨go10,(x4_1:Int).toNat * 5+2,none⟩=some (.int .i64 ((Zu x3_1 x4_1).f2)):=hcc10 2 _ rfl;have hx10_3:w11.cell? ⟨go10,(x4_1:Int).toNat * 5+3,none⟩=some (.int .i64 ((Zu x3_1 x4_1).f3)):=hcc10 3 _ rfl;have hx10_4:w11.cell? ⟨go10,(x4_1:Int).toNat * 5+4,none⟩=some (.bool ((Zu x3_1 x4_1).f4)):=hcc10 4 _ rfl;have hf10_0:w11.frozen? ⟨go10,(x4_1:Int).toNat * 5,none⟩=false:=hfr10 0;have hf10_1:w11.frozen? ⟨go10,(x4_1:Int).toNat * 5+1,none⟩=false:=hfr10 1;have hf10_2:w11.frozen? ⟨go10,(x4_1:Int).toNat * 5+2,none⟩=false:=hfr10 2;have hf10_3:w11.frozen? ⟨go10,(x4_1:Int).toNat * 5+3,none⟩=false:=hfr10 3;have hf10_4:w11.frozen? ⟨go10,(x4_1:Int).toNat * 5+4,none⟩=false:=hfr10 4;clear hcl10 hcc10 hfr10 hM10;replace p10:=eq_true p10;replace q10:=eq_true q10;have HX12:=Za (show Kd.R k82 82 w11 w.heap.size (fun _=>True) (.slice (some ⟨go10,0,none⟩) x3_1.length co10) x3_1 from(by(with_reducible repeat(first|apply Kd.R_alloc|apply Kd.R_drewN|apply Kd.R_drew));exact HO_3.out));obtain⟨ce12,hcl12,hM12,hcc12,hfr12⟩:=Kd.R_elem HX12.out z82 (x4_1:Int) (Zd (by first|(with_reducible assumption)|assumption)) (by have h_:(x4_1:Int)<((x3_1.length:Int):Int):=Zd (by first|(with_reducible assumption)|assumption);first|exact h_|(have e_:=(Kd.R_reads' HO_3.out).1;omega)|simpa using h_);obtain rfl:=Zbt hM12;have HP12:=Kd.R_seg HX12.out (x4_1:Int) (Zd (by first|(with_reducible assumption)|assumption)) (by have h_:(x4_1:Int)<((x3_1.length:Int):Int):=Zd (by first|(with_reducible assumption)|assumption);first|exact h_|(have e_:=(Kd.R_reads' HO_3.out).1;omega)|simpa using h_) (seg:=[.int .i64 t101005,.int .i64 t101006,.int .i64 t101007,.int .i64 t101008,.bool t101009]) (j:=0) hcl12 hcc12 (show 5≤5 from by decide) (x':=(⟨t101005,t101006,t101007,t101008,t101009⟩:S82)) (ZcJ _ _ _ (⟨t101005,t101006,t101007,t101008,t101009⟩:S82) ) (fun _ hk=>hk);have hx12_0:=hcc12 0 _ rfl;(try simp only[show(k82).sz=5 from rfl,Nat.mul_one,Nat.add_zero] at hx12_0);have hf12_0:=hfr12 0;(try simp only[show(k82).sz=5 from rfl,Nat.mul_one,Nat.add_zero] at hf12_0);have hx12_1:=hcc12 1 _ rfl;(try simp only[show(k82).sz=5 from rfl,Nat.mul_one,Nat.add_zero] at hx12_1);have hf12_1:=hfr12 1;(try simp only[show(k82).sz=5 from rfl,Nat.mul_one,Nat.add_zero] at hf12_1);have hx12_2:=hcc12 2 _ rfl;(try simp only[show(k82).sz=5 from rfl,Nat.mul_one,Nat.add_zero] at hx12_2);have hf12_2:=hfr12 2;(try simp only[show(k82).sz=5 from rfl,Nat.mul_one,Nat.add_zero] at hf12_2);have hx12_3:=hcc12 3 _ rfl;(try simp only[show(k82).sz=5 from rfl,Nat.mul_one,Nat.add_zero] at hx12_3);have hf12_3:=hfr12 3;(try simp only[show(k82).sz=5 from rfl,Nat.mul_one,Nat.add_zero] at hf12_3);have hx12_4:=hcc12 4 _ rfl;(try simp only[show(k82).sz=5 from rfl,Nat.mul_one,Nat.add_zero] at hx12_4);have hf12_4:=hfr12 4;(try simp only[show(k82).sz=5 from rfl,Nat.mul_one,Nat.add_zero] at hf12_4);clear hcl12 hcc12 hfr12 hM12)|((with_reducible refine ZbM (t:=82) (p:=21) rfl ?_);refine Zbx (t:=82) (p:=21) (v:=?vo_w13) (w1:=(((((w11.setCell ⟨go10,(x4_1:Int).toNat * 5,none⟩ (.int .i64 t101005)).setCell ⟨go10,(x4_1:Int).toNat * 5+1,none⟩ (.int .i64 t101006)).setCell ⟨go10,(x4_1:Int).toNat * 5+2,none⟩ (.int .i64 t101007)).setCell ⟨go10,(x4_1:Int).toNat * 5+3,none⟩ (.int .i64 t101008)).setCell ⟨go10,(x4_1:Int).toNat * 5+4,none⟩ (.bool t101009))) ?hg ?ho ?hn ?hr ?_;(case ho=>rfl);(case hg=>rfl);(case hn=>rfl);(case hr=>first|(go_simp;done)|(go_simp;rfl));intro w13 hw;have hg:w11.grownBy w13 (some go10):=(by rw[hw];exact HP12.2);have hp_:Kd.R k82 82 w13 w.heap.size (fun _=>True) (.slice (some ⟨go10,0,none⟩) x3_1.length co10) y101010:=(by rw[hw,Ny101010.out];exact HP12.1);clear HP12;replace HO_3:=Za (hp_);replace HB:=Za ((by rw[hw];exact Zq (Zq (Zq (Zq (Zq (HB.out) GB10.out) GB10.out) GB10.out) GB10.out) GB10.out:Below w.heap.size w w13));clear hg hw hp_))
        go_roundg k1
        case measure=>have:=HK1.out;omega
        case rel=>exact⟨(y101010),(wrap64 (x4_1+1)),(by first|rfl|(simp;done)|(simp[*];done)),H',⟨by have:=HK1.out;omega⟩,⟨by(with_reducible repeat(first|apply Kd.R_alloc|apply Kd.R_drewN|apply Kd.R_drew));exact HO_3.out⟩,⟨by repeat(first|(with_reducible first|exact HB.out|apply Zn|apply Zm|apply Zo)|exact HB.out)⟩⟩
       ·rw[if_neg c9] at H
        exact absurd H (by simp)
      ·rw[if_neg c7] at H
       exact absurd H (by simp)
     ·rw[if_neg c6] at H
      have c6b0:decide (x4_1<(l0.length:Int))=false:=Zf c6
      clear c6
      obtain rfl:=Zg H
      go_wp2
      go_ret
      exact⟨_,by first|rfl|(simp[ZA,Zz] <;> rfl)|(simp[*,ZA,Zz] <;> rfl),by(with_reducible repeat(first|apply Kd.R_alloc|apply Kd.R_drewN|apply Kd.R_drew));exact HO_3.out,by repeat(first|(with_reducible first|exact HB.out|apply Zn|apply Zm|apply Zo)|exact HB.out)⟩
  ·rw[if_neg c3] at H
   exact absurd H (by simp)
 ·rw[if_neg c2] at H
  exact absurd H (by simp)
def ZaO.f (k:Nat) (l0_0:List (S143)) (l0_1:List (S147)) (a0_2:Int):Option ((List (S39))×(List (S82))×Int):=(Zay.f k l0_0).bind fun t30004=>((ZaI.f k l0_1).bind fun t30007=>(some (t30004,t30007,a0_2)))
set_option maxHeartbeats 8000000 in
set_option maxRecDepth 100000 in
theorem ZaO.calls (k:Nat) (A0_0:Option Addr) (c0_0:Nat) (l0_0:List (S143)) (A0_1:Option Addr) (c0_1:Nat) (l0_1:List (S147)) (a0_2:Int) (r1:List (S39)) (r2:List (S82)) (r3:Int) (w:World) (hr0_0:Kd.C k143 w A0_0 l0_0.length l0_0) (hc0_0:l0_0.length≤c0_0) (hr0_1:Kd.C k147 w A0_1 l0_1.length l0_1) (hc0_1:l0_1.length≤c0_1) (h:ZaO.f k l0_0 l0_1 a0_2=some (r1,r2,r3)) :
  Calls Tryz.prog 30 #[.agg #[.slice A0_0 l0_0.length c0_0,.slice A0_1 l0_1.length c0_1,.int .i64 a0_2]] w fun e w'=>∃v0_ v1_:Value,e=.returned (.agg #[v0_,v1_,.int .i64 r3])∧Kd.S k39 39 w' w.heap.size (fun _=>True) v0_ r1∧Kd.R k82 82 w' w.heap.size (fun _=>True) v1_ r2∧Below w.heap.size w w':=by
 have hu47:=Tryz.underlying47
 have hu25:=Tryz.underlying25
 have HR0_0:=Za hr0_0;have HC0_0:=Za hc0_0;clear hr0_0 hc0_0;have HR0_1:=Za hr0_1;have HC0_1:=Za hc0_1;clear hr0_1 hc0_1
 have HB:=Za (Below.refl w.heap.size w)
 have H:((Zay.f k l0_0).bind fun t30004=>((ZaI.f k l0_1).bind fun t30007=>(some (t30004,t30007,a0_2))))=some (r1,r2,r3):=h
 clear h
 replace H:=Zh H
 obtain⟨t30004,A20,H⟩:=H;have A2:=Za A20;clear A20
 replace H:=Zh H
 obtain⟨t30007,A30,H⟩:=H;have A3:=Za A30;clear A30
 simp only[Option.some.injEq,Prod.mk.injEq] at H
 obtain⟨rfl,rfl,rfl⟩:=H
 go_enter Tryz.func30,Tryz.ntmps30
 go_wp2_with (first|((with_reducible refine ZI (N:=1) rfl ?_);refine ZG ?hg (N:=1) ?hd (cs:=#[.slice A0_0 l0_0.length c0_0,.slice A0_1 l0_1.length c0_1,.int .i64 a0_2]) (t:=47) ?hr ?_;(case hd=>rfl);(case hg=>rfl);(case hr=>first|(go_simp;done)|(go_simp;rfl));intro gb30001 hg w4 hbox hb;have BK30001:=Za (hbox);have GW30001:=Za ((by rw[hg];exact(ZC (by repeat(first|(with_reducible first|exact HB.out|apply Zn|apply Zm|apply Zo)|exact HB.out))):w.heap.size≤gb30001));have GE30001:=Za ((by rw[hg];exact(ZC (by repeat(first|(with_reducible first|exact HB.out|apply Zn|apply Zm|apply Zo)|exact HB.out))):w.heap.size≤gb30001));replace HB:=Za (Zt (by repeat(first|(with_reducible first|exact HB.out|apply Zn|apply Zm|apply Zo)|exact HB.out)) hb);clear hb hbox hg)|((with_reducible refine ZI (N:=2) rfl ?_);refine ZG ?hg (N:=2) ?hd (cs:=#[.slice none 0 0,.slice none 0 0,.int .i64 0]) (t:=25) ?hr ?_;(case hd=>rfl);(case hg=>rfl);(case hr=>first|(go_simp;done)|(go_simp;rfl));intro gb30002 hg w5 hbox hb;have n0_:=Za (Zx (g:=gb30001) (o:=.cells #[.slice A0_0 l0_0.length c0_0,.slice A0_1 l0_1.length c0_1,.int .i64 a0_2] 47 (0,0)) BK30001.out hb);have n1_:=Za (Zt (by repeat(first|(with_reducible first|exact HB.out|apply Zn|apply Zm|apply Zo|refine Zq ?_ GE30001.out)|exact HB.out)) hb);have n2_:=Za (hbox);have n3_:=Za ((by rw[hg];exact(ZC (by repeat(first|(with_reducible first|exact HB.out|apply Zn|apply Zm|apply Zo|refine Zq ?_ GE30001.out)|exact HB.out))):w.heap.size≤gb30002));have n4_:=n3_;have n5_:=Za ((by rw[hg];exact Nat.ne_of_lt (ZW (g:=gb30001) (o:=.cells #[.slice A0_0 l0_0.length c0_0,.slice A0_1 l0_1.length c0_1,.int .i64 a0_2] 47 (0,0)) BK30001.out):gb30001≠gb30002));have n6_:=Za n5_.out.symm;clear BK30001;clear HB;have BK30001:=n0_;have HB:=n1_;have BK30002:=n2_;have GW30002:=n3_;have GE30002:=n4_;have NB30001_30002:=n5_;have NB30002_30001:=n6_;clear n0_ n1_ n2_ n3_ n4_ n5_ n6_;clear hb hbox hg)|((with_reducible refine ZI (N:=3) rfl ?_);refine ZG ?hg (N:=3) ?hd (cs:=#[.slice none 0 0,.slice none 0 0,.int .i64 0]) (t:=25) ?hr ?_;(case hd=>rfl);(case hg=>rfl);(case hr=>first|(go_simp;done)|(go_simp;rfl));intro gb30003 hg w6 hbox hb;have n0_:=Za (Zx (g:=gb30001) (o:=.cells #[.slice A0_0 l0_0.length c0_0,.slice A0_1 l0_1.length c0_1,.int .i64 a0_2] 47 (0,0)) BK30001.out hb);have n1_:=Za (Zx (g:=gb30002) (o:=.cells #[.slice none 0 0,.slice none 0 0,.int .i64 0] 25 (0,0)) BK30002.out hb);have n2_:=Za (Zt (by repeat(first|(with_reducible first|exact HB.out|apply Zn|apply Zm|apply Zo|refine Zq ?_ GE30001.out|refine Zq ?_ GE30002.out)|exact HB.out)) hb);have n3_:=Za (hbox);have n4_:=Za ((by rw[hg];exact(ZC (by repeat(first|(with_reducible first|exact HB.out|apply Zn|apply Zm|apply Zo|refine Zq ?_ GE30001.out|refine Zq ?_ GE30002.out)|exact HB.out))):w.heap.size≤gb30003));have n5_:=n4_;have n6_:=Za ((by rw[hg];exact Nat.ne_of_lt (ZW (g:=gb30001) (o:=.cells #[.slice A0_0 l0_0.length c0_0,.slice A0_1 l0_1.length c0_1,.int .i64 a0_2] 47 (0,0)) BK30001.out):gb30001≠gb30003));have n7_:=Za n6_.out.symm;have n8_:=Za ((by rw[hg];exact Nat.ne_of_lt (ZW (g:=gb30002) (o:=.cells #[.slice none 0 0,.slice none 0 0,.int .i64 0] 25 (0,0)) BK30002.out):gb30002≠gb30003));have n9_:=Za n8_.out.symm;clear BK30001;clear BK30002;clear HB;have BK30001:=n0_;have BK30002:=n1_;have HB:=n2_;have BK30003:=n3_;have GW30003:=n4_;have GE30003:=n5_;have NB30001_30003:=n6_;have NB30003_30001:=n7_;have NB30002_30003:=n8_;have NB30003_30002:=n9_;clear n0_ n1_ n2_ n3_ n4_ n5_ n6_ n7_ n8_ n9_;clear hb hbox hg;have hnb7:=NB30001_30002.out;have hnc7:=NB30002_30001.out;have hnb8:=NB30001_30003.out;have hnc8:=NB30003_30001.out;have hcz9_0:w6.cell? ⟨gb30001,0,none⟩=some (.slice A0_0 l0_0.length c0_0):=(Zp BK30001.out 0).trans rfl;have hcz9_1:w6.cell? ⟨gb30001,1,none⟩=some (.slice A0_1 l0_1.length c0_1):=(Zp BK30001.out 1).trans rfl;have hcz9_2:w6.cell? ⟨gb30001,2,none⟩=some (.int .i64 a0_2):=(Zp BK30001.out 2).trans rfl;have hfz9_0:=Zs BK30001.out 0;have hfz9_1:=Zs BK30001.out 1;have hfz9_2:=Zs BK30001.out 2)|((with_reducible refine ZK (f:=100) rfl ?_);refine Z6 (some 6) rfl rfl Tryz.func100 (by kernel_rfl) rfl #[.slice A0_0 l0_0.length c0_0] rfl (by(try simp only[List.map_toArray,List.map_cons,List.map_nil]);first|done|rfl|(simp only[Zk,Zj];rfl)) ?_;(with_reducible refine(Zay.calls k _ _ l0_0 t30004 _ ?side1 ?side2 A2.out).mono ?_);(case side1=>repeat(first|exact(Zb HR0_0.out HB.out)|(with_reducible refine Kd.C_alloc ?_ _)|(with_reducible refine Kd.C_drewN ?_ _)|(with_reducible refine Kd.C_drew ?_)));(case side2=>exact HC0_0.out);rintro e w10 ⟨v30005,rfl,ho0,hb⟩;refine⟨_,rfl,?_⟩;have HO30006:=Za (Kd.S_lower ho0 (ZC (by repeat(first|(with_reducible first|exact HB.out|apply Zn|apply Zm|apply Zo|refine Zq ?_ GE30001.out|refine Zq ?_ GE30002.out|refine Zq ?_ GE30003.out)|exact HB.out))));replace BK30001:=Za (Zx (g:=gb30001) (o:=.cells #[.slice A0_0 l0_0.length c0_0,.slice A0_1 l0_1.length c0_1,.int .i64 a0_2] 47 (0,0)) BK30001.out hb);replace BK30002:=Za (Zx (g:=gb30002) (o:=.cells #[.slice none 0 0,.slice none 0 0,.int .i64 0] 25 (0,0)) BK30002.out hb);replace BK30003:=Za (Zx (g:=gb30003) (o:=.cells #[.slice none 0 0,.slice none 0 0,.int .i64 0] 25 (0,0)) BK30003.out hb);replace HB:=Za (Zt (by repeat(first|(with_reducible first|exact HB.out|apply Zn|apply Zm|apply Zo|refine Zq ?_ GE30001.out|refine Zq ?_ GE30002.out|refine Zq ?_ GE30003.out)|exact HB.out)) hb);obtain⟨Ao11,co11,eo11⟩:=Kd.S_slice HO30006.out;subst eo11;have hnb12:=NB30003_30002.out;have hnc12:=NB30002_30003.out;have hcz13_0:w10.cell? ⟨gb30003,0,none⟩=some (.slice none 0 0):=(Zp BK30003.out 0).trans rfl;have hcz13_1:w10.cell? ⟨gb30003,1,none⟩=some (.slice none 0 0):=(Zp BK30003.out 1).trans rfl;have hcz13_2:w10.cell? ⟨gb30003,2,none⟩=some (.int .i64 0):=(Zp BK30003.out 2).trans rfl;have hfz13_0:=Zs BK30003.out 0;have hfz13_1:=Zs BK30003.out 1;have hfz13_2:=Zs BK30003.out 2;have hcz14_0:w10.cell? ⟨gb30001,0,none⟩=some (.slice A0_0 l0_0.length c0_0):=(Zp BK30001.out 0).trans rfl;have hcz14_1:w10.cell? ⟨gb30001,1,none⟩=some (.slice A0_1 l0_1.length c0_1):=(Zp BK30001.out 1).trans rfl;have hcz14_2:w10.cell? ⟨gb30001,2,none⟩=some (.int .i64 a0_2):=(Zp BK30001.out 2).trans rfl;have hfz14_0:=Zs BK30001.out 0;have hfz14_1:=Zs BK30001.out 1;have hfz14_2:=Zs BK30001.out 2)|((with_reducible refine ZK (f:=101) rfl ?_);refine Z6 (some 10) rfl rfl Tryz.func101 (by kernel_rfl) rfl #[.slice A0_1 l0_1.length c0_1] rfl (by(try simp only[List.map_toArray,List.map_cons,List.map_nil]);first|done|rfl|(simp only[Zk,Zj];rfl)) ?_;(with_reducible refine(ZaI.calls k _ _ l0_1 t30007 _ ?side1 ?side2 A3.out).mono ?_);(case side1=>exact Zb HR0_1.out (by repeat(first|(with_reducible first|exact HB.out|apply Zn|apply Zm|apply Zo|refine Zq ?_ GE30001.out|refine Zq ?_ GE30002.out|refine Zq ?_ GE30003.out)|exact HB.out)));(case side2=>exact HC0_1.out);rintro e w15 ⟨v30008,rfl,ho0,hb⟩;refine⟨_,rfl,?_⟩;have HO30009:=Za (Kd.R_lower ho0 (ZC (by repeat(first|(with_reducible first|exact HB.out|apply Zn|apply Zm|apply Zo|refine Zq ?_ GE30001.out|refine Zq ?_ GE30002.out|refine Zq ?_ GE30003.out)|exact HB.out))));replace HO30006:=Za (Kd.S_below (by(with_reducible repeat(first|apply Kd.S_alloc|apply Kd.S_drewN|apply Kd.S_drew));exact(Kd.S_mono (Kd.S_far (p:=⟨gb30003,0,none⟩) (Kd.S_types HO30006.out BK30003.out (by decide)) (fun _ hk=>hk.2) (.slice Ao11 t30004.length co11)) (fun _ h_=>h_.1))) hb);replace BK30001:=Za (Zx (g:=gb30001) (o:=.cells #[.slice A0_0 l0_0.length c0_0,.slice A0_1 l0_1.length c0_1,.int .i64 a0_2] 47 (0,0)) (by(with_reducible repeat(first|refine Zw ?_ _|refine ZB ?_|refine Zv ?_ _));refine ZL ?_ NB30001_30003.out _;(with_reducible repeat(first|refine Zw ?_ _|refine ZB ?_|refine Zv ?_ _));exact BK30001.out) hb);replace BK30002:=Za (Zx (g:=gb30002) (o:=.cells #[.slice none 0 0,.slice none 0 0,.int .i64 0] 25 (0,0)) (by(with_reducible repeat(first|refine Zw ?_ _|refine ZB ?_|refine Zv ?_ _));refine ZL ?_ NB30002_30003.out _;(with_reducible repeat(first|refine Zw ?_ _|refine ZB ?_|refine Zv ?_ _));exact BK30002.out) hb);replace BK30003:=Za (Zx (g:=gb30003) (o:=.cells #[.slice Ao11 t30004.length co11,.slice none 0 0,.int .i64 0] 25 (0,0)) (by(with_reducible repeat(first|refine Zw ?_ _|refine ZB ?_|refine Zv ?_ _));refine ZP (cs:=#[.slice none 0 0,.slice none 0 0,.int .i64 0]) ?_ 0 _ rfl;(with_reducible repeat(first|refine Zw ?_ _|refine ZB ?_|refine Zv ?_ _));exact BK30003.out) hb);replace HB:=Za (Zt (by repeat(first|(with_reducible first|exact HB.out|apply Zn|apply Zm|apply Zo|refine Zq ?_ GE30001.out|refine Zq ?_ GE30002.out|refine Zq ?_ GE30003.out)|exact HB.out)) hb);obtain⟨Ao16,co16,eo16⟩:=Kd.R_slice HO30009.out;subst eo16;have hcz17_0:w15.cell? ⟨gb30003,0,none⟩=some (.slice Ao11 t30004.length co11):=(Zp BK30003.out 0).trans rfl;have hcz17_1:w15.cell? ⟨gb30003,1,none⟩=some (.slice none 0 0):=(Zp BK30003.out 1).trans rfl;have hcz17_2:w15.cell? ⟨gb30003,2,none⟩=some (.int .i64 0):=(Zp BK30003.out 2).trans rfl;have hfz17_0:=Zs BK30003.out 0;have hfz17_1:=Zs BK30003.out 1;have hfz17_2:=Zs BK30003.out 2;have hcz18_0:w15.cell? ⟨gb30001,0,none⟩=some (.slice A0_0 l0_0.length c0_0):=(Zp BK30001.out 0).trans rfl;have hcz18_1:w15.cell? ⟨gb30001,1,none⟩=some (.slice A0_1 l0_1.length c0_1):=(Zp BK30001.out 1).trans rfl;have hcz18_2:w15.cell? ⟨gb30001,2,none⟩=some (.int .i64 a0_2):=(Zp BK30001.out 2).trans rfl;have hfz18_0:=Zs BK30001.out 0;have hfz18_1:=Zs BK30001.out 1;have hfz18_2:=Zs BK30001.out 2;have hcz19_0:w15.cell? ⟨gb30002,0,none⟩=some (.slice none 0 0):=(Zp BK30002.out 0).trans rfl;have hcz19_1:w15.cell? ⟨gb30002,1,none⟩=some (.slice none 0 0):=(Zp BK30002.out 1).trans rfl;have hcz19_2:w15.cell? ⟨gb30002,2,none⟩=some (.int .i64 0):=(Zp BK30002.out 2).trans rfl;have hfz19_0:=Zs BK30002.out 0;have hfz19_1:=Zs BK30002.out 1;have hfz19_2:=Zs BK30002.out 2))
 refine bodyPost_ret (results_cell_row rfl _ _ gb30002 25 #[.slice Ao11 t30004.length co11,.slice Ao16 t30007.length co16,.int .i64 a0_2] (0,0) _ rfl (by(with_reducible repeat(first|refine Zw ?_ _|refine ZB ?_|refine Zv ?_ _));refine ZP (cs:=#[.slice Ao11 t30004.length co11,.slice Ao16 t30007.length co16,.int .i64 0]) ?_ 2 _ rfl;(with_reducible repeat(first|refine Zw ?_ _|refine ZB ?_|refine Zv ?_ _));refine ZP (cs:=#[.slice Ao11 t30004.length co11,.slice none 0 0,.int .i64 0]) ?_ 1 _ rfl;(with_reducible repeat(first|refine Zw ?_ _|refine ZB ?_|refine Zv ?_ _));refine ZP (cs:=#[.slice none 0 0,.slice none 0 0,.int .i64 0]) ?_ 0 _ rfl;(with_reducible repeat(first|refine Zw ?_ _|refine ZB ?_|refine Zv ?_ _));refine ZL ?_ NB30002_30003.out _;(with_reducible repeat(first|refine Zw ?_ _|refine ZB ?_|refine Zv ?_ _));refine ZL ?_ NB30002_30003.out _;(with_reducible repeat(first|refine Zw ?_ _|refine ZB ?_|refine Zv ?_ _));exact BK30002.out) Tryz.underlying25 rfl (by kernel_rfl)) rfl ?_
 exact⟨_,_,by first|rfl|(simp[ZA,Zz] <;> rfl)|(simp[*,ZA,Zz] <;> rfl),by(with_reducible repeat(first|apply Kd.S_alloc|apply Kd.S_drewN|apply Kd.S_drew));exact Kd.S_mono (Kd.S_far (p:=⟨gb30002,2,none⟩) (Kd.S_far (p:=⟨gb30002,1,none⟩) (Kd.S_far (p:=⟨gb30002,0,none⟩) (Kd.S_far (p:=⟨gb30003,2,none⟩) (Kd.S_far (p:=⟨gb30003,1,none⟩) (Kd.S_types (Kd.S_types HO30006.out BK30003.out (by decide)) BK30002.out (by decide)) (fun _ hk=>hk.1.2) (.slice Ao16 t30007.length co16)) (fun _ hk=>hk.1.2) (.int .i64 a0_2)) (fun _ hk=>hk.2) (.slice Ao11 t30004.length co11)) (fun _ hk=>hk.2) (.slice Ao16 t30007.length co16)) (fun _ hk=>hk.2) (.int .i64 a0_2)) (fun _ hk=>trivial),by(with_reducible repeat(first|apply Kd.R_alloc|apply Kd.R_drewN|apply Kd.R_drew));exact Kd.R_mono (Kd.R_far (p:=⟨gb30002,2,none⟩) (Kd.R_far (p:=⟨gb30002,1,none⟩) (Kd.R_far (p:=⟨gb30002,0,none⟩) (Kd.R_far (p:=⟨gb30003,2,none⟩) (Kd.R_far (p:=⟨gb30003,1,none⟩) (Kd.R_types (Kd.R_types HO30009.out BK30003.out (by decide)) BK30002.out (by decide)) (fun _ hk=>hk.1.2) (.slice Ao16 t30007.length co16)) (fun _ hk=>hk.1.2) (.int .i64 a0_2)) (fun _ hk=>hk.2) (.slice Ao11 t30004.length co11)) (fun _ hk=>hk.2) (.slice Ao16 t30007.length co16)) (fun _ hk=>hk.2) (.int .i64 a0_2)) (fun _ hk=>trivial),by repeat(first|(with_reducible first|exact HB.out|apply Zn|apply Zm|apply Zo|refine Zq ?_ GE30001.out|refine Zq ?_ GE30002.out|refine Zq ?_ GE30003.out)|exact HB.out)⟩
theorem ZaO.c (k:Nat) (A0_0:Option Addr) (c0_0:Nat) (l0_0:List (S143)) (A0_1:Option Addr) (c0_1:Nat) (l0_1:List (S147)) (a0_2:Int) (r1:List (S39)) (r2:List (S82)) (r3:Int) (w:World) (hr0_0:Kd.C k143 w A0_0 l0_0.length l0_0) (hc0_0:l0_0.length≤c0_0) (hr0_1:Kd.C k147 w A0_1 l0_1.length l0_1) (hc0_1:l0_1.length≤c0_1) (h:ZaO.f k l0_0 l0_1 a0_2=some (r1,r2,r3)) :
  Calls Tryz.prog 30 #[.agg #[.slice A0_0 l0_0.length c0_0,.slice A0_1 l0_1.length c0_1,.int .i64 a0_2]] w fun e w'=>∃A0_ c0_ A1_ c1_,e=.returned (.agg #[.slice A0_ r1.length c0_,.slice A1_ r2.length c1_,.int .i64 r3])∧Aside0 (r1.length≤c0_∧Kd.C k39 w' A0_ r1.length r1)∧Aside0 (r2.length≤c1_∧Kd.C k82 w' A1_ r2.length r2)∧Below w.heap.size w w':=
 (ZaO.calls k A0_0 c0_0 l0_0 A0_1 c0_1 l0_1 a0_2 r1 r2 r3 w hr0_0 hc0_0 hr0_1 hc0_1 h).mono fun e w' ⟨v0_,v1_,he,q0_,q1_,hb⟩=>by
  obtain⟨A0_,c0_,rfl,g0_⟩:=Kd.S_reads q0_
  obtain⟨A1_,c1_,rfl,g1_⟩:=Kd.R_reads q1_
  exact⟨A0_,c0_,A1_,c1_,he,⟨g0_⟩,⟨g1_⟩,hb⟩
def Zas.f (k:Nat) (l0_0:List Int) (l0_1:List Int):Option (List Int×List Int):=(Zam.f k l0_0).bind fun t31004=>((Zam.f k l0_1).bind fun t31007=>(some (t31004,t31007)))
set_option maxHeartbeats 8000000 in
set_option maxRecDepth 100000 in
theorem Zas.calls (k:Nat) (A0_0:Option Addr) (c0_0:Nat) (l0_0:List Int) (A0_1:Option Addr) (c0_1:Nat) (l0_1:List Int) (r1:List Int) (r2:List Int) (w:World) (hr0_0:Kd.C (Kd.int .i64) w A0_0 l0_0.length l0_0) (hc0_0:l0_0.length≤c0_0) (hr0_1:Kd.C (Kd.int .i64) w A0_1 l0_1.length l0_1) (hc0_1:l0_1.length≤c0_1) (h:Zas.f k l0_0 l0_1=some (r1,r2)) :
  Calls Tryz.prog 31 #[.agg #[.slice A0_0 l0_0.length c0_0,.slice A0_1 l0_1.length c0_1]] w fun e w'=>∃v0_ v1_:Value,e=.returned (.agg #[v0_,v1_])∧Kd.R (Kd.int .i64) 3 w' w.heap.size (fun k_=>some k_≠(v1_:Value).ownBlock) v0_ r1∧Kd.R (Kd.int .i64) 3 w' w.heap.size (fun k_=>some k_≠(v0_:Value).ownBlock) v1_ r2∧Below w.heap.size w w':=by
 have hu49:=Tryz.underlying49
 have hu58:=Tryz.underlying58
 have HR0_0:=Za hr0_0;have HC0_0:=Za hc0_0;clear hr0_0 hc0_0;have HR0_1:=Za hr0_1;have HC0_1:=Za hc0_1;clear hr0_1 hc0_1
 have HB:=Za (Below.refl w.heap.size w)
 have H:((Zam.f k l0_0).bind fun t31004=>((Zam.f k l0_1).bind fun t31007=>(some (t31004,t31007))))=some (r1,r2):=h
 clear h
 replace H:=Zh H
 obtain⟨t31004,A20,H⟩:=H;have A2:=Za A20;clear A20
 replace H:=Zh H
 obtain⟨t31007,A30,H⟩:=H;have A3:=Za A30;clear A30
 simp only[Option.some.injEq,Prod.mk.injEq] at H
 obtain⟨rfl,rfl⟩:=H
 go_enter Tryz.func31,Tryz.ntmps31
 go_wp2_with (first|((with_reducible refine ZI (N:=1) rfl ?_);refine ZG ?hg (N:=1) ?hd (cs:=#[.slice A0_0 l0_0.length c0_0,.slice A0_1 l0_1.length c0_1]) (t:=49) ?hr ?_;(case hd=>rfl);(case hg=>rfl);(case hr=>first|(go_simp;done)|(go_simp;rfl));intro gb31001 hg w4 hbox hb;have BK31001:=Za (hbox);have GW31001:=Za ((by rw[hg];exact(ZC (by repeat(first|(with_reducible first|exact HB.out|apply Zn|apply Zm|apply Zo)|exact HB.out))):w.heap.size≤gb31001));have GE31001:=Za ((by rw[hg];exact(ZC (by repeat(first|(with_reducible first|exact HB.out|apply Zn|apply Zm|apply Zo)|exact HB.out))):w.heap.size≤gb31001));replace HB:=Za (Zt (by repeat(first|(with_reducible first|exact HB.out|apply Zn|apply Zm|apply Zo)|exact HB.out)) hb);clear hb hbox hg)|((with_reducible refine ZI (N:=2) rfl ?_);refine ZG ?hg (N:=2) ?hd (cs:=#[.slice none 0 0,.slice none 0 0]) (t:=58) ?hr ?_;(case hd=>rfl);(case hg=>rfl);(case hr=>first|(go_simp;done)|(go_simp;rfl));intro gb31002 hg w5 hbox hb;have n0_:=Za (Zx (g:=gb31001) (o:=.cells #[.slice A0_0 l0_0.length c0_0,.slice A0_1 l0_1.length c0_1] 49 (0,0)) BK31001.out hb);have n1_:=Za (Zt (by repeat(first|(with_reducible first|exact HB.out|apply Zn|apply Zm|apply Zo|refine Zq ?_ GE31001.out)|exact HB.out)) hb);have n2_:=Za (hbox);have n3_:=Za ((by rw[hg];exact(ZC (by repeat(first|(with_reducible first|exact HB.out|apply Zn|apply Zm|apply Zo|refine Zq ?_ GE31001.out)|exact HB.out))):w.heap.size≤gb31002));have n4_:=n3_;have n5_:=Za ((by rw[hg];exact Nat.ne_of_lt (ZW (g:=gb31001) (o:=.cells #[.slice A0_0 l0_0.length c0_0,.slice A0_1 l0_1.length c0_1] 49 (0,0)) BK31001.out):gb31001≠gb31002));have n6_:=Za n5_.out.symm;clear BK31001;clear HB;have BK31001:=n0_;have HB:=n1_;have BK31002:=n2_;have GW31002:=n3_;have GE31002:=n4_;have NB31001_31002:=n5_;have NB31002_31001:=n6_;clear n0_ n1_ n2_ n3_ n4_ n5_ n6_;clear hb hbox hg)|((with_reducible refine ZI (N:=3) rfl ?_);refine ZG ?hg (N:=3) ?hd (cs:=#[.slice none 0 0,.slice none 0 0]) (t:=58) ?hr ?_;(case hd=>rfl);(case hg=>rfl);(case hr=>first|(go_simp;done)|(go_simp;rfl));intro gb31003 hg w6 hbox hb;have n0_:=Za (Zx (g:=gb31001) (o:=.cells #[.slice A0_0 l0_0.length c0_0,.slice A0_1 l0_1.length c0_1] 49 (0,0)) BK31001.out hb);have n1_:=Za (Zx (g:=gb31002) (o:=.cells #[.slice none 0 0,.slice none 0 0] 58 (0,0)) BK31002.out hb);have n2_:=Za (Zt (by repeat(first|(with_reducible first|exact HB.out|apply Zn|apply Zm|apply Zo|refine Zq ?_ GE31001.out|refine Zq ?_ GE31002.out)|exact HB.out)) hb);have n3_:=Za (hbox);have n4_:=Za ((by rw[hg];exact(ZC (by repeat(first|(with_reducible first|exact HB.out|apply Zn|apply Zm|apply Zo|refine Zq ?_ GE31001.out|refine Zq ?_ GE31002.out)|exact HB.out))):w.heap.size≤gb31003));have n5_:=n4_;have n6_:=Za ((by rw[hg];exact Nat.ne_of_lt (ZW (g:=gb31001) (o:=.cells #[.slice A0_0 l0_0.length c0_0,.slice A0_1 l0_1.length c0_1] 49 (0,0)) BK31001.out):gb31001≠gb31003));have n7_:=Za n6_.out.symm;have n8_:=Za ((by rw[hg];exact Nat.ne_of_lt (ZW (g:=gb31002) (o:=.cells #[.slice none 0 0,.slice none 0 0] 58 (0,0)) BK31002.out):gb31002≠gb31003));have n9_:=Za n8_.out.symm;clear BK31001;clear BK31002;clear HB;have BK31001:=n0_;have BK31002:=n1_;have HB:=n2_;have BK31003:=n3_;have GW31003:=n4_;have GE31003:=n5_;have NB31001_31003:=n6_;have NB31003_31001:=n7_;have NB31002_31003:=n8_;have NB31003_31002:=n9_;clear n0_ n1_ n2_ n3_ n4_ n5_ n6_ n7_ n8_ n9_;clear hb hbox hg;have hnb7:=NB31001_31002.out;have hnc7:=NB31002_31001.out;have hnb8:=NB31001_31003.out;have hnc8:=NB31003_31001.out;have hcz9_0:w6.cell? ⟨gb31001,0,none⟩=some (.slice A0_0 l0_0.length c0_0):=(Zp BK31001.out 0).trans rfl;have hcz9_1:w6.cell? ⟨gb31001,1,none⟩=some (.slice A0_1 l0_1.length c0_1):=(Zp BK31001.out 1).trans rfl;have hfz9_0:=Zs BK31001.out 0;have hfz9_1:=Zs BK31001.out 1)|((with_reducible refine ZK (f:=102) rfl ?_);refine Z6 (some 6) rfl rfl Tryz.func102 (by kernel_rfl) rfl #[.slice A0_0 l0_0.length c0_0] rfl (by(try simp only[List.map_toArray,List.map_cons,List.map_nil]);first|done|rfl|(simp only[Zk,Zj];rfl)) ?_;(with_reducible refine(Zam.calls k _ _ l0_0 t31004 _ ?side1 ?side2 A2.out).mono ?_);(case side1=>repeat(first|exact(Zb HR0_0.out HB.out)|(with_reducible refine Kd.C_alloc ?_ _)|(with_reducible refine Kd.C_drewN ?_ _)|(with_reducible refine Kd.C_drew ?_)));(case side2=>exact HC0_0.out);rintro e w10 ⟨v31005,rfl,ho0,hb⟩;refine⟨_,rfl,?_⟩;have HO31006:=Za (Kd.R_lower ho0 (ZC (by repeat(first|(with_reducible first|exact HB.out|apply Zn|apply Zm|apply Zo|refine Zq ?_ GE31001.out|refine Zq ?_ GE31002.out|refine Zq ?_ GE31003.out)|exact HB.out))));replace BK31001:=Za (Zx (g:=gb31001) (o:=.cells #[.slice A0_0 l0_0.length c0_0,.slice A0_1 l0_1.length c0_1] 49 (0,0)) BK31001.out hb);replace BK31002:=Za (Zx (g:=gb31002) (o:=.cells #[.slice none 0 0,.slice none 0 0] 58 (0,0)) BK31002.out hb);replace BK31003:=Za (Zx (g:=gb31003) (o:=.cells #[.slice none 0 0,.slice none 0 0] 58 (0,0)) BK31003.out hb);replace HB:=Za (Zt (by repeat(first|(with_reducible first|exact HB.out|apply Zn|apply Zm|apply Zo|refine Zq ?_ GE31001.out|refine Zq ?_ GE31002.out|refine Zq ?_ GE31003.out)|exact HB.out)) hb);obtain⟨Ao11,co11,eo11⟩:=Kd.R_slice HO31006.out;subst eo11;have hnb12:=NB31003_31002.out;have hnc12:=NB31002_31003.out;have hcz13_0:w10.cell? ⟨gb31003,0,none⟩=some (.slice none 0 0):=(Zp BK31003.out 0).trans rfl;have hcz13_1:w10.cell? ⟨gb31003,1,none⟩=some (.slice none 0 0):=(Zp BK31003.out 1).trans rfl;have hfz13_0:=Zs BK31003.out 0;have hfz13_1:=Zs BK31003.out 1;have hcz14_0:w10.cell? ⟨gb31001,0,none⟩=some (.slice A0_0 l0_0.length c0_0):=(Zp BK31001.out 0).trans rfl;have hcz14_1:w10.cell? ⟨gb31001,1,none⟩=some (.slice A0_1 l0_1.length c0_1):=(Zp BK31001.out 1).trans rfl;have hfz14_0:=Zs BK31001.out 0;have hfz14_1:=Zs BK31001.out 1)|((with_reducible refine ZK (f:=102) rfl ?_);refine Z6 (some 10) rfl rfl Tryz.func102 (by kernel_rfl) rfl #[.slice A0_1 l0_1.length c0_1] rfl (by(try simp only[List.map_toArray,List.map_cons,List.map_nil]);first|done|rfl|(simp only[Zk,Zj];rfl)) ?_;(with_reducible refine(Zam.calls k _ _ l0_1 t31007 _ ?side1 ?side2 A3.out).mono ?_);(case side1=>exact Zb HR0_1.out (by repeat(first|(with_reducible first|exact HB.out|apply Zn|apply Zm|apply Zo|refine Zq ?_ GE31001.out|refine Zq ?_ GE31002.out|refine Zq ?_ GE31003.out)|exact HB.out)));(case side2=>exact HC0_1.out);rintro e w15 ⟨v31008,rfl,ho0,hb⟩;refine⟨_,rfl,?_⟩;have HO31009:=Za (Kd.R_lower (Kd.R_new' ho0 (Kd.R_lt (by(with_reducible repeat(first|apply Kd.R_alloc|apply Kd.R_drewN|apply Kd.R_drew));exact(Kd.R_mono (Kd.R_far (p:=⟨gb31003,0,none⟩) (Kd.R_types HO31006.out BK31003.out (by decide)) (fun _ hk=>hk.2) (.slice Ao11 t31004.length co11)) (fun _ h_=>h_.1))))) (ZC (by repeat(first|(with_reducible first|exact HB.out|apply Zn|apply Zm|apply Zo|refine Zq ?_ GE31001.out|refine Zq ?_ GE31002.out|refine Zq ?_ GE31003.out)|exact HB.out))));replace HO31006:=Za (Kd.R_elder' (by(with_reducible repeat(first|apply Kd.R_alloc|apply Kd.R_drewN|apply Kd.R_drew));exact(Kd.R_mono (Kd.R_far (p:=⟨gb31003,0,none⟩) (Kd.R_types HO31006.out BK31003.out (by decide)) (fun _ hk=>hk.2) (.slice Ao11 t31004.length co11)) (fun _ h_=>h_.1))) (Kd.R_base ho0) hb);replace BK31001:=Za (Zx (g:=gb31001) (o:=.cells #[.slice A0_0 l0_0.length c0_0,.slice A0_1 l0_1.length c0_1] 49 (0,0)) (by(with_reducible repeat(first|refine Zw ?_ _|refine ZB ?_|refine Zv ?_ _));refine ZL ?_ NB31001_31003.out _;(with_reducible repeat(first|refine Zw ?_ _|refine ZB ?_|refine Zv ?_ _));exact BK31001.out) hb);replace BK31002:=Za (Zx (g:=gb31002) (o:=.cells #[.slice none 0 0,.slice none 0 0] 58 (0,0)) (by(with_reducible repeat(first|refine Zw ?_ _|refine ZB ?_|refine Zv ?_ _));refine ZL ?_ NB31002_31003.out _;(with_reducible repeat(first|refine Zw ?_ _|refine ZB ?_|refine Zv ?_ _));exact BK31002.out) hb);replace BK31003:=Za (Zx (g:=gb31003) (o:=.cells #[.slice Ao11 t31004.length co11,.slice none 0 0] 58 (0,0)) (by(with_reducible repeat(first|refine Zw ?_ _|refine ZB ?_|refine Zv ?_ _));refine ZP (cs:=#[.slice none 0 0,.slice none 0 0]) ?_ 0 _ rfl;(with_reducible repeat(first|refine Zw ?_ _|refine ZB ?_|refine Zv ?_ _));exact BK31003.out) hb);replace HB:=Za (Zt (by repeat(first|(with_reducible first|exact HB.out|apply Zn|apply Zm|apply Zo|refine Zq ?_ GE31001.out|refine Zq ?_ GE31002.out|refine Zq ?_ GE31003.out)|exact HB.out)) hb);obtain⟨Ao16,co16,eo16⟩:=Kd.R_slice HO31009.out;subst eo16;have hcz17_0:w15.cell? ⟨gb31003,0,none⟩=some (.slice Ao11 t31004.length co11):=(Zp BK31003.out 0).trans rfl;have hcz17_1:w15.cell? ⟨gb31003,1,none⟩=some (.slice none 0 0):=(Zp BK31003.out 1).trans rfl;have hfz17_0:=Zs BK31003.out 0;have hfz17_1:=Zs BK31003.out 1;have hcz18_0:w15.cell? ⟨gb31002,0,none⟩=some (.slice none 0 0):=(Zp BK31002.out 0).trans rfl;have hcz18_1:w15.cell? ⟨gb31002,1,none⟩=some (.slice none 0 0):=(Zp BK31002.out 1).trans rfl;have hfz18_0:=Zs BK31002.out 0;have hfz18_1:=Zs BK31002.out 1))
 refine bodyPost_ret (results_cell_row rfl _ _ gb31002 58 #[.slice Ao11 t31004.length co11,.slice Ao16 t31007.length co16] (0,0) _ rfl (by(with_reducible repeat(first|refine Zw ?_ _|refine ZB ?_|refine Zv ?_ _));refine ZP (cs:=#[.slice Ao11 t31004.length co11,.slice none 0 0]) ?_ 1 _ rfl;(with_reducible repeat(first|refine Zw ?_ _|refine ZB ?_|refine Zv ?_ _));refine ZP (cs:=#[.slice none 0 0,.slice none 0 0]) ?_ 0 _ rfl;(with_reducible repeat(first|refine Zw ?_ _|refine ZB ?_|refine Zv ?_ _));refine ZL ?_ NB31002_31003.out _;(with_reducible repeat(first|refine Zw ?_ _|refine ZB ?_|refine Zv ?_ _));exact BK31002.out) Tryz.underlying58 rfl (by kernel_rfl)) rfl ?_
 exact⟨_,_,by first|rfl|(simp[ZA,Zz] <;> rfl)|(simp[*,ZA,Zz] <;> rfl),by(with_reducible repeat(first|apply Kd.R_alloc|apply Kd.R_drewN|apply Kd.R_drew));exact Kd.R_mono (Kd.R_far (p:=⟨gb31002,1,none⟩) (Kd.R_far (p:=⟨gb31002,0,none⟩) (Kd.R_far (p:=⟨gb31003,1,none⟩) (Kd.R_types (Kd.R_types HO31006.out BK31003.out (by decide)) BK31002.out (by decide)) (fun _ hk=>hk.1.2) (.slice Ao16 t31007.length co16)) (fun _ hk=>hk.2) (.slice Ao11 t31004.length co11)) (fun _ hk=>hk.2) (.slice Ao16 t31007.length co16)) (fun _ hk=>hk.1.1.2),by(with_reducible repeat(first|apply Kd.R_alloc|apply Kd.R_drewN|apply Kd.R_drew));exact Kd.R_mono (Kd.R_far (p:=⟨gb31002,1,none⟩) (Kd.R_far (p:=⟨gb31002,0,none⟩) (Kd.R_far (p:=⟨gb31003,1,none⟩) (Kd.R_types (Kd.R_types HO31009.out BK31003.out (by decide)) BK31002.out (by decide)) (fun _ hk=>hk.1.2) (.slice Ao16 t31007.length co16)) (fun _ hk=>hk.2) (.slice Ao11 t31004.length co11)) (fun _ hk=>hk.2) (.slice Ao16 t31007.length co16)) (fun _ hk=>hk.1.1.2),by repeat(first|(with_reducible first|exact HB.out|apply Zn|apply Zm|apply Zo|refine Zq ?_ GE31001.out|refine Zq ?_ GE31002.out|refine Zq ?_ GE31003.out)|exact HB.out)⟩
theorem Zas.c (k:Nat) (A0_0:Option Addr) (c0_0:Nat) (l0_0:List Int) (A0_1:Option Addr) (c0_1:Nat) (l0_1:List Int) (r1:List Int) (r2:List Int) (w:World) (hr0_0:Kd.C (Kd.int .i64) w A0_0 l0_0.length l0_0) (hc0_0:l0_0.length≤c0_0) (hr0_1:Kd.C (Kd.int .i64) w A0_1 l0_1.length l0_1) (hc0_1:l0_1.length≤c0_1) (h:Zas.f k l0_0 l0_1=some (r1,r2)) :
  Calls Tryz.prog 31 #[.agg #[.slice A0_0 l0_0.length c0_0,.slice A0_1 l0_1.length c0_1]] w fun e w'=>∃A0_ c0_ A1_ c1_,e=.returned (.agg #[.slice A0_ r1.length c0_,.slice A1_ r2.length c1_])∧Aside0 (r1.length≤c0_∧Kd.C (Kd.int .i64) w' A0_ r1.length r1)∧Aside0 (r2.length≤c1_∧Kd.C (Kd.int .i64) w' A1_ r2.length r2)∧Below w.heap.size w w':=
 (Zas.calls k A0_0 c0_0 l0_0 A0_1 c0_1 l0_1 r1 r2 w hr0_0 hc0_0 hr0_1 hc0_1 h).mono fun e w' ⟨v0_,v1_,he,q0_,q1_,hb⟩=>by
  obtain⟨A0_,c0_,rfl,g0_⟩:=Kd.R_reads q0_
  obtain⟨A1_,c1_,rfl,g1_⟩:=Kd.R_reads q1_
  exact⟨A0_,c0_,A1_,c1_,he,⟨g0_⟩,⟨g1_⟩,hb⟩
end Go.Proofs.YtoeimopgoaffcaaGreatDoor.Pr
namespace Go.Proofs.YtoeimopgoaffcaaGreatDoor.Pr
open Go.RowKit Go.Proofs.YtoeimopgoaffcaaGreatDoorW.PrintWords Go.Proofs.YtoeimopgoaffcaaGreatDoorW.PrintLast Go.Proofs.YtoeimopgoaffcaaGreatDoorW.PrintMore
attribute [local go_sem] Z2 Z0 Zac Zab ZU ZT Z1 ZZ
set_option linter.unusedVariables false
set_option linter.unusedSimpArgs false
open Go.Proofs.YtoeimopgoaffcaaGreatDoor.Ni
theorem nodes_open {w:World} {base:Nat} {ok:Nat→Prop} {v:Value} {xs:List S39} (h:Kd.S k39 39 w base ok v xs) (hn:0<xs.length) :
  ∃g cap cur,∃f:Nat→Nat,∃lv:Nat→Value,v=.slice (some ⟨g,0,none⟩) xs.length cap∧base≤g∧ok g∧w.heap[g]? = some (.cells cur 39 (0,0))∧xs.length≤cap∧cap≤maxLen∧cur.size=cap * 3 ∧
   (∀j,j<xs.length→cur[j * 3+1]? = some (lv j)∧Kd.R (Kd.int .i64) 3 w base (fun k=>(ok k∧k≠g)∧f k=j) (lv j) (xs.getD j z39).f1):=by
 obtain⟨f,hok,inner,⟨hlen,ho⟩,hr⟩:=h
 rw[List.length_zipIdx] at ho hlen
 rcases ho with ⟨_,h0⟩|⟨g,cap,cur,h1,h2,h3,h4,h5,h6,h7⟩
 ·omega
 subst h1
 have key:∀j,j<xs.length→∃lv,cur[j * 3+1]? = some lv∧Kd.R (Kd.int .i64) 3 w base (fun k=>(ok k∧k≠g)∧f k=j) lv (xs.getD j z39).f1:=by
  intro j hj
  have hm:=hr.2 j _ (Kd.zip_at (getD_some hj z39))
  obtain⟨v1,he,hR⟩:=ZdX hm
  refine⟨v1,?_,Kd.R_mono hR fun k hk=>⟨⟨hk.1.1,fun e=>hk.1.2 (by rw[e];rfl)⟩,hk.2⟩⟩
  have h8:inner[j * 3+1]? = some v1:=by
   have h9:((inner.drop (j * 3)).take 3)[1]? = some v1:=by rw[show(inner.drop (j * 3)).take 3=_ from he];rfl
   rw[List.getElem?_take_of_lt (by omega),List.getElem?_drop] at h9
   exact h9
  rw[← h7,List.getElem?_take_of_lt (by show _<xs.length * 3;omega)] at h8
  simpa using h8
 refine⟨g,cap,cur,f,fun j=>if hj:j<xs.length then(key j hj).choose else .nilIface,rfl,h2,hok g rfl,h3,h4,h5,h6,fun j hj=>?_⟩
 have:=(key j hj).choose_spec
 simp only[dif_pos hj]
 exact this
structure MInv (w wr:World) (ok:Nat→Prop) (f:Nat→Nat) (g n:Nat) (cur:Array Value) (i:Nat):Prop where
 sz:w.heap.size≤wr.heap.size
 far:∀k,k<w.heap.size→k≠g→¬(ok k∧f k<i)→wr.heap[k]? = w.heap[k]?
 row:∃cur':Array Value,wr.heap[g]? = some (.cells cur' 39 (0,0))∧cur'.size=cur.size∧∀j,j<n→cur'[j * 3+1]? = cur[j * 3+1]?
theorem MInv.below {w wr w1:World} {ok:Nat→Prop} {f:Nat→Nat} {g n:Nat} {cur:Array Value} {i:Nat} (h:MInv w wr ok f g n cur i) (hb:Below wr.heap.size wr w1) (hg:g<w.heap.size):MInv w w1 ok f g n cur i:=by
 obtain⟨cur',h1,h2,h3⟩:=h.row
 refine⟨Nat.le_trans h.sz hb.size,fun k hk hkg hn=>(hb.block k (Nat.lt_of_lt_of_le hk h.sz)).trans (h.far k hk hkg hn),cur',?_,h2,h3⟩
 rw[hb.block g (Nat.lt_of_lt_of_le hg h.sz)];exact h1
set_option maxHeartbeats 4000000 in
set_option maxRecDepth 100000 in
theorem markNodeS_k (w0 w:World) (ok:Nat→Prop) (v:Value) (xs:List S39) (hB:Below w0.heap.size w0 w) (hs:Kd.S k39 39 w w0.heap.size ok v xs) (hxs:∀x∈xs,x.f1.length≤1048576) (hl:xs.length≤1048576) (a:Int) (h0:0≤a) (h1:a≤1125899906842624) :
  Calls Tryz.prog 64 #[v,.int .i64 a] w fun e w'=>∃r:Int,e=.returned (.int .i64 r)∧Aside0 (0≤r∧r≤a+xs.length * 2097152)∧Below w0.heap.size w0 w'∧Kept w w' ok:=by
 by_cases hn:0<xs.length
 case neg=>
  obtain rfl:xs=[]:=List.eq_nil_of_length_eq_zero (by omega)
  obtain⟨A,c,rfl⟩:=Kd.S_slice hs
  have HB:=Za hB
  have HA:=Za (And.intro h0 h1)
  clear hB hs hxs hl h0 h1 hn
  go_enter Tryz.func64,Tryz.ntmps64
  go_wp2
  go_loopg [1,5] 1 (fun gg s1 s5 wr=>s1=.int .i64 a∧s5=.int .i64 0∧Aside0 (wr=w))
  case atStart=>exact⟨rfl,rfl,⟨rfl⟩⟩
  case round=>
   obtain⟨rfl,rfl,hw⟩:=hrel
   obtain rfl:=hw.out
   go_wp2
   go_ret
   exact⟨a,rfl,⟨by have:=HA.out;simp;omega⟩,HB.out,Kept.refl _ _⟩
 obtain⟨g,cap,cur,f,lv,rfl,hbg,hok,hg,hcap,hmax,hsz,hlab⟩:=nodes_open hs hn
 have hbound:∀k,ok k→w0.heap.size≤k∨True:=fun _ _=>.inr trivial
 have hlt:=ZW hg
 have HB:=Za hB;have HOK:=Za hok;have HG:=Za hg;have HBG:=Za hbg;have HLAB:=Za hlab;have HXS:=Za hxs;have HSZ:=Za hsz;have HM:=Za hmax
 obtain⟨n,hnx⟩:∃n,n=xs.length:=⟨_,rfl⟩
 rw[← hnx] at HLAB hcap hn hl
 have HNX:=Za hnx;clear hB hok hg hbg hlab hxs hsz hs hmax hbound
 rw[← hnx]
 clear hnx
 go_enter Tryz.func64,Tryz.ntmps64
 go_wp2
 go_loopg [1,5] n (fun gg s1 s5 wr=>∃kk:Nat,∃b:Int,Aside0 (kk≤n)∧Aside0 (n - kk≤gg)∧s1=.int .i64 b∧s5=.int .i64 kk∧Aside0 (0≤b∧b≤a+kk * 2097152)∧Aside0 (Below w0.heap.size w0 wr)∧Aside0 (MInv w wr ok f g n cur kk))
 case atStart=>exact⟨0,a,⟨Nat.zero_le _⟩,⟨by omega⟩,rfl,rfl,⟨by omega⟩,HB,⟨⟨Nat.le_refl _,fun _ _ _ _=>rfl,cur,HG.out,rfl,fun _ _=>rfl⟩⟩⟩
 case round=>
  obtain⟨kk,b,HK,HGG,rfl,rfl,HBD,HBr,HI⟩:=hrel
  by_cases hlt2:kk<n
  ·have hltz:(kk:Int)<(n:Int):=by omega
   have hbd:=HBD.out
   obtain⟨rt,hrt⟩:=markText_f b hbd.1 (by omega) (2 ^ 64) (Nat.le_refl _)
   have HRT:=Za hrt;clear hrt
   go_wp2_with fail
   refine(ZaH.calls (2 ^ 64) b rt _ HRT.out).mono ?_
   rintro e w1 ⟨rfl,hb⟩
   have HI1:=Za (HI.out.below hb hlt)
   have HB1:=Za (HBr.out.trans (hb.mono HBr.out.size))
   clear hb
   obtain⟨cur1,hr1,hz1,hc1⟩:=HI1.out.row
   have hin:kk * 3+2<cur1.size:=by have:=HSZ.out;omega
   obtain⟨hlv,hR⟩:=HLAB.out kk hlt2
   obtain⟨Al,cl,el⟩:=Kd.R_slice hR
   have q1:w1.cell? ⟨g,kk * 3+1,none⟩=some (.slice Al (xs.getD kk z39).f1.length cl):=by
    rw[Zp hr1,hc1 kk hlt2,hlv,el]
   have f0:=Zs hr1 (kk * 3)
   have q0:=Zp hr1 (kk * 3)
   obtain⟨u0,hu0⟩:∃u,cur1[kk * 3]? = some u:=⟨_,Array.getElem?_eq_getElem (by omega)⟩
   rw[hu0] at q0
   rw[el] at hR
   have HR:=Za hR;have HR1:=Za hr1;have HC1:=Za hc1;have HZ1:=Za hz1
   have hlx:(xs.getD kk z39).f1.length≤1048576:=HXS.out _ (Za9 (by have:=HNX.out;omega) _)
   have HRL:=Za hR.1
   generalize hlab':(xs.getD kk z39).f1=lb at q1 HR hlx
   clear hlv hR el hr1 hc1 hz1 hlab' HRL
   have HMK:=Za (Zc0 lb hlx (b+1) (by omega) (by omega) (2 ^ 64) (Nat.le_refl _))
   go_wp2_with fail
   refine(Zai.calls (2 ^ 64) (fun k=>(ok k∧k≠g)∧f k=kk) _ lb (b+1) _ _ w0 _ ?hb ?hr HMK.out).mono ?_
   case hb=>exact Zq HB1.out HBG.out
   case hr=>exact Kd.R_step HR.out fun k hk hlt3=>(Below.heap_setCell w1 _ _ k hk.1.2).trans (HI1.out.far k hlt3 hk.1.2 (by rintro⟨_,h9⟩;have:=hk.2;omega))
   rintro e w2 ⟨rfl,_,hb2,hk2⟩
   have hr2:w2.heap[g]? = some (.cells (cur1.setIfInBounds (kk * 3) (.string rt)) 39 (0,0)):=Zeq (ZP HR1.out (kk * 3) (.string rt) rfl) hk2 (fun h9=>h9.1.2 rfl)
   have f2:=Zs hr2 (kk * 3+2)
   have q2:=Zp hr2 (kk * 3+2)
   obtain⟨u2,hu2⟩:∃u,(cur1.setIfInBounds (kk * 3) (.string rt))[kk * 3+2]? = some u:=⟨_,Array.getElem?_eq_getElem (by simp;omega)⟩
   rw[hu2] at q2
   have HR2:=Za hr2;have HB2:=Za hb2;have HK2:=Za hk2;clear hr2 hb2 hk2 hu2 hu0 f0 q0 q1
   have hw1:IntKind.i64.wrap (b+1+lb.length+1)=b+1+lb.length+1:=by simp[IntKind.wrap,IntKind.signed,IntKind.bits];omega
   have hw2:wrap64 (b+1+lb.length+1)=b+1+lb.length+1:=ZaJ (by omega) (by omega)
   go_wp2
   go_roundg (n - (kk+1))
   case measure=>have:=HGG.out;omega
   case rel=>
    refine⟨kk+1,b+1+lb.length+1,⟨by omega⟩,⟨by omega⟩,by first|rfl|go_num,by go_num,⟨by omega⟩,⟨Zq HB2.out HBG.out⟩,⟨?_,?_,?_⟩⟩
    ·have h9:=HK2.out.1
     have h8:=HI1.out.sz
     simp[World.setCell] at h9 ⊢
     omega
    ·intro k hk hkg hn9
     have hk8:k<w1.heap.size:=Nat.lt_of_lt_of_le hk HI1.out.sz
     rw[Below.heap_setCell w2 _ _ k hkg,HK2.out.2 k (by simpa [World.setCell] using hk8) (fun h7=>hn9 ⟨h7.1.1,by have:=h7.2;omega⟩),Below.heap_setCell w1 _ _ k hkg]
     exact HI1.out.far k hk hkg (fun h7=>hn9 ⟨h7.1,by have:=h7.2;omega⟩)
    ·refine⟨_,ZP HR2.out (kk * 3+2) _ rfl,by simpa using HZ1.out,fun j hj=>?_⟩
     rw[Array.getElem?_setIfInBounds_ne (by omega),Array.getElem?_setIfInBounds_ne (by omega)]
     exact HC1.out j hj
  ·have hltz:¬(kk:Int)<(n:Int):=by omega
   have:kk=n:=by have:=HK.out;omega
   subst this
   go_wp2
   go_ret
   refine⟨b,rfl,⟨by have:=HBD.out;have:=HNX.out;omega⟩,HBr.out,HI.out.sz,fun k hk hn9=>HI.out.far k hk (fun e=>hn9 (e ▸ HOK.out)) (fun h7=>hn9 h7.1)⟩
set_option maxHeartbeats 4000000 in
set_option maxRecDepth 100000 in
theorem markShow_k (w0 w:World) (b:Nat) (v0 v1:Value) (ns:List S39) (ts:List S82) (z:Int) (hB:Below w0.heap.size w0 w) (hs:Kd.S k39 39 w w0.heap.size (fun k=>k<b) v0 ns) (ht:Kd.R k82 82 w w0.heap.size (fun k=>k<b) v1 ts)
  (hxs:∀x∈ns,x.f1.length≤1048576) (hl:ns.length≤1048576) (hl2:ts.length≤1048576) (a:Int) (h0:0≤a) (h1:a≤562949953421312) :
  Calls Tryz.prog 14 #[.agg #[v0,v1,.int .i64 z],.int .i64 a] w fun e w'=>∃r:Int,e=.returned (.int .i64 r)∧Aside0 (0≤r∧r≤a+4398046511104)∧Below w0.heap.size w0 w'∧Kept w w' (fun k=>k<b):=by
 obtain⟨A0,c0,e0⟩:=Kd.S_slice hs
 obtain⟨A1,c1,e1⟩:=Kd.R_slice ht
 have hty:=Kd.R_typed ht
 have hs2:=Kd.S_bound (Kd.S_apart' hs hty (by decide))
 have hbox:∀k,(((k<b∧some k≠v1.ownBlock)∧w0.heap.size≤k∧k<w.heap.size∧∃q,q∈39 :: Kd.E k39∧∃cells,w.heap[k]? = some (.cells cells q (0,0))))→k<b∧some k≠v1.ownBlock∧k<w.heap.size:=fun k hk=>⟨hk.1.1,hk.1.2,hk.2.2.1⟩
 have HS:=Za (Kd.S_mono hs2 hbox)
 have HT:=Za (Kd.R_tight (by rfl) ht)
 have HTB:=Za fun k (hk:v1.ownBlock=some k)=>ht.1 k hk
 have HTL:=Za (Kd.R_lt ht)
 have HB:=Za hB;have HXS:=Za hxs
 have hu:=Tryz.underlying25
 subst e0;subst e1
 have hsz:=hB.size
 clear hs ht hs2 hty hbox hB hxs
 have HC1:=Za fun (W:World) (hb:Below w.heap.size w W)=>markNodeS_k w0 W _ _ ns (HB.out.trans (hb.mono hsz)) (Kd.S_below HS.out hb) HXS.out hl a h0 (by omega)
 have B1:=Za (Zn (Below.refl w.heap.size w) (.cells #[.slice A0 ns.length c0,.slice A1 ts.length c1,.int .i64 z] 25))
 go_enter Tryz.func14,Tryz.ntmps14
 go_wp2_with fail
 refine(HC1.out _ B1.out).mono ?_
 rintro e w1 ⟨r1,rfl,HR1,hb1,hk1⟩
 have s1:w1.cell? ⟨w.heap.size,1,none⟩=some (.slice A1 ts.length c1):=Zbi (W:=w.alloc _) (by go_simp) hk1 (by simp)
 have hkk:Kept w w1 (fun k=>k<b):=(Kept.of_below B1.out _).then_ hk1 (fun k hk=>.inl hk.1)
 have hr1:=HR1.out
 obtain⟨l2,hf⟩:=markTieS_f ts hl2 r1 hr1.1 (by omega) (2 ^ 64) (Nat.le_refl _)
 have HF:=Za hf
 have HT2:=Za (Kd.R_kept (Kd.R_below HT.out B1.out) hk1 (fun k hk h2=>h2.2.1 hk))
 have HB1:=Za hb1;have HKK:=Za hkk;clear hb1 hk1 hf hkk
 go_wp2_with fail
 refine(Zao.calls (2 ^ 64) (fun k=>some k=(Value.slice A1 ts.length c1).ownBlock) _ ts r1 _ _ w0 _ HB1.out HT2.out HF.out).mono ?_
 rintro e w2 ⟨rfl,_,hb2,hk2⟩
 have HB2:=Za hb2
 have HK2:=Za (HKK.out.then_ hk2 (fun k hk=>.inl (HTB.out k hk.symm)))
 clear hb2 hk2 s1
 go_wp2
 go_ret
 exact⟨_,rfl,⟨by have:=HR1.out;omega⟩,HB2.out,HK2.out⟩
end Go.Proofs.YtoeimopgoaffcaaGreatDoor.Pr
namespace Go.Proofs.YtoeimopgoaffcaaGreatDoor.Pr
open Go.RowKit Go.Proofs.YtoeimopgoaffcaaGreatDoorW.PrintWords Go.Proofs.YtoeimopgoaffcaaGreatDoorW.PrintLast Go.Proofs.YtoeimopgoaffcaaGreatDoorW.PrintMore
attribute [local go_sem] Z2 Z0 Zac Zab ZU ZT Z1 ZZ
set_option linter.unusedVariables false
set_option linter.unusedSimpArgs false
def ZaP.f (l0:List Int) (a1:Int):Option (Int):=if (wrap64 (a1 - (l0.length:Int)))<0 then(some (-1)) else(some (wrap64 (a1 - (l0.length:Int))))
set_option maxHeartbeats 8000000 in
set_option maxRecDepth 100000 in
theorem ZaP.calls (A0:Option Addr) (c0:Nat) (l0:List Int) (a1:Int) (r:Int) (w:World) (hr0:Kd.C (Kd.int .i64) w A0 l0.length l0) (hc0:l0.length≤c0) (h:ZaP.f l0 a1=some r) :
  Calls Tryz.prog 93 #[.slice A0 l0.length c0,.int .i64 a1] w fun e w'=>e=.returned (.int .i64 r)∧ZF w w':=by
 have HR0:=Za hr0;have HC0:=Za hc0;clear hr0 hc0
 have H:(if (wrap64 (a1 - (l0.length:Int)))<0 then(some (-1)) else(some (wrap64 (a1 - (l0.length:Int)))))=some r:=h
 clear h
 by_cases c3:(wrap64 (a1 - (l0.length:Int)))<0
 ·rw[if_pos c3] at H
  have c3b0:decide ((wrap64 (a1 - (l0.length:Int)))<0)=true:=Ze c3
  clear c3
  obtain rfl:=Zg H
  go_enter Tryz.func93,Tryz.ntmps93
  go_wp2
  go_ret
  exact⟨by first|rfl|(simp;done)|(simp[*];done),by repeat(first|exact ZF.refl _|apply ZF.step)⟩
 ·rw[if_neg c3] at H
  have c3b0:decide ((wrap64 (a1 - (l0.length:Int)))<0)=false:=Zf c3
  clear c3
  obtain rfl:=Zg H
  go_enter Tryz.func93,Tryz.ntmps93
  go_wp2
  go_ret
  exact⟨by first|rfl|(simp;done)|(simp[*];done),by repeat(first|exact ZF.refl _|apply ZF.step)⟩
def Zca.f (a0_0:ByteArray) (l0_1:List Int) (a0_2:Int) (a1:Int):Option (Int):=if (wrap64 (a1 - (a0_0.size:Int)))<0 then(some (-1)) else((ZaP.f l0_1 (wrap64 (a1 - (a0_0.size:Int)))).bind fun t155002=>(if t155002<0 then(some (-1)) else(some t155002)))
set_option maxHeartbeats 8000000 in
set_option maxRecDepth 100000 in
theorem Zca.calls (a0_0:ByteArray) (A0_1:Option Addr) (c0_1:Nat) (l0_1:List Int) (a0_2:Int) (a1:Int) (r:Int) (w:World) (hr0_1:Kd.C (Kd.int .i64) w A0_1 l0_1.length l0_1) (hc0_1:l0_1.length≤c0_1) (h:Zca.f a0_0 l0_1 a0_2 a1=some r) :
  Calls Tryz.prog 155 #[.agg #[.string a0_0,.slice A0_1 l0_1.length c0_1,.int .i64 a0_2],.int .i64 a1] w fun e w'=>e=.returned (.int .i64 r)∧Below w.heap.size w w':=by
 have hu143:=Tryz.underlying143
 have HR0_1:=Za hr0_1;have HC0_1:=Za hc0_1;clear hr0_1 hc0_1
 have HB:=Za (Below.refl w.heap.size w)
 have H:(if (wrap64 (a1 - (a0_0.size:Int)))<0 then(some (-1)) else((ZaP.f l0_1 (wrap64 (a1 - (a0_0.size:Int)))).bind fun t155002=>(if t155002<0 then(some (-1)) else(some t155002))))=some r:=h
 clear h
 by_cases c3:(wrap64 (a1 - (a0_0.size:Int)))<0
 ·rw[if_pos c3] at H
  have c3b0:decide ((wrap64 (a1 - (a0_0.size:Int)))<0)=true:=Ze c3
  clear c3
  obtain rfl:=Zg H
  go_enter Tryz.func155,Tryz.ntmps155
  go_wp2_with (first|((with_reducible refine ZI (N:=2) rfl ?_);refine ZG ?hg (N:=2) ?hd (cs:=#[.string a0_0,.slice A0_1 l0_1.length c0_1,.int .i64 a0_2]) (t:=143) ?hr ?_;(case hd=>rfl);(case hg=>rfl);(case hr=>first|(go_simp;done)|(go_simp;rfl));intro gb155001 hg w4 hbox hb;have BK155001:=Za (hbox);have GW155001:=Za ((by rw[hg];exact(ZC (by repeat(first|(with_reducible first|exact HB.out|apply Zn|apply Zm|apply Zo)|exact HB.out))):w.heap.size≤gb155001));have GE155001:=Za ((by rw[hg];exact(ZC (by repeat(first|(with_reducible first|exact HB.out|apply Zn|apply Zm|apply Zo)|exact HB.out))):w.heap.size≤gb155001));replace HB:=Za (Zt (by repeat(first|(with_reducible first|exact HB.out|apply Zn|apply Zm|apply Zo)|exact HB.out)) hb);clear hb hbox hg;have hcz5_0:w4.cell? ⟨gb155001,0,none⟩=some (.string a0_0):=(Zp BK155001.out 0).trans rfl;have hcz5_1:w4.cell? ⟨gb155001,1,none⟩=some (.slice A0_1 l0_1.length c0_1):=(Zp BK155001.out 1).trans rfl;have hcz5_2:w4.cell? ⟨gb155001,2,none⟩=some (.int .i64 a0_2):=(Zp BK155001.out 2).trans rfl))
  go_ret
  exact⟨by first|rfl|(simp[ZA,Zz] <;> rfl)|(simp[*,ZA,Zz] <;> rfl),by repeat(first|(with_reducible first|exact HB.out|apply Zn|apply Zm|apply Zo|refine Zq ?_ GE155001.out)|exact HB.out)⟩
 ·rw[if_neg c3] at H
  have c3b0:decide ((wrap64 (a1 - (a0_0.size:Int)))<0)=false:=Zf c3
  clear c3
  replace H:=Zh H
  obtain⟨t155002,A60,H⟩:=H
  replace H:(if t155002<0 then(some (-1)) else(some t155002))=some r:=H
  have A6:=Za A60;clear A60
  by_cases c7:t155002<0
  ·rw[if_pos c7] at H
   have c7b0:decide (t155002<0)=true:=Ze c7
   clear c7
   obtain rfl:=Zg H
   go_enter Tryz.func155,Tryz.ntmps155
   go_wp2_with (first|((with_reducible refine ZI (N:=2) rfl ?_);refine ZG ?hg (N:=2) ?hd (cs:=#[.string a0_0,.slice A0_1 l0_1.length c0_1,.int .i64 a0_2]) (t:=143) ?hr ?_;(case hd=>rfl);(case hg=>rfl);(case hr=>first|(go_simp;done)|(go_simp;rfl));intro gb155001 hg w8 hbox hb;have BK155001:=Za (hbox);have GW155001:=Za ((by rw[hg];exact(ZC (by repeat(first|(with_reducible first|exact HB.out|apply Zn|apply Zm|apply Zo)|exact HB.out))):w.heap.size≤gb155001));have GE155001:=Za ((by rw[hg];exact(ZC (by repeat(first|(with_reducible first|exact HB.out|apply Zn|apply Zm|apply Zo)|exact HB.out))):w.heap.size≤gb155001));replace HB:=Za (Zt (by repeat(first|(with_reducible first|exact HB.out|apply Zn|apply Zm|apply Zo)|exact HB.out)) hb);clear hb hbox hg;have hcz9_0:w8.cell? ⟨gb155001,0,none⟩=some (.string a0_0):=(Zp BK155001.out 0).trans rfl;have hcz9_1:w8.cell? ⟨gb155001,1,none⟩=some (.slice A0_1 l0_1.length c0_1):=(Zp BK155001.out 1).trans rfl;have hcz9_2:w8.cell? ⟨gb155001,2,none⟩=some (.int .i64 a0_2):=(Zp BK155001.out 2).trans rfl)|((with_reducible refine ZK (f:=93) rfl ?_);refine Z6 (some 15) rfl rfl Tryz.func93 (by kernel_rfl) rfl #[.slice A0_1 l0_1.length c0_1,.int .i64 (wrap64 (a1 - (a0_0.size:Int)))] rfl (by(try simp only[List.map_toArray,List.map_cons,List.map_nil]);first|done|rfl|(simp only[Zk,Zj];rfl)) ?_;(with_reducible refine(ZaP.calls _ _ l0_1 (wrap64 (a1 - (a0_0.size:Int))) t155002 _ ?side1 ?side2 A6.out).mono ?_);(case side1=>repeat(first|exact(Zb HR0_1.out HB.out)|(with_reducible refine Kd.C_alloc ?_ _)|(with_reducible refine Kd.C_drewN ?_ _)|(with_reducible refine Kd.C_drew ?_)));(case side2=>exact HC0_1.out);rintro e w' ⟨rfl,⟨nd,rfl⟩⟩;refine⟨_,rfl,?_⟩))
   go_ret
   exact⟨by first|rfl|(simp[ZA,Zz] <;> rfl)|(simp[*,ZA,Zz] <;> rfl),by repeat(first|(with_reducible first|exact HB.out|apply Zn|apply Zm|apply Zo|refine Zq ?_ GE155001.out)|exact HB.out)⟩
  ·rw[if_neg c7] at H
   have c7b0:decide (t155002<0)=false:=Zf c7
   clear c7
   obtain rfl:=Zg H
   go_enter Tryz.func155,Tryz.ntmps155
   go_wp2_with (first|((with_reducible refine ZI (N:=2) rfl ?_);refine ZG ?hg (N:=2) ?hd (cs:=#[.string a0_0,.slice A0_1 l0_1.length c0_1,.int .i64 a0_2]) (t:=143) ?hr ?_;(case hd=>rfl);(case hg=>rfl);(case hr=>first|(go_simp;done)|(go_simp;rfl));intro gb155001 hg w10 hbox hb;have BK155001:=Za (hbox);have GW155001:=Za ((by rw[hg];exact(ZC (by repeat(first|(with_reducible first|exact HB.out|apply Zn|apply Zm|apply Zo)|exact HB.out))):w.heap.size≤gb155001));have GE155001:=Za ((by rw[hg];exact(ZC (by repeat(first|(with_reducible first|exact HB.out|apply Zn|apply Zm|apply Zo)|exact HB.out))):w.heap.size≤gb155001));replace HB:=Za (Zt (by repeat(first|(with_reducible first|exact HB.out|apply Zn|apply Zm|apply Zo)|exact HB.out)) hb);clear hb hbox hg;have hcz11_0:w10.cell? ⟨gb155001,0,none⟩=some (.string a0_0):=(Zp BK155001.out 0).trans rfl;have hcz11_1:w10.cell? ⟨gb155001,1,none⟩=some (.slice A0_1 l0_1.length c0_1):=(Zp BK155001.out 1).trans rfl;have hcz11_2:w10.cell? ⟨gb155001,2,none⟩=some (.int .i64 a0_2):=(Zp BK155001.out 2).trans rfl)|((with_reducible refine ZK (f:=93) rfl ?_);refine Z6 (some 15) rfl rfl Tryz.func93 (by kernel_rfl) rfl #[.slice A0_1 l0_1.length c0_1,.int .i64 (wrap64 (a1 - (a0_0.size:Int)))] rfl (by(try simp only[List.map_toArray,List.map_cons,List.map_nil]);first|done|rfl|(simp only[Zk,Zj];rfl)) ?_;(with_reducible refine(ZaP.calls _ _ l0_1 (wrap64 (a1 - (a0_0.size:Int))) t155002 _ ?side1 ?side2 A6.out).mono ?_);(case side1=>repeat(first|exact(Zb HR0_1.out HB.out)|(with_reducible refine Kd.C_alloc ?_ _)|(with_reducible refine Kd.C_drewN ?_ _)|(with_reducible refine Kd.C_drew ?_)));(case side2=>exact HC0_1.out);rintro e w' ⟨rfl,⟨nd,rfl⟩⟩;refine⟨_,rfl,?_⟩))
   go_ret
   exact⟨by first|rfl|(simp[ZA,Zz] <;> rfl)|(simp[*,ZA,Zz] <;> rfl),by repeat(first|(with_reducible first|exact HB.out|apply Zn|apply Zm|apply Zo|refine Zq ?_ GE155001.out)|exact HB.out)⟩
def Zaz.l0:Nat→List (S143)→Int→Int→Option (Int)
 | 0,_,_,_=>none
 | k+1,x0,x1,x5=>if x5<(x0.length:Int) then(if 0≤x5 then((Zca.f ((ZaC x0 x5).f0) ((ZaC x0 x5).f1) ((ZaC x0 x5).f2) x1).bind fun t91002=>(if t91002<0 then(some (-1)) else(Zaz.l0 k x0 t91002 (wrap64 (x5+1))))) else(none)) else(some x1)
def Zaz.f (k:Nat) (l0:List (S143)) (a1:Int):Option (Int):=if (wrap64 (a1 - (l0.length:Int)))<0 then(some (-1)) else(Zaz.l0 k l0 (wrap64 (a1 - (l0.length:Int))) 0)
set_option maxHeartbeats 8000000 in
set_option maxRecDepth 100000 in
theorem Zaz.calls (k:Nat) (A0:Option Addr) (c0:Nat) (l0:List (S143)) (a1:Int) (r:Int) (w:World) (hr0:Kd.C k143 w A0 l0.length l0) (hc0:l0.length≤c0) (h:Zaz.f k l0 a1=some r) :
  Calls Tryz.prog 91 #[.slice A0 l0.length c0,.int .i64 a1] w fun e w'=>e=.returned (.int .i64 r)∧Below w.heap.size w w':=by
 have hu143:=Tryz.underlying143
 have HR0:=Za hr0;have HC0:=Za hc0;clear hr0 hc0
 have HB:=Za (Below.refl w.heap.size w)
 have H:(if (wrap64 (a1 - (l0.length:Int)))<0 then(some (-1)) else(Zaz.l0 k l0 (wrap64 (a1 - (l0.length:Int))) 0))=some r:=h
 clear h
 by_cases c3:(wrap64 (a1 - (l0.length:Int)))<0
 ·rw[if_pos c3] at H
  have c3b0:decide ((wrap64 (a1 - (l0.length:Int)))<0)=true:=Ze c3
  clear c3
  obtain rfl:=Zg H
  go_enter Tryz.func91,Tryz.ntmps91
  go_wp2
  go_ret
  exact⟨by first|rfl|(simp[ZA,Zz] <;> rfl)|(simp[*,ZA,Zz] <;> rfl),by repeat(first|(with_reducible first|exact HB.out|apply Zn|apply Zm|apply Zo)|exact HB.out)⟩
 ·rw[if_neg c3] at H
  have c3b0:decide ((wrap64 (a1 - (l0.length:Int)))<0)=false:=Zf c3
  clear c3
  have H':=Za H
  clear H
  go_enter Tryz.func91,Tryz.ntmps91
  go_wp2
  go_loopg [1,5] k (fun kq v1 v5 w'=>∃(x1_1:Int) (x5_1:Int),v1=.int .i64 x1_1∧v5=.int .i64 x5_1∧Aside0 (Zaz.l0 kq l0 x1_1 x5_1=some r)∧Aside0 (kq≤k)∧Aside0 (Below w.heap.size w w'))
  case atStart=>exact⟨(wrap64 (a1 - (l0.length:Int))),(0),(by first|rfl|(simp;done)|(simp[*];done)),(by first|rfl|(simp;done)|(simp[*];done)),H',⟨Nat.le_refl _⟩,⟨by repeat(first|(with_reducible first|exact HB.out|apply Zn|apply Zm|apply Zo)|exact HB.out)⟩⟩
  case round=>
   clear H'
   try clear p2
   try clear c3
   try clear c3b0
   obtain⟨x1_1,x5_1,rfl,rfl,HA,HK1,HB⟩:=hrel
   cases gk with
   | zero=>exact absurd HA.out (by simp[Zaz.l0])
   | succ k1=>
    have H:=HA.out
    clear HA
    simp only[Zaz.l0] at H
    by_cases c4:x5_1<(l0.length:Int)
    ·rw[if_pos c4] at H
     have c4b0:decide (x5_1<(l0.length:Int))=true:=Ze c4
     clear c4
     by_cases c5:0≤x5_1
     ·rw[if_pos c5] at H
      have c5b0:decide (0≤x5_1)=true:=Ze c5
      clear c5
      replace H:=Zh H
      obtain⟨t91002,A60,H⟩:=H;have A6:=Za A60;clear A60
      by_cases c7:t91002<0
      ·rw[if_pos c7] at H
       have c7b0:decide (t91002<0)=true:=Ze c7
       clear c7
       obtain rfl:=Zg H
       have p91001:0≤(x5_1:Int):=Zd (by first|(with_reducible assumption)|assumption)
       have q91001:x5_1<(l0.length:Int):=Zd (by first|(with_reducible assumption)|assumption)
       obtain⟨ad91001,A91001_1,c91001_1,e91001,hx91001_0,hx91001_1,hx91001_2,hl91001_1,hi91001_1⟩:=at_T143 HR0.out x5_1 p91001 q91001
       cases e91001
       replace hx91001_0:=(HB.out.cell (Zc w _ hx91001_0)).trans hx91001_0
       replace hx91001_1:=(HB.out.cell (Zc w _ hx91001_1)).trans hx91001_1
       replace hx91001_2:=(HB.out.cell (Zc w _ hx91001_2)).trans hx91001_2
       have HR91001_1:=Za hi91001_1;have HC91001_1:=Za hl91001_1;clear hi91001_1 hl91001_1
       replace p91001:=eq_true p91001
       replace q91001:=eq_true q91001
       go_wp2_with (first|((with_reducible refine ZK (f:=155) rfl ?_);refine Z6 (some 23) rfl rfl Tryz.func155 (by kernel_rfl) rfl #[.agg #[.string ((ZaC l0 x5_1).f0),.slice A91001_1 ((ZaC l0 x5_1).f1).length c91001_1,.int .i64 ((ZaC l0 x5_1).f2)],.int .i64 x1_1] rfl (by(try simp only[List.map_toArray,List.map_cons,List.map_nil]);first|done|rfl|(simp only[Zk,Zj];rfl)) ?_;(with_reducible refine(Zca.calls ((ZaC l0 x5_1).f0) _ _ ((ZaC l0 x5_1).f1) ((ZaC l0 x5_1).f2) x1_1 t91002 _ ?side1 ?side2 A6.out).mono ?_);(case side1=>repeat(first|exact(Zb HR91001_1.out HB.out)|(with_reducible refine Kd.C_alloc ?_ _)|(with_reducible refine Kd.C_drewN ?_ _)|(with_reducible refine Kd.C_drew ?_)));(case side2=>exact HC91001_1.out);rintro e w8 ⟨rfl,hb⟩;refine⟨_,rfl,?_⟩;replace HB:=Za (Zt (by repeat(first|(with_reducible first|exact HB.out|apply Zn|apply Zm|apply Zo)|exact HB.out)) hb);(try clear hi)))
       go_ret
       exact⟨by first|rfl|(simp[ZA,Zz] <;> rfl)|(simp[*,ZA,Zz] <;> rfl),by repeat(first|(with_reducible first|exact HB.out|apply Zn|apply Zm|apply Zo)|exact HB.out)⟩
      ·rw[if_neg c7] at H
       have c7b0:decide (t91002<0)=false:=Zf c7
       clear c7
       have H':=Za H
       clear H
       have p91001:0≤(x5_1:Int):=Zd (by first|(with_reducible assumption)|assumption)
       have q91001:x5_1<(l0.length:Int):=Zd (by first|(with_reducible assumption)|assumption)
       obtain⟨ad91001,A91001_1,c91001_1,e91001,hx91001_0,hx91001_1,hx91001_2,hl91001_1,hi91001_1⟩:=at_T143 HR0.out x5_1 p91001 q91001
       cases e91001
       replace hx91001_0:=(HB.out.cell (Zc w _ hx91001_0)).trans hx91001_0
       replace hx91001_1:=(HB.out.cell (Zc w _ hx91001_1)).trans hx91001_1
       replace hx91001_2:=(HB.out.cell (Zc w _ hx91001_2)).trans hx91001_2
       have HR91001_1:=Za hi91001_1;have HC91001_1:=Za hl91001_1;clear hi91001_1 hl91001_1
       replace p91001:=eq_true p91001
       replace q91001:=eq_true q91001
       go_wp2_with (first|((with_reducible refine ZK (f:=155) rfl ?_);refine Z6 (some 23) rfl rfl Tryz.func155 (by kernel_rfl) rfl #[.agg #[.string ((ZaC l0 x5_1).f0),.slice A91001_1 ((ZaC l0 x5_1).f1).length c91001_1,.int .i64 ((ZaC l0 x5_1).f2)],.int .i64 x1_1] rfl (by(try simp only[List.map_toArray,List.map_cons,List.map_nil]);first|done|rfl|(simp only[Zk,Zj];rfl)) ?_;(with_reducible refine(Zca.calls ((ZaC l0 x5_1).f0) _ _ ((ZaC l0 x5_1).f1) ((ZaC l0 x5_1).f2) x1_1 t91002 _ ?side1 ?side2 A6.out).mono ?_);(case side1=>repeat(first|exact(Zb HR91001_1.out HB.out)|(with_reducible refine Kd.C_alloc ?_ _)|(with_reducible refine Kd.C_drewN ?_ _)|(with_reducible refine Kd.C_drew ?_)));(case side2=>exact HC91001_1.out);rintro e w9 ⟨rfl,hb⟩;refine⟨_,rfl,?_⟩;replace HB:=Za (Zt (by repeat(first|(with_reducible first|exact HB.out|apply Zn|apply Zm|apply Zo)|exact HB.out)) hb);(try clear hi)))
       go_roundg k1
       case measure=>have:=HK1.out;omega
       case rel=>exact⟨(t91002),(wrap64 (x5_1+1)),(by first|rfl|(simp;done)|(simp[*];done)),(by first|rfl|(simp;done)|(simp[*];done)),H',⟨by have:=HK1.out;omega⟩,⟨by repeat(first|(with_reducible first|exact HB.out|apply Zn|apply Zm|apply Zo)|exact HB.out)⟩⟩
     ·rw[if_neg c5] at H
      exact absurd H (by simp)
    ·rw[if_neg c4] at H
     have c4b0:decide (x5_1<(l0.length:Int))=false:=Zf c4
     clear c4
     obtain rfl:=Zg H
     go_wp2
     go_ret
     exact⟨by first|rfl|(simp[ZA,Zz] <;> rfl)|(simp[*,ZA,Zz] <;> rfl),by repeat(first|(with_reducible first|exact HB.out|apply Zn|apply Zm|apply Zo)|exact HB.out)⟩
def Zb9.f (l0:List (S147)) (a1:Int):Option (Int):=if (wrap64 (a1 - (l0.length:Int)))<0 then(some (-1)) else(some (wrap64 (a1 - (l0.length:Int))))
set_option maxHeartbeats 8000000 in
set_option maxRecDepth 100000 in
theorem Zb9.calls (A0:Option Addr) (c0:Nat) (l0:List (S147)) (a1:Int) (r:Int) (w:World) (hr0:Kd.C k147 w A0 l0.length l0) (hc0:l0.length≤c0) (h:Zb9.f l0 a1=some r) :
  Calls Tryz.prog 92 #[.slice A0 l0.length c0,.int .i64 a1] w fun e w'=>e=.returned (.int .i64 r)∧ZF w w':=by
 have HR0:=Za hr0;have HC0:=Za hc0;clear hr0 hc0
 have H:(if (wrap64 (a1 - (l0.length:Int)))<0 then(some (-1)) else(some (wrap64 (a1 - (l0.length:Int)))))=some r:=h
 clear h
 by_cases c3:(wrap64 (a1 - (l0.length:Int)))<0
 ·rw[if_pos c3] at H
  have c3b0:decide ((wrap64 (a1 - (l0.length:Int)))<0)=true:=Ze c3
  clear c3
  obtain rfl:=Zg H
  go_enter Tryz.func92,Tryz.ntmps92
  go_wp2
  go_ret
  exact⟨by first|rfl|(simp;done)|(simp[*];done),by repeat(first|exact ZF.refl _|apply ZF.step)⟩
 ·rw[if_neg c3] at H
  have c3b0:decide ((wrap64 (a1 - (l0.length:Int)))<0)=false:=Zf c3
  clear c3
  obtain rfl:=Zg H
  go_enter Tryz.func92,Tryz.ntmps92
  go_wp2
  go_ret
  exact⟨by first|rfl|(simp;done)|(simp[*];done),by repeat(first|exact ZF.refl _|apply ZF.step)⟩
def ZbN.f (k:Nat) (l0_0:List (S143)) (l0_1:List (S147)) (a0_2:Int) (a1:Int):Option (Int):=(Zaz.f k l0_0 a1).bind fun t27002=>(if t27002<0 then(some (-1)) else((Zb9.f l0_1 t27002).bind fun t27003=>(if t27003<0 then(some (-1)) else(some t27003))))
set_option maxHeartbeats 8000000 in
set_option maxRecDepth 100000 in
theorem ZbN.calls (k:Nat) (A0_0:Option Addr) (c0_0:Nat) (l0_0:List (S143)) (A0_1:Option Addr) (c0_1:Nat) (l0_1:List (S147)) (a0_2:Int) (a1:Int) (r:Int) (w:World) (hr0_0:Kd.C k143 w A0_0 l0_0.length l0_0) (hc0_0:l0_0.length≤c0_0) (hr0_1:Kd.C k147 w A0_1 l0_1.length l0_1) (hc0_1:l0_1.length≤c0_1) (h:ZbN.f k l0_0 l0_1 a0_2 a1=some r) :
  Calls Tryz.prog 27 #[.agg #[.slice A0_0 l0_0.length c0_0,.slice A0_1 l0_1.length c0_1,.int .i64 a0_2],.int .i64 a1] w fun e w'=>e=.returned (.int .i64 r)∧Below w.heap.size w w':=by
 have hu47:=Tryz.underlying47
 have HR0_0:=Za hr0_0;have HC0_0:=Za hc0_0;clear hr0_0 hc0_0;have HR0_1:=Za hr0_1;have HC0_1:=Za hc0_1;clear hr0_1 hc0_1
 have HB:=Za (Below.refl w.heap.size w)
 have H:((Zaz.f k l0_0 a1).bind fun t27002=>(if t27002<0 then(some (-1)) else((Zb9.f l0_1 t27002).bind fun t27003=>(if t27003<0 then(some (-1)) else(some t27003)))))=some r:=h
 clear h
 replace H:=Zh H
 obtain⟨t27002,A30,H⟩:=H;have A3:=Za A30;clear A30
 by_cases c4:t27002<0
 ·rw[if_pos c4] at H
  have c4b0:decide (t27002<0)=true:=Ze c4
  clear c4
  obtain rfl:=Zg H
  go_enter Tryz.func27,Tryz.ntmps27
  go_wp2_with (first|((with_reducible refine ZI (N:=2) rfl ?_);refine ZG ?hg (N:=2) ?hd (cs:=#[.slice A0_0 l0_0.length c0_0,.slice A0_1 l0_1.length c0_1,.int .i64 a0_2]) (t:=47) ?hr ?_;(case hd=>rfl);(case hg=>rfl);(case hr=>first|(go_simp;done)|(go_simp;rfl));intro gb27001 hg w5 hbox hb;have BK27001:=Za (hbox);have GW27001:=Za ((by rw[hg];exact(ZC (by repeat(first|(with_reducible first|exact HB.out|apply Zn|apply Zm|apply Zo)|exact HB.out))):w.heap.size≤gb27001));have GE27001:=Za ((by rw[hg];exact(ZC (by repeat(first|(with_reducible first|exact HB.out|apply Zn|apply Zm|apply Zo)|exact HB.out))):w.heap.size≤gb27001));replace HB:=Za (Zt (by repeat(first|(with_reducible first|exact HB.out|apply Zn|apply Zm|apply Zo)|exact HB.out)) hb);clear hb hbox hg;have hcz6_0:w5.cell? ⟨gb27001,0,none⟩=some (.slice A0_0 l0_0.length c0_0):=(Zp BK27001.out 0).trans rfl;have hcz6_1:w5.cell? ⟨gb27001,1,none⟩=some (.slice A0_1 l0_1.length c0_1):=(Zp BK27001.out 1).trans rfl;have hcz6_2:w5.cell? ⟨gb27001,2,none⟩=some (.int .i64 a0_2):=(Zp BK27001.out 2).trans rfl)|((with_reducible refine ZK (f:=91) rfl ?_);refine Z6 (some 8) rfl rfl Tryz.func91 (by kernel_rfl) rfl #[.slice A0_0 l0_0.length c0_0,.int .i64 a1] rfl (by(try simp only[List.map_toArray,List.map_cons,List.map_nil]);first|done|rfl|(simp only[Zk,Zj];rfl)) ?_;(with_reducible refine(Zaz.calls k _ _ l0_0 a1 t27002 _ ?side1 ?side2 A3.out).mono ?_);(case side1=>repeat(first|exact(Zb HR0_0.out HB.out)|(with_reducible refine Kd.C_alloc ?_ _)|(with_reducible refine Kd.C_drewN ?_ _)|(with_reducible refine Kd.C_drew ?_)));(case side2=>exact HC0_0.out);rintro e w7 ⟨rfl,hb⟩;refine⟨_,rfl,?_⟩;replace BK27001:=Za (Zx (g:=gb27001) (o:=.cells #[.slice A0_0 l0_0.length c0_0,.slice A0_1 l0_1.length c0_1,.int .i64 a0_2] 47 (0,0)) BK27001.out hb);replace HB:=Za (Zt (by repeat(first|(with_reducible first|exact HB.out|apply Zn|apply Zm|apply Zo|refine Zq ?_ GE27001.out)|exact HB.out)) hb);(try clear hi)))
  go_ret
  exact⟨by first|rfl|(simp[ZA,Zz] <;> rfl)|(simp[*,ZA,Zz] <;> rfl),by repeat(first|(with_reducible first|exact HB.out|apply Zn|apply Zm|apply Zo|refine Zq ?_ GE27001.out)|exact HB.out)⟩
 ·rw[if_neg c4] at H
  have c4b0:decide (t27002<0)=false:=Zf c4
  clear c4
  replace H:=Zh H
  obtain⟨t27003,A80,H⟩:=H;have A8:=Za A80;clear A80
  by_cases c9:t27003<0
  ·rw[if_pos c9] at H
   have c9b0:decide (t27003<0)=true:=Ze c9
   clear c9
   obtain rfl:=Zg H
   go_enter Tryz.func27,Tryz.ntmps27
   go_wp2_with (first|((with_reducible refine ZI (N:=2) rfl ?_);refine ZG ?hg (N:=2) ?hd (cs:=#[.slice A0_0 l0_0.length c0_0,.slice A0_1 l0_1.length c0_1,.int .i64 a0_2]) (t:=47) ?hr ?_;(case hd=>rfl);(case hg=>rfl);(case hr=>first|(go_simp;done)|(go_simp;rfl));intro gb27001 hg w10 hbox hb;have BK27001:=Za (hbox);have GW27001:=Za ((by rw[hg];exact(ZC (by repeat(first|(with_reducible first|exact HB.out|apply Zn|apply Zm|apply Zo)|exact HB.out))):w.heap.size≤gb27001));have GE27001:=Za ((by rw[hg];exact(ZC (by repeat(first|(with_reducible first|exact HB.out|apply Zn|apply Zm|apply Zo)|exact HB.out))):w.heap.size≤gb27001));replace HB:=Za (Zt (by repeat(first|(with_reducible first|exact HB.out|apply Zn|apply Zm|apply Zo)|exact HB.out)) hb);clear hb hbox hg;have hcz11_0:w10.cell? ⟨gb27001,0,none⟩=some (.slice A0_0 l0_0.length c0_0):=(Zp BK27001.out 0).trans rfl;have hcz11_1:w10.cell? ⟨gb27001,1,none⟩=some (.slice A0_1 l0_1.length c0_1):=(Zp BK27001.out 1).trans rfl;have hcz11_2:w10.cell? ⟨gb27001,2,none⟩=some (.int .i64 a0_2):=(Zp BK27001.out 2).trans rfl)|((with_reducible refine ZK (f:=91) rfl ?_);refine Z6 (some 8) rfl rfl Tryz.func91 (by kernel_rfl) rfl #[.slice A0_0 l0_0.length c0_0,.int .i64 a1] rfl (by(try simp only[List.map_toArray,List.map_cons,List.map_nil]);first|done|rfl|(simp only[Zk,Zj];rfl)) ?_;(with_reducible refine(Zaz.calls k _ _ l0_0 a1 t27002 _ ?side1 ?side2 A3.out).mono ?_);(case side1=>repeat(first|exact(Zb HR0_0.out HB.out)|(with_reducible refine Kd.C_alloc ?_ _)|(with_reducible refine Kd.C_drewN ?_ _)|(with_reducible refine Kd.C_drew ?_)));(case side2=>exact HC0_0.out);rintro e w12 ⟨rfl,hb⟩;refine⟨_,rfl,?_⟩;replace BK27001:=Za (Zx (g:=gb27001) (o:=.cells #[.slice A0_0 l0_0.length c0_0,.slice A0_1 l0_1.length c0_1,.int .i64 a0_2] 47 (0,0)) BK27001.out hb);replace HB:=Za (Zt (by repeat(first|(with_reducible first|exact HB.out|apply Zn|apply Zm|apply Zo|refine Zq ?_ GE27001.out)|exact HB.out)) hb);have hcz13_0:w12.cell? ⟨gb27001,0,none⟩=some (.slice A0_0 l0_0.length c0_0):=(Zp BK27001.out 0).trans rfl;have hcz13_1:w12.cell? ⟨gb27001,1,none⟩=some (.slice A0_1 l0_1.length c0_1):=(Zp BK27001.out 1).trans rfl;have hcz13_2:w12.cell? ⟨gb27001,2,none⟩=some (.int .i64 a0_2):=(Zp BK27001.out 2).trans rfl)|((with_reducible refine ZK (f:=92) rfl ?_);refine Z6 (some 14) rfl rfl Tryz.func92 (by kernel_rfl) rfl #[.slice A0_1 l0_1.length c0_1,.int .i64 t27002] rfl (by(try simp only[List.map_toArray,List.map_cons,List.map_nil]);first|done|rfl|(simp only[Zk,Zj];rfl)) ?_;(with_reducible refine(Zb9.calls _ _ l0_1 t27002 t27003 _ ?side1 ?side2 A8.out).mono ?_);(case side1=>repeat(first|exact(Zb HR0_1.out HB.out)|(with_reducible refine Kd.C_alloc ?_ _)|(with_reducible refine Kd.C_drewN ?_ _)|(with_reducible refine Kd.C_drew ?_)));(case side2=>exact HC0_1.out);rintro e w' ⟨rfl,⟨nd,rfl⟩⟩;refine⟨_,rfl,?_⟩))
   go_ret
   exact⟨by first|rfl|(simp[ZA,Zz] <;> rfl)|(simp[*,ZA,Zz] <;> rfl),by repeat(first|(with_reducible first|exact HB.out|apply Zn|apply Zm|apply Zo|refine Zq ?_ GE27001.out)|exact HB.out)⟩
  ·rw[if_neg c9] at H
   have c9b0:decide (t27003<0)=false:=Zf c9
   clear c9
   obtain rfl:=Zg H
   go_enter Tryz.func27,Tryz.ntmps27
   go_wp2_with (first|((with_reducible refine ZI (N:=2) rfl ?_);refine ZG ?hg (N:=2) ?hd (cs:=#[.slice A0_0 l0_0.length c0_0,.slice A0_1 l0_1.length c0_1,.int .i64 a0_2]) (t:=47) ?hr ?_;(case hd=>rfl);(case hg=>rfl);(case hr=>first|(go_simp;done)|(go_simp;rfl));intro gb27001 hg w14 hbox hb;have BK27001:=Za (hbox);have GW27001:=Za ((by rw[hg];exact(ZC (by repeat(first|(with_reducible first|exact HB.out|apply Zn|apply Zm|apply Zo)|exact HB.out))):w.heap.size≤gb27001));have GE27001:=Za ((by rw[hg];exact(ZC (by repeat(first|(with_reducible first|exact HB.out|apply Zn|apply Zm|apply Zo)|exact HB.out))):w.heap.size≤gb27001));replace HB:=Za (Zt (by repeat(first|(with_reducible first|exact HB.out|apply Zn|apply Zm|apply Zo)|exact HB.out)) hb);clear hb hbox hg;have hcz15_0:w14.cell? ⟨gb27001,0,none⟩=some (.slice A0_0 l0_0.length c0_0):=(Zp BK27001.out 0).trans rfl;have hcz15_1:w14.cell? ⟨gb27001,1,none⟩=some (.slice A0_1 l0_1.length c0_1):=(Zp BK27001.out 1).trans rfl;have hcz15_2:w14.cell? ⟨gb27001,2,none⟩=some (.int .i64 a0_2):=(Zp BK27001.out 2).trans rfl)|((with_reducible refine ZK (f:=91) rfl ?_);refine Z6 (some 8) rfl rfl Tryz.func91 (by kernel_rfl) rfl #[.slice A0_0 l0_0.length c0_0,.int .i64 a1] rfl (by(try simp only[List.map_toArray,List.map_cons,List.map_nil]);first|done|rfl|(simp only[Zk,Zj];rfl)) ?_;(with_reducible refine(Zaz.calls k _ _ l0_0 a1 t27002 _ ?side1 ?side2 A3.out).mono ?_);(case side1=>repeat(first|exact(Zb HR0_0.out HB.out)|(with_reducible refine Kd.C_alloc ?_ _)|(with_reducible refine Kd.C_drewN ?_ _)|(with_reducible refine Kd.C_drew ?_)));(case side2=>exact HC0_0.out);rintro e w16 ⟨rfl,hb⟩;refine⟨_,rfl,?_⟩;replace BK27001:=Za (Zx (g:=gb27001) (o:=.cells #[.slice A0_0 l0_0.length c0_0,.slice A0_1 l0_1.length c0_1,.int .i64 a0_2] 47 (0,0)) BK27001.out hb);replace HB:=Za (Zt (by repeat(first|(with_reducible first|exact HB.out|apply Zn|apply Zm|apply Zo|refine Zq ?_ GE27001.out)|exact HB.out)) hb);have hcz17_0:w16.cell? ⟨gb27001,0,none⟩=some (.slice A0_0 l0_0.length c0_0):=(Zp BK27001.out 0).trans rfl;have hcz17_1:w16.cell? ⟨gb27001,1,none⟩=some (.slice A0_1 l0_1.length c0_1):=(Zp BK27001.out 1).trans rfl;have hcz17_2:w16.cell? ⟨gb27001,2,none⟩=some (.int .i64 a0_2):=(Zp BK27001.out 2).trans rfl)|((with_reducible refine ZK (f:=92) rfl ?_);refine Z6 (some 14) rfl rfl Tryz.func92 (by kernel_rfl) rfl #[.slice A0_1 l0_1.length c0_1,.int .i64 t27002] rfl (by(try simp only[List.map_toArray,List.map_cons,List.map_nil]);first|done|rfl|(simp only[Zk,Zj];rfl)) ?_;(with_reducible refine(Zb9.calls _ _ l0_1 t27002 t27003 _ ?side1 ?side2 A8.out).mono ?_);(case side1=>repeat(first|exact(Zb HR0_1.out HB.out)|(with_reducible refine Kd.C_alloc ?_ _)|(with_reducible refine Kd.C_drewN ?_ _)|(with_reducible refine Kd.C_drew ?_)));(case side2=>exact HC0_1.out);rintro e w' ⟨rfl,⟨nd,rfl⟩⟩;refine⟨_,rfl,?_⟩))
   go_ret
   exact⟨by first|rfl|(simp[ZA,Zz] <;> rfl)|(simp[*,ZA,Zz] <;> rfl),by repeat(first|(with_reducible first|exact HB.out|apply Zn|apply Zm|apply Zo|refine Zq ?_ GE27001.out)|exact HB.out)⟩
def ZbK.f (l0_0:List Int) (l0_1:List Int) (a1:Int):Option (Int):=(ZaP.f l0_0 a1).bind fun t28002=>(if t28002<0 then(some (-1)) else((ZaP.f l0_1 t28002).bind fun t28003=>(if t28003<0 then(some (-1)) else(some t28003))))
set_option maxHeartbeats 8000000 in
set_option maxRecDepth 100000 in
theorem ZbK.calls (A0_0:Option Addr) (c0_0:Nat) (l0_0:List Int) (A0_1:Option Addr) (c0_1:Nat) (l0_1:List Int) (a1:Int) (r:Int) (w:World) (hr0_0:Kd.C (Kd.int .i64) w A0_0 l0_0.length l0_0) (hc0_0:l0_0.length≤c0_0) (hr0_1:Kd.C (Kd.int .i64) w A0_1 l0_1.length l0_1) (hc0_1:l0_1.length≤c0_1) (h:ZbK.f l0_0 l0_1 a1=some r) :
  Calls Tryz.prog 28 #[.agg #[.slice A0_0 l0_0.length c0_0,.slice A0_1 l0_1.length c0_1],.int .i64 a1] w fun e w'=>e=.returned (.int .i64 r)∧Below w.heap.size w w':=by
 have hu49:=Tryz.underlying49
 have HR0_0:=Za hr0_0;have HC0_0:=Za hc0_0;clear hr0_0 hc0_0;have HR0_1:=Za hr0_1;have HC0_1:=Za hc0_1;clear hr0_1 hc0_1
 have HB:=Za (Below.refl w.heap.size w)
 have H:((ZaP.f l0_0 a1).bind fun t28002=>(if t28002<0 then(some (-1)) else((ZaP.f l0_1 t28002).bind fun t28003=>(if t28003<0 then(some (-1)) else(some t28003)))))=some r:=h
 clear h
 replace H:=Zh H
 obtain⟨t28002,A30,H⟩:=H;have A3:=Za A30;clear A30
 by_cases c4:t28002<0
 ·rw[if_pos c4] at H
  have c4b0:decide (t28002<0)=true:=Ze c4
  clear c4
  obtain rfl:=Zg H
  go_enter Tryz.func28,Tryz.ntmps28
  go_wp2_with (first|((with_reducible refine ZI (N:=2) rfl ?_);refine ZG ?hg (N:=2) ?hd (cs:=#[.slice A0_0 l0_0.length c0_0,.slice A0_1 l0_1.length c0_1]) (t:=49) ?hr ?_;(case hd=>rfl);(case hg=>rfl);(case hr=>first|(go_simp;done)|(go_simp;rfl));intro gb28001 hg w5 hbox hb;have BK28001:=Za (hbox);have GW28001:=Za ((by rw[hg];exact(ZC (by repeat(first|(with_reducible first|exact HB.out|apply Zn|apply Zm|apply Zo)|exact HB.out))):w.heap.size≤gb28001));have GE28001:=Za ((by rw[hg];exact(ZC (by repeat(first|(with_reducible first|exact HB.out|apply Zn|apply Zm|apply Zo)|exact HB.out))):w.heap.size≤gb28001));replace HB:=Za (Zt (by repeat(first|(with_reducible first|exact HB.out|apply Zn|apply Zm|apply Zo)|exact HB.out)) hb);clear hb hbox hg;have hcz6_0:w5.cell? ⟨gb28001,0,none⟩=some (.slice A0_0 l0_0.length c0_0):=(Zp BK28001.out 0).trans rfl;have hcz6_1:w5.cell? ⟨gb28001,1,none⟩=some (.slice A0_1 l0_1.length c0_1):=(Zp BK28001.out 1).trans rfl)|((with_reducible refine ZK (f:=93) rfl ?_);refine Z6 (some 8) rfl rfl Tryz.func93 (by kernel_rfl) rfl #[.slice A0_0 l0_0.length c0_0,.int .i64 a1] rfl (by(try simp only[List.map_toArray,List.map_cons,List.map_nil]);first|done|rfl|(simp only[Zk,Zj];rfl)) ?_;(with_reducible refine(ZaP.calls _ _ l0_0 a1 t28002 _ ?side1 ?side2 A3.out).mono ?_);(case side1=>repeat(first|exact(Zb HR0_0.out HB.out)|(with_reducible refine Kd.C_alloc ?_ _)|(with_reducible refine Kd.C_drewN ?_ _)|(with_reducible refine Kd.C_drew ?_)));(case side2=>exact HC0_0.out);rintro e w' ⟨rfl,⟨nd,rfl⟩⟩;refine⟨_,rfl,?_⟩))
  go_ret
  exact⟨by first|rfl|(simp[ZA,Zz] <;> rfl)|(simp[*,ZA,Zz] <;> rfl),by repeat(first|(with_reducible first|exact HB.out|apply Zn|apply Zm|apply Zo|refine Zq ?_ GE28001.out)|exact HB.out)⟩
 ·rw[if_neg c4] at H
  have c4b0:decide (t28002<0)=false:=Zf c4
  clear c4
  replace H:=Zh H
  obtain⟨t28003,A70,H⟩:=H;have A7:=Za A70;clear A70
  by_cases c8:t28003<0
  ·rw[if_pos c8] at H
   have c8b0:decide (t28003<0)=true:=Ze c8
   clear c8
   obtain rfl:=Zg H
   go_enter Tryz.func28,Tryz.ntmps28
   go_wp2_with (first|((with_reducible refine ZI (N:=2) rfl ?_);refine ZG ?hg (N:=2) ?hd (cs:=#[.slice A0_0 l0_0.length c0_0,.slice A0_1 l0_1.length c0_1]) (t:=49) ?hr ?_;(case hd=>rfl);(case hg=>rfl);(case hr=>first|(go_simp;done)|(go_simp;rfl));intro gb28001 hg w9 hbox hb;have BK28001:=Za (hbox);have GW28001:=Za ((by rw[hg];exact(ZC (by repeat(first|(with_reducible first|exact HB.out|apply Zn|apply Zm|apply Zo)|exact HB.out))):w.heap.size≤gb28001));have GE28001:=Za ((by rw[hg];exact(ZC (by repeat(first|(with_reducible first|exact HB.out|apply Zn|apply Zm|apply Zo)|exact HB.out))):w.heap.size≤gb28001));replace HB:=Za (Zt (by repeat(first|(with_reducible first|exact HB.out|apply Zn|apply Zm|apply Zo)|exact HB.out)) hb);clear hb hbox hg;have hcz10_0:w9.cell? ⟨gb28001,0,none⟩=some (.slice A0_0 l0_0.length c0_0):=(Zp BK28001.out 0).trans rfl;have hcz10_1:w9.cell? ⟨gb28001,1,none⟩=some (.slice A0_1 l0_1.length c0_1):=(Zp BK28001.out 1).trans rfl)|((with_reducible refine ZK (f:=93) rfl ?_);refine Z6 (some 8) rfl rfl Tryz.func93 (by kernel_rfl) rfl #[.slice A0_0 l0_0.length c0_0,.int .i64 a1] rfl (by(try simp only[List.map_toArray,List.map_cons,List.map_nil]);first|done|rfl|(simp only[Zk,Zj];rfl)) ?_;(with_reducible refine(ZaP.calls _ _ l0_0 a1 t28002 _ ?side1 ?side2 A3.out).mono ?_);(case side1=>repeat(first|exact(Zb HR0_0.out HB.out)|(with_reducible refine Kd.C_alloc ?_ _)|(with_reducible refine Kd.C_drewN ?_ _)|(with_reducible refine Kd.C_drew ?_)));(case side2=>exact HC0_0.out);rintro e w' ⟨rfl,⟨nd,rfl⟩⟩;refine⟨_,rfl,?_⟩)|((with_reducible refine ZK (f:=93) rfl ?_);refine Z6 (some 14) rfl rfl Tryz.func93 (by kernel_rfl) rfl #[.slice A0_1 l0_1.length c0_1,.int .i64 t28002] rfl (by(try simp only[List.map_toArray,List.map_cons,List.map_nil]);first|done|rfl|(simp only[Zk,Zj];rfl)) ?_;(with_reducible refine(ZaP.calls _ _ l0_1 t28002 t28003 _ ?side1 ?side2 A7.out).mono ?_);(case side1=>repeat(first|exact(Zb HR0_1.out (by repeat(first|(with_reducible first|exact HB.out|apply Zn|apply Zm|apply Zo|refine Zq ?_ GE28001.out)|exact HB.out)))|(with_reducible refine Kd.C_alloc ?_ _)|(with_reducible refine Kd.C_drewN ?_ _)|(with_reducible refine Kd.C_drew ?_)));(case side2=>exact HC0_1.out);rintro e w' ⟨rfl,⟨nd,rfl⟩⟩;refine⟨_,rfl,?_⟩))
   go_ret
   exact⟨by first|rfl|(simp[ZA,Zz] <;> rfl)|(simp[*,ZA,Zz] <;> rfl),by repeat(first|(with_reducible first|exact HB.out|apply Zn|apply Zm|apply Zo|refine Zq ?_ GE28001.out)|exact HB.out)⟩
  ·rw[if_neg c8] at H
   have c8b0:decide (t28003<0)=false:=Zf c8
   clear c8
   obtain rfl:=Zg H
   go_enter Tryz.func28,Tryz.ntmps28
   go_wp2_with (first|((with_reducible refine ZI (N:=2) rfl ?_);refine ZG ?hg (N:=2) ?hd (cs:=#[.slice A0_0 l0_0.length c0_0,.slice A0_1 l0_1.length c0_1]) (t:=49) ?hr ?_;(case hd=>rfl);(case hg=>rfl);(case hr=>first|(go_simp;done)|(go_simp;rfl));intro gb28001 hg w11 hbox hb;have BK28001:=Za (hbox);have GW28001:=Za ((by rw[hg];exact(ZC (by repeat(first|(with_reducible first|exact HB.out|apply Zn|apply Zm|apply Zo)|exact HB.out))):w.heap.size≤gb28001));have GE28001:=Za ((by rw[hg];exact(ZC (by repeat(first|(with_reducible first|exact HB.out|apply Zn|apply Zm|apply Zo)|exact HB.out))):w.heap.size≤gb28001));replace HB:=Za (Zt (by repeat(first|(with_reducible first|exact HB.out|apply Zn|apply Zm|apply Zo)|exact HB.out)) hb);clear hb hbox hg;have hcz12_0:w11.cell? ⟨gb28001,0,none⟩=some (.slice A0_0 l0_0.length c0_0):=(Zp BK28001.out 0).trans rfl;have hcz12_1:w11.cell? ⟨gb28001,1,none⟩=some (.slice A0_1 l0_1.length c0_1):=(Zp BK28001.out 1).trans rfl)|((with_reducible refine ZK (f:=93) rfl ?_);refine Z6 (some 8) rfl rfl Tryz.func93 (by kernel_rfl) rfl #[.slice A0_0 l0_0.length c0_0,.int .i64 a1] rfl (by(try simp only[List.map_toArray,List.map_cons,List.map_nil]);first|done|rfl|(simp only[Zk,Zj];rfl)) ?_;(with_reducible refine(ZaP.calls _ _ l0_0 a1 t28002 _ ?side1 ?side2 A3.out).mono ?_);(case side1=>repeat(first|exact(Zb HR0_0.out HB.out)|(with_reducible refine Kd.C_alloc ?_ _)|(with_reducible refine Kd.C_drewN ?_ _)|(with_reducible refine Kd.C_drew ?_)));(case side2=>exact HC0_0.out);rintro e w' ⟨rfl,⟨nd,rfl⟩⟩;refine⟨_,rfl,?_⟩)|((with_reducible refine ZK (f:=93) rfl ?_);refine Z6 (some 14) rfl rfl Tryz.func93 (by kernel_rfl) rfl #[.slice A0_1 l0_1.length c0_1,.int .i64 t28002] rfl (by(try simp only[List.map_toArray,List.map_cons,List.map_nil]);first|done|rfl|(simp only[Zk,Zj];rfl)) ?_;(with_reducible refine(ZaP.calls _ _ l0_1 t28002 t28003 _ ?side1 ?side2 A7.out).mono ?_);(case side1=>repeat(first|exact(Zb HR0_1.out (by repeat(first|(with_reducible first|exact HB.out|apply Zn|apply Zm|apply Zo|refine Zq ?_ GE28001.out)|exact HB.out)))|(with_reducible refine Kd.C_alloc ?_ _)|(with_reducible refine Kd.C_drewN ?_ _)|(with_reducible refine Kd.C_drew ?_)));(case side2=>exact HC0_1.out);rintro e w' ⟨rfl,⟨nd,rfl⟩⟩;refine⟨_,rfl,?_⟩))
   go_ret
   exact⟨by first|rfl|(simp[ZA,Zz] <;> rfl)|(simp[*,ZA,Zz] <;> rfl),by repeat(first|(with_reducible first|exact HB.out|apply Zn|apply Zm|apply Zo|refine Zq ?_ GE28001.out)|exact HB.out)⟩
end Go.Proofs.YtoeimopgoaffcaaGreatDoor.Pr
namespace Go.Proofs.YtoeimopgoaffcaaGreatDoor.Pr
def run {α:Type} (step:Nat→α→Option α):Nat→Nat→α→Option α
 | 0,_,a=>some a
 | d+1,i,a=>(step i a).bind (run step d (i+1))
theorem Zb7 {α β:Type} {step:Nat→α→Option α} {n i:Nat} {a:α} {F:α→Option β} {r:β} (hi:i<n) (h:(run step (n - i) i a).bind F=some r):∃a',step i a=some a'∧(run step (n - (i+1)) (i+1) a').bind F=some r:=by
 rw[show n - i=(n - (i+1))+1 by omega,run,Option.bind_assoc] at h
 exact Option.bind_eq_some_iff.1 h
theorem Zcl {α β:Type} {step:Nat→α→Option α} {n:Nat} {a:α} {F:α→Option β} {r:β} (h:(run step (n - n) n a).bind F=some r):F a=some r:=by
 rw[Nat.sub_self] at h
 exact h
end Go.Proofs.YtoeimopgoaffcaaGreatDoor.Pr
namespace Go.Proofs.YtoeimopgoaffcaaGreatDoor.Pr
open Go.RowKit Go.Proofs.YtoeimopgoaffcaaGreatDoorW.PrintWords Go.Proofs.YtoeimopgoaffcaaGreatDoorW.PrintLast Go.Proofs.YtoeimopgoaffcaaGreatDoorW.PrintMore
attribute [local go_sem] Z2 Z0 Zac Zab ZU ZT Z1 ZZ
set_option linter.unusedVariables false
set_option linter.unusedSimpArgs false
def ZY.f (a0:Int) (a1:Int) (a2:Int):Option (Bool):=if a0≥a1 then(some (decide (a0≤a2))) else(some false)
set_option maxHeartbeats 8000000 in
set_option maxRecDepth 100000 in
theorem ZY.calls (a0:Int) (a1:Int) (a2:Int) (r:Bool) (w:World) (h:ZY.f a0 a1 a2=some r) :
  Calls Tryz.prog 127 #[.int .i64 a0,.int .i64 a1,.int .i64 a2] w fun e w'=>e=.returned (.bool r)∧ZF w w':=by
 have H:(if a0≥a1 then(some (decide (a0≤a2))) else(some false))=some r:=h
 clear h
 by_cases c4:a0≥a1
 ·rw[if_pos c4] at H
  have c4b0:decide (a1≤a0)=true:=Ze c4
  clear c4
  obtain rfl:=Zg H
  go_enter Tryz.func127,Tryz.ntmps127
  go_wp2
  go_ret
  exact⟨by first|rfl|(simp;done)|(simp[*];done),by repeat(first|exact ZF.refl _|apply ZF.step)⟩
 ·rw[if_neg c4] at H
  have c4b0:decide (a1≤a0)=false:=Zf c4
  clear c4
  obtain rfl:=Zg H
  go_enter Tryz.func127,Tryz.ntmps127
  go_wp2
  go_ret
  exact⟨by first|rfl|(simp;done)|(simp[*];done),by repeat(first|exact ZF.refl _|apply ZF.step)⟩
def Zad.l0:Nat→List Int→List (S82)→Int→Int→Option (List Int)
 | 0,_,_,_,_=>none
 | k+1,x3,x8,x9,x10=>if x10<x9 then(if 0≤x10 then(if x10<(x8.length:Int) then(if (Zu x8 x10).f4=true then(if x3.length<17592186044416 then(Zad.l0 k (x3 ++ [x10]) x8 x9 (wrap64 (x10+1))) else(none)) else(Zad.l0 k x3 x8 x9 (wrap64 (x10+1)))) else(none)) else(none)) else(some x3)
def Zad.f (k:Nat) (l0_0:List (S39)) (l0_1:List (S82)) (a0_2:Int):Option (List Int):=Zad.l0 k (([]:List Int)) l0_1 (l0_1.length:Int) 0
set_option maxHeartbeats 8000000 in
set_option maxRecDepth 100000 in
theorem Zad.calls (k:Nat) (A0_0:Option Addr) (c0_0:Nat) (l0_0:List (S39)) (A0_1:Option Addr) (c0_1:Nat) (l0_1:List (S82)) (a0_2:Int) (r:List Int) (w:World) (hr0_0:Kd.C k39 w A0_0 l0_0.length l0_0) (hc0_0:l0_0.length≤c0_0) (hr0_1:Kd.C k82 w A0_1 l0_1.length l0_1) (hc0_1:l0_1.length≤c0_1) (h:Zad.f k l0_0 l0_1 a0_2=some r) :
  Calls Tryz.prog 156 #[.agg #[.slice A0_0 l0_0.length c0_0,.slice A0_1 l0_1.length c0_1,.int .i64 a0_2]] w fun e w'=>∃v0_:Value,e=.returned (v0_)∧Kd.R (Kd.int .i64) 3 w' w.heap.size (fun _=>True) v0_ r∧Below w.heap.size w w':=by
 have hu25:=Tryz.underlying25
 have hu82:=Tryz.underlying82
 have HR0_0:=Za hr0_0;have HC0_0:=Za hc0_0;clear hr0_0 hc0_0;have HR0_1:=Za hr0_1;have HC0_1:=Za hc0_1;clear hr0_1 hc0_1
 have HB:=Za (Below.refl w.heap.size w)
 have H:(Zad.l0 k (([]:List Int)) l0_1 (l0_1.length:Int) 0)=some r:=h
 clear h
 obtain⟨y156002,hy156002⟩:∃y_:List Int,y_=(([]:List Int)):=⟨_,rfl⟩
 replace H:(Zad.l0 k y156002 l0_1 (l0_1.length:Int) 0)=some r:=by first|(rw[hy156002];with_reducible exact H)|(have H2_:=(Zi _ _).symm.trans H;rw[hy156002];with_reducible exact H2_)|(have H2_:=(Zi _ _).symm.trans H;with_reducible exact H2_)|with_reducible exact H|(rw[hy156002];exact H)|exact H
 have Ny156002:=Za hy156002;clear hy156002
 have H':=Za H
 clear H
 go_enter Tryz.func156,Tryz.ntmps156
 go_wp2_with (first|((with_reducible refine ZI (N:=1) rfl ?_);refine ZG ?hg (N:=1) ?hd (cs:=#[.slice A0_0 l0_0.length c0_0,.slice A0_1 l0_1.length c0_1,.int .i64 a0_2]) (t:=25) ?hr ?_;(case hd=>rfl);(case hg=>rfl);(case hr=>first|(go_simp;done)|(go_simp;rfl));intro gb156001 hg w2 hbox hb;have BK156001:=Za (hbox);have GW156001:=Za ((by rw[hg];exact(ZC (by repeat(first|(with_reducible first|exact HB.out|apply Zn|apply Zm|apply Zo)|exact HB.out))):w.heap.size≤gb156001));have GE156001:=Za ((by rw[hg];exact(ZC (by repeat(first|(with_reducible first|exact HB.out|apply Zn|apply Zm|apply Zo)|exact HB.out))):w.heap.size≤gb156001));replace HB:=Za (Zt (by repeat(first|(with_reducible first|exact HB.out|apply Zn|apply Zm|apply Zo)|exact HB.out)) hb);clear hb hbox hg)|((with_reducible refine ZI (N:=6) rfl ?_);refine Kd.R_lit (Kd.int .i64) _ 3 ?hg (N:=6) ?hd (xs:=([]:List Int)) (inner:=[]) (ok:=fun _=>True) (okp:=fun _=>True) ?hr ?hp (fun _ hk=>hk) trivial (Below.refl _ _) (Nat.le_refl _) (by simp) ?_;(case hd=>rfl);(case hg=>rfl);(case hr=>first|(go_simp;done)|(go_simp;rfl));(case hp=>exact(Reps.none _ _));intro v156003 w3 ho4 hb hg_ hnew_;clear hg_ hnew_;(first|rw[← Ny156002.out] at ho4|(simp only[Int.reduceToNat] at ho4;rw[← Ny156002.out] at ho4));have HO156004:=Za (Kd.R_lower ho4 (ZC (by repeat(first|(with_reducible first|exact HB.out|apply Zn|apply Zm|apply Zo|refine Zq ?_ GE156001.out)|exact HB.out))));replace BK156001:=Za (Zx (g:=gb156001) (o:=.cells #[.slice A0_0 l0_0.length c0_0,.slice A0_1 l0_1.length c0_1,.int .i64 a0_2] 25 (0,0)) BK156001.out hb);replace HB:=Za (Zt (by repeat(first|(with_reducible first|exact HB.out|apply Zn|apply Zm|apply Zo|refine Zq ?_ GE156001.out)|exact HB.out)) hb);clear hb ho4;have hcz5_0:w3.cell? ⟨gb156001,0,none⟩=some (.slice A0_0 l0_0.length c0_0):=(Zp BK156001.out 0).trans rfl;have hcz5_1:w3.cell? ⟨gb156001,1,none⟩=some (.slice A0_1 l0_1.length c0_1):=(Zp BK156001.out 1).trans rfl;have hcz5_2:w3.cell? ⟨gb156001,2,none⟩=some (.int .i64 a0_2):=(Zp BK156001.out 2).trans rfl;have hfz5_0:=Zs BK156001.out 0;have hfz5_1:=Zs BK156001.out 1;have hfz5_2:=Zs BK156001.out 2))
 go_loopg [3,10] k (fun kq v3 v10 w'=>∃(x3_1:List Int) (x10_1:Int),v10=.int .i64 x10_1∧Aside0 (Zad.l0 kq x3_1 l0_1 (l0_1.length:Int) x10_1=some r)∧Aside0 (kq≤k)∧Aside0 (Kd.R (Kd.int .i64) 3 w' w.heap.size (fun _=>True) v3 x3_1)∧Aside0 (w'.heap[gb156001]? = some (.cells #[(.slice A0_0 l0_0.length c0_0),(.slice A0_1 l0_1.length c0_1),.int .i64 a0_2] 25 (0,0)))∧Aside0 (Below w.heap.size w w'))
 case atStart=>exact⟨(y156002),(0),(by first|rfl|(simp;done)|(simp[*];done)),H',⟨Nat.le_refl _⟩,⟨by(with_reducible repeat(first|apply Kd.R_alloc|apply Kd.R_drewN|apply Kd.R_drew));exact HO156004.out⟩,⟨by(with_reducible repeat(first|refine Zw ?_ _|refine ZB ?_|refine Zv ?_ _));exact BK156001.out⟩,⟨by repeat(first|(with_reducible first|exact HB.out|apply Zn|apply Zm|apply Zo|refine Zq ?_ GE156001.out)|exact HB.out)⟩⟩
 case round=>
  clear H'
  try clear c1
  try clear p2
  obtain⟨x3_1,x10_1,rfl,HA,HK1,HO_3,BK156001,HB⟩:=hrel
  cases gk with
  | zero=>exact absurd HA.out (by simp[Zad.l0])
  | succ k1=>
   have H:=HA.out
   clear HA
   simp only[Zad.l0] at H
   by_cases c6:x10_1<(l0_1.length:Int)
   ·rw[if_pos c6] at H
    have c6b0:decide (x10_1<(l0_1.length:Int))=true:=Ze c6
    clear c6
    by_cases c7:0≤x10_1
    ·rw[if_pos c7] at H
     have c7b0:decide (0≤x10_1)=true:=Ze c7
     clear c7
     by_cases c8:x10_1<(l0_1.length:Int)
     ·rw[if_pos c8] at H
      have c8b0:decide (x10_1<(l0_1.length:Int))=true:=Ze c8
      clear c8
      obtain⟨bq9,hbq9⟩:∃b_:Bool,b_=((Zu l0_1 x10_1).f4):=⟨_,rfl⟩
      replace H:(if bq9=true then(if x3_1.length<17592186044416 then(Zad.l0 k1 (x3_1 ++ [x10_1]) l0_1 (l0_1.length:Int) (wrap64 (x10_1+1))) else(none)) else(Zad.l0 k1 x3_1 l0_1 (l0_1.length:Int) (wrap64 (x10_1+1))))=some r:=by rw[← hbq9] at H;exact H
      have Nbq9:=Za hbq9;clear hbq9
      by_cases c10:bq9=true
      ·subst c10
       rw[if_pos rfl] at H
       by_cases c11:x3_1.length<17592186044416
       ·rw[if_pos c11] at H
        have LMc11:=Za c11;clear c11
        obtain⟨y156007,hy156007⟩:∃y_:List Int,y_=(x3_1 ++ [x10_1]):=⟨_,rfl⟩
        replace H:(Zad.l0 k1 y156007 l0_1 (l0_1.length:Int) (wrap64 (x10_1+1)))=some r:=by first|(rw[hy156007];with_reducible exact H)|(have H2_:=(Zi _ _).symm.trans H;rw[hy156007];with_reducible exact H2_)|(have H2_:=(Zi _ _).symm.trans H;with_reducible exact H2_)|with_reducible exact H|(rw[hy156007];exact H)|exact H
        have Ny156007:=Za hy156007;clear hy156007
        have H':=Za H
        clear H
        have p156005:0≤(x10_1:Int):=Zd (by first|(with_reducible assumption)|assumption)
        have q156005:x10_1<(l0_1.length:Int):=Zd (by first|(with_reducible assumption)|assumption)
        obtain⟨ad156005,e156005,hx156005_0,hx156005_1,hx156005_2,hx156005_3,hx156005_4⟩:=Zbp HR0_1.out x10_1 p156005 q156005
        (try rw[← Nbq9.out] at hx156005_4)
        cases e156005
        replace hx156005_0:=(HB.out.cell (Zc w _ hx156005_0)).trans hx156005_0
        replace hx156005_1:=(HB.out.cell (Zc w _ hx156005_1)).trans hx156005_1
        replace hx156005_2:=(HB.out.cell (Zc w _ hx156005_2)).trans hx156005_2
        replace hx156005_3:=(HB.out.cell (Zc w _ hx156005_3)).trans hx156005_3
        replace hx156005_4:=(HB.out.cell (Zc w _ hx156005_4)).trans hx156005_4
        replace p156005:=eq_true p156005
        replace q156005:=eq_true q156005
        go_wp2_with (first|((with_reducible refine ZI (N:=5) rfl ?_);refine ZG ?hg (N:=5) ?hd (cs:=#[.int .i64 0,.int .i64 0,.int .i64 0,.int .i64 0,.bool false]) (t:=82) ?hr ?_;(case hd=>rfl);(case hg=>rfl);(case hr=>first|(go_simp;done)|(go_simp;rfl));intro gb156006 hg w12 hbox hb;have n0_:=Za (Kd.R_below (by(with_reducible repeat(first|apply Kd.R_alloc|apply Kd.R_drewN|apply Kd.R_drew));exact HO_3.out) hb);have n1_:=Za (Zx (g:=gb156001) (o:=.cells #[.slice A0_0 l0_0.length c0_0,.slice (some ad156005) l0_1.length c0_1,.int .i64 a0_2] 25 (0,0)) BK156001.out hb);have n2_:=Za (Zt (by repeat(first|(with_reducible first|exact HB.out|apply Zn|apply Zm|apply Zo|refine Zq ?_ GE156001.out)|exact HB.out)) hb);have n3_:=Za (hbox);have n4_:=Za ((by rw[hg];exact(ZC (by repeat(first|(with_reducible first|exact HB.out|apply Zn|apply Zm|apply Zo|refine Zq ?_ GE156001.out)|exact HB.out))):w.heap.size≤gb156006));have n5_:=n4_;have n6_:=Za ((by rw[hg];exact Nat.ne_of_lt (ZW (g:=gb156001) (o:=.cells #[.slice A0_0 l0_0.length c0_0,.slice (some ad156005) l0_1.length c0_1,.int .i64 a0_2] 25 (0,0)) BK156001.out):gb156001≠gb156006));have n7_:=Za n6_.out.symm;clear HO_3;clear BK156001;clear HB;have HO_3:=n0_;have BK156001:=n1_;have HB:=n2_;have BK156006:=n3_;have GW156006:=n4_;have GE156006:=n5_;have NB156001_156006:=n6_;have NB156006_156001:=n7_;clear n0_ n1_ n2_ n3_ n4_ n5_ n6_ n7_;clear hb hbox hg;have hnb13:=NB156006_156001.out;have hnc13:=NB156001_156006.out;have hcz14_0:w12.cell? ⟨gb156006,0,none⟩=some (.int .i64 0):=(Zp BK156006.out 0).trans rfl;have hcz14_1:w12.cell? ⟨gb156006,1,none⟩=some (.int .i64 0):=(Zp BK156006.out 1).trans rfl;have hcz14_2:w12.cell? ⟨gb156006,2,none⟩=some (.int .i64 0):=(Zp BK156006.out 2).trans rfl;have hcz14_3:w12.cell? ⟨gb156006,3,none⟩=some (.int .i64 0):=(Zp BK156006.out 3).trans rfl;have hcz14_4:w12.cell? ⟨gb156006,4,none⟩=some (.bool false):=(Zp BK156006.out 4).trans rfl;have hfz14_0:=Zs BK156006.out 0;have hfz14_1:=Zs BK156006.out 1;have hfz14_2:=Zs BK156006.out 2;have hfz14_3:=Zs BK156006.out 3;have hfz14_4:=Zs BK156006.out 4)|((with_reducible refine Zbj (b:=.append) (xs:=#[.tmp 17,.tmp 19]) rfl ?_);at_builtin;refine Kd.R_append (Kd.int .i64) (w0:=w) w.heap.size rfl (.tmp 17) (.tmp 19) 37 3 (.int .i64 0) 8 rfl Tryz.underlying37 info3 rfl (by decide) (by omega) u3 x3_1 x10_1 [.int .i64 x10_1] (fun _=>True) (fun _=>False) rfl (by first|(go_simp;done)|(go_simp;rfl)) ?aP (fun _ hk=>hk.elim) ?aF ?aO ?aB ?aS ?aL ?_;(case aP=>exact rfl);(case aB=>exact(by repeat(first|(with_reducible first|exact HB.out|apply Zn|apply Zm|apply Zo|refine Zq ?_ GE156001.out|refine Zq ?_ GE156006.out)|exact HB.out)));(case aF=>exact(fun _ _=>trivial));(case aO=>exact(by(with_reducible repeat(first|apply Kd.R_alloc|apply Kd.R_drewN|apply Kd.R_drew));exact Kd.R_mono (Kd.R_far (p:=⟨gb156006,4,none⟩) (Kd.R_far (p:=⟨gb156006,3,none⟩) (Kd.R_far (p:=⟨gb156006,2,none⟩) (Kd.R_far (p:=⟨gb156006,1,none⟩) (Kd.R_far (p:=⟨gb156006,0,none⟩) (Kd.R_types HO_3.out BK156006.out (by decide)) (fun _ hk=>hk.2) (.int .i64 ((Zu l0_1 x10_1).f0))) (fun _ hk=>hk.2) (.int .i64 ((Zu l0_1 x10_1).f1))) (fun _ hk=>hk.2) (.int .i64 ((Zu l0_1 x10_1).f2))) (fun _ hk=>hk.2) (.int .i64 ((Zu l0_1 x10_1).f3))) (fun _ hk=>hk.2) (.bool true)) (fun _ hk=>trivial)));(case aS=>exact(ZC (by repeat(first|(with_reducible first|exact HB.out|apply Zn|apply Zm|apply Zo|refine Zq ?_ GE156001.out|refine Zq ?_ GE156006.out)|exact HB.out))));(case aL=>have:=LMc11.out;omega);intro v156008 w15 ho hb hg hat;rw[← Ny156007.out] at ho;have HO156009:=Za (ho);replace BK156001:=Za (Za7 (g:=gb156001) (o:=.cells #[.slice A0_0 l0_0.length c0_0,.slice (some ad156005) l0_1.length c0_1,.int .i64 a0_2] 25 (0,0)) (by(with_reducible repeat(first|refine Zw ?_ _|refine ZB ?_|refine Zv ?_ _));refine ZL ?_ NB156001_156006.out _;(with_reducible repeat(first|refine Zw ?_ _|refine ZB ?_|refine Zv ?_ _));refine ZL ?_ NB156001_156006.out _;(with_reducible repeat(first|refine Zw ?_ _|refine ZB ?_|refine Zv ?_ _));refine ZL ?_ NB156001_156006.out _;(with_reducible repeat(first|refine Zw ?_ _|refine ZB ?_|refine Zv ?_ _));refine ZL ?_ NB156001_156006.out _;(with_reducible repeat(first|refine Zw ?_ _|refine ZB ?_|refine Zv ?_ _));refine ZL ?_ NB156001_156006.out _;(with_reducible repeat(first|refine Zw ?_ _|refine ZB ?_|refine Zv ?_ _));exact BK156001.out) hg (Kd.R_ne HO_3.out BK156001.out (by decide)));replace BK156006:=Za (Za7 (g:=gb156006) (o:=.cells #[.int .i64 ((Zu l0_1 x10_1).f0),.int .i64 ((Zu l0_1 x10_1).f1),.int .i64 ((Zu l0_1 x10_1).f2),.int .i64 ((Zu l0_1 x10_1).f3),.bool true] 82 (0,0)) (by(with_reducible repeat(first|refine Zw ?_ _|refine ZB ?_|refine Zv ?_ _));refine ZP (cs:=#[.int .i64 ((Zu l0_1 x10_1).f0),.int .i64 ((Zu l0_1 x10_1).f1),.int .i64 ((Zu l0_1 x10_1).f2),.int .i64 ((Zu l0_1 x10_1).f3),.bool false]) ?_ 4 _ rfl;(with_reducible repeat(first|refine Zw ?_ _|refine ZB ?_|refine Zv ?_ _));refine ZP (cs:=#[.int .i64 ((Zu l0_1 x10_1).f0),.int .i64 ((Zu l0_1 x10_1).f1),.int .i64 ((Zu l0_1 x10_1).f2),.int .i64 0,.bool false]) ?_ 3 _ rfl;(with_reducible repeat(first|refine Zw ?_ _|refine ZB ?_|refine Zv ?_ _));refine ZP (cs:=#[.int .i64 ((Zu l0_1 x10_1).f0),.int .i64 ((Zu l0_1 x10_1).f1),.int .i64 0,.int .i64 0,.bool false]) ?_ 2 _ rfl;(with_reducible repeat(first|refine Zw ?_ _|refine ZB ?_|refine Zv ?_ _));refine ZP (cs:=#[.int .i64 ((Zu l0_1 x10_1).f0),.int .i64 0,.int .i64 0,.int .i64 0,.bool false]) ?_ 1 _ rfl;(with_reducible repeat(first|refine Zw ?_ _|refine ZB ?_|refine Zv ?_ _));refine ZP (cs:=#[.int .i64 0,.int .i64 0,.int .i64 0,.int .i64 0,.bool false]) ?_ 0 _ rfl;(with_reducible repeat(first|refine Zw ?_ _|refine ZB ?_|refine Zv ?_ _));exact BK156006.out) hg (Kd.R_ne HO_3.out BK156006.out (by decide)));replace HB:=Za (hb);clear HO_3;clear ho hb hg hat))
        go_roundg k1
        case measure=>have:=HK1.out;omega
        case rel=>exact⟨(y156007),(wrap64 (x10_1+1)),(by first|rfl|(simp;done)|(simp[*];done)),H',⟨by have:=HK1.out;omega⟩,⟨by(with_reducible repeat(first|apply Kd.R_alloc|apply Kd.R_drewN|apply Kd.R_drew));exact HO156009.out⟩,⟨by(with_reducible repeat(first|refine Zw ?_ _|refine ZB ?_|refine Zv ?_ _));exact BK156001.out⟩,⟨by repeat(first|(with_reducible first|exact HB.out|apply Zn|apply Zm|apply Zo|refine Zq ?_ GE156001.out|refine Zq ?_ GE156006.out)|exact HB.out)⟩⟩
       ·rw[if_neg c11] at H
        exact absurd H (by simp)
      ·replace c10:=Bool.eq_false_iff.mpr c10
       subst c10
       have H1:(Zad.l0 k1 x3_1 l0_1 (l0_1.length:Int) (wrap64 (x10_1+1)))=some r:=by rw[if_neg (show ¬(false=true) by decide)] at H;exact H
       clear H
       have H:=H1
       clear H1
       have H':=Za H
       clear H
       have p156005:0≤(x10_1:Int):=Zd (by first|(with_reducible assumption)|assumption)
       have q156005:x10_1<(l0_1.length:Int):=Zd (by first|(with_reducible assumption)|assumption)
       obtain⟨ad156005,e156005,hx156005_0,hx156005_1,hx156005_2,hx156005_3,hx156005_4⟩:=Zbp HR0_1.out x10_1 p156005 q156005
       (try rw[← Nbq9.out] at hx156005_4)
       cases e156005
       replace hx156005_0:=(HB.out.cell (Zc w _ hx156005_0)).trans hx156005_0
       replace hx156005_1:=(HB.out.cell (Zc w _ hx156005_1)).trans hx156005_1
       replace hx156005_2:=(HB.out.cell (Zc w _ hx156005_2)).trans hx156005_2
       replace hx156005_3:=(HB.out.cell (Zc w _ hx156005_3)).trans hx156005_3
       replace hx156005_4:=(HB.out.cell (Zc w _ hx156005_4)).trans hx156005_4
       replace p156005:=eq_true p156005
       replace q156005:=eq_true q156005
       go_wp2_with (first|((with_reducible refine ZI (N:=5) rfl ?_);refine ZG ?hg (N:=5) ?hd (cs:=#[.int .i64 0,.int .i64 0,.int .i64 0,.int .i64 0,.bool false]) (t:=82) ?hr ?_;(case hd=>rfl);(case hg=>rfl);(case hr=>first|(go_simp;done)|(go_simp;rfl));intro gb156006 hg w16 hbox hb;have n0_:=Za (Kd.R_below (by(with_reducible repeat(first|apply Kd.R_alloc|apply Kd.R_drewN|apply Kd.R_drew));exact HO_3.out) hb);have n1_:=Za (Zx (g:=gb156001) (o:=.cells #[.slice A0_0 l0_0.length c0_0,.slice (some ad156005) l0_1.length c0_1,.int .i64 a0_2] 25 (0,0)) BK156001.out hb);have n2_:=Za (Zt (by repeat(first|(with_reducible first|exact HB.out|apply Zn|apply Zm|apply Zo|refine Zq ?_ GE156001.out)|exact HB.out)) hb);have n3_:=Za (hbox);have n4_:=Za ((by rw[hg];exact(ZC (by repeat(first|(with_reducible first|exact HB.out|apply Zn|apply Zm|apply Zo|refine Zq ?_ GE156001.out)|exact HB.out))):w.heap.size≤gb156006));have n5_:=n4_;have n6_:=Za ((by rw[hg];exact Nat.ne_of_lt (ZW (g:=gb156001) (o:=.cells #[.slice A0_0 l0_0.length c0_0,.slice (some ad156005) l0_1.length c0_1,.int .i64 a0_2] 25 (0,0)) BK156001.out):gb156001≠gb156006));have n7_:=Za n6_.out.symm;clear HO_3;clear BK156001;clear HB;have HO_3:=n0_;have BK156001:=n1_;have HB:=n2_;have BK156006:=n3_;have GW156006:=n4_;have GE156006:=n5_;have NB156001_156006:=n6_;have NB156006_156001:=n7_;clear n0_ n1_ n2_ n3_ n4_ n5_ n6_ n7_;clear hb hbox hg;have hnb17:=NB156006_156001.out;have hnc17:=NB156001_156006.out;have hcz18_0:w16.cell? ⟨gb156006,0,none⟩=some (.int .i64 0):=(Zp BK156006.out 0).trans rfl;have hcz18_1:w16.cell? ⟨gb156006,1,none⟩=some (.int .i64 0):=(Zp BK156006.out 1).trans rfl;have hcz18_2:w16.cell? ⟨gb156006,2,none⟩=some (.int .i64 0):=(Zp BK156006.out 2).trans rfl;have hcz18_3:w16.cell? ⟨gb156006,3,none⟩=some (.int .i64 0):=(Zp BK156006.out 3).trans rfl;have hcz18_4:w16.cell? ⟨gb156006,4,none⟩=some (.bool false):=(Zp BK156006.out 4).trans rfl;have hfz18_0:=Zs BK156006.out 0;have hfz18_1:=Zs BK156006.out 1;have hfz18_2:=Zs BK156006.out 2;have hfz18_3:=Zs BK156006.out 3;have hfz18_4:=Zs BK156006.out 4))
       go_roundg k1
       case measure=>have:=HK1.out;omega
       case rel=>exact⟨(x3_1),(wrap64 (x10_1+1)),(by first|rfl|(simp;done)|(simp[*];done)),H',⟨by have:=HK1.out;omega⟩,⟨by(with_reducible repeat(first|apply Kd.R_alloc|apply Kd.R_drewN|apply Kd.R_drew));exact Kd.R_mono (Kd.R_far (p:=⟨gb156006,4,none⟩) (Kd.R_far (p:=⟨gb156006,3,none⟩) (Kd.R_far (p:=⟨gb156006,2,none⟩) (Kd.R_far (p:=⟨gb156006,1,none⟩) (Kd.R_far (p:=⟨gb156006,0,none⟩) (Kd.R_types HO_3.out BK156006.out (by decide)) (fun _ hk=>hk.2) (.int .i64 ((Zu l0_1 x10_1).f0))) (fun _ hk=>hk.2) (.int .i64 ((Zu l0_1 x10_1).f1))) (fun _ hk=>hk.2) (.int .i64 ((Zu l0_1 x10_1).f2))) (fun _ hk=>hk.2) (.int .i64 ((Zu l0_1 x10_1).f3))) (fun _ hk=>hk.2) (.bool false)) (fun _ hk=>trivial)⟩,⟨by(with_reducible repeat(first|refine Zw ?_ _|refine ZB ?_|refine Zv ?_ _));refine ZL ?_ NB156001_156006.out _;(with_reducible repeat(first|refine Zw ?_ _|refine ZB ?_|refine Zv ?_ _));refine ZL ?_ NB156001_156006.out _;(with_reducible repeat(first|refine Zw ?_ _|refine ZB ?_|refine Zv ?_ _));refine ZL ?_ NB156001_156006.out _;(with_reducible repeat(first|refine Zw ?_ _|refine ZB ?_|refine Zv ?_ _));refine ZL ?_ NB156001_156006.out _;(with_reducible repeat(first|refine Zw ?_ _|refine ZB ?_|refine Zv ?_ _));refine ZL ?_ NB156001_156006.out _;(with_reducible repeat(first|refine Zw ?_ _|refine ZB ?_|refine Zv ?_ _));exact BK156001.out⟩,⟨by repeat(first|(with_reducible first|exact HB.out|apply Zn|apply Zm|apply Zo|refine Zq ?_ GE156001.out|refine Zq ?_ GE156006.out)|exact HB.out)⟩⟩
     ·rw[if_neg c8] at H
      exact absurd H (by simp)
    ·rw[if_neg c7] at H
     exact absurd H (by simp)
   ·rw[if_neg c6] at H
    have c6b0:decide (x10_1<(l0_1.length:Int))=false:=Zf c6
    clear c6
    obtain rfl:=Zg H
    go_wp2
    go_ret
    exact⟨_,by first|rfl|(simp[ZA,Zz] <;> rfl)|(simp[*,ZA,Zz] <;> rfl),by(with_reducible repeat(first|apply Kd.R_alloc|apply Kd.R_drewN|apply Kd.R_drew));exact HO_3.out,by repeat(first|(with_reducible first|exact HB.out|apply Zn|apply Zm|apply Zo|refine Zq ?_ GE156001.out)|exact HB.out)⟩
def ZaE.l0:Nat→ByteArray→List (S39)→Int→Int→Option (Int)
 | 0,_,_,_,_=>none
 | k+1,x1,x8,x9,x10=>if x10<x9 then(if 0≤x10 then(if x10<(x8.length:Int) then(if ((ZD x8 x10).f0).toList=x1.toList then(some x10) else(ZaE.l0 k x1 x8 x9 (wrap64 (x10+1)))) else(none)) else(none)) else(some (-1))
def ZaE.f (k:Nat) (l0_0:List (S39)) (l0_1:List (S82)) (a0_2:Int) (a1:ByteArray):Option (Int):=ZaE.l0 k a1 l0_0 (l0_0.length:Int) 0
set_option maxHeartbeats 8000000 in
set_option maxRecDepth 100000 in
theorem ZaE.calls (k:Nat) (A0_0:Option Addr) (c0_0:Nat) (l0_0:List (S39)) (A0_1:Option Addr) (c0_1:Nat) (l0_1:List (S82)) (a0_2:Int) (a1:ByteArray) (r:Int) (w:World) (hr0_0:Kd.C k39 w A0_0 l0_0.length l0_0) (hc0_0:l0_0.length≤c0_0) (hr0_1:Kd.C k82 w A0_1 l0_1.length l0_1) (hc0_1:l0_1.length≤c0_1) (h:ZaE.f k l0_0 l0_1 a0_2 a1=some r) :
  Calls Tryz.prog 125 #[.agg #[.slice A0_0 l0_0.length c0_0,.slice A0_1 l0_1.length c0_1,.int .i64 a0_2],.string a1] w fun e w'=>e=.returned (.int .i64 r)∧Below w.heap.size w w':=by
 have hu25:=Tryz.underlying25
 have hu39:=Tryz.underlying39
 have HR0_0:=Za hr0_0;have HC0_0:=Za hc0_0;clear hr0_0 hc0_0;have HR0_1:=Za hr0_1;have HC0_1:=Za hc0_1;clear hr0_1 hc0_1
 have HB:=Za (Below.refl w.heap.size w)
 have H:(ZaE.l0 k a1 l0_0 (l0_0.length:Int) 0)=some r:=h
 clear h
 have H':=Za H
 clear H
 go_enter Tryz.func125,Tryz.ntmps125
 go_wp2_with (first|((with_reducible refine ZI (N:=2) rfl ?_);refine ZG ?hg (N:=2) ?hd (cs:=#[.slice A0_0 l0_0.length c0_0,.slice A0_1 l0_1.length c0_1,.int .i64 a0_2]) (t:=25) ?hr ?_;(case hd=>rfl);(case hg=>rfl);(case hr=>first|(go_simp;done)|(go_simp;rfl));intro gb125001 hg w3 hbox hb;have BK125001:=Za (hbox);have GW125001:=Za ((by rw[hg];exact(ZC (by repeat(first|(with_reducible first|exact HB.out|apply Zn|apply Zm|apply Zo)|exact HB.out))):w.heap.size≤gb125001));have GE125001:=Za ((by rw[hg];exact(ZC (by repeat(first|(with_reducible first|exact HB.out|apply Zn|apply Zm|apply Zo)|exact HB.out))):w.heap.size≤gb125001));replace HB:=Za (Zt (by repeat(first|(with_reducible first|exact HB.out|apply Zn|apply Zm|apply Zo)|exact HB.out)) hb);clear hb hbox hg;have hcz4_0:w3.cell? ⟨gb125001,0,none⟩=some (.slice A0_0 l0_0.length c0_0):=(Zp BK125001.out 0).trans rfl;have hcz4_1:w3.cell? ⟨gb125001,1,none⟩=some (.slice A0_1 l0_1.length c0_1):=(Zp BK125001.out 1).trans rfl;have hcz4_2:w3.cell? ⟨gb125001,2,none⟩=some (.int .i64 a0_2):=(Zp BK125001.out 2).trans rfl;have hfz4_0:=Zs BK125001.out 0;have hfz4_1:=Zs BK125001.out 1;have hfz4_2:=Zs BK125001.out 2))
 go_loopg [10] k (fun kq v10 w'=>∃(x10_1:Int),v10=.int .i64 x10_1∧Aside0 (ZaE.l0 kq a1 l0_0 (l0_0.length:Int) x10_1=some r)∧Aside0 (kq≤k)∧Aside0 (w'.heap[gb125001]? = some (.cells #[(.slice A0_0 l0_0.length c0_0),(.slice A0_1 l0_1.length c0_1),.int .i64 a0_2] 25 (0,0)))∧Aside0 (Below w.heap.size w w'))
 case atStart=>exact⟨(0),(by first|rfl|(simp;done)|(simp[*];done)),H',⟨Nat.le_refl _⟩,⟨by(with_reducible repeat(first|refine Zw ?_ _|refine ZB ?_|refine Zv ?_ _));exact BK125001.out⟩,⟨by repeat(first|(with_reducible first|exact HB.out|apply Zn|apply Zm|apply Zo|refine Zq ?_ GE125001.out)|exact HB.out)⟩⟩
 case round=>
  clear H'
  try clear c1
  try clear p2
  obtain⟨x10_1,rfl,HA,HK1,BK125001,HB⟩:=hrel
  cases gk with
  | zero=>exact absurd HA.out (by simp[ZaE.l0])
  | succ k1=>
   have H:=HA.out
   clear HA
   simp only[ZaE.l0] at H
   by_cases c5:x10_1<(l0_0.length:Int)
   ·rw[if_pos c5] at H
    have c5b0:decide (x10_1<(l0_0.length:Int))=true:=Ze c5
    clear c5
    by_cases c6:0≤x10_1
    ·rw[if_pos c6] at H
     have c6b0:decide (0≤x10_1)=true:=Ze c6
     clear c6
     by_cases c7:x10_1<(l0_0.length:Int)
     ·rw[if_pos c7] at H
      have c7b0:decide (x10_1<(l0_0.length:Int))=true:=Ze c7
      clear c7
      by_cases c8:((ZD l0_0 x10_1).f0).toList=a1.toList
      ·rw[if_pos c8] at H
       have c8b0:(((ZD l0_0 x10_1).f0).toList == a1.toList)=true:=beq_iff_eq.mpr c8
       clear c8
       obtain rfl:=Zg H
       have p125002:0≤(x10_1:Int):=Zd (by first|(with_reducible assumption)|assumption)
       have q125002:x10_1<(l0_0.length:Int):=Zd (by first|(with_reducible assumption)|assumption)
       obtain⟨ad125002,A125002_1,c125002_1,e125002,hx125002_0,hx125002_1,hx125002_2,hl125002_1,hi125002_1⟩:=ZaG HR0_0.out x10_1 p125002 q125002
       cases e125002
       replace hx125002_0:=(HB.out.cell (Zc w _ hx125002_0)).trans hx125002_0
       replace hx125002_1:=(HB.out.cell (Zc w _ hx125002_1)).trans hx125002_1
       replace hx125002_2:=(HB.out.cell (Zc w _ hx125002_2)).trans hx125002_2
       have HR125002_1:=Za hi125002_1;have HC125002_1:=Za hl125002_1;clear hi125002_1 hl125002_1
       replace p125002:=eq_true p125002
       replace q125002:=eq_true q125002
       go_wp2_with (first|((with_reducible refine ZI (N:=6) rfl ?_);refine ZG ?hg (N:=6) ?hd (cs:=#[.string (⟨#[]⟩:ByteArray),.slice none 0 0,.int .i64 0]) (t:=39) ?hr ?_;(case hd=>rfl);(case hg=>rfl);(case hr=>first|(go_simp;done)|(go_simp;rfl));intro gb125003 hg w9 hbox hb;have n0_:=Za (Zx (g:=gb125001) (o:=.cells #[.slice (some ad125002) l0_0.length c0_0,.slice A0_1 l0_1.length c0_1,.int .i64 a0_2] 25 (0,0)) BK125001.out hb);have n1_:=Za (Zt (by repeat(first|(with_reducible first|exact HB.out|apply Zn|apply Zm|apply Zo|refine Zq ?_ GE125001.out)|exact HB.out)) hb);have n2_:=Za (hbox);have n3_:=Za ((by rw[hg];exact(ZC (by repeat(first|(with_reducible first|exact HB.out|apply Zn|apply Zm|apply Zo|refine Zq ?_ GE125001.out)|exact HB.out))):w.heap.size≤gb125003));have n4_:=n3_;have n5_:=Za ((by rw[hg];exact Nat.ne_of_lt (ZW (g:=gb125001) (o:=.cells #[.slice (some ad125002) l0_0.length c0_0,.slice A0_1 l0_1.length c0_1,.int .i64 a0_2] 25 (0,0)) BK125001.out):gb125001≠gb125003));have n6_:=Za n5_.out.symm;clear BK125001;clear HB;have BK125001:=n0_;have HB:=n1_;have BK125003:=n2_;have GW125003:=n3_;have GE125003:=n4_;have NB125001_125003:=n5_;have NB125003_125001:=n6_;clear n0_ n1_ n2_ n3_ n4_ n5_ n6_;clear hb hbox hg;have hcz11_0:w9.cell? ⟨gb125003,0,none⟩=some (.string (⟨#[]⟩:ByteArray)):=(Zp BK125003.out 0).trans rfl;have hcz11_1:w9.cell? ⟨gb125003,1,none⟩=some (.slice none 0 0):=(Zp BK125003.out 1).trans rfl;have hcz11_2:w9.cell? ⟨gb125003,2,none⟩=some (.int .i64 0):=(Zp BK125003.out 2).trans rfl;have hfz11_0:=Zs BK125003.out 0;have hfz11_1:=Zs BK125003.out 1;have hfz11_2:=Zs BK125003.out 2))
       go_ret
       exact⟨by first|rfl|(simp[ZA,Zz] <;> rfl)|(simp[*,ZA,Zz] <;> rfl),by repeat(first|(with_reducible first|exact HB.out|apply Zn|apply Zm|apply Zo|refine Zq ?_ GE125001.out|refine Zq ?_ GE125003.out)|exact HB.out)⟩
      ·rw[if_neg c8] at H
       have c8b0:(((ZD l0_0 x10_1).f0).toList == a1.toList)=false:=beq_eq_false_iff_ne.mpr c8
       have H':=Za H
       clear H
       have p125002:0≤(x10_1:Int):=Zd (by first|(with_reducible assumption)|assumption)
       have q125002:x10_1<(l0_0.length:Int):=Zd (by first|(with_reducible assumption)|assumption)
       obtain⟨ad125002,A125002_1,c125002_1,e125002,hx125002_0,hx125002_1,hx125002_2,hl125002_1,hi125002_1⟩:=ZaG HR0_0.out x10_1 p125002 q125002
       cases e125002
       replace hx125002_0:=(HB.out.cell (Zc w _ hx125002_0)).trans hx125002_0
       replace hx125002_1:=(HB.out.cell (Zc w _ hx125002_1)).trans hx125002_1
       replace hx125002_2:=(HB.out.cell (Zc w _ hx125002_2)).trans hx125002_2
       have HR125002_1:=Za hi125002_1;have HC125002_1:=Za hl125002_1;clear hi125002_1 hl125002_1
       replace p125002:=eq_true p125002
       replace q125002:=eq_true q125002
       go_wp2_with (first|((with_reducible refine ZI (N:=6) rfl ?_);refine ZG ?hg (N:=6) ?hd (cs:=#[.string (⟨#[]⟩:ByteArray),.slice none 0 0,.int .i64 0]) (t:=39) ?hr ?_;(case hd=>rfl);(case hg=>rfl);(case hr=>first|(go_simp;done)|(go_simp;rfl));intro gb125003 hg w12 hbox hb;have n0_:=Za (Zx (g:=gb125001) (o:=.cells #[.slice (some ad125002) l0_0.length c0_0,.slice A0_1 l0_1.length c0_1,.int .i64 a0_2] 25 (0,0)) BK125001.out hb);have n1_:=Za (Zt (by repeat(first|(with_reducible first|exact HB.out|apply Zn|apply Zm|apply Zo|refine Zq ?_ GE125001.out)|exact HB.out)) hb);have n2_:=Za (hbox);have n3_:=Za ((by rw[hg];exact(ZC (by repeat(first|(with_reducible first|exact HB.out|apply Zn|apply Zm|apply Zo|refine Zq ?_ GE125001.out)|exact HB.out))):w.heap.size≤gb125003));have n4_:=n3_;have n5_:=Za ((by rw[hg];exact Nat.ne_of_lt (ZW (g:=gb125001) (o:=.cells #[.slice (some ad125002) l0_0.length c0_0,.slice A0_1 l0_1.length c0_1,.int .i64 a0_2] 25 (0,0)) BK125001.out):gb125001≠gb125003));have n6_:=Za n5_.out.symm;clear BK125001;clear HB;have BK125001:=n0_;have HB:=n1_;have BK125003:=n2_;have GW125003:=n3_;have GE125003:=n4_;have NB125001_125003:=n5_;have NB125003_125001:=n6_;clear n0_ n1_ n2_ n3_ n4_ n5_ n6_;clear hb hbox hg;have hcz14_0:w12.cell? ⟨gb125003,0,none⟩=some (.string (⟨#[]⟩:ByteArray)):=(Zp BK125003.out 0).trans rfl;have hcz14_1:w12.cell? ⟨gb125003,1,none⟩=some (.slice none 0 0):=(Zp BK125003.out 1).trans rfl;have hcz14_2:w12.cell? ⟨gb125003,2,none⟩=some (.int .i64 0):=(Zp BK125003.out 2).trans rfl;have hfz14_0:=Zs BK125003.out 0;have hfz14_1:=Zs BK125003.out 1;have hfz14_2:=Zs BK125003.out 2))
       go_roundg k1
       case measure=>have:=HK1.out;omega
       case rel=>exact⟨(wrap64 (x10_1+1)),(by first|rfl|(simp;done)|(simp[*];done)),H',⟨by have:=HK1.out;omega⟩,⟨by(with_reducible repeat(first|refine Zw ?_ _|refine ZB ?_|refine Zv ?_ _));refine ZL ?_ NB125001_125003.out _;(with_reducible repeat(first|refine Zw ?_ _|refine ZB ?_|refine Zv ?_ _));refine ZL ?_ NB125001_125003.out _;(with_reducible repeat(first|refine Zw ?_ _|refine ZB ?_|refine Zv ?_ _));refine ZL ?_ NB125001_125003.out _;(with_reducible repeat(first|refine Zw ?_ _|refine ZB ?_|refine Zv ?_ _));exact BK125001.out⟩,⟨by repeat(first|(with_reducible first|exact HB.out|apply Zn|apply Zm|apply Zo|refine Zq ?_ GE125001.out|refine Zq ?_ GE125003.out)|exact HB.out)⟩⟩
     ·rw[if_neg c7] at H
      exact absurd H (by simp)
    ·rw[if_neg c6] at H
     exact absurd H (by simp)
   ·rw[if_neg c5] at H
    have c5b0:decide (x10_1<(l0_0.length:Int))=false:=Zf c5
    clear c5
    obtain rfl:=Zg H
    go_wp2
    go_ret
    exact⟨by first|rfl|(simp[ZA,Zz] <;> rfl)|(simp[*,ZA,Zz] <;> rfl),by repeat(first|(with_reducible first|exact HB.out|apply Zn|apply Zm|apply Zo|refine Zq ?_ GE125001.out)|exact HB.out)⟩
end Go.Proofs.YtoeimopgoaffcaaGreatDoor.Pr
namespace Go.Proofs.YtoeimopgoaffcaaGreatDoor.Pr
open Go.RowKit Go.Proofs.YtoeimopgoaffcaaGreatDoorW.PrintWords Go.Proofs.YtoeimopgoaffcaaGreatDoor.Ni
def Zdc (ns:List ZM) (s:ByteArray):Int:=ZaZ (fun n=>decide (n.f0.toList=s.toList)) ns
theorem Zen (ns:List ZM) (ts:List PTie) (z:Int) (s:ByteArray) (hl:ns.length≤9223372036854775807) (k:Nat) (hk:2 ^ 64≤k):ZaE.f k ns ts z s=some (Zdc ns s):=by
 have key:=ZaN ns.length (fun k i=>(∀j y,j<i→ns[j]? = some y→decide (y.f0.toList=s.toList)=false)→ZaE.l0 k s ns ns.length (i:Int)=some (Zdc ns s)) 0
  (fun k _ hb=>by
   simp only[ZaE.l0]
   rw[if_neg (by omega),Zdc,Zbz _ _ hb])
  (fun k i _ hi ih hb=>by
   simp only[ZaE.l0]
   rw[if_pos (by omega),if_pos (by omega),if_pos (by omega),ZbQ,ZR hi (by omega)]
   by_cases h:(ns.getD i z39).f0.toList=s.toList
   ·rw[if_pos h,Zdc,ZbP _ ns i _ (getD_some hi z39) (Ze h) hb]
   ·rw[if_neg h,ih]
    intro j y hj hy
    by_cases e:j=i
    ·subst e
     rw[getD_some hi z39] at hy
     cases hy
     exact Zf h
    ·exact hb j y (by omega) hy) 0 k (Nat.zero_le _) (by omega)
 unfold ZaE.f
 exact key (fun j y hj=>absurd hj (by omega))
end Go.Proofs.YtoeimopgoaffcaaGreatDoor.Pr
