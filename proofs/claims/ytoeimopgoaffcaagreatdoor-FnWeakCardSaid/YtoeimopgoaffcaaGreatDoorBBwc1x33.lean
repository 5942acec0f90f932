/- By a program of this session. -/
import Derived.Test.YtoeimopgoaffcaaGreatDoorBBwc1x32
namespace Go.Proofs.YtoeimopgoaffcaaGreatDoor.Pr
open RowKit YtoeimopgoaffcaaGreatDoorW.PrintWords YtoeimopgoaffcaaGreatDoorW.PrintLast YtoeimopgoaffcaaGreatDoorW.PrintMore
attribute [local go_sem] Zak Zai Zax Zaw Zac Zab Zaj Zah
set_option linter.unusedVariables false
set_option linter.unusedSimpArgs false
open Ni
def ZaY.f (_k:Nat) (a0_0:Int) (l0_1:List (S184)):Option (List Int):=some (if ZbW a0_0 l0_1=true then ncB a0_0.toNat l0_1 else[])
set_option maxHeartbeats 8000000 in
set_option maxRecDepth 100000 in
theorem ZaY.calls (k:Nat) (a0_0:Int) (A0_1:Option Addr) (c0_1:Nat) (l0_1:List (S184)) (r:List Int) (w:World) (hr0_1:Kd.C k184 w A0_1 l0_1.length l0_1) (hc0_1:l0_1.length≤c0_1) (h:ZaY.f k a0_0 l0_1=some r) :
  Calls Tryz.prog 168 #[.agg #[.int .i64 a0_0,.slice A0_1 l0_1.length c0_1]] w fun e w'=>∃v0_:Value,e=.returned (v0_)∧Kd.R (Kd.int .i64) 3 w' w.heap.size (fun _=>True) v0_ r∧Below w.heap.size w w':=by
 have h':=Zg h
 clear h
 have HG:=Za fun (W:World) (hb:Below w.heap.size w W)=>Zaf.calls (2 ^ 66) a0_0 A0_1 c0_1 l0_1 _ W (Zb hr0_1 hb) hc0_1 (ZfT a0_0 l0_1 (2 ^ 66) (Nat.le_refl _))
 have B1:=Za (Zo (Below.refl w.heap.size w) (.cells #[.int .i64 a0_0,.slice A0_1 l0_1.length c0_1] 156))
 have K0:=Za (show(w.alloc (.cells #[.int .i64 a0_0,.slice A0_1 l0_1.length c0_1] 156)).cell? ⟨w.heap.size,0,none⟩=some (.int .i64 a0_0) by go_simp)
 have K1:=Za (show(w.alloc (.cells #[.int .i64 a0_0,.slice A0_1 l0_1.length c0_1] 156)).cell? ⟨w.heap.size,1,none⟩=some (.slice A0_1 l0_1.length c0_1) by go_simp)
 have hu:=Tryz.underlying156
 have hu2:=Tryz.underlying184
 have HRE:=Za hr0_1
 have hL:l0_1.length≤9223372036854775807:=hr0_1.2.1
 clear hr0_1 hc0_1
 cases hg:ZbW a0_0 l0_1 with
 | false=>
  rw[hg] at h' HG
  have HN:=Za (show([]:List Int)=r from h')
  clear h' hg
  go_enter Tryz.func168,Tryz.ntmps168
  go_wp2_with (go_at_call 201;refine(HG.out _ B1.out).mono ?_;rintro e w1 ⟨rfl,hb⟩)
  go_ret
  exact⟨_,rfl,by rw[← HN.out];exact Kd.R_nil _ _ _ _ _,B1.out.trans (hb.mono B1.out.size)⟩
 | true=>
 rw[hg] at h' HG
 rw[if_pos rfl] at h'
 obtain⟨h0,h8,h80,hed⟩:=ZeU hg
 clear hg
 obtain⟨n,rfl⟩:=Int.eq_ofNat_of_zero_le h0
 rw[Int.toNat_natCast] at h'
 have HN:=Za h'
 have HED:=Za hed
 have hn8:n≤8:=by omega
 clear h' hed h0 h8
 have HIN:=Za (show ZbO l0_1 n from fun e he=>by have:=HED.out e he;omega)
 rcases(show(Aside0 (n=0)∧((n:Int) == 0)=true)∨(Aside0 (1≤n)∧((n:Int) == 0)=false) from(Nat.eq_zero_or_pos n).elim (fun h=>.inl ⟨⟨h⟩,by simp[h]⟩) (fun h=>.inr ⟨⟨h⟩,by simp;omega⟩)) with ⟨hz,hz0⟩|⟨hn1,hz0⟩
 ·go_enter Tryz.func168,Tryz.ntmps168
  go_wp2_with (go_at_call 201;refine(HG.out _ B1.out).mono ?_;rintro e w1 ⟨rfl,hb⟩;have hc0:=Zx hb K0.out;have hlt:=Zc _ _ hc0)
  go_ret
  exact⟨_,rfl,by rw[← HN.out,hz.out];exact Kd.R_nil _ _ _ _ _,B1.out.trans (hb.mono B1.out.size)⟩
 go_enter Tryz.func168,Tryz.ntmps168
 go_wp2_with (first|(go_at_call 201;refine(HG.out _ B1.out).mono ?_;rintro e w1 ⟨rfl,hb⟩;have hc0:=Zx hb K0.out;have hc1:=Zx hb K1.out;have hlt:=Zc _ _ hc0;have HB:=Za (B1.out.trans (hb.mono B1.out.size));clear hb)|((with_reducible refine ZF (N:=23) rfl ?_);refine Kd.R_make (Kd.int .i64) _ 3 rfl (N:=23) rfl 37 _ _ rfl (n:Int) rfl rfl Tryz.underlying37 (.int .i64 0) 8 Zbl rfl (by decide) (by omega) 0 (ok:=fun _=>True) (okp:=fun _=>True) rfl (fun _ hk=>hk) trivial (by omega) (by omega) (Below.refl _ _) (Nat.le_refl _) ?_;intro vd wd ho hb _ _;rw[Int.toNat_natCast] at ho;obtain⟨gd,cd,e1,_⟩:=Kd.R_form ho (by rw[List.length_replicate];exact hn1.out);rw[List.length_replicate] at e1;subst e1;have HD:=Za (IR.of (Kd.R_lower ho hlt));replace hc0:=Zx hb hc0;replace hc1:=Zx hb hc1;replace hlt:=Zc _ _ hc0;replace HB:=Za (Zr HB.out hb);clear ho hb)|((with_reducible refine ZF (N:=26) rfl ?_);refine Kd.R_make (Kd.int .i64) _ 3 rfl (N:=26) rfl 37 _ _ rfl (n:Int) rfl rfl Tryz.underlying37 (.int .i64 0) 8 Zbl rfl (by decide) (by omega) 0 (ok:=fun _=>True) (okp:=fun _=>True) rfl (fun _ hk=>hk) trivial (by omega) (by omega) (Below.refl _ _) (Nat.le_refl _) ?_;intro vl wl ho hb _ _;rw[Int.toNat_natCast] at ho;obtain⟨gl,cl2,e1,_⟩:=Kd.R_form ho (by rw[List.length_replicate];exact hn1.out);rw[List.length_replicate] at e1;subst e1;have hdl:gd≠gl:=Nat.ne_of_lt (Nat.lt_of_lt_of_le HD.out.lt (IR.base (IR.of ho)));have HL:=Za (IR.of (Kd.R_lower ho hlt));replace HD:=Za (HD.out.low hb);replace hc0:=Zx hb hc0;replace hc1:=Zx hb hc1;replace hlt:=Zc _ _ hc0;replace HB:=Za (Zr HB.out hb);clear ho hb)|((with_reducible refine ZF (N:=29) rfl ?_);refine Kd.R_make Kd.bool _ 4 rfl (N:=29) rfl 107 _ _ rfl (n:Int) rfl rfl Tryz.underlying107 (.bool false) 1 info4 rfl (by decide) (by omega) false (ok:=fun _=>True) (okp:=fun _=>True) rfl (fun _ hk=>hk) trivial (by omega) (by omega) (Below.refl _ _) (Nat.le_refl _) ?_;intro vk wk ho hb _ _;rw[Int.toNat_natCast] at ho;obtain⟨gn,ck,e1,_⟩:=Kd.R_form ho (by rw[List.length_replicate];exact hn1.out);rw[List.length_replicate] at e1;subst e1;have hdk:gd≠gn:=Nat.ne_of_lt (Nat.lt_of_lt_of_le HD.out.lt (BR.base (BR.of ho)));have hlk:gl≠gn:=Nat.ne_of_lt (Nat.lt_of_lt_of_le HL.out.lt (BR.base (BR.of ho)));have HKN:=Za (BR.of (Kd.R_lower ho hlt));replace HD:=Za (HD.out.low hb);replace HL:=Za (HL.out.low hb);replace hc0:=Zx hb hc0;replace hc1:=Zx hb hc1;replace hlt:=Zc _ _ hc0;replace HB:=Za (Zr HB.out hb);clear ho hb))
 have HC:=Za (And.intro hc0 hc1)
 have HLT:=Za hlt
 have hgd0:=HD.out.base
 have hgl0:=HL.out.base
 have hgn0:=HKN.out.base
 have hdl2:=hdl.symm
 have hdk2:=hdk.symm
 have hlk2:=hlk.symm
 clear hc0 hc1
 go_loopg [6,32] n (fun gg _ s32 wr=>∃kk:Nat,s32=.int .i64 (kk:Int)∧Aside0 (kk≤n)∧Aside0 (n - kk≤gg)∧Aside0 (IR wr (w.heap.size+1) gd n cd (List.replicate n 0)∧IR wr (w.heap.size+1) gl n cl2 ((List.replicate n (-1)).take kk ++ List.replicate (n - kk) 0)∧BR wr (w.heap.size+1) gn n ck ((List.replicate n true).take kk ++ List.replicate (n - kk) false))∧Aside0 (Below (w.heap.size+1) wk wr))
 case atStart=>exact⟨0,rfl,⟨Nat.zero_le _⟩,⟨by omega⟩,⟨HD.out,HL.out,HKN.out⟩,⟨Below.refl _ _⟩⟩
 case round=>
  obtain⟨kk,rfl,HK,HGG,HI,HBr⟩:=hrel
  by_cases hkn:kk<n
  ·have hltz:(kk:Int)<(n:Int):=by omega
   have h0k:(0:Int)≤(kk:Int):=by omega
   obtain⟨xl,zl⟩:=HI.out.2.1.cell h0k hltz
   obtain⟨xq,zq⟩:=HI.out.2.2.cell h0k hltz
   rw[Int.toNat_natCast] at xl zl xq zq
   have hgl:=HI.out.2.1.lt
   have hgn:=HI.out.2.2.lt
   have HP1:=Za (set_step (List.replicate n (-1:Int)) 0 0 kk (by rw[List.length_replicate];exact hkn) (-1) (by rw[List.getD_eq_getElem?_getD,List.getElem?_replicate,if_pos hkn];rfl))
   have HP2:=Za (set_step (List.replicate n true) false false kk (by rw[List.length_replicate];exact hkn) true (by rw[List.getD_eq_getElem?_getD,List.getElem?_replicate,if_pos hkn];rfl))
   rw[List.length_replicate] at HP1 HP2
   go_wp2
   go_roundg (n - (kk+1))
   case measure=>have:=HGG.out;omega
   case rel=>
    refine⟨kk+1,by go_num,⟨by omega⟩,⟨by omega⟩,⟨(HI.out.1.far hdk _).far hdl _,?_,?_⟩,⟨(HBr.out.setCell (p:=⟨gn,kk,none⟩) hgn0 _).setCell (p:=⟨gl,kk,none⟩) hgl0 _⟩⟩
    ·rw[← HP1.out];exact(HI.out.2.1.far hlk _).put (kk:Int) _
    ·rw[← HP2.out];exact(HI.out.2.2.put (kk:Int) _).far hlk2 _
  have hltz:¬(kk:Int)<(n:Int):=by omega
  obtain rfl:n=kk:=by have:=HK.out;omega
  have hfull:∀{α:Type} (a b:α),(List.replicate n a).take n ++ List.replicate (n - n) b=List.replicate n a:=fun a b=>by rw[Nat.sub_self,List.take_of_length_le (by simp)];simp
  have HI2:=HI.out
  rw[hfull,hfull] at HI2
  have HI3:=Za HI2;clear HI2 hfull HI
  have HBk:=Za (HB.out.trans (HBr.out.mono (Nat.le_succ _)))
  have hcc0:=(HBr.out.cell (p:=⟨w.heap.size,0,none⟩) (by dsimp only;omega)).trans HC.out.1
  have hcc1:=(HBr.out.cell (p:=⟨w.heap.size,1,none⟩) (by dsimp only;omega)).trans HC.out.2
  have HC2:=Za (And.intro hcc0 hcc1)
  have HLT2:=Za (Zc _ _ hcc0)
  clear hcc0 hcc1 HC HLT HD HL HKN hlt
  go_wp2
  obtain⟨wo,rfl⟩:∃wo:World,wo=wr:=⟨_,rfl⟩
  go_loopg [7,8] n (fun gg s7 s8 wr=>∃(kk:Nat) (d l:List Int) (ch:Int),s7=.int .i64 ch∧s8=.int .i64 (kk:Int)∧Aside0 (kk≤n)∧Aside0 (n - kk≤gg)∧Aside0 (rounds l0_1 (n - kk) (d,l,ch)=rounds l0_1 n (bst0 n))∧Aside0 (IR wr (w.heap.size+1) gd n cd d∧IR wr (w.heap.size+1) gl n cl2 l∧BR wr (w.heap.size+1) gn n ck (List.replicate n true))∧Aside0 (Below w.heap.size w wr)∧Aside0 ((wr.cell? ⟨w.heap.size,0,none⟩=some (.int .i64 (n:Int))∧wr.cell? ⟨w.heap.size,1,none⟩=some (.slice A0_1 l0_1.length c0_1))∧w.heap.size<wr.heap.size))
  case atStart=>exact⟨0,_,_,-1,rfl,rfl,⟨Nat.zero_le _⟩,⟨by omega⟩,⟨rfl⟩,HI3,HBk,⟨HC2.out,HLT2.out⟩⟩
  case round=>
   obtain⟨kk,d,l,ch,rfl,rfl,HK,HGG,HRD,HIr3,HBr,HCr⟩:=hrel
   obtain⟨⟨hc0,hc1⟩,hlt0⟩:=HCr.out
   by_cases hkn:kk<n
   ·have hltz:(kk:Int)<(n:Int):=by omega
    have HW:=Za (Zca.own (n:Int) A0_1 c0_1 l0_1 w wr HRE.out HBr.out (w.heap.size+1) (w.heap.size+1) gd gl gn n cd cl2 ck d l (List.replicate n true) HIN.out h80 hn8 ⟨HIr3.out.1,HIr3.out.2.1,HIr3.out.2.2,Below.refl _ _⟩ ⟨Nat.le_succ _,hlt0,hgd0,hgl0,hgn0⟩ hdl hdk hlk)
    rw[srnd_all l0_1 0 d l (-1) HIN.out] at HW
    obtain⟨X,hX⟩:∃X,X=rnd l0_1 0 (d,l,-1):=⟨_,rfl⟩
    rw[← hX] at HW
    have HX:=Za hX;clear hX
    go_wp2_with (go_at_call 202;refine HW.out.mono ?_;rintro e w2 ⟨rfl,hs⟩)
    have hcc0:=(hs.b.cell (p:=⟨w.heap.size,0,none⟩) (by dsimp only;omega)).trans hc0
    have hcc1:=(hs.b.cell (p:=⟨w.heap.size,1,none⟩) (by dsimp only;omega)).trans hc1
    go_roundg (n - (kk+1))
    case measure=>have:=HGG.out;omega
    case rel=>
     refine⟨kk+1,X.1,X.2.1,X.2.2,rfl,by go_num,⟨by omega⟩,⟨by omega⟩,⟨?_⟩,⟨hs.d,hs.l,hs.k⟩,⟨HBr.out.trans (hs.b.mono (Nat.le_succ _))⟩,⟨⟨hcc0,hcc1⟩,Zc _ _ hcc0⟩⟩
     rw[← HRD.out,show n - kk=(n - (kk+1))+1 by omega,rounds,HX.out]
   have hltz:¬(kk:Int)<(n:Int):=by omega
   have HIr:=Za (And.intro HIr3.out.1 HIr3.out.2.1)
   obtain rfl:n=kk:=by have:=HK.out;omega
   rcases bf_after HIN.out hn1.out (d:=d) (l:=l) (ch:=ch) (by have:=HRD.out;rw[Nat.sub_self] at this;first|done|exact this) with ⟨hch,hnc⟩|⟨c,v,q,hch,hcl,hv,hcv,hq1,hqn,hin,hst,hqb,hqm,hnc⟩
   ·subst hch
    rw[hnc] at HN
    clear hnc
    go_wp2
    go_ret
    exact⟨_,rfl,by rw[← HN.out];exact Kd.R_nil _ _ _ _ _,HBr.out⟩
   subst hch
   have hltc:(c:Int)<(l0_1.length:Int):=by omega
   have hc00:¬(c:Int)<0:=by omega
   obtain⟨ad,e1,m0,m1,m2⟩:=Zch HRE.out (c:Int) (by omega) hltc
   cases e1
   rw[show ZaD l0_1 (c:Int)=l0_1.getD c zE by unfold ZaD;rw[Int.toNat_natCast],hcv] at m1
   replace m1:=Zx HBr.out m1
   rw[Int.toNat_natCast] at m1
   clear m0 m2 hcv
   have hlta:=Zc wr _ m1
   have HIV:=Za hin;have HST:=Za hst
   have HQ:=Za (And.intro hqb hqm)
   rw[hnc] at HN
   have hq1':=Za hq1
   have hqn':=Za hqn
   clear hin hst hqb hqm hnc hq1 hqn hv hcl
   go_wp2
   clear m1 hlta hltc hc00 hltz
   obtain⟨wo,rfl⟩:∃wo:World,wo=wr:=⟨_,rfl⟩
   have HGL:=Za (And.intro HIr.out.2.lt HIr.out.2.base)
   go_loopg [9,10] n (fun gg s10 s11 wx=>∃(i:Nat),s10=.int .i64 ((bit l0_1 l i v:Nat):Int)∧s11=.int .i64 (i:Int)∧Aside0 (i≤n)∧Aside0 (n - i≤gg)∧Aside0 (Below wo.heap.size wo wx))
   case atStart=>exact⟨0,rfl,rfl,⟨Nat.zero_le _⟩,⟨by omega⟩,⟨Below.refl _ _⟩⟩
   case round=>
    obtain⟨i,rfl,rfl,HI3,HG3,HB3⟩:=hrel
    replace hc0:=Zx HB3.out hc0
    replace hc1:=Zx HB3.out hc1
    have hlt1:w.heap.size<wr.heap.size:=Zc _ _ hc0
    obtain⟨i1,i2,i3⟩:=HIV.out i
    have HX1:=Za (HST.out i)
    by_cases hin:i<n
    ·have hiz:(i:Int)<(n:Int):=by omega
     have hbz:((bit l0_1 l i v:Nat):Int)<(n:Int):=by omega
     obtain⟨xl,_⟩:=(HIr.out.2.low HB3.out).cell (i:=((bit l0_1 l i v:Nat):Int)) (by omega) hbz
     rw[ZaW,Int.toNat_natCast] at xl
     generalize bit l0_1 l i v=b at xl i1 i2 i3 HX1 hbz ⊢
     generalize l.getD b 0=x at xl i2 i3 HX1
     obtain⟨ad2,e1,m0,_⟩:=Zch HRE.out x i2 i3
     cases e1
     rw[show ZaD l0_1 x=l0_1.getD x.toNat zE from rfl] at m0
     replace m0:=Zx (HBr.out.trans (HB3.out.mono HBr.out.size)) m0
     have hlta:=Zc wr _ m0
     have HX2:=Za (show((bit l0_1 l (i+1) v:Nat):Int)=(l0_1.getD x.toNat zE).f0 by
      rw[HX1.out]
      have:=HED.out _ (ZaJ (l:=l0_1) (i:=x.toNat) (by omega) zE)
      omega)
     generalize (l0_1.getD x.toNat zE).f0=f at m0 HX2
     have hgl:=Nat.lt_of_lt_of_le HGL.out.1 HB3.out.size
     go_wp2
     go_quiet (fail)
     go_wp2
     go_roundg (n - (i+1))
     case measure=>have:=HG3.out;omega
     case rel=>exact⟨i+1,by rw[HX2.out],by go_num,⟨by omega⟩,⟨by omega⟩,⟨Zn HB3.out _⟩⟩
    ·have hiz:¬(i:Int)<(n:Int):=by omega
     obtain rfl:n=i:=by have:=HI3.out;omega
     have HBa:=Za (HBr.out.trans (HB3.out.mono HBr.out.size))
     have HLa:=Za (HIr.out.2.low HB3.out)
     have HGL2:=Za (And.intro HLa.out.lt HLa.out.base)
     have HC4:=Za (And.intro hc0 hc1)
     clear i1 i2 i3
     obtain⟨a,ha⟩:∃a,a=bit l0_1 l n v:=⟨_,rfl⟩
     have HIV2:=Za (show ∀m,bit l0_1 l m a<n∧0≤l.getD (bit l0_1 l m a) 0∧l.getD (bit l0_1 l m a) 0<l0_1.length from fun m=>by rw[ha,← Zcg];exact HIV.out (m+n))
     have HST2:=Za (show ∀m,bit l0_1 l (m+1) a=(l0_1.getD (l.getD (bit l0_1 l m a) 0).toNat zE).f0.toNat from fun m=>by rw[ha,← Zcg,← Zcg,show m+1+n=m+n+1 by omega];exact HST.out (m+n))
     rw[← ha] at HQ HN ⊢
     clear ha HX1 HIV HST
     go_wp2_with ((with_reducible refine ZF (N:=76) rfl ?_);refine Kd.R_lit (Kd.int .i64) _ 3 ?hg (N:=76) ?hd (xs:=([]:List Int)) (inner:=[]) (ok:=fun _=>True) (okp:=fun _=>True) ?hr ?hp (fun _ hk=>hk) trivial (Below.refl _ _) (Nat.le_refl _) (by simp) ?_;(case hd=>rfl);(case hg=>rfl);(case hr=>first|(go_simp;done)|(go_simp;rfl));(case hp=>exact(Reps.none _ _));intro v0 wp ho hb _ _)
     have HO0:=Za (Kd.R_mono (ok':=fun k=>k≠gl) (Kd.R_bound ho) (fun k hk=>by have:=hk.2.1;have:=HGL2.out.1;omega))
     replace HO0:=Za (Kd.R_lower HO0.out (Zc _ _ HC4.out.1))
     replace HLa:=Za (HLa.out.low hb)
     replace HBa:=Za (HBa.out.trans (hb.mono HBa.out.size))
     replace HC4:=Za (And.intro (Zx hb HC4.out.1) (Zx hb HC4.out.2))
     clear ho hb hc0 hc1
     go_loopg [11,12] q (fun gg s12 s13 wx=>∃(i:Nat),s13=.int .i64 ((bit l0_1 l i a:Nat):Int)∧Aside0 (i≤q)∧Aside0 (q - i≤gg)∧Aside0 (Kd.R (Kd.int .i64) 3 wx (w.heap.size+1) (fun k=>k≠gl) s12 (cycB l0_1 l a i).reverse)∧Aside0 (IR wx (w.heap.size+1) gl n cl2 l)∧Aside0 (Below (w.heap.size+1) wp wx))
     case atStart=>exact⟨0,rfl,⟨Nat.zero_le _⟩,⟨by omega⟩,HO0,HLa,⟨Below.refl _ _⟩⟩
     case round=>
      obtain⟨i,rfl,HI4,HG4,HO4,HL4,HB4⟩:=hrel
      obtain⟨Ao,co,eo⟩:=Kd.R_slice HO4.out
      rw[List.length_reverse,ZdZ] at eo
      subst eo
      have hc0:=(HB4.out.cell (p:=⟨w.heap.size,0,none⟩) (by dsimp only;omega)).trans HC4.out.1
      have hc1:=(HB4.out.cell (p:=⟨w.heap.size,1,none⟩) (by dsimp only;omega)).trans HC4.out.2
      have hgl:=HL4.out.lt
      have hlt1:=Zc _ _ hc0
      have HLE:=Za (show(cycB l0_1 l a i).length=i from ZdZ _ _ _ _)
      have HLT4:=Za hlt1
      by_cases hiq:i<q
      ·obtain⟨i1,i2,i3⟩:=HIV2.out i
       have HX1:=Za (HST2.out i)
       have HCY:=Za (cycB_succ l0_1 l a i)
       have HNE:=Za (show i=0∨bit l0_1 l i a≠a by
        rcases Nat.eq_zero_or_pos i with h|h
        ·exact .inl h
        ·exact .inr (HQ.out.2 i h hiq))
       have hbz:((bit l0_1 l i a:Nat):Int)<(n:Int):=by omega
       obtain⟨xl,_⟩:=HL4.out.cell (i:=((bit l0_1 l i a:Nat):Int)) (by omega) hbz
       rw[ZaW,Int.toNat_natCast] at xl
       generalize hbb:bit l0_1 l i a=b at xl i1 i2 i3 HX1 HCY HNE hbz ⊢
       generalize hxx:l.getD b 0=x at xl i2 i3 HX1 HCY
       have HXB:=Za hxx;clear hxx
       obtain⟨ad2,e1,m0,_⟩:=Zch HRE.out x i2 i3
       cases e1
       rw[show ZaD l0_1 x=l0_1.getD x.toNat zE from rfl] at m0
       have HB5:=Za (HBa.out.trans (HB4.out.mono (Nat.le_succ _)))
       have HM0:=Za m0
       have HX2:=Za (show((bit l0_1 l (i+1) a:Nat):Int)=(l0_1.getD x.toNat zE).f0 by
        rw[HX1.out]
        have:=HED.out _ (ZaJ (l:=l0_1) (i:=x.toNat) (by omega) zE)
        omega)
       generalize (l0_1.getD x.toNat zE).f0=f at HM0 HX2
       clear hbb m0 HX1
       have hck:(((i:Int) == 0)=true)∨(((i:Int) == 0)=false∧(((b:Nat):Int) != ((a:Nat):Int))=true):=by
        rcases HNE.out with h|h
        ·left;subst h;rfl
        ·rcases Nat.eq_zero_or_pos i with h2|h2
         ·left;subst h2;rfl
         ·right;exact⟨by simp;omega,by simp;omega⟩
       rcases hck with hck|⟨hck,hck2⟩
       all_goals
        go_wp2_with (first|((with_reducible refine ZF (N:=90) rfl ?_);refine Kd.R_lit (Kd.int .i64) _ 3 ?hg (N:=90) ?hd (xs:=([x]:List Int)) (inner:=[.int .i64 x]) (ok:=fun _=>True) (okp:=fun _=>True) ?hr ?hp (fun _ hk=>hk) trivial (Below.refl _ _) (Nat.le_refl _) (by simp) ?_;(case hd=>rfl);(case hg=>rfl);(case hr=>first|(go_simp;done)|(go_simp;rfl));(case hp=>exact(Reps.one (show Kd.M (Kd.int .i64) _ _ _ x [.int .i64 x] from rfl) (Reps.none _ _)));intro vq wq hoq hbq _ _;have HQ1:=Za (Kd.R_mono (ok':=fun k=>k≠gl) (Kd.R_bound hoq) (fun k hk=>by have:=hk.2.1;omega));replace HQ1:=Za (Kd.R_lower HQ1.out hlt1);have HQO:=Za (Zb (Kd.R_reads' HO4.out).2.2 hbq);have HQL:=Za (HL4.out.low hbq);have HQB:=Za (HB4.out.trans (hbq.mono hlt1));have hqs:=hbq.size;clear hoq hbq)|((with_reducible refine ZU (b:=.append) (xs:=#[.tmp 90,.tmp 91]) rfl ?_);at_builtin;refine Kd.R_append_row (Value.int .i64) 0 (w0:=wp) (w.heap.size+1) rfl (.tmp 90) (.tmp 91) 37 3 (.int .i64 0) 8 rfl Tryz.underlying37 Zbl rfl (by decide) vq [x] (cycB l0_1 l a i).reverse Ao i co (fun k=>k≠gl) rfl rfl ?aF HQ1.out ?aR HQB.out ?aS ?aL ?_;(case aF=>intro k hk;show k≠gl;omega);(case aR=>have h9:=HQO.out;rw[List.length_reverse,HLE.out] at h9;exact h9);(case aS=>omega);(case aL=>have:=hqn'.out;simp only[List.length_cons,List.length_nil];omega);intro v1 w1 ho hb hg _))
        have hc0':=(hb.cell (p:=⟨w.heap.size,0,none⟩) (by dsimp only;omega)).trans HC4.out.1
        have hc1':=(hb.cell (p:=⟨w.heap.size,1,none⟩) (by dsimp only;omega)).trans HC4.out.2
        have HL5:=Za (show IR w1 (w.heap.size+1) gl n cl2 l from Kd.R_grown HQL.out hg (fun k hk he=>HQ1.out.1 k he.symm hk))
        have xl':=(HL5.out.cell (i:=((b:Nat):Int)) (by omega) hbz).1
        rw[ZaW,Int.toNat_natCast,HXB.out] at xl'
        have HO5:=Za ho
        rw[show[x] ++ (cycB l0_1 l a i).reverse=(cycB l0_1 l a (i+1)).reverse by rw[HCY.out];simp] at HO5
        have HB6:=Za hb
        have m0:=Zx (HBa.out.trans (hb.mono (Nat.le_succ _))) HM0.out
        have hltw:=Zc _ _ m0
        have hltg:=HL5.out.lt
        have hltw2:=Zc _ _ hc0'
        clear ho hb hg hc0 hc1 xl HCY hlt1 hqs
        go_wp2
        go_quiet (fail)
        go_wp2
        go_roundg (q - (i+1))
        case measure=>have:=HG4.out;omega
        case rel=>exact⟨i+1,by rw[HX2.out],⟨by omega⟩,⟨by omega⟩,⟨Kd.R_drewN HO5.out _⟩,⟨Kd.R_drewN HL5.out _⟩,⟨Zn HB6.out _⟩⟩
      ·obtain rfl:q=i:=by have:=HI4.out;omega
       have hck:((q:Int) == 0)=false:=by have:=hq1'.out;simp;omega
       have hck2:(((bit l0_1 l q a:Nat):Int) != ((a:Nat):Int))=false:=by rw[HQ.out.1];simp
       rw[HQ.out.1] at hck2 ⊢
       have HB5:=Za (HBa.out.trans (HB4.out.mono (Nat.le_succ _)))
       have HRO:=Za (Kd.R_mono (ok':=fun _=>True) (Kd.R_lower HO4.out (Nat.le_succ _)) (fun _ _=>trivial))
       go_wp2
       go_ret
       exact⟨_,rfl,by rw[← HN.out];exact HRO.out,HB5.out⟩
end Go.Proofs.YtoeimopgoaffcaaGreatDoor.Pr
