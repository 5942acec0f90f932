/- The texts of one claim, put together by a program of this session. -/
import Derived.Deep.LoopGhost
import Derived.Test.YtpoffpdaadhkgaaBCtc1x1
import Derived.Test.YtpoffpdaadhkgaaBCtc1x10
import Derived.Test.YtpoffpdaadhkgaaBCtc1x3
import Derived.Test.YtpoffpdaadhkgaaBCtc1x6
namespace Go.Proofs.Ytpoffpdaadhkgaa.Pr
open Go.RowKit Go.Proofs.YtpoffpdaadhkgaaW.PrintWords Go.Proofs.YtpoffpdaadhkgaaW.PrintLast Go.Proofs.YtpoffpdaadhkgaaW.PrintMore
attribute [local go_sem] Zaa Z8 Zak Zaj Z5 Z4 Z9 Z7
set_option linter.unusedVariables false
set_option linter.unusedSimpArgs false
open Go.Proofs.Ytpoffpdaadhkgaa.Ni
def Za5.f (_k:Nat) (a0_0:Int) (l0_1:List (S148)) (a1:Int):Option (List Int×Bool):=some (if ZaW a0_0 l0_1=true∧inN a0_0 a1=true then sfB a0_0 l0_1 a1 a0_0.toNat else([],false))
set_option maxHeartbeats 8000000 in
set_option maxRecDepth 100000 in
theorem Za5.calls (k:Nat) (a0_0:Int) (A0_1:Option Addr) (c0_1:Nat) (l0_1:List (S148)) (a1:Int) (r1:List Int) (r2:Bool) (w:World) (hr0_1:Kd.C k148 w A0_1 l0_1.length l0_1) (hc0_1:l0_1.length≤c0_1) (h:Za5.f k a0_0 l0_1 a1=some (r1,r2)) :
  Calls Try.prog 170 #[.agg #[.int .i64 a0_0,.slice A0_1 l0_1.length c0_1],.int .i64 a1] w fun e w'=>∃v0_:Value,e=.returned (.tuple #[v0_,.bool r2])∧Kd.R (Kd.int .i64) 3 w' w.heap.size (fun _=>True) v0_ r1∧Below w.heap.size w w':=by
 have h':=Zg h
 clear h
 have HG:=Za fun (W:World) (hb:Below w.heap.size w W)=>ZW.calls (2 ^ 66) a0_0 A0_1 c0_1 l0_1 _ W (Zb hr0_1 hb) hc0_1 (Zb9 a0_0 l0_1 (2 ^ 66) (Nat.le_refl _))
 have B1:=Za (Zq (Below.refl w.heap.size w) (.cells #[.int .i64 a0_0,.slice A0_1 l0_1.length c0_1] 95))
 have K0:=Za (show(w.alloc (.cells #[.int .i64 a0_0,.slice A0_1 l0_1.length c0_1] 95)).cell? ⟨w.heap.size,0,none⟩=some (.int .i64 a0_0) by go_simp)
 have K1:=Za (show(w.alloc (.cells #[.int .i64 a0_0,.slice A0_1 l0_1.length c0_1] 95)).cell? ⟨w.heap.size,1,none⟩=some (.slice A0_1 l0_1.length c0_1) by go_simp)
 have hu:=Try.underlying95
 have hu2:=Try.underlying148
 have HRE:=Za hr0_1
 have hL:l0_1.length≤9223372036854775807:=hr0_1.2.1
 clear hr0_1 hc0_1
 cases hg:ZaW a0_0 l0_1 with
 | false=>
  rw[hg] at h' HG
  have HN:=Za (show(([]:List Int),false)=(r1,r2) from h')
  clear h' hg
  obtain⟨e1,e2⟩:=Prod.mk.inj HN.out
  subst e1;subst e2;clear HN
  go_enter Try.func170,Try.ntmps170
  go_wp2_with (go_at_call 166;refine(HG.out _ B1.out).mono ?_;rintro e w1 ⟨rfl,hb⟩)
  go_ret2
  exact⟨_,rfl,Kd.R_nil _ _ _ _ _,B1.out.trans (hb.mono B1.out.size)⟩
 | true=>
 rw[hg] at h' HG
 obtain⟨h0,h8,h80,hed⟩:=Zci hg
 clear hg
 obtain⟨n,rfl⟩:=Int.eq_ofNat_of_zero_le h0
 rw[Int.toNat_natCast] at h'
 have HED:=Za hed
 have hn8:n≤8:=by omega
 clear hed h0 h8
 have HIN:=Za (show Zba l0_1 n from fun e he=>by have:=HED.out e he;omega)
 have hwr:wrap64 ((n:Int) - 1)=(n:Int) - 1:=Za8 (by omega) (by omega)
 cases hq:inR a1 0 ((n:Int) - 1) with
 | false=>
  have hq2:inN (n:Int) a1=false:=by
   rw[← hq];unfold inN inR;rw[Bool.eq_iff_iff];simp only[Bool.and_eq_true,decide_eq_true_eq];omega
  rw[hq2] at h'
  have HN:=Za (show(([]:List Int),false)=(r1,r2) from h')
  clear h' hq2
  obtain⟨e1,e2⟩:=Prod.mk.inj HN.out
  subst e1;subst e2;clear HN
  go_enter Try.func170,Try.ntmps170
  go_wp2_with (first|(go_at_call 166;refine(HG.out _ B1.out).mono ?_;rintro e w1 ⟨rfl,hb⟩;have hc0:=ZK hb K0.out;have hlt:=Zc _ _ hc0)|(go_at_call 87;refine(inR_q _ _ _ _).mono ?_;rintro e w2 ⟨rfl,nd,rfl⟩))
  go_ret2
  exact⟨_,rfl,Kd.R_nil _ _ _ _ _,Zm (B1.out.trans (hb.mono B1.out.size)) _⟩
 | true=>
 have hq2:inN (n:Int) a1=true:=by
  rw[← hq];unfold inN inR;rw[Bool.eq_iff_iff];simp only[Bool.and_eq_true,decide_eq_true_eq];omega
 rw[hq2,if_pos ⟨rfl,rfl⟩] at h'
 obtain⟨q0,q1⟩:=ZcL.1 hq2
 clear hq2
 obtain⟨a,rfl⟩:=Int.eq_ofNat_of_zero_le q0
 have HN:=Za h'
 clear h'
 have hn1:=Za (show 1≤n by omega)
 go_enter Try.func170,Try.ntmps170
 go_wp2_with (first|(go_at_call 166;refine(HG.out _ B1.out).mono ?_;rintro e w1 ⟨rfl,hb⟩;have hc0:=ZK hb K0.out;have hc1:=ZK hb K1.out;have hlt:=Zc _ _ hc0;have HB:=Za (B1.out.trans (hb.mono B1.out.size));clear hb)|(go_at_call 87;refine(inR_q _ _ _ _).mono ?_;rintro e w2 ⟨rfl,nd,rfl⟩;replace HB:=Za (Zm HB.out nd);have hb:=Zm (Below.refl w1.heap.size w1) nd;replace hc0:=ZK hb hc0;replace hc1:=ZK hb hc1;replace hlt:=Zc _ _ hc0;clear hb)|((with_reducible refine ZC (N:=24) rfl ?_);refine Kd.R_make (Kd.int .i64) _ 3 rfl (N:=24) rfl 33 _ _ rfl (n:Int) rfl rfl Try.underlying33 (.int .i64 0) 8 Za1 rfl (by decide) (by omega) 0 (ok:=fun _=>True) (okp:=fun _=>True) rfl (fun _ hk=>hk) trivial (by omega) (by omega) (Below.refl _ _) (Nat.le_refl _) ?_;intro vd wd ho hb _ _;rw[Int.toNat_natCast] at ho;obtain⟨gd,cd,e1,_⟩:=Kd.R_form ho (by rw[List.length_replicate];exact hn1.out);rw[List.length_replicate] at e1;subst e1;have HD:=Za (IR.of (Kd.R_lower ho hlt));replace hc0:=ZK hb hc0;replace hc1:=ZK hb hc1;replace hlt:=Zc _ _ hc0;replace HB:=Za (Zy HB.out hb);clear ho hb)|((with_reducible refine ZC (N:=27) rfl ?_);refine Kd.R_make (Kd.int .i64) _ 3 rfl (N:=27) rfl 33 _ _ rfl (n:Int) rfl rfl Try.underlying33 (.int .i64 0) 8 Za1 rfl (by decide) (by omega) 0 (ok:=fun _=>True) (okp:=fun _=>True) rfl (fun _ hk=>hk) trivial (by omega) (by omega) (Below.refl _ _) (Nat.le_refl _) ?_;intro vl wl ho hb _ _;rw[Int.toNat_natCast] at ho;obtain⟨gl,cl2,e1,_⟩:=Kd.R_form ho (by rw[List.length_replicate];exact hn1.out);rw[List.length_replicate] at e1;subst e1;have hdl:gd≠gl:=Nat.ne_of_lt (Nat.lt_of_lt_of_le HD.out.lt (IR.base (IR.of ho)));have HL:=Za (IR.of (Kd.R_lower ho hlt));replace HD:=Za (HD.out.low hb);replace hc0:=ZK hb hc0;replace hc1:=ZK hb hc1;replace hlt:=Zc _ _ hc0;replace HB:=Za (Zy HB.out hb);clear ho hb)|((with_reducible refine ZC (N:=30) rfl ?_);refine Kd.R_make Kd.bool _ 4 rfl (N:=30) rfl 174 _ _ rfl (n:Int) rfl rfl Try.underlying174 (.bool false) 1 info4 rfl (by decide) (by omega) false (ok:=fun _=>True) (okp:=fun _=>True) rfl (fun _ hk=>hk) trivial (by omega) (by omega) (Below.refl _ _) (Nat.le_refl _) ?_;intro vk wk ho hb _ _;rw[Int.toNat_natCast] at ho;obtain⟨gn,ck,e1,_⟩:=Kd.R_form ho (by rw[List.length_replicate];exact hn1.out);rw[List.length_replicate] at e1;subst e1;have hdk:gd≠gn:=Nat.ne_of_lt (Nat.lt_of_lt_of_le HD.out.lt (BR.base (BR.of ho)));have hlk:gl≠gn:=Nat.ne_of_lt (Nat.lt_of_lt_of_le HL.out.lt (BR.base (BR.of ho)));have HKN:=Za (BR.of (Kd.R_lower ho hlt));replace HD:=Za (HD.out.low hb);replace HL:=Za (HL.out.low hb);replace hc0:=ZK hb hc0;replace hc1:=ZK hb hc1;replace hlt:=Zc _ _ hc0;replace HB:=Za (Zy HB.out hb);clear ho hb;obtain⟨xq,zq⟩:=HKN.out.cell (i:=(a:Int)) q0 q1;rw[Int.toNat_natCast] at xq zq;have hgn:=HKN.out.lt))
 have hgd0:=HD.out.base
 have hgl0:=HL.out.base
 have hgn0:=HKN.out.base
 have hdl2:=hdl.symm
 have hdk2:=hdk.symm
 have hlk2:=hlk.symm
 have HI3:=Za (And.intro (HD.out.far (p:=⟨gn,a,none⟩) hdk (.bool true)) (And.intro (HL.out.far (p:=⟨gn,a,none⟩) hlk (.bool true)) (HKN.out.put (a:Int) true)))
 rw[Int.toNat_natCast] at HI3
 have HC:=Za (And.intro ((Zai (p:=⟨gn,a,none⟩) (W:=wk) (by dsimp only;omega) (.bool true)).trans hc0) ((Zai (p:=⟨gn,a,none⟩) (W:=wk) (by dsimp only;omega) (.bool true)).trans hc1))
 have HLT:=Za (Zc _ _ HC.out.1)
 have HBk:=Za (HB.out.setCell (p:=⟨gn,a,none⟩) (show w.heap.size≤gn by omega) (.bool true))
 clear hc0 hc1 hlt xq zq HD HL HKN HB hgn
 generalize wk.setCell ⟨gn,a,none⟩ (.bool true)=wo at HI3 HC HLT HBk ⊢
 go_loopg [9] n (fun gg s9 wr=>∃(kk:Nat) (d l:List Int) (kn:List Bool),s9=.int .i64 (kk:Int)∧Aside0 (kk≤n)∧Aside0 (n - kk≤gg)∧Aside0 (isf l0_1 (n - kk) (d,kn,false)=isf l0_1 n (kst0 n a))∧Aside0 (IR wr (w.heap.size+1) gd n cd d∧IR wr (w.heap.size+1) gl n cl2 l∧BR wr (w.heap.size+1) gn n ck kn)∧Aside0 (Below w.heap.size w wr)∧Aside0 ((wr.cell? ⟨w.heap.size,0,none⟩=some (.int .i64 (n:Int))∧wr.cell? ⟨w.heap.size,1,none⟩=some (.slice A0_1 l0_1.length c0_1))∧w.heap.size<wr.heap.size))
 case atStart=>exact⟨0,_,_,_,rfl,⟨Nat.zero_le _⟩,⟨by omega⟩,⟨rfl⟩,HI3,HBk,⟨HC.out,HLT.out⟩⟩
 case round=>
  obtain⟨kk,d,l,kn,rfl,HK,HGG,HRD,HIr3,HBr,HCr⟩:=hrel
  obtain⟨⟨hc0,hc1⟩,hlt0⟩:=HCr.out
  by_cases hkn:kk<n
  ·have hltz:(kk:Int)<(n:Int):=by omega
   have HW:=Za (Zbj.own (n:Int) A0_1 c0_1 l0_1 w wr HRE.out HBr.out (w.heap.size+1) (w.heap.size+1) gd gl gn n cd cl2 ck d l kn HIN.out h80 hn8 ⟨HIr3.out.1,HIr3.out.2.1,HIr3.out.2.2,Below.refl _ _⟩ ⟨Nat.le_succ _,hlt0,hgd0,hgl0,hgn0⟩ hdl hdk hlk)
   have HSK:=Za (srnd_k l0_1 0 (d,l,kn,-1))
   rw[show sknow (d,l,kn,-1)=(d,kn,false) from rfl] at HSK
   generalize srnd l0_1 0 (d,l,kn,-1)=X at HW HSK
   obtain⟨d2,l2,kn2,ch⟩:=X
   dsimp only at HW
   have HIS:=Za (show isf l0_1 (n - kk) (d,kn,false)=(if (krnd l0_1 (d,kn,false)).2.2=false then some (krnd l0_1 (d,kn,false)) else isf l0_1 (n - (kk+1)) (krnd l0_1 (d,kn,false))) by
    rw[show n - kk=(n - (kk+1))+1 by omega];rfl)
   rw[← HSK.out] at HIS
   clear HSK
   by_cases hch:ch<0
   ·have HU:=Za (show isf l0_1 n (kst0 n a)=some (d2,kn2,decide (0≤ch)) by
     rw[← HRD.out,HIS.out];exact if_pos (Zf (show ¬0≤ch by omega)))
    clear HIS
    go_wp2_with (go_at_call 167;refine HW.out.mono ?_;rintro e w2 ⟨rfl,hs⟩)
    have hcc0:=(hs.b.cell (p:=⟨w.heap.size,0,none⟩) (by dsimp only;omega)).trans hc0
    have HS2:=Za hs
    have HB2:=Za (HBr.out.trans (hs.b.mono (Nat.le_succ _)))
    have HFL:=Za (show(finB (d2,kn2,decide (0≤ch))).length=d2.length from Zdk _)
    have HDL:=Za hs.d.reads.1
    clear hs hcc0 hc0 hc1 hlt0
    have HR2:=Za (show(finB (d2,kn2,decide (0≤ch)),true)=(r1,r2) by
     rw[← HN.out]
     unfold sfB
     rw[Int.toNat_natCast,Int.toNat_natCast,HU.out])
    obtain⟨e1,e2⟩:=Prod.mk.inj HR2.out
    subst e2;have HR1:=Za e1;clear e1 HR2 HN HU
    have HAT:=Za fun (j:Nat) (hj:j<d2.length)=>finB_at (s:=(d2,kn2,decide (0≤ch))) hj
    generalize finB (d2,kn2,decide (0≤ch))=fb at HFL HAT HR1
    dsimp only at HAT
    go_loopg [10,48] n (fun gg _ s48 wx=>∃j:Nat,s48=.int .i64 (j:Int)∧Aside0 (j≤n)∧Aside0 (n - j≤gg)∧Aside0 (IR wx (w.heap.size+1) gd n cd (fb.take j ++ d2.drop j)∧BR wx (w.heap.size+1) gn n ck kn2)∧Aside0 (Below w.heap.size w wx))
    case atStart=>exact⟨0,rfl,⟨Nat.zero_le _⟩,⟨by omega⟩,⟨HS2.out.d,HS2.out.k⟩,HB2⟩
    case round=>
     obtain⟨j,rfl,HJ,HG2,HI2,HBx⟩:=hrel
     by_cases hjn:j<n
     ·have hjz:(j:Int)<(n:Int):=by omega
      have h0j:(0:Int)≤(j:Int):=by omega
      have HJD:=Za (show j<d2.length by have:=HDL.out;omega)
      obtain⟨xv,zv⟩:=HI2.out.1.cell h0j hjz
      obtain⟨xq,_⟩:=HI2.out.2.cell h0j hjz
      rw[Za4,fill_at HFL.out HJD.out,Int.toNat_natCast] at xv
      rw[Int.toNat_natCast] at xq zv
      have HA:=Za (HAT.out j HJD.out)
      have hgd:=HI2.out.1.lt
      have hgn:=HI2.out.2.lt
      generalize hxx:d2.getD j 0=x at xv HA
      generalize kn2.getD j false=p at xq HA
      have HXX:=Za hxx;clear hxx
      rcases(show(Aside0 (fb.getD j 0=1000000)∧((p=false)∨(p=true∧(1000000:Int)<x)))∨(Aside0 (x=fb.getD j 0)∧p=true∧¬(1000000:Int)<x) by
       cases p with
       | false=>left;exact⟨⟨HA.out.trans (if_neg (by simp))⟩,.inl rfl⟩
       | true=>
        have e:=HA.out.trans (if_pos rfl)
        by_cases h:(1000000:Int)<x
        ·left;exact⟨⟨by rw[e];omega⟩,.inr ⟨rfl,h⟩⟩
        ·right;exact⟨⟨by rw[e];omega⟩,rfl,h⟩) with ⟨hset,hway⟩|⟨hk,rfl,hway⟩
      ·rcases hway with rfl|⟨rfl,hway⟩
       all_goals
        go_wp2
        go_roundg (n - (j+1))
        case measure=>have:=HG2.out;omega
        case rel=>
         refine⟨j+1,by go_num,⟨by omega⟩,⟨by omega⟩,⟨?_,HI2.out.2.far hdk2 _⟩,⟨HBx.out.setCell (p:=⟨gd,j,none⟩) (show w.heap.size≤gd by omega) _⟩⟩
         rw[← Zcu HFL.out HJD.out,hset.out]
         exact HI2.out.1.put (j:Int) _
      ·go_wp2
       go_roundg (n - (j+1))
       case measure=>have:=HG2.out;omega
       case rel=>
        refine⟨j+1,by go_num,⟨by omega⟩,⟨by omega⟩,⟨?_,HI2.out.2⟩,HBx⟩
        rw[← fill_keep HFL.out HJD.out (HXX.out.trans hk.out)]
        exact HI2.out.1
     ·have hjz:¬(j:Int)<(n:Int):=by omega
      have HF:=Za (show fb.take j ++ d2.drop j=fb by
       have h1:=HFL.out;have h2:=HDL.out;have h3:=HJ.out
       rw[List.take_of_length_le (by omega),List.drop_eq_nil_of_le (by omega),List.append_nil])
      go_wp2
      go_ret2
      exact⟨_,rfl,by have:=HI2.out.1;rw[HF.out,HR1.out] at this;exact Kd.R_mono (Kd.R_lower this (Nat.le_succ _)) (fun _ _=>trivial),HBx.out⟩
   ·have hch2:¬ch<0:=hch
    have HU:=Za (show isf l0_1 n (kst0 n a)=isf l0_1 (n - (kk+1)) (d2,kn2,decide (0≤ch)) by
     rw[← HRD.out,HIS.out];exact if_neg (by show ¬decide (0≤ch)=false;rw[Ze (show 0≤ch by omega)];simp))
    clear HIS
    go_wp2_with (go_at_call 167;refine HW.out.mono ?_;rintro e w2 ⟨rfl,hs⟩)
    have hcc0:=(hs.b.cell (p:=⟨w.heap.size,0,none⟩) (by dsimp only;omega)).trans hc0
    have hcc1:=(hs.b.cell (p:=⟨w.heap.size,1,none⟩) (by dsimp only;omega)).trans hc1
    go_roundg (n - (kk+1))
    case measure=>have:=HGG.out;omega
    case rel=>
     exact⟨kk+1,d2,l2,kn2,by go_num,⟨by omega⟩,⟨by omega⟩,⟨by rw[HU.out];exact isf_c _ _ _ _ _ _⟩,⟨hs.d,hs.l,hs.k⟩,⟨HBr.out.trans (hs.b.mono (Nat.le_succ _))⟩,⟨⟨hcc0,hcc1⟩,Zc _ _ hcc0⟩⟩
  have hltz:¬(kk:Int)<(n:Int):=by omega
  obtain rfl:n=kk:=by have:=HK.out;omega
  have HU:=Za (show sfB (n:Int) l0_1 (a:Int) n=([],false) by
   have e:=HRD.out
   rw[Nat.sub_self] at e
   unfold sfB
   rw[Int.toNat_natCast,Int.toNat_natCast,← e];rfl)
  rw[HU.out] at HN
  obtain⟨e1,e2⟩:=Prod.mk.inj HN.out
  subst e1;subst e2;clear HN HU
  go_wp2
  go_ret2
  exact⟨_,rfl,Kd.R_nil _ _ _ _ _,HBr.out⟩
end Go.Proofs.Ytpoffpdaadhkgaa.Pr
