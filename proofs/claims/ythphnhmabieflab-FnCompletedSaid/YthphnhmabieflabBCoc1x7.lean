/- The texts of one claim, put together by a program of this session. -/
import Derived.Deep.LoopGhost
import Derived.Test.YthphnhmabieflabBCoc1x1
import Derived.Test.YthphnhmabieflabBCoc1x2
import Derived.Test.YthphnhmabieflabBCoc1x3
import Derived.Test.YthphnhmabieflabBCoc1x6
namespace Go.Proofs.Ythphnhmabieflab.Pr
open Go.RowKit Go.Proofs.YthphnhmabieflabW.PrintWords Go.Proofs.YthphnhmabieflabW.PrintLast Go.Proofs.YthphnhmabieflabW.PrintMore
attribute [local go_sem] Zaj Zah Zaq Zap Zab Zaa Zai Zag
set_option linter.unusedVariables false
set_option linter.unusedSimpArgs false
open Go.Proofs.Ythphnhmabieflab.Ni
def Zan.f (a0_0:Int) (l0_1:List (S123)) (a1:Int):Option (List Int×Bool):=some (if Za0 a0_0 l0_1=true∧inN a0_0 a1=true then sfB a0_0 l0_1 a1 (a0_0.toNat+1) else([],false))
def Zan.F (w:World) (E:List ZV) (A:Option Addr) (c n:Nat) (B:Nat) (s:Value×Value) (w':World):Prop:=
 (w'.cell? ⟨B,0,none⟩=some (.int .i64 (n:Int))∧w'.cell? ⟨B,1,none⟩=some (.slice A E.length c))∧Kd.R (Kd.int .i64) 3 w' (w.heap.size+1) (fun _=>True) s.1 (List.replicate n 0)∧Kd.R Kd.bool 4 w' (w.heap.size+1) (fun _=>True) s.2 (List.replicate n false)∧(∀k,s.1.ownBlock=some k→s.2.ownBlock≠some k)∧B<w'.heap.size∧Below w.heap.size w w'
theorem Zan.two {d:List Int} {kn:List Bool} {c:Bool} {E:List ZV} {j:Nat} (hj:j<E.length):krnd (E.drop j) (d,kn,c)=krnd (E.drop (j+1)) (ZaM (d,kn,c) (E.getD j zE)):=by
 rw[Zbo hj zE];rfl
set_option maxHeartbeats 8000000 in
set_option maxRecDepth 100000 in
theorem Zan.calls (a0_0:Int) (A0_1:Option Addr) (c0_1:Nat) (l0_1:List (S123)) (a1:Int) (r1:List Int) (r2:Bool) (w:World) (hr0_1:Kd.C k123 w A0_1 l0_1.length l0_1) (hc0_1:l0_1.length≤c0_1) (h:Zan.f a0_0 l0_1 a1=some (r1,r2)) :
  Calls Try.prog 82 #[.agg #[.int .i64 a0_0,.slice A0_1 l0_1.length c0_1],.int .i64 a1] w fun e w'=>∃v0_:Value,e=.returned (.tuple #[v0_,.bool r2])∧Kd.R (Kd.int .i64) 3 w' w.heap.size (fun _=>True) v0_ r1∧Below w.heap.size w w':=by
 have h':=Zg h
 clear h
 have HG:=Za fun (W:World) (hb:Below w.heap.size w W)=>ZaT.calls a0_0 A0_1 c0_1 l0_1 _ W (Zb hr0_1 hb) hc0_1 rfl
 have B1:=Za (Zq (Below.refl w.heap.size w) (.cells #[.int .i64 a0_0,.slice A0_1 l0_1.length c0_1] 78))
 have K0:=Za (show(w.alloc (.cells #[.int .i64 a0_0,.slice A0_1 l0_1.length c0_1] 78)).cell? ⟨w.heap.size,0,none⟩=some (.int .i64 a0_0) by go_simp)
 have K1:=Za (show(w.alloc (.cells #[.int .i64 a0_0,.slice A0_1 l0_1.length c0_1] 78)).cell? ⟨w.heap.size,1,none⟩=some (.slice A0_1 l0_1.length c0_1) by go_simp)
 have hu:=Try.underlying78
 have hu2:=Try.underlying123
 have HRE:=Za hr0_1
 have hL:l0_1.length≤9223372036854775807:=hr0_1.2.1
 clear hr0_1 hc0_1
 cases hg:Za0 a0_0 l0_1 with
 | false=>
  rw[hg] at h' HG
  have HN:=Za (show(([]:List Int),false)=(r1,r2) from h')
  clear h' hg
  obtain⟨e1,e2⟩:=Prod.mk.inj HN.out
  subst e1;subst e2;clear HN
  go_enter Try.func82,Try.ntmps82
  go_wp2_with (go_at_call 81;refine(HG.out _ B1.out).mono ?_;rintro e w1 ⟨rfl,hb⟩)
  go_ret2
  exact⟨_,rfl,Kd.R_nil _ _ _ _ _,B1.out.trans (hb.mono B1.out.size)⟩
 | true=>
 rw[hg] at h' HG
 obtain⟨h0,h8,h80,hed⟩:=ZbK hg
 clear hg
 obtain⟨n,rfl⟩:=Int.eq_ofNat_of_zero_le h0
 rw[Int.toNat_natCast] at h'
 have HED:=Za hed
 have hn8:n≤8:=by omega
 clear hed h0 h8
 have HIN:=Za (show Zav l0_1 n from fun e he=>by have:=HED.out e he;omega)
 cases hq2:inN (n:Int) a1 with
 | false=>
  rw[hq2] at h'
  have HN:=Za (show(([]:List Int),false)=(r1,r2) from h')
  clear h'
  obtain⟨e1,e2⟩:=Prod.mk.inj HN.out
  subst e1;subst e2;clear HN
  go_enter Try.func82,Try.ntmps82
  go_wp2_with (first|(go_at_call 81;refine(HG.out _ B1.out).mono ?_;rintro e w1 ⟨rfl,hb⟩;have hc0:=Z2 hb K0.out;have hlt:=Zc _ _ hc0)|(go_at_call 52;refine(ZbA _ _ _).mono ?_;rintro e w2 ⟨rfl,nd,rfl⟩))
  go_ret2
  exact⟨_,rfl,Kd.R_nil _ _ _ _ _,Zm (B1.out.trans (hb.mono B1.out.size)) _⟩
 | true=>
 rw[hq2,if_pos ⟨rfl,rfl⟩] at h'
 obtain⟨q0,q1⟩:=ZbR.1 hq2
 obtain⟨a,rfl⟩:=Int.eq_ofNat_of_zero_le q0
 have HN:=Za h'
 clear h'
 have hn1:=Za (show 1≤n by omega)
 go_enter Try.func82,Try.ntmps82
 go_wp2_with (first|(go_at_call 81;refine(HG.out _ B1.out).mono ?_;rintro e w1 ⟨rfl,hb⟩;have hc0:=Z2 hb K0.out;have hc1:=Z2 hb K1.out;have hlt:=Zc _ _ hc0)|(go_at_call 52;refine(ZbA _ _ _).mono ?_;rintro e w2 ⟨rfl,nd,rfl⟩))
 have HB:=Za (Zs (Zm (B1.out.trans (hb.mono B1.out.size)) nd))
 have HC:=Za (And.intro (show(w1.drewN nd).drew.cell? _=_ from hc0) (show(w1.drewN nd).drew.cell? _=_ from hc1))
 have HLT:=Za (show w.heap.size<(w1.drewN nd).drew.heap.size from hlt)
 clear hb HG K0 K1 B1 hc0 hc1 hlt
 refine ZbL (n:=8) (S:=fun w'=>w'.cell? ⟨w.heap.size,0,none⟩=some (.int .i64 (n:Int))∧w'.cell? ⟨w.heap.size,1,none⟩=some (.slice A0_1 l0_1.length c0_1)) (ds:=[]) #[false,false,false,false,false,false,false,false] (by kernel_rfl) rfl rfl HC.out (fun hHeld=>?_)
 generalize (w1.drewN nd).drew=W at HB HC HLT hHeld ⊢
 refine Z7 (i:=0) (N:=some 24) (v:=?_) (a':=?_) #[true,false,false,false,false,false,false,false] rfl rfl (by kernel_rfl) (fun _ _ _ h=>h) (Or.inl ⟨by rfl,?_⟩) ?_ ?_
 rotate_left
 ·intro w'
  go_simp
  with_reducible rfl
 rotate_left
 ·simp only[Act.put,List.setIfInBounds_toArray,List.set_cons_zero,List.set_cons_succ,ZQ,ZR]
  rfl
 refine Z7 (i:=3) (N:=some 27) (v:=?_) (a':=?_) #[true,false,false,true,false,false,false,false] rfl rfl (by kernel_rfl) (fun _ _ _ h=>h) (Or.inl ⟨by rfl,?_⟩) ?_ ?_
 rotate_left
 ·intro w'
  go_simp
  with_reducible rfl
 rotate_left
 ·simp only[Act.put,List.setIfInBounds_toArray,List.set_cons_zero,List.set_cons_succ,ZQ,ZR]
  rfl
 refine take_ (i:=1) (N:=some 25) (v:=?_) (a':=?_) #[true,true,false,true,false,false,false,false] rfl rfl (by kernel_rfl) (fun _ _ _ h=>h) (Or.inl ⟨by rfl,?_⟩) hHeld ?_ ?_
 rotate_left
 ·rintro w' ⟨s0,s1⟩
  go_simp
  with_reducible rfl
 rotate_left
 ·simp only[Act.put,List.setIfInBounds_toArray,List.set_cons_zero,List.set_cons_succ,ZQ,ZR]
  rfl
 refine take_ (i:=4) (N:=some 28) (v:=?_) (a':=?_) #[true,true,false,true,true,false,false,false] rfl rfl (by kernel_rfl) (fun _ _ _ h=>h) (Or.inl ⟨by rfl,?_⟩) hHeld ?_ ?_
 rotate_left
 ·rintro w' ⟨s0,s1⟩
  go_simp
  with_reducible rfl
 rotate_left
 ·simp only[Act.put,List.setIfInBounds_toArray,List.set_cons_zero,List.set_cons_succ,ZQ,ZR]
  rfl
 refine join_ (σ:=Value×Value) 1 #[true,true,true,true,true,true,true,false] (fun s_=>[(26,s_.1),(29,s_.2),(6,s_.1)]) (Zan.F w l0_1 A0_1 c0_1 n w.heap.size) ?_ ?_
 rotate_left
 ·intro hCont
  refine two_ (i:=2) (j:=5) (Ni:=some 26) (Nj:=some 29) #[true,true,true,true,true,false,false,false] #[true,true,false,true,true,true,false,false] rfl rfl rfl rfl (by kernel_rfl) (by decide) (by decide) (fun K hK=>?_) (fun K hK=>?_)
  ·skip
   refine Kd.R_make_step (Kd.int .i64) _ 3 (by rfl) (N:=26) rfl 22 _ _ rfl (n:Int) rfl rfl Try.underlying22 (.int .i64 0) 8 Zbg rfl (by decide) (by omega) 0 (ok:=fun _=>True) (okp:=fun _=>True) rfl (fun _ hk=>hk) trivial (by omega) (by omega) (Below.refl _ _) (Nat.le_refl _) ?_
   intro vm Wm hom hbm _ _
   rw[Int.toNat_natCast] at hom
   have hlt_:=Zc _ _ HC.out.1
   replace HC:=Za (And.intro (Z2 hbm HC.out.1) (Z2 hbm HC.out.2))
   have HM:=Za (Kd.R_lower hom hlt_)
   have HMB:=Za (Kd.R_base hom)
   have HML:=Za (Kd.R_lt hom)
   replace HB:=Za (Zx HB.out hbm)
   clear hom hbm hlt_
   refine hK.out _ _ HC.out (fun hHeld=>?_)
   clear hK K
   refine Zau (a':=?_) ?_ ?_
   rotate_left
   ·show Act.put _ (some 26) _=_
    simp only[Act.put,List.setIfInBounds_toArray,List.set_cons_zero,List.set_cons_succ,ZQ,ZR]
    rfl
   refine Z7 (i:=6) (N:=some 6) (v:=?_) (a':=?_) #[true,true,true,true,true,false,true,false] rfl rfl (by kernel_rfl) (fun _ _ _ h=>h) (Or.inl ⟨by rfl,?_⟩) ?_ ?_
   rotate_left
   ·intro w'
    go_simp
    with_reducible rfl
   rotate_left
   ·simp only[Act.put,List.setIfInBounds_toArray,List.set_cons_zero,List.set_cons_succ,ZQ,ZR]
    rfl
   refine one_ (i:=5) (N:=some 29) #[true,true,true,true,true,true,true,false] rfl rfl (by kernel_rfl) (by decide) (fun K hK=>?_)
   refine Kd.R_make_step Kd.bool _ 4 (by rfl) (N:=29) rfl 149 _ _ rfl (n:Int) rfl rfl Try.underlying149 (.bool false) 1 info4 rfl (by decide) (by omega) false (ok:=fun _=>True) (okp:=fun _=>True) rfl (fun _ hk=>hk) trivial (by omega) (by omega) (Below.refl _ _) (Nat.le_refl _) ?_
   intro vc Wc hoc hbc _ _
   rw[Int.toNat_natCast] at hoc
   have hlt_:=Zc _ _ HC.out.1
   replace HC:=Za (And.intro (Z2 hbc HC.out.1) (Z2 hbc HC.out.2))
   replace HM:=Za (Kd.R_below HM.out hbc)
   have HRR:=Za (Kd.R_lower hoc hlt_)
   have HRB:=Za (Kd.R_base hoc)
   have HRL:=Za (Kd.R_lt hoc)
   replace HB:=Za (Zx HB.out hbc)
   clear hoc hbc hlt_
   refine hK.out _ _ HC.out (fun hHeld=>?_)
   clear hK K
   refine Zau (a':=?_) ?_ ?_
   rotate_left
   ·show Act.put _ (some 29) _=_
    simp only[Act.put,List.setIfInBounds_toArray,List.set_cons_zero,List.set_cons_succ,ZQ,ZR]
    rfl
   exact Zau (by simp only[Zbj,Act.put,List.setIfInBounds_toArray,List.set_cons_zero,List.set_cons_succ]) (hCont (vm,vc) _ ⟨HC.out,HM.out,HRR.out,fun k h1 h2=>by have a1:=HML.out k h1;have a2:=HRB.out k h2;omega,Zc _ _ HC.out.1,HB.out⟩)
  ·skip
   refine Kd.R_make_step Kd.bool _ 4 (by rfl) (N:=29) rfl 149 _ _ rfl (n:Int) rfl rfl Try.underlying149 (.bool false) 1 info4 rfl (by decide) (by omega) false (ok:=fun _=>True) (okp:=fun _=>True) rfl (fun _ hk=>hk) trivial (by omega) (by omega) (Below.refl _ _) (Nat.le_refl _) ?_
   intro vc Wc hoc hbc _ _
   rw[Int.toNat_natCast] at hoc
   have hlt_:=Zc _ _ HC.out.1
   replace HC:=Za (And.intro (Z2 hbc HC.out.1) (Z2 hbc HC.out.2))
   have HRR:=Za (Kd.R_lower hoc hlt_)
   have HRB:=Za (Kd.R_base hoc)
   have HRL:=Za (Kd.R_lt hoc)
   replace HB:=Za (Zx HB.out hbc)
   clear hoc hbc hlt_
   refine hK.out _ _ HC.out (fun hHeld=>?_)
   clear hK K
   refine Zau (a':=?_) ?_ ?_
   rotate_left
   ·show Act.put _ (some 29) _=_
    simp only[Act.put,List.setIfInBounds_toArray,List.set_cons_zero,List.set_cons_succ,ZQ,ZR]
    rfl
   refine one_ (i:=2) (N:=some 26) #[true,true,true,true,true,true,false,false] rfl rfl (by kernel_rfl) (by decide) (fun K hK=>?_)
   refine Kd.R_make_step (Kd.int .i64) _ 3 (by rfl) (N:=26) rfl 22 _ _ rfl (n:Int) rfl rfl Try.underlying22 (.int .i64 0) 8 Zbg rfl (by decide) (by omega) 0 (ok:=fun _=>True) (okp:=fun _=>True) rfl (fun _ hk=>hk) trivial (by omega) (by omega) (Below.refl _ _) (Nat.le_refl _) ?_
   intro vm Wm hom hbm _ _
   rw[Int.toNat_natCast] at hom
   have hlt_:=Zc _ _ HC.out.1
   replace HC:=Za (And.intro (Z2 hbm HC.out.1) (Z2 hbm HC.out.2))
   replace HRR:=Za (Kd.R_below HRR.out hbm)
   have HM:=Za (Kd.R_lower hom hlt_)
   have HMB:=Za (Kd.R_base hom)
   have HML:=Za (Kd.R_lt hom)
   replace HB:=Za (Zx HB.out hbm)
   clear hom hbm hlt_
   refine hK.out _ _ HC.out (fun hHeld=>?_)
   clear hK K
   refine Zau (a':=?_) ?_ ?_
   rotate_left
   ·show Act.put _ (some 26) _=_
    simp only[Act.put,List.setIfInBounds_toArray,List.set_cons_zero,List.set_cons_succ,ZQ,ZR]
    rfl
   refine Z7 (i:=6) (N:=some 6) (v:=?_) (a':=?_) #[true,true,true,true,true,true,true,false] rfl rfl (by kernel_rfl) (fun _ _ _ h=>h) (Or.inl ⟨by rfl,?_⟩) ?_ ?_
   rotate_left
   ·intro w'
    go_simp
    with_reducible rfl
   rotate_left
   ·simp only[Act.put,List.setIfInBounds_toArray,List.set_cons_zero,List.set_cons_succ,ZQ,ZR]
    rfl
   exact Zau (by simp only[Zbj,Act.put,List.setIfInBounds_toArray,List.set_cons_zero,List.set_cons_succ]) (hCont (vm,vc) _ ⟨HC.out,HM.out,HRR.out,fun k h1 h2=>by have a1:=HRL.out k h2;have a2:=HMB.out k h1;omega,Zc _ _ HC.out.1,HB.out⟩)
 clear hHeld
 rintro⟨vm,vc⟩ W2 ⟨hc_,hm_,hr_,hne_,hlt_,hb_⟩
 have hHeld:=hc_
 refine Zau (a':=?_) ?_ ?_
 rotate_left
 ·simp only[Zbj,Act.put,List.setIfInBounds_toArray,List.set_cons_zero,List.set_cons_succ]
  rfl
 refine Z7 (i:=7) (N:=some 7) (v:=?_) (a':=?_) #[true,true,true,true,true,true,true,true] rfl rfl (by kernel_rfl) (fun _ _ _ h=>h) (Or.inl ⟨by rfl,?_⟩) ?_ ?_
 rotate_left
 ·intro w'
  go_simp
  with_reducible rfl
 rotate_left
 ·simp only[Act.put,List.setIfInBounds_toArray,List.set_cons_zero,List.set_cons_succ,ZQ,ZR]
  rfl
 refine Zb5 (by kernel_rfl) ?_
 clear hHeld HC HLT HB
 obtain⟨gd,cd,e1,_⟩:=Kd.R_form hm_ (by rw[List.length_replicate];exact hn1.out)
 obtain⟨gn,ck,e2,_⟩:=Kd.R_form hr_ (by rw[List.length_replicate];exact hn1.out)
 rw[List.length_replicate] at e1 e2
 subst e1;subst e2
 have hdk:gd≠gn:=fun e=>hne_ gd (by simp[Value.ownBlock]) (by simp[Value.ownBlock,e])
 have hdk2:=hdk.symm
 obtain⟨xq,zq⟩:=(BR.of hr_).cell (i:=(a:Int)) q0 q1
 rw[Int.toNat_natCast] at xq zq
 have hgn:=(BR.of hr_).lt
 have hgd0:=(IR.of hm_).base
 have hgn0:=(BR.of hr_).base
 have HI3:=Za (And.intro ((IR.of hm_).far (p:=⟨gn,a,none⟩) hdk (.bool true)) ((BR.of hr_).put (a:Int) true))
 rw[Int.toNat_natCast] at HI3
 have HC:=Za (And.intro ((ZaE (p:=⟨gn,a,none⟩) (W:=W2) (by dsimp only;omega) (.bool true)).trans hc_.1) ((ZaE (p:=⟨gn,a,none⟩) (W:=W2) (by dsimp only;omega) (.bool true)).trans hc_.2))
 have HLT:=Za (Zc _ _ HC.out.1)
 have HBk:=Za (hb_.setCell (p:=⟨gn,a,none⟩) (show w.heap.size≤gn by omega) (.bool true))
 clear hc_ hm_ hr_ hne_ hlt_ hb_
 go_wp2
 clear xq zq hgn
 generalize W2.setCell ⟨gn,a,none⟩ (.bool true)=wo at HI3 HC HLT HBk ⊢
 go_loopg [8] (n+1) (fun gg s8 wr=>∃(kk:Nat) (d:List Int) (kn:List Bool),s8=.int .i64 (kk:Int)∧Aside0 (kk≤n)∧Aside0 (n+1 - kk≤gg)∧Aside0 (isf l0_1 (n+1 - kk) (d,kn,false)=isf l0_1 (n+1) (kst0 n a))∧Aside0 (IR wr (w.heap.size+1) gd n cd d∧BR wr (w.heap.size+1) gn n ck kn)∧Aside0 (Below w.heap.size w wr)∧Aside0 ((wr.cell? ⟨w.heap.size,0,none⟩=some (.int .i64 (n:Int))∧wr.cell? ⟨w.heap.size,1,none⟩=some (.slice A0_1 l0_1.length c0_1))∧w.heap.size<wr.heap.size))
 case atStart=>exact⟨0,_,_,rfl,⟨Nat.zero_le _⟩,⟨by omega⟩,⟨rfl⟩,HI3,HBk,⟨HC.out,HLT.out⟩⟩
 case round=>
  obtain⟨kk,d,kn,rfl,HK,HGG,HRD,HIr,HBr,HCr⟩:=hrel
  obtain⟨⟨hc0,hc1⟩,hlt0⟩:=HCr.out
  clear HI3 HC HLT HBk
  obtain⟨wo2,rfl⟩:∃wo2:World,wo2=wr:=⟨_,rfl⟩
  go_wp2
  go_loopg [9,38] l0_1.length (fun gg2 s9 s38 wr=>∃(j:Nat) (d':List Int) (kn':List Bool) (c':Bool),s9=.bool c'∧s38=.int .i64 (j:Int)∧Aside0 (j≤l0_1.length)∧Aside0 (l0_1.length - j≤gg2)∧Aside0 (krnd (l0_1.drop j) (d',kn',c')=krnd l0_1 (d,kn,false))∧Aside0 (IR wr (w.heap.size+1) gd n cd d'∧BR wr (w.heap.size+1) gn n ck kn')∧Aside0 (Below w.heap.size w wr)∧Aside0 ((wr.cell? ⟨w.heap.size,0,none⟩=some (.int .i64 (n:Int))∧wr.cell? ⟨w.heap.size,1,none⟩=some (.slice A0_1 l0_1.length c0_1))∧w.heap.size<wr.heap.size))
  case atStart=>exact⟨0,d,kn,false,rfl,rfl,⟨Nat.zero_le _⟩,⟨by omega⟩,⟨rfl⟩,HIr,HBr,HCr⟩
  case round=>
   obtain⟨j,d',kn',c',rfl,rfl,HJ,HG2,HRN,HI2,HB2,HC2⟩:=hrel
   clear hc0 hc1 hlt0
   obtain⟨⟨hc0,hc1⟩,hlt0⟩:=HC2.out
   by_cases hjn:j<l0_1.length
   ·have hjz:(j:Int)<(l0_1.length:Int):=by omega
    obtain⟨ad,e1,m0,m1,m2⟩:=Zb8 HRE.out (j:Int) (by omega) hjz
    cases e1
    rw[Int.toNat_natCast] at m0 m1 m2
    have hy:=HED.out _ (ZbH hjn zE)
    have HT:=Za (Zan.two (d:=d') (kn:=kn') (c:=c') hjn)
    rw[show Za6 l0_1 (j:Int)=l0_1.getD j zE by unfold Za6;rw[Int.toNat_natCast]] at m0 m1 m2
    generalize l0_1.getD j zE=y at m0 m1 m2 hy HT
    obtain⟨f0,f1,f2⟩:=y
    obtain⟨y0,y1,y2,y3,_,_⟩:=hy
    dsimp only at m0 m1 m2 y0 y1 y2 y3
    replace m0:=Z2 HB2.out m0
    replace m1:=Z2 HB2.out m1
    replace m2:=Z2 HB2.out m2
    have hlta:=Zc wr _ m0
    obtain⟨xu,_⟩:=HI2.out.1.cell y0 y1
    obtain⟨xv,zv⟩:=HI2.out.1.cell y2 y3
    obtain⟨xp,_⟩:=HI2.out.2.cell y0 y1
    obtain⟨xq,zq⟩:=HI2.out.2.cell y2 y3
    have hgd:=HI2.out.1.lt
    have hgn:=HI2.out.2.lt
    have HW:=Za fun (nq:Nat)=>Zm (Zq (Below.refl wr.heap.size wr) (.cells #[.int .i64 f0,.int .i64 f1,.int .i64 f2] 123)) nq
    have HBX:=Za fun (nq:Nat)=>(show(((wr.alloc (.cells #[.int .i64 f0,.int .i64 f1,.int .i64 f2] 123)).drewN nq).cell? ⟨wr.heap.size,0,none⟩=some (.int .i64 f0)∧((wr.alloc (.cells #[.int .i64 f0,.int .i64 f1,.int .i64 f2] 123)).drewN nq).cell? ⟨wr.heap.size,1,none⟩=some (.int .i64 f1)) from⟨by go_simp,by go_simp⟩)
    have HPQ:=Za (show ZaM (d',kn',c') ⟨f0,f1,f2⟩=if kn'.getD f0.toNat false=true∧(kn'.getD f1.toNat false=false∨wrap64 (rd d' f0+f2)<rd d' f1) then(d'.set f1.toNat (wrap64 (rd d' f0+f2)),kn'.set f1.toNat true,true) else(d',kn',c') from rfl)
    generalize kn'.getD f0.toNat false=p at xp HPQ
    generalize kn'.getD f1.toNat false=q at xq HPQ
    rcases(show(Aside0 (p=true∧(q=false∨wrap64 (rd d' f0+f2)<rd d' f1))∧((p=true∧q=false)∨(p=true∧q=true∧wrap64 (rd d' f0+f2)<rd d' f1)))∨(Aside0 (¬(p=true∧(q=false∨wrap64 (rd d' f0+f2)<rd d' f1)))∧((p=false)∨(p=true∧q=true∧¬wrap64 (rd d' f0+f2)<rd d' f1))) by
     cases p
     ·right;exact⟨⟨by simp⟩,.inl rfl⟩
     ·cases q
      ·left;exact⟨⟨by simp⟩,.inl ⟨rfl,rfl⟩⟩
      ·by_cases h:wrap64 (rd d' f0+f2)<rd d' f1
       ·left;exact⟨⟨by simp[h]⟩,.inr ⟨rfl,rfl,h⟩⟩
       ·right;exact⟨⟨by simp[h]⟩,.inr ⟨rfl,rfl,h⟩⟩) with ⟨hyes,hway⟩|⟨hno,hway⟩
    ·rcases hway with ⟨rfl,rfl⟩|⟨rfl,rfl,hlt⟩
     all_goals
      have HS2:=Za (HPQ.out.trans (if_pos hyes.out))
      clear hyes HPQ
      go_wp2
      go_quiet (fail)
      go_wp2
      have hW:=HW.out nq
      have hx:=HBX.out nq
      generalize (wr.alloc (.cells #[.int .i64 f0,.int .i64 f1,.int .i64 f2] 123)).drewN nq=W at hW hx ⊢
      obtain⟨x0,x1⟩:=hx
      have HWI:=Za (And.intro (HI2.out.1.low hW) (HI2.out.2.low hW))
      have HWC:=Za (And.intro (Z2 hW hc0) (Z2 hW hc1))
      clear xu xv zv xp xq zq m0 m1 m2 HW HBX hc0 hc1
      obtain⟨xv,zv⟩:=HWI.out.1.cell y2 y3
      obtain⟨xq,zq⟩:=HWI.out.2.cell y2 y3
      have HWB:=Za (HB2.out.trans (hW.mono HB2.out.size))
      have hsz:=hW.size
      clear hW
      go_region
      go_wp2
      go_roundg (l0_1.length - (j+1))
      case measure=>have:=HG2.out;omega
      case rel=>
       refine⟨j+1,d'.set f1.toNat (wrap64 (rd d' f0+f2)),kn'.set f1.toNat true,true,rfl,by go_num,⟨by omega⟩,⟨by omega⟩,⟨by rw[← HRN.out,HT.out,HS2.out]⟩,⟨Kd.R_drew ((HWI.out.1.put f1 _).far hdk _),Kd.R_drew ((HWI.out.2.far hdk2 _).put f1 _)⟩,⟨ZaN (Zp (Zp HWB.out (by omega)) (by omega))⟩,⟨⟨?_,?_⟩,?_⟩⟩
       ·exact(ZaE (by dsimp only;omega) _).trans ((ZaE (by dsimp only;omega) _).trans HWC.out.1)
       ·exact(ZaE (by dsimp only;omega) _).trans ((ZaE (by dsimp only;omega) _).trans HWC.out.2)
       ·simp[World.setCell];omega
    ·rcases hway with rfl|⟨rfl,rfl,hlt⟩
     all_goals
      have HS2:=Za (HPQ.out.trans (if_neg hno.out))
      clear hno HPQ
      go_wp2
      go_quiet (fail)
      go_wp2
      have hW:=HW.out nq
      generalize (wr.alloc (.cells #[.int .i64 f0,.int .i64 f1,.int .i64 f2] 123)).drewN nq=W at hW ⊢
      go_roundg (l0_1.length - (j+1))
      case measure=>have:=HG2.out;omega
      case rel=>
       exact⟨j+1,d',kn',c',rfl,by go_num,⟨by omega⟩,⟨by omega⟩,⟨by rw[← HRN.out,HT.out,HS2.out]⟩,⟨HI2.out.1.low hW,HI2.out.2.low hW⟩,⟨HB2.out.trans (hW.mono HB2.out.size)⟩,⟨⟨Z2 hW hc0,Z2 hW hc1⟩,by have:=hW.size;omega⟩⟩
   have hjz:¬(j:Int)<(l0_1.length:Int):=by omega
   obtain rfl:j=l0_1.length:=by have:=HJ.out;omega
   have HU0:=Za (show krnd l0_1 (d,kn,false)=(d',kn',c') by have:=HRN.out;rw[List.drop_length] at this;exact this.symm)
   have HIS:=Za (show isf l0_1 (n+1 - kk) (d,kn,false)=(if c'=false then some (d',kn',c') else isf l0_1 (n+1 - (kk+1)) (d',kn',c')) by
    rw[show n+1 - kk=(n+1 - (kk+1))+1 by have:=HK.out;omega,isf]
    rw[show((d,kn,false):KSt).1=d from rfl,show((d,kn,false):KSt).2.1=kn from rfl,HU0.out])
   cases c' with
   | true=>
    rw[if_neg (by simp)] at HIS
    by_cases hkn:kk=n
    ·subst hkn
     have hkz:((kk:Int) == (kk:Int))=true:=by simp
     have HU:=Za (show sfB (kk:Int) l0_1 (a:Int) (kk+1)=([],false) by
      have e:=HIS.out
      rw[Nat.sub_self] at e
      unfold sfB
      rw[Int.toNat_natCast,Int.toNat_natCast,← HRD.out,e];rfl)
     rw[HU.out] at HN
     obtain⟨e1,e2⟩:=Prod.mk.inj HN.out
     subst e1;subst e2;clear HN HU
     go_wp2
     go_ret2
     exact⟨_,rfl,Kd.R_nil _ _ _ _ _,HB2.out⟩
    ·have HK2:=Za (show kk+1≤n by have:=HK.out;omega)
     have hkz:((kk:Int) == (n:Int))=false:=by simp;omega
     have hkz2:(kk:Int)<(n:Int):=by have:=HK2.out;omega
     go_wp2
     go_roundg (n+1 - (kk+1))
     case measure=>have:=HGG.out;have:=HK.out;omega
     case rel=>
      exact⟨kk+1,d',kn',by go_num,HK2,⟨by omega⟩,⟨by rw[← HRD.out,HIS.out];exact isf_c _ _ _ _ _ _⟩,HI2,HB2,HC2⟩
   | false=>
    rw[if_pos rfl] at HIS
    have HU:=Za (show isf l0_1 (n+1) (kst0 n a)=some (d',kn',false) by rw[← HRD.out,HIS.out])
    have HFL:=Za (show(finB (d',kn',false)).length=d'.length from Zcw _)
    have HDL:=Za HI2.out.1.reads.1
    clear HIS
    go_wp2
    clear hc0 hc1 hlt0
    have HR2:=Za (show(finB (d',kn',false),true)=(r1,r2) by
     rw[← HN.out]
     unfold sfB
     rw[Int.toNat_natCast,Int.toNat_natCast,HU.out])
    obtain⟨e1,e2⟩:=Prod.mk.inj HR2.out
    subst e2;have HR1:=Za e1;clear e1 HR2 HN HU
    have HAT:=Za fun (j:Nat) (hj:j<d'.length)=>finB_at (s:=(d',kn',false)) hj
    generalize finB (d',kn',false)=fb at HFL HAT HR1
    dsimp only at HAT
    go_loopg [13,90] n (fun gg _ s48 wx=>∃j:Nat,s48=.int .i64 (j:Int)∧Aside0 (j≤n)∧Aside0 (n - j≤gg)∧Aside0 (IR wx (w.heap.size+1) gd n cd (fb.take j ++ d'.drop j)∧BR wx (w.heap.size+1) gn n ck kn')∧Aside0 (Below w.heap.size w wx))
    case atStart=>exact⟨0,rfl,⟨Nat.zero_le _⟩,⟨by omega⟩,HI2,HB2⟩
    case round=>
     obtain⟨j,rfl,HJ,HG2,HI2,HBx⟩:=hrel
     by_cases hjn:j<n
     ·have hjz:(j:Int)<(n:Int):=by omega
      have h0j:(0:Int)≤(j:Int):=by omega
      have HJD:=Za (show j<d'.length by have:=HDL.out;omega)
      obtain⟨xv,zv⟩:=HI2.out.1.cell h0j hjz
      obtain⟨xq,_⟩:=HI2.out.2.cell h0j hjz
      rw[Za3,fill_at HFL.out HJD.out,Int.toNat_natCast] at xv
      rw[Int.toNat_natCast] at xq zv
      have HA:=Za (HAT.out j HJD.out)
      have hgd:=HI2.out.1.lt
      have hgn:=HI2.out.2.lt
      generalize hxx:d'.getD j 0=x at xv HA
      generalize kn'.getD j false=p at xq HA
      have HXX:=Za hxx;clear hxx
      rcases(show(Aside0 (fb.getD j 0=1000000)∧((p=false)∨(p=true∧(1000000:Int)<x)))∨(Aside0 (x=fb.getD j 0)∧p=true∧¬(1000000:Int)<x) by
       cases p with
       | false=>left;exact⟨⟨HA.out.trans (if_neg (by simp))⟩,.inl rfl⟩
       | true=>
        have e:=HA.out.trans (if_pos rfl)
        by_cases h:(1000000:Int)<x
        ·left;exact⟨⟨by rw[e];omega⟩,.inr ⟨rfl,h⟩⟩
        ·right;exact⟨⟨by rw[e];omega⟩,rfl,h⟩) with ⟨hset,hway⟩|⟨hk,rfl,hway⟩
      ·rcases hway with rfl|⟨rfl,hway⟩
       ·go_wp2
        go_roundg (n - (j+1))
        case measure=>have:=HG2.out;omega
        case rel=>
         refine⟨j+1,by go_num,⟨by omega⟩,⟨by omega⟩,⟨?_,(HI2.out.2.far (p:=⟨gd,j,none⟩) hdk2 _).far (p:=⟨gd,j,none⟩) hdk2 _⟩,⟨(HBx.out.setCell (p:=⟨gd,j,none⟩) (show w.heap.size≤gd by omega) _).setCell (p:=⟨gd,j,none⟩) (show w.heap.size≤gd by omega) _⟩⟩
         rw[← Zcx HFL.out HJD.out,hset.out,← List.set_set (a:=(1000000:Int))]
         exact(HI2.out.1.put (j:Int) _).put (j:Int) _
       ·go_wp2
        go_roundg (n - (j+1))
        case measure=>have:=HG2.out;omega
        case rel=>
         refine⟨j+1,by go_num,⟨by omega⟩,⟨by omega⟩,⟨?_,HI2.out.2.far (p:=⟨gd,j,none⟩) hdk2 _⟩,⟨HBx.out.setCell (p:=⟨gd,j,none⟩) (show w.heap.size≤gd by omega) _⟩⟩
         rw[← Zcx HFL.out HJD.out,hset.out]
         exact HI2.out.1.put (j:Int) _
      ·go_wp2
       go_roundg (n - (j+1))
       case measure=>have:=HG2.out;omega
       case rel=>
        refine⟨j+1,by go_num,⟨by omega⟩,⟨by omega⟩,⟨?_,HI2.out.2.far (p:=⟨gd,j,none⟩) hdk2 _⟩,⟨HBx.out.setCell (p:=⟨gd,j,none⟩) (show w.heap.size≤gd by omega) _⟩⟩
        rw[← Zcx HFL.out HJD.out,← hk.out]
        exact HI2.out.1.put (j:Int) _
     ·have hjz:¬(j:Int)<(n:Int):=by omega
      have HF:=Za (show fb.take j ++ d'.drop j=fb by
       have h1:=HFL.out;have h2:=HDL.out;have h3:=HJ.out
       rw[List.take_of_length_le (by omega),List.drop_eq_nil_of_le (by omega),List.append_nil])
      go_wp2
      go_ret2
      exact⟨_,rfl,by have:=HI2.out.1;rw[HF.out,HR1.out] at this;exact Kd.R_mono (Kd.R_lower this (Nat.le_succ _)) (fun _ _=>trivial),HBx.out⟩
end Go.Proofs.Ythphnhmabieflab.Pr
