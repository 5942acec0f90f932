/- By a program of this session. -/
import Derived.Test.YtoeimopgoaffcaaDoorBBcc1x16
namespace Go.Proofs.YtoeimopgoaffcaaDoor.Pr
open RowKit YtoeimopgoaffcaaDoorW.PrintWords YtoeimopgoaffcaaDoorW.PrintLast YtoeimopgoaffcaaDoorW.PrintMore
attribute [local go_sem] Zat Zar ZaG ZaF Zal Zak Zas Zaq
set_option linter.unusedVariables false
set_option linter.unusedSimpArgs false
open Ni
def Zai.f (a0_0:Int) (l0_1:List (S121)):Option (List Int):=some (if ZbE a0_0 l0_1=true then ncB a0_0.toNat l0_1 else[])
theorem Zai.two {d l:List Int} {E:List Zam} {j:Nat} {ch:Int} (hj:j<E.length):rnd (E.drop j) j (d,l,ch)=rnd (E.drop (j+1)) (j+1) (relax (d,l,ch) j (E.getD j zE)):=by
 rw[Za2 hj zE];rfl
def Zai.F (w:World) (E:List Zam) (A:Option Addr) (c n:Nat) (B:Nat) (s:Value×Value×Value) (w':World):Prop:=
 (w'.cell? ⟨B,0,none⟩=some (.int .i64 (n:Int))∧w'.cell? ⟨B,1,none⟩=some (.slice A E.length c))∧Kd.R (Kd.int .i64) 3 w' (w.heap.size+1) (fun _=>True) s.1 (List.replicate n 0)∧Kd.R (Kd.int .i64) 3 w' (w.heap.size+1) (fun _=>True) s.2.2 (List.replicate n (-1))∧(∀k,s.1.ownBlock=some k→s.2.2.ownBlock≠some k)∧B<w'.heap.size∧Below w.heap.size w w'
set_option maxHeartbeats 8000000 in
set_option maxRecDepth 100000 in
theorem Zai.own (a0_0:Int) (A0_1:Option Addr) (c0_1:Nat) (l0_1:List (S121)) (r:List Int) (w:World) (hr0_1:Kd.C k121 w A0_1 l0_1.length l0_1) (hc0_1:l0_1.length≤c0_1) (h:Zai.f a0_0 l0_1=some r) :
  Calls Tryd.prog 57 #[.agg #[.int .i64 a0_0,.slice A0_1 l0_1.length c0_1]] w fun e w'=>∃v0_:Value,e=.returned (v0_)∧Kd.R (Kd.int .i64) 3 w' w.heap.size (fun _=>True) v0_ r∧Aside0 (r=[]→v0_=.slice none 0 0)∧Below w.heap.size w w':=by
 have h':=Zg h
 clear h
 have HG:=Za fun (W:World) (hb:Below w.heap.size w W)=>ZcV.calls a0_0 A0_1 c0_1 l0_1 _ W (Zb hr0_1 hb) hc0_1 rfl
 have B1:=Za (Zn (Below.refl w.heap.size w) (.cells #[.int .i64 a0_0,.slice A0_1 l0_1.length c0_1] 91))
 have K0:=Za (show(w.alloc (.cells #[.int .i64 a0_0,.slice A0_1 l0_1.length c0_1] 91)).cell? ⟨w.heap.size,0,none⟩=some (.int .i64 a0_0) by go_simp)
 have K1:=Za (show(w.alloc (.cells #[.int .i64 a0_0,.slice A0_1 l0_1.length c0_1] 91)).cell? ⟨w.heap.size,1,none⟩=some (.slice A0_1 l0_1.length c0_1) by go_simp)
 have hu:=Tryd.underlying91
 have hu2:=Tryd.underlying121
 have HRE:=Za hr0_1;have HCE:=Za hc0_1
 have hL:l0_1.length≤9223372036854775807:=hr0_1.2.1
 clear hr0_1 hc0_1
 cases hg:ZbE a0_0 l0_1 with
 | false=>
  rw[hg] at h' HG
  have HN:=Za (show([]:List Int)=r from h')
  clear h' hg
  go_enter Tryd.func57,Tryd.ntmps57
  go_wp2_with (go_at_call 84;refine(HG.out _ B1.out).mono ?_;rintro e w1 ⟨rfl,hb⟩)
  go_ret
  exact⟨_,rfl,by rw[← HN.out];exact Kd.R_nil _ _ _ _ _,⟨fun _=>rfl⟩,B1.out.trans (hb.mono B1.out.size)⟩
 | true=>
 rw[hg] at h' HG
 rw[if_pos rfl] at h'
 obtain⟨h0,h8,h80,hed⟩:=graphB_in hg
 clear hg
 obtain⟨n,rfl⟩:=Int.eq_ofNat_of_zero_le h0
 rw[Int.toNat_natCast] at h'
 have HN:=Za h'
 have HED:=Za hed
 have hn8:n≤8:=by omega
 clear h' hed h0 h8
 have HIN:=Za (show Zb6 l0_1 n from fun e he=>by have:=HED.out e he;omega)
 go_enter Tryd.func57,Tryd.ntmps57
 go_wp2_with (go_at_call 84;refine(HG.out _ B1.out).mono ?_;rintro e w1 ⟨rfl,hb⟩)
 have HB:=Za (Zp (B1.out.trans (hb.mono B1.out.size)))
 have HC:=Za (And.intro (show w1.drew.cell? _=_ from ZE hb K0.out) (show w1.drew.cell? _=_ from ZE hb K1.out))
 have HLT:=Za (show w.heap.size<w1.drew.heap.size from Zc _ _ HC.out.1)
 clear hb HG K0 K1 B1
 have HREP:=Za (show ZG.f [(-1)] (n:Int)=some (List.replicate n (-1)) by unfold ZG.f;rw[if_pos ⟨rfl,by omega,by omega⟩];rfl)
 refine Za9 (n:=9) (S:=fun w'=>w'.cell? ⟨w.heap.size,0,none⟩=some (.int .i64 (n:Int))∧w'.cell? ⟨w.heap.size,1,none⟩=some (.slice A0_1 l0_1.length c0_1)) (ds:=[]) #[false,false,false,false,false,false,false,false,false] (by kernel_rfl) rfl rfl HC.out (fun hHeld=>?_)
 generalize w1.drew=W at HB HC HLT hHeld ⊢
 refine pu (N:=some 17) 0 ?_
 refine pu (N:=some 21) 4 ?_
 refine tk (N:=some 18) 1 hHeld ?_
 refine tk (N:=some 22) 5 hHeld ?_
 refine join_ (σ:=Value×Value×Value) 2 #[true,true,true,true,true,true,true,false,false] (fun s_=>[(19,s_.1),(20,s_.2.1),(23,s_.2.2)]) (Zai.F w l0_1 A0_1 c0_1 n w.heap.size) ?_ ?_
 rotate_left
 ·intro hCont
  refine two_ (i:=2) (j:=3) (Ni:=some 19) (Nj:=some 20) #[true,true,true,false,true,true,false,false,false] #[true,true,false,true,true,true,false,false,false] rfl rfl rfl rfl (by kernel_rfl) (by decide) (by decide) (fun K hK=>?_) (fun K hK=>?_)
  ·skip
   refine Kd.R_make_step (Kd.int .i64) _ 3 (by rfl) (N:=19) rfl 23 _ _ rfl (n:Int) rfl rfl Tryd.underlying23 (.int .i64 0) 8 ZbN rfl (by decide) (by omega) 0 (ok:=fun _=>True) (okp:=fun _=>True) rfl (fun _ hk=>hk) trivial (by omega) (by omega) (Below.refl _ _) (Nat.le_refl _) ?_
   intro vm Wm hom hbm _ _
   rw[Int.toNat_natCast] at hom
   have hlt_:=Zc _ _ HC.out.1
   replace HC:=Za (And.intro (ZE hbm HC.out.1) (ZE hbm HC.out.2))
   have HM:=Za (Kd.R_lower hom hlt_)
   have HMB:=Za (Kd.R_base hom)
   replace HB:=Za (Zx HB.out hbm)
   clear hom hbm hlt_
   refine hK.out _ _ HC.out (fun hHeld=>?_)
   clear hK K
   refine nrm (some 19) ?_
   refine onl (N:=some 20) 3 (fun K hK=>?_)
   refine Kd.R_lit_step (Kd.int .i64) _ 3 ?hg (N:=20) ?hd (xs:=([(-1)]:List Int)) (inner:=[.int .i64 (-1)]) (ok:=fun _=>True) (okp:=fun _=>True) ?hr ?hp (fun _ hk=>hk) trivial (Below.refl _ _) (Nat.le_refl _) (by simp) ?_;(case hd=>rfl);(case hg=>rfl);(case hr=>first|(go_simp;done)|(go_simp;rfl));(case hp=>exact(Reps.one (show Kd.M (Kd.int .i64) _ _ _ (-1) [.int .i64 (-1)] from rfl) (Reps.none _ _)))
   intro vl Wl hol hbl _ _
   have hlt_:=Zc _ _ HC.out.1
   replace HC:=Za (And.intro (ZE hbl HC.out.1) (ZE hbl HC.out.2))
   replace HM:=Za (Kd.R_below HM.out hbl)
   replace HB:=Za (Zx HB.out hbl)
   obtain⟨Al,cl,el⟩:=Kd.R_slice hol
   subst el;have HLI:=Za hol;clear hol hbl hlt_
   refine hK.out _ _ HC.out (fun hHeld=>?_)
   clear hK K
   refine nrm (some 20) ?_
   refine onl (N:=some 23) 6 (fun K hK=>?_)
   have HML:=Za (Kd.R_lt HM.out)
   refine Za5 Tryd.func85 (by kernel_rfl) rfl #[.slice Al ([(-1)]:List Int).length cl,.int .i64 (n:Int)] (by rfl) rfl rfl (by(try simp only[List.map_toArray,List.map_cons,List.map_nil]);first|done|rfl) ?_
   with_reducible refine(ZG.calls Al cl [(-1)] (n:Int) (List.replicate n (-1)) _ (Kd.R_reads' HLI.out).2.2 (Kd.R_reads' HLI.out).2.1 HREP.out).mono ?_
   rintro e Wc ⟨vc,rfl,hoc,hbc⟩
   refine⟨_,rfl,?_⟩
   have hlt_:=Zc _ _ HC.out.1
   replace HC:=Za (And.intro (ZE hbc HC.out.1) (ZE hbc HC.out.2))
   replace HM:=Za (Kd.R_below HM.out hbc)
   have HRR:=Za (Kd.R_lower hoc hlt_)
   have HRB:=Za (Kd.R_base hoc)
   replace HB:=Za (Zx HB.out hbc)
   clear hoc hbc hlt_
   refine hK.out _ _ HC.out (fun hHeld=>?_)
   clear hK K
   refine nrm (some 23) ?_
   exact norm_ (by simp only[ZcR,Act.put,List.setIfInBounds_toArray,List.set_cons_zero,List.set_cons_succ]) (hCont (vm,.slice Al ([(-1)]:List Int).length cl,vc) _ ⟨HC.out,HM.out,HRR.out,fun k h1 h2=>by have a1:=HML.out k h1;have a2:=HRB.out k h2;omega,Zc _ _ HC.out.1,HB.out⟩)
  ·skip
   refine Kd.R_lit_step (Kd.int .i64) _ 3 ?hg (N:=20) ?hd (xs:=([(-1)]:List Int)) (inner:=[.int .i64 (-1)]) (ok:=fun _=>True) (okp:=fun _=>True) ?hr ?hp (fun _ hk=>hk) trivial (Below.refl _ _) (Nat.le_refl _) (by simp) ?_;(case hd=>rfl);(case hg=>rfl);(case hr=>first|(go_simp;done)|(go_simp;rfl));(case hp=>exact(Reps.one (show Kd.M (Kd.int .i64) _ _ _ (-1) [.int .i64 (-1)] from rfl) (Reps.none _ _)))
   intro vl Wl hol hbl _ _
   have hlt_:=Zc _ _ HC.out.1
   replace HC:=Za (And.intro (ZE hbl HC.out.1) (ZE hbl HC.out.2))
   replace HB:=Za (Zx HB.out hbl)
   obtain⟨Al,cl,el⟩:=Kd.R_slice hol
   subst el;have HLI:=Za hol;clear hol hbl hlt_
   refine hK.out _ _ HC.out (fun hHeld=>?_)
   clear hK K
   refine nrm (some 20) ?_
   refine two_ (i:=2) (j:=6) (Ni:=some 19) (Nj:=some 23) #[true,true,true,true,true,true,false,false,false] #[true,true,false,true,true,true,true,false,false] rfl rfl rfl rfl (by kernel_rfl) (by decide) (by decide) (fun K hK=>?_) (fun K hK=>?_)
   ·skip
    refine Kd.R_make_step (Kd.int .i64) _ 3 (by rfl) (N:=19) rfl 23 _ _ rfl (n:Int) rfl rfl Tryd.underlying23 (.int .i64 0) 8 ZbN rfl (by decide) (by omega) 0 (ok:=fun _=>True) (okp:=fun _=>True) rfl (fun _ hk=>hk) trivial (by omega) (by omega) (Below.refl _ _) (Nat.le_refl _) ?_
    intro vm Wm hom hbm _ _
    rw[Int.toNat_natCast] at hom
    have hlt_:=Zc _ _ HC.out.1
    replace HC:=Za (And.intro (ZE hbm HC.out.1) (ZE hbm HC.out.2))
    replace HLI:=Za (Kd.R_below HLI.out hbm)
    have HM:=Za (Kd.R_lower hom hlt_)
    have HMB:=Za (Kd.R_base hom)
    replace HB:=Za (Zx HB.out hbm)
    clear hom hbm hlt_
    refine hK.out _ _ HC.out (fun hHeld=>?_)
    clear hK K
    refine nrm (some 19) ?_
    refine onl (N:=some 23) 6 (fun K hK=>?_)
    have HML:=Za (Kd.R_lt HM.out)
    refine Za5 Tryd.func85 (by kernel_rfl) rfl #[.slice Al ([(-1)]:List Int).length cl,.int .i64 (n:Int)] (by rfl) rfl rfl (by(try simp only[List.map_toArray,List.map_cons,List.map_nil]);first|done|rfl) ?_
    with_reducible refine(ZG.calls Al cl [(-1)] (n:Int) (List.replicate n (-1)) _ (Kd.R_reads' HLI.out).2.2 (Kd.R_reads' HLI.out).2.1 HREP.out).mono ?_
    rintro e Wc ⟨vc,rfl,hoc,hbc⟩
    refine⟨_,rfl,?_⟩
    have hlt_:=Zc _ _ HC.out.1
    replace HC:=Za (And.intro (ZE hbc HC.out.1) (ZE hbc HC.out.2))
    replace HM:=Za (Kd.R_below HM.out hbc)
    have HRR:=Za (Kd.R_lower hoc hlt_)
    have HRB:=Za (Kd.R_base hoc)
    replace HB:=Za (Zx HB.out hbc)
    clear hoc hbc hlt_
    refine hK.out _ _ HC.out (fun hHeld=>?_)
    clear hK K
    refine nrm (some 23) ?_
    exact norm_ (by simp only[ZcR,Act.put,List.setIfInBounds_toArray,List.set_cons_zero,List.set_cons_succ]) (hCont (vm,.slice Al ([(-1)]:List Int).length cl,vc) _ ⟨HC.out,HM.out,HRR.out,fun k h1 h2=>by have a1:=HML.out k h1;have a2:=HRB.out k h2;omega,Zc _ _ HC.out.1,HB.out⟩)
   ·skip
    refine Za5 Tryd.func85 (by kernel_rfl) rfl #[.slice Al ([(-1)]:List Int).length cl,.int .i64 (n:Int)] (by rfl) rfl rfl (by(try simp only[List.map_toArray,List.map_cons,List.map_nil]);first|done|rfl) ?_
    with_reducible refine(ZG.calls Al cl [(-1)] (n:Int) (List.replicate n (-1)) _ (Kd.R_reads' HLI.out).2.2 (Kd.R_reads' HLI.out).2.1 HREP.out).mono ?_
    rintro e Wc ⟨vc,rfl,hoc,hbc⟩
    refine⟨_,rfl,?_⟩
    have hlt_:=Zc _ _ HC.out.1
    replace HC:=Za (And.intro (ZE hbc HC.out.1) (ZE hbc HC.out.2))
    have HRR:=Za (Kd.R_lower hoc hlt_)
    have HRB:=Za (Kd.R_base hoc)
    replace HB:=Za (Zx HB.out hbc)
    clear hoc hbc hlt_
    refine hK.out _ _ HC.out (fun hHeld=>?_)
    clear hK K
    refine nrm (some 23) ?_
    refine onl (N:=some 19) 2 (fun K hK=>?_)
    have HRL:=Za (Kd.R_lt HRR.out)
    refine Kd.R_make_step (Kd.int .i64) _ 3 (by rfl) (N:=19) rfl 23 _ _ rfl (n:Int) rfl rfl Tryd.underlying23 (.int .i64 0) 8 ZbN rfl (by decide) (by omega) 0 (ok:=fun _=>True) (okp:=fun _=>True) rfl (fun _ hk=>hk) trivial (by omega) (by omega) (Below.refl _ _) (Nat.le_refl _) ?_
    intro vm Wm hom hbm _ _
    rw[Int.toNat_natCast] at hom
    have hlt_:=Zc _ _ HC.out.1
    replace HC:=Za (And.intro (ZE hbm HC.out.1) (ZE hbm HC.out.2))
    replace HRR:=Za (Kd.R_below HRR.out hbm)
    have HM:=Za (Kd.R_lower hom hlt_)
    have HMB:=Za (Kd.R_base hom)
    replace HB:=Za (Zx HB.out hbm)
    clear hom hbm hlt_
    refine hK.out _ _ HC.out (fun hHeld=>?_)
    clear hK K
    refine nrm (some 19) ?_
    exact norm_ (by simp only[ZcR,Act.put,List.setIfInBounds_toArray,List.set_cons_zero,List.set_cons_succ]) (hCont (vm,.slice Al ([(-1)]:List Int).length cl,vc) _ ⟨HC.out,HM.out,HRR.out,fun k h1 h2=>by have a1:=HRL.out k h2;have a2:=HMB.out k h1;omega,Zc _ _ HC.out.1,HB.out⟩)
 clear hHeld
 rintro⟨vm,vl,vc⟩ W2 ⟨hc_,hm_,hr_,hne_,hlt_,hb_⟩
 have hHeld:=hc_
 refine norm_ (a':=?_) ?_ ?_
 rotate_left
 ·simp only[ZcR,Act.put,List.setIfInBounds_toArray,List.set_cons_zero,List.set_cons_succ]
  rfl
 refine pu (N:=some 3) 7 ?_
 refine pu (N:=some 4) 8 ?_
 refine Zbu (by kernel_rfl) ?_
 clear hHeld HC HLT HB;have HC:=Za hc_;have HM:=Za hm_;have HR:=Za hr_;have HNE:=Za hne_;have HLT:=Za hlt_;have HB:=Za hb_;clear hc_ hm_ hr_ hne_ hlt_ hb_
 rcases(show Aside0 (n=0)∨Aside0 (1≤n) from(Nat.eq_zero_or_pos n).elim (fun h=>.inl ⟨h⟩) (fun h=>.inr ⟨h⟩)) with hz|hn1
 ·go_wp2
  go_loopg [5,6] 0 (fun _ s5 s6 wr=>s5=.int .i64 (-1)∧s6=.int .i64 0∧Aside0 (Below w.heap.size w wr)∧Aside0 (wr.cell? ⟨w.heap.size,0,none⟩=some (.int .i64 (n:Int))∧w.heap.size<wr.heap.size))
  case atStart=>exact⟨rfl,rfl,HB,⟨HC.out.1,HLT.out⟩⟩
  case round=>
   obtain⟨rfl,rfl,HBr,HCr⟩:=hrel
   have hltz:¬(0:Int)<(n:Int):=by rw[hz.out];omega
   obtain⟨hc0,hlt⟩:=HCr.out
   go_wp2
   go_ret
   exact⟨_,rfl,by rw[← HN.out,hz.out];exact Kd.R_nil _ _ _ _ _,⟨fun _=>rfl⟩,HBr.out⟩
 obtain⟨gd,cd,e1,_⟩:=Kd.R_form HM.out (by rw[List.length_replicate];exact hn1.out)
 obtain⟨gl,cl2,e2,_⟩:=Kd.R_form HR.out (by rw[List.length_replicate];exact hn1.out)
 rw[List.length_replicate] at e1 e2
 subst e1;subst e2
 have HI:=Za (And.intro (IR.of HM.out) (IR.of HR.out))
 have hne:gd≠gl:=fun e=>HNE.out gd (by simp[Value.ownBlock]) (by simp[Value.ownBlock,e])
 have hne2:gl≠gd:=hne.symm
 clear HM HR HNE
 go_wp2
 go_loopg [5,6] n (fun gg s5 s6 wr=>∃(kk:Nat) (d l:List Int) (ch:Int),s5=.int .i64 ch∧s6=.int .i64 (kk:Int)∧Aside0 (kk≤n)∧Aside0 (n - kk≤gg)∧Aside0 (rounds l0_1 (n - kk) (d,l,ch)=rounds l0_1 n (bst0 n))∧Aside0 (IR wr (w.heap.size+1) gd n cd d∧IR wr (w.heap.size+1) gl n cl2 l)∧Aside0 (Below w.heap.size w wr)∧Aside0 ((wr.cell? ⟨w.heap.size,0,none⟩=some (.int .i64 (n:Int))∧wr.cell? ⟨w.heap.size,1,none⟩=some (.slice A0_1 l0_1.length c0_1))∧w.heap.size<wr.heap.size))
 case atStart=>exact⟨0,_,_,-1,rfl,rfl,⟨Nat.zero_le _⟩,⟨by omega⟩,⟨rfl⟩,HI,HB,⟨HC.out,HLT.out⟩⟩
 case round=>
  obtain⟨kk,d,l,ch,rfl,rfl,HK,HGG,HRD,HIr,HBr,HCr⟩:=hrel
  obtain⟨⟨hc0,hc1⟩,hlt0⟩:=HCr.out
  by_cases hkn:kk<n
  ·have hltz:(kk:Int)<(n:Int):=by omega
   clear HI HB HC HLT
   obtain⟨wo,rfl⟩:∃wo:World,wo=wr:=⟨_,rfl⟩
   go_wp2
   go_loopg [5,33] l0_1.length (fun gg2 s5 s33 wr2=>∃(j:Nat) (d' l':List Int) (ch':Int),s5=.int .i64 ch'∧s33=.int .i64 (j:Int)∧Aside0 (j≤l0_1.length)∧Aside0 (l0_1.length - j≤gg2)∧Aside0 (rnd (l0_1.drop j) j (d',l',ch')=rnd l0_1 0 (d,l,-1))∧Aside0 (IR wr2 (w.heap.size+1) gd n cd d'∧IR wr2 (w.heap.size+1) gl n cl2 l')∧Aside0 (Below w.heap.size w wr2)∧Aside0 ((wr2.cell? ⟨w.heap.size,0,none⟩=some (.int .i64 (n:Int))∧wr2.cell? ⟨w.heap.size,1,none⟩=some (.slice A0_1 l0_1.length c0_1))∧w.heap.size<wr2.heap.size))
   case atStart=>exact⟨0,d,l,-1,rfl,rfl,⟨Nat.zero_le _⟩,⟨by omega⟩,⟨rfl⟩,HIr,HBr,HCr⟩
   case round=>
    obtain⟨j,d',l',ch',rfl,rfl,HJ,HG2,HRN,HI2,HB2,HC2⟩:=hrel
    clear hc0 hc1 hlt0
    obtain⟨⟨hc0,hc1⟩,hlt0⟩:=HC2.out
    by_cases hjn:j<l0_1.length
    ·have hjz:(j:Int)<(l0_1.length:Int):=by omega
     obtain⟨ad,e1,m0,m1,m2⟩:=Zda HRE.out (j:Int) (by omega) hjz
     cases e1
     rw[Int.toNat_natCast] at m0 m1 m2
     have hy:=HED.out _ (ZaY hjn zE)
     have HS:=Za (Zai.two (d:=d') (l:=l') (ch:=ch') hjn)
     rw[show Zbz l0_1 (j:Int)=l0_1.getD j zE by unfold Zbz;rw[Int.toNat_natCast]] at m0 m1 m2
     generalize l0_1.getD j zE=y at m0 m1 m2 hy HS
     obtain⟨f0,f1,f2⟩:=y
     obtain⟨y0,y1,y2,y3,y4,y5⟩:=hy
     dsimp only at m0 m1 m2 y0 y1 y2 y3 y4 y5
     replace m0:=ZE HB2.out m0
     replace m1:=ZE HB2.out m1
     replace m2:=ZE HB2.out m2
     have hlta:=Zc wr _ m0
     obtain⟨xu,_⟩:=HI2.out.1.cell y0 y1
     obtain⟨xv,zv⟩:=HI2.out.1.cell y2 y3
     obtain⟨xl,zl⟩:=HI2.out.2.cell y2 y3
     have hgd:=HI2.out.1.lt
     have hgl:=HI2.out.2.lt
     have hgd0:=HI2.out.1.base
     have hgl0:=HI2.out.2.base
     by_cases hc:wrap64 (rd d' f0+f2)<rd d' f1
     ·have HS2:=Za (show relax (d',l',ch') j ⟨f0,f1,f2⟩=(d'.set f1.toNat (wrap64 (rd d' f0+f2)),l'.set f1.toNat (j:Int),(j:Int)) from if_pos hc)
      go_wp2
      go_quiet (fail)
      go_wp2
      have hW:=Zm (Zn (Below.refl wr.heap.size wr) (.cells #[.int .i64 f0,.int .i64 f1,.int .i64 f2] 121)) nq
      have b1:((wr.alloc (.cells #[.int .i64 f0,.int .i64 f1,.int .i64 f2] 121)).drewN nq).cell? ⟨wr.heap.size,1,none⟩=some (.int .i64 f1):=by go_simp
      generalize (wr.alloc (.cells #[.int .i64 f0,.int .i64 f1,.int .i64 f2] 121)).drewN nq=W at hW b1 ⊢
      have HWI:=Za (And.intro (HI2.out.1.low hW) (HI2.out.2.low hW))
      have HWC:=Za (And.intro (ZE hW hc0) (ZE hW hc1))
      clear xu xv zv xl zl m0 m1 m2 hc0 hc1
      obtain⟨xv,zv⟩:=HWI.out.1.cell y2 y3
      obtain⟨xl,zl⟩:=HWI.out.2.cell y2 y3
      have HWB:=Za (HB2.out.trans (hW.mono HB2.out.size))
      have hsz:=hW.size
      clear hW
      go_region
      go_wp2
      go_roundg (l0_1.length - (j+1))
      case measure=>have:=HG2.out;omega
      case rel=>
       refine⟨j+1,d'.set f1.toNat (wrap64 (rd d' f0+f2)),l'.set f1.toNat (j:Int),(j:Int),rfl,by go_num,⟨by omega⟩,⟨by omega⟩,⟨by rw[← HRN.out,HS.out,HS2.out]⟩,⟨Kd.R_drew ((HWI.out.1.put f1 _).far hne _),Kd.R_drew ((HWI.out.2.far hne2 _).put f1 _)⟩,⟨Zbc (Zq (Zq HWB.out (by omega)) (by omega))⟩,⟨⟨?_,?_⟩,?_⟩⟩
       ·exact(ZcZ (by dsimp only;omega) _).trans ((ZcZ (by dsimp only;omega) _).trans HWC.out.1)
       ·exact(ZcZ (by dsimp only;omega) _).trans ((ZcZ (by dsimp only;omega) _).trans HWC.out.2)
       ·simp[World.setCell];omega
     ·have HS2:=Za (show relax (d',l',ch') j ⟨f0,f1,f2⟩=(d',l',ch') from if_neg hc)
      go_wp2
      go_quiet (fail)
      go_wp2
      have hW:=Zm (Zn (Below.refl wr.heap.size wr) (.cells #[.int .i64 f0,.int .i64 f1,.int .i64 f2] 121)) nq
      generalize (wr.alloc (.cells #[.int .i64 f0,.int .i64 f1,.int .i64 f2] 121)).drewN nq=W at hW ⊢
      go_roundg (l0_1.length - (j+1))
      case measure=>have:=HG2.out;omega
      case rel=>
       exact⟨j+1,d',l',ch',rfl,by go_num,⟨by omega⟩,⟨by omega⟩,⟨by rw[← HRN.out,HS.out,HS2.out]⟩,⟨HI2.out.1.low hW,HI2.out.2.low hW⟩,⟨HB2.out.trans (hW.mono HB2.out.size)⟩,⟨⟨ZE hW hc0,ZE hW hc1⟩,by have:=hW.size;omega⟩⟩
    ·have hjz:¬(j:Int)<(l0_1.length:Int):=by omega
     have:j=l0_1.length:=by have:=HJ.out;omega
     subst this
     have HX:=Za (show(d',l',ch')=rnd l0_1 0 (d,l,-1) by have:=HRN.out;rw[List.drop_length] at this;exact this)
     go_wp2
     go_roundg (n - (kk+1))
     case measure=>have:=HGG.out;omega
     case rel=>
      refine⟨kk+1,d',l',ch',rfl,by go_num,⟨by omega⟩,⟨by omega⟩,⟨?_⟩,HI2,HB2,HC2⟩
      rw[← HRD.out,show n - kk=(n - (kk+1))+1 by omega,rounds,HX.out]
  ·have hltz:¬(kk:Int)<(n:Int):=by omega
   obtain rfl:n=kk:=by have:=HK.out;omega
   rcases bf_after HIN.out hn1.out (d:=d) (l:=l) (ch:=ch) (by have:=HRD.out;rw[Nat.sub_self] at this;first|done|exact this) with ⟨hch,hnc⟩|⟨c,v,q,hch,hcl,hv,hcv,hq1,hqn,hin,hst,hqb,hqm,hnc⟩
   ·subst hch
    rw[hnc] at HN
    clear hnc
    go_wp2
    go_ret
    exact⟨_,rfl,by rw[← HN.out];exact Kd.R_nil _ _ _ _ _,⟨fun _=>rfl⟩,HBr.out⟩
   subst hch
   have hltc:(c:Int)<(l0_1.length:Int):=by omega
   have hc00:¬(c:Int)<0:=by omega
   obtain⟨ad,e1,m0,m1,m2⟩:=Zda HRE.out (c:Int) (by omega) hltc
   cases e1
   rw[show Zbz l0_1 (c:Int)=l0_1.getD c zE by unfold Zbz;rw[Int.toNat_natCast],hcv] at m1
   replace m1:=ZE HBr.out m1
   rw[Int.toNat_natCast] at m1
   clear m0 m2 hcv
   have hlta:=Zc wr _ m1
   have HIV:=Za hin;have HST:=Za hst
   have HQ:=Za (And.intro hqb hqm)
   rw[hnc] at HN
   have hq1':=Za hq1
   have hqn':=Za hqn
   clear hin hst hqb hqm hnc hq1 hqn hv hcl
   go_wp2
   clear m1 hlta hltc hc00 hltz
   obtain⟨wo,rfl⟩:∃wo:World,wo=wr:=⟨_,rfl⟩
   have HGL:=Za (And.intro HIr.out.2.lt HIr.out.2.base)
   go_loopg [10,11] n (fun gg s10 s11 wx=>∃(i:Nat),s10=.int .i64 ((bit l0_1 l i v:Nat):Int)∧s11=.int .i64 (i:Int)∧Aside0 (i≤n)∧Aside0 (n - i≤gg)∧Aside0 (Below wo.heap.size wo wx))
   case atStart=>exact⟨0,rfl,rfl,⟨Nat.zero_le _⟩,⟨by omega⟩,⟨Below.refl _ _⟩⟩
   case round=>
    obtain⟨i,rfl,rfl,HI3,HG3,HB3⟩:=hrel
    replace hc0:=ZE HB3.out hc0
    replace hc1:=ZE HB3.out hc1
    have hlt1:w.heap.size<wr.heap.size:=Zc _ _ hc0
    obtain⟨i1,i2,i3⟩:=HIV.out i
    have HX1:=Za (HST.out i)
    by_cases hin:i<n
    ·have hiz:(i:Int)<(n:Int):=by omega
     have hbz:((bit l0_1 l i v:Nat):Int)<(n:Int):=by omega
     obtain⟨xl,_⟩:=(HIr.out.2.low HB3.out).cell (i:=((bit l0_1 l i v:Nat):Int)) (by omega) hbz
     rw[Zbq,Int.toNat_natCast] at xl
     generalize bit l0_1 l i v=b at xl i1 i2 i3 HX1 hbz ⊢
     generalize l.getD b 0=x at xl i2 i3 HX1
     obtain⟨ad2,e1,m0,_⟩:=Zda HRE.out x i2 i3
     cases e1
     rw[show Zbz l0_1 x=l0_1.getD x.toNat zE from rfl] at m0
     replace m0:=ZE (HBr.out.trans (HB3.out.mono HBr.out.size)) m0
     have hlta:=Zc wr _ m0
     have HX2:=Za (show((bit l0_1 l (i+1) v:Nat):Int)=(l0_1.getD x.toNat zE).f0 by
      rw[HX1.out]
      have:=HED.out _ (ZaY (l:=l0_1) (i:=x.toNat) (by omega) zE)
      omega)
     generalize (l0_1.getD x.toNat zE).f0=f at m0 HX2
     have hgl:=Nat.lt_of_lt_of_le HGL.out.1 HB3.out.size
     go_wp2
     go_quiet (fail)
     go_wp2
     go_roundg (n - (i+1))
     case measure=>have:=HG3.out;omega
     case rel=>exact⟨i+1,by rw[HX2.out],by go_num,⟨by omega⟩,⟨by omega⟩,⟨Zm HB3.out _⟩⟩
    ·have hiz:¬(i:Int)<(n:Int):=by omega
     obtain rfl:n=i:=by have:=HI3.out;omega
     have HBa:=Za (HBr.out.trans (HB3.out.mono HBr.out.size))
     have HLa:=Za (HIr.out.2.low HB3.out)
     have HGL2:=Za (And.intro HLa.out.lt HLa.out.base)
     have HC4:=Za (And.intro hc0 hc1)
     clear i1 i2 i3
     obtain⟨a,ha⟩:∃a,a=bit l0_1 l n v:=⟨_,rfl⟩
     have HIV2:=Za (show ∀m,bit l0_1 l m a<n∧0≤l.getD (bit l0_1 l m a) 0∧l.getD (bit l0_1 l m a) 0<l0_1.length from fun m=>by rw[ha,← Zb7];exact HIV.out (m+n))
     have HST2:=Za (show ∀m,bit l0_1 l (m+1) a=(l0_1.getD (l.getD (bit l0_1 l m a) 0).toNat zE).f0.toNat from fun m=>by rw[ha,← Zb7,← Zb7,show m+1+n=m+n+1 by omega];exact HST.out (m+n))
     rw[← ha] at HQ HN ⊢
     clear ha HX1 HIV HST
     go_wp2
     clear hc0 hc1
     obtain⟨wp,rfl⟩:∃wp:World,wp=wr:=⟨_,rfl⟩
     go_loopg [12,13] q (fun gg s12 s13 wx=>∃(i:Nat),s13=.int .i64 ((bit l0_1 l i a:Nat):Int)∧Aside0 (i≤q)∧Aside0 (q - i≤gg)∧Aside0 (Kd.R (Kd.int .i64) 3 wx (w.heap.size+1) (fun k=>k≠gl) s12 (cycB l0_1 l a i))∧Aside0 (IR wx (w.heap.size+1) gl n cl2 l)∧Aside0 (Below (w.heap.size+1) wp wx))
     case atStart=>exact⟨0,rfl,⟨Nat.zero_le _⟩,⟨by omega⟩,⟨Kd.R_nil _ _ _ _ _⟩,HLa,⟨Below.refl _ _⟩⟩
     case round=>
      obtain⟨i,rfl,HI4,HG4,HO4,HL4,HB4⟩:=hrel
      obtain⟨Ao,co,eo⟩:=Kd.R_slice HO4.out
      rw[cycB_len] at eo
      subst eo
      have hc0:=(HB4.out.cell (p:=⟨w.heap.size,0,none⟩) (by dsimp only;omega)).trans HC4.out.1
      have hc1:=(HB4.out.cell (p:=⟨w.heap.size,1,none⟩) (by dsimp only;omega)).trans HC4.out.2
      have hgl:=HL4.out.lt
      have hlt1:=Zc _ _ hc0
      have HLE:=Za (show(cycB l0_1 l a i).length=i from cycB_len _ _ _ _)
      have HLT4:=Za hlt1
      by_cases hiq:i<q
      ·obtain⟨i1,i2,i3⟩:=HIV2.out i
       have HX1:=Za (HST2.out i)
       have HCY:=Za (cycB_succ l0_1 l a i)
       have HNE:=Za (show i=0∨bit l0_1 l i a≠a by
        rcases Nat.eq_zero_or_pos i with h|h
        ·exact .inl h
        ·exact .inr (HQ.out.2 i h hiq))
       have hbz:((bit l0_1 l i a:Nat):Int)<(n:Int):=by omega
       obtain⟨xl,_⟩:=HL4.out.cell (i:=((bit l0_1 l i a:Nat):Int)) (by omega) hbz
       rw[Zbq,Int.toNat_natCast] at xl
       generalize hbb:bit l0_1 l i a=b at xl i1 i2 i3 HX1 HCY HNE hbz ⊢
       generalize hxx:l.getD b 0=x at xl i2 i3 HX1 HCY
       have HXB:=Za hxx;clear hxx
       obtain⟨ad2,e1,m0,_⟩:=Zda HRE.out x i2 i3
       cases e1
       rw[show Zbz l0_1 x=l0_1.getD x.toNat zE from rfl] at m0
       have HB5:=Za (HBa.out.trans (HB4.out.mono (Nat.le_succ _)))
       have HM0:=Za m0
       have HX2:=Za (show((bit l0_1 l (i+1) a:Nat):Int)=(l0_1.getD x.toNat zE).f0 by
        rw[HX1.out]
        have:=HED.out _ (ZaY (l:=l0_1) (i:=x.toNat) (by omega) zE)
        omega)
       generalize (l0_1.getD x.toNat zE).f0=f at HM0 HX2
       clear hbb m0 HX1
       have hck:(((i:Int) == 0)=true)∨(((i:Int) == 0)=false∧(((b:Nat):Int) != ((a:Nat):Int))=true):=by
        rcases HNE.out with h|h
        ·left;subst h;rfl
        ·rcases Nat.eq_zero_or_pos i with h2|h2
         ·left;subst h2;rfl
         ·right;exact⟨by simp;omega,by simp;omega⟩
       rcases hck with hck|⟨hck,hck2⟩
       all_goals
        go_wp2_with ((with_reducible refine Zax (b:=.append) (xs:=#[.tmp 106,.tmp 111]) rfl ?_);at_builtin;refine Kd.R_append (Kd.int .i64) (w0:=wp) (w.heap.size+1) rfl (.tmp 106) (.tmp 111) 23 3 (.int .i64 0) 8 rfl Tryd.underlying23 ZbN rfl (by decide) (by omega) (.slice Ao i co) (cycB l0_1 l a i) x [.int .i64 x] (fun k=>k≠gl) (fun _=>False) rfl rfl ?aP (fun _ hk=>hk.elim) ?aF ?aO ?aB ?aS ?aL ?_;(case aP=>exact rfl);(case aB=>exact HB4.out);(case aF=>intro k hk;show k≠gl;omega);(case aO=>exact HO4.out);(case aS=>omega);(case aL=>have:=hqn'.out;rw[HLE.out];omega);intro v1 w1 ho hb hg _)
        have hc0':=(hb.cell (p:=⟨w.heap.size,0,none⟩) (by dsimp only;omega)).trans HC4.out.1
        have hc1':=(hb.cell (p:=⟨w.heap.size,1,none⟩) (by dsimp only;omega)).trans HC4.out.2
        have HL5:=Za (show IR w1 (w.heap.size+1) gl n cl2 l from Kd.R_grown HL4.out hg (fun k hk he=>HO4.out.1 k he.symm hk))
        have xl':=(HL5.out.cell (i:=((b:Nat):Int)) (by omega) hbz).1
        rw[Zbq,Int.toNat_natCast,HXB.out] at xl'
        have HO5:=Za ho
        rw[← HCY.out] at HO5
        have HB6:=Za hb
        have m0:=ZE (HBa.out.trans (hb.mono (Nat.le_succ _))) HM0.out
        have hltw:=Zc _ _ m0
        have hltg:=HL5.out.lt
        have hltw2:=Zc _ _ hc0'
        clear ho hb hg hc0 hc1 xl HCY hlt1
        go_wp2
        go_quiet (fail)
        go_wp2
        go_roundg (q - (i+1))
        case measure=>have:=HG4.out;omega
        case rel=>exact⟨i+1,by rw[HX2.out],⟨by omega⟩,⟨by omega⟩,⟨Kd.R_drewN HO5.out _⟩,⟨Kd.R_drewN HL5.out _⟩,⟨Zm HB6.out _⟩⟩
      ·obtain rfl:q=i:=by have:=HI4.out;omega
       have hck:((q:Int) == 0)=false:=by have:=hq1'.out;simp;omega
       have hck2:(((bit l0_1 l q a:Nat):Int) != ((a:Nat):Int))=false:=by rw[HQ.out.1];simp
       rw[HQ.out.1] at hck2 ⊢
       have HB5:=Za (HBa.out.trans (HB4.out.mono (Nat.le_succ _)))
       have HREV:=Za (rev_f (cycB l0_1 l a q) (2 ^ 64) (by rw[HLE.out];have:=hqn'.out;omega) (Nat.le_refl _))
       have HRO:=Za (Kd.R_mono (ok':=fun _=>True) (Kd.R_lower HO4.out (Nat.le_succ _)) (fun _ _=>trivial))
       go_wp2_with fail
       refine(ZL.calls (2 ^ 64) (fun _=>True) _ (cycB l0_1 l a q) _ w _ HB5.out HRO.out HREV.out).mono ?_
       rintro e w5 ⟨rfl,ho,hb,_⟩
       have HF:=Za (And.intro (Kd.R_mono (ok':=fun _=>True) ho (fun _ _=>trivial)) hb)
       clear ho hb
       go_wp2
       go_ret
       exact⟨_,rfl,by rw[← HN.out];exact HF.out.1,⟨fun h=>by rw[← HN.out] at h;have:=congrArg List.length h;rw[List.length_reverse,HLE.out,List.length_nil] at this;have:=hq1'.out;omega⟩,HF.out.2⟩
theorem Zai.calls (a0_0:Int) (A0_1:Option Addr) (c0_1:Nat) (l0_1:List (S121)) (r:List Int) (w:World) (hr0_1:Kd.C k121 w A0_1 l0_1.length l0_1) (hc0_1:l0_1.length≤c0_1) (h:Zai.f a0_0 l0_1=some r) :
  Calls Tryd.prog 57 #[.agg #[.int .i64 a0_0,.slice A0_1 l0_1.length c0_1]] w fun e w'=>∃v0_:Value,e=.returned (v0_)∧Kd.R (Kd.int .i64) 3 w' w.heap.size (fun _=>True) v0_ r∧Below w.heap.size w w':=
 (Zai.own a0_0 A0_1 c0_1 l0_1 r w hr0_1 hc0_1 h).mono fun _ _ ⟨v,h1,h2,_,h3⟩=>⟨v,h1,h2,h3⟩
end Go.Proofs.YtoeimopgoaffcaaDoor.Pr
