/- By a program of this session. -/
import Derived.ProofKit
import Derived.Test.YtoeimopgoaffcaaDoorBBcc1x2
import Derived.Test.YtoeimopgoaffcaaDoorBBcc1x5
set_option maxHeartbeats 8000000
set_option maxRecDepth 100000
namespace Go.Proofs.YtoeimopgoaffcaaDoor.Pr
open RowKit YtoeimopgoaffcaaDoorW.PrintWords YtoeimopgoaffcaaDoorW.PrintLast YtoeimopgoaffcaaDoorW.PrintMore
attribute [local go_sem] Zat Zar ZaG ZaF Zal Zak Zas Zaq
set_option linter.unusedVariables false
set_option linter.unusedSimpArgs false
open Ni
def ZbH.f (k:Nat) (b:List Int) (i o:Int):Option (List S54×List S81×Int×Int×Int):=(ZaD.f b i o 3).bind fun t=>if t.1=true then Z8.f k b t.2.1 t.2.2 else Zab.f k b t.2.1 t.2.2
theorem ZbH.calls (k g:Nat) (b:List Int) (i o:Int) (r1:List S54) (r2:List S81) (r3 r4 r5:Int) (w0 w:World) (hI:ZB w0 w g b i o) (hB:Below w0.heap.size w0 w) (h:ZbH.f k b i o=some (r1,r2,r3,r4,r5)) :
  Calls Tryd.prog 45 #[.pointer (some ⟨g,0,none⟩)] w fun e w'=>∃v0_ v1_:Value,e=.returned (.agg #[v0_,v1_,.int .i64 r3])∧Kd.N k54 54 w' w.heap.size (fun k_=>(w.heap.size≤k_)∧some k_≠(v1_:Value).ownBlock) v0_ r1∧Kd.R k81 81 w' w.heap.size (fun k_=>(w.heap.size≤k_)) v1_ r2∧ZB w0 w' g b r4 r5∧Below w0.heap.size w0 w'∧ZI w w' g none:=by
 unfold ZbH.f at h
 obtain⟨⟨t1,t2,t3⟩,A0_,h⟩:=Option.bind_eq_some_iff.1 h
 dsimp only at h
 have A0:=Za A0_
 have hu:=Tryd.underlying39
 have I0:=Za hI;have HB:=Za hB;clear A0_ hI hB
 cases t1 with
 | true=>
  have H:=Za (show Z8.f k b t2 t3=some (r1,r2,r3,r4,r5) from(if_pos rfl).symm.trans h)
  clear h
  go_enter Tryd.func45,Tryd.ntmps45
  go_wp2_with (first|((with_reducible refine ZK (N:=2) rfl ?_);refine ZN ?hg (N:=2) ?hd (cs:=#[.slice none 0 0,.slice none 0 0,.int .i64 0]) (t:=39) ?hr ?_;(case hd=>rfl);(case hg=>rfl);(case hr=>first|(go_simp;done)|(go_simp;rfl));intro gr hg w1 hbox hb;have R1:=Za hbox;have GR:=Za (show w.heap.size≤gr by rw[hg];exact Nat.le_refl _);have I1:=Za (I0.out.below hb);have B1:=Za (ZcH HB.out HB.out.size hb);have K1:=Za (ZI.of_below hb g none);clear hbox hb hg)|(go_at_call 70;refine(ZaD.calls g b i o 3 true t2 t3 w0 _ I1.out B1.out A0.out).mono ?_;rintro e w2 ⟨rfl,hi_,hb_,hk_⟩;have NE:=Za (show gr≠g from fun e=>I1.out.ne_blk R1.out (by decide) e.symm);have R2:=Za (ZI.blk hk_ R1.out NE.out (by simp));have I2:=Za hi_;have B2:=Za hb_;have K2:=Za (K1.out.trans hk_ (.inl rfl));clear hi_ hb_ hk_)|(go_at_call 71;refine(Z8.calls k g b t2 t3 r1 r2 r3 r4 r5 w0 _ I2.out B2.out H.out).mono ?_;rintro e w3 ⟨v0,v1,rfl,hn_,ht_,hi_,hb_,hk_⟩;have F:=Za (Zeb (z:=r3) GR.out HB.out.size R2.out K2.out NE.out hn_ ht_ hi_ hb_ hk_);have R3:=ZI.blk hk_ R2.out NE.out (by simp);have k0:w3.cell? ⟨gr,0,none⟩=some (.slice none 0 0):=(Zo R3 0).trans rfl;have k1:w3.cell? ⟨gr,1,none⟩=some (.slice none 0 0):=(Zo R3 1).trans rfl;have k2:w3.cell? ⟨gr,2,none⟩=some (.int .i64 0):=(Zo R3 2).trans rfl;have f0:=Zu R3 0;have f1:=Zu R3 1;have f2:=Zu R3 2;obtain⟨AN,cN,eN⟩:=Kd.N_slice hn_;obtain⟨AT,cT,eT⟩:=Kd.R_slice ht_;subst eN;subst eT;clear hn_ ht_ hi_ hb_ hk_ R3))
  refine bodyPost_ret (results_cell_row rfl _ _ gr 39 #[.slice AN r1.length cN,.slice AT r2.length cT,.int .i64 r3] (0,0) _ rfl F.out.1 Tryd.underlying39 rfl (by kernel_rfl)) rfl ?_
  exact⟨_,_,rfl,F.out.2⟩
 | false=>
  have H:=Za (show Zab.f k b t2 t3=some (r1,r2,r3,r4,r5) from(if_neg (by simp)).symm.trans h)
  clear h
  go_enter Tryd.func45,Tryd.ntmps45
  go_wp2_with (first|((with_reducible refine ZK (N:=2) rfl ?_);refine ZN ?hg (N:=2) ?hd (cs:=#[.slice none 0 0,.slice none 0 0,.int .i64 0]) (t:=39) ?hr ?_;(case hd=>rfl);(case hg=>rfl);(case hr=>first|(go_simp;done)|(go_simp;rfl));intro gr hg w1 hbox hb;have R1:=Za hbox;have GR:=Za (show w.heap.size≤gr by rw[hg];exact Nat.le_refl _);have I1:=Za (I0.out.below hb);have B1:=Za (ZcH HB.out HB.out.size hb);have K1:=Za (ZI.of_below hb g none);clear hbox hb hg)|(go_at_call 70;refine(ZaD.calls g b i o 3 false t2 t3 w0 _ I1.out B1.out A0.out).mono ?_;rintro e w2 ⟨rfl,hi_,hb_,hk_⟩;have NE:=Za (show gr≠g from fun e=>I1.out.ne_blk R1.out (by decide) e.symm);have R2:=Za (ZI.blk hk_ R1.out NE.out (by simp));have I2:=Za hi_;have B2:=Za hb_;have K2:=Za (K1.out.trans hk_ (.inl rfl));clear hi_ hb_ hk_)|(go_at_call 72;refine(Zab.calls k g b t2 t3 r1 r2 r3 r4 r5 w0 _ I2.out B2.out H.out).mono ?_;rintro e w3 ⟨v0,v1,rfl,hn_,ht_,hi_,hb_,hk_⟩;have F:=Za (Zeb (z:=r3) GR.out HB.out.size R2.out K2.out NE.out hn_ ht_ hi_ hb_ hk_);have R3:=ZI.blk hk_ R2.out NE.out (by simp);have k0:w3.cell? ⟨gr,0,none⟩=some (.slice none 0 0):=(Zo R3 0).trans rfl;have k1:w3.cell? ⟨gr,1,none⟩=some (.slice none 0 0):=(Zo R3 1).trans rfl;have k2:w3.cell? ⟨gr,2,none⟩=some (.int .i64 0):=(Zo R3 2).trans rfl;have f0:=Zu R3 0;have f1:=Zu R3 1;have f2:=Zu R3 2;obtain⟨AN,cN,eN⟩:=Kd.N_slice hn_;obtain⟨AT,cT,eT⟩:=Kd.R_slice ht_;subst eN;subst eT;clear hn_ ht_ hi_ hb_ hk_ R3))
  refine bodyPost_ret (results_cell_row rfl _ _ gr 39 #[.slice AN r1.length cN,.slice AT r2.length cT,.int .i64 r3] (0,0) _ rfl F.out.1 Tryd.underlying39 rfl (by kernel_rfl)) rfl ?_
  exact⟨_,_,rfl,F.out.2⟩
def Zaf.l0:Nat→List Int→Int→Int→Option (List Int×Int×Int)
 | 0,_,_,_=>none
 | k+1,l,x3,x4=>if x4<(l.length:Int) then(if x4<4000 then(if 0≤x4 then Zaf.l0 k l (Go.bits .and .i64 (wrap64 ((wrap64 ((wrap64 (x3 * 71))+(wrap64 (rd l x4))))+7)) 1073741823) (wrap64 (x4+1)) else none) else some (l,0,x3)) else some (l,0,x3)
def Zaf.f (k:Nat) (l0:List Int):Option (List Int×Int×Int):=Zaf.l0 k l0 (wrap64 (1974+(l0.length:Int))) 0
theorem Zaf.newc (k:Nat) (A0:Option Addr) (c0:Nat) (l0:List Int) (r1:List Int) (r2:Int) (r3:Int) (w0 w:World) (hB:Below w0.heap.size w0 w) (hr0:Kd.C (Kd.int .u8) w0 A0 l0.length l0) (hc0:l0.length≤c0) (h:Zaf.f k l0=some (r1,r2,r3)) :
  Calls Tryd.prog 46 #[.slice A0 l0.length c0] w fun e w'=>∃g_:Nat,e=.returned (.pointer (some ⟨g_,0,none⟩))∧ZB w0 w' g_ r1 r2 r3∧Below w0.heap.size w0 w'∧Below w.heap.size w w'∧w.heap.size≤g_:=by
 have hu:=Tryd.underlying106
 have HR0:=Za hr0;have HB0:=Za hB
 have H':=Za (show Zaf.l0 k l0 (wrap64 (1974+(l0.length:Int))) 0=some (r1,r2,r3) from h)
 clear hr0 hc0 hB h
 go_enter Tryd.func46,Tryd.ntmps46
 go_wp2
 go_loopg [3,4] k (fun kq v3 v4 wr=>∃(x3 x4:Int),v3=.int .i64 x3∧v4=.int .i64 x4∧Aside0 (Zaf.l0 kq l0 x3 x4=some (r1,r2,r3))∧Aside0 (kq≤k)∧Aside0 (Below w0.heap.size w0 wr)∧Aside0 (Below w.heap.size w wr))
 case atStart=>exact⟨_,_,rfl,rfl,H',⟨Nat.le_refl _⟩,HB0,⟨Below.refl _ _⟩⟩
 case round=>
  clear H'
  obtain⟨x3,x4,rfl,rfl,HA,HK1,HB,HW⟩:=hrel
  cases gk with
  | zero=>exact absurd HA.out (by simp[Zaf.l0])
  | succ k1=>
   have H:=HA.out
   clear HA
   simp only[Zaf.l0] at H
   by_cases c2:x4<(l0.length:Int)
   ·rw[if_pos c2] at H
    by_cases c3:x4<4000
    ·rw[if_pos c3] at H
     by_cases c4:0≤x4
     ·rw[if_pos c4,show wrap64 (x4+1)=x4+1 from Z1 (by omega) (by omega)] at H
      have H':=Za H
      clear H
      obtain⟨ad,e1,hx⟩:=Kd.at_int HR0.out x4 c4 c2
      cases e1
      replace hx:=ZbQ HB.out hx
      go_wp2
      go_roundg k1
      case measure=>have:=HK1.out;omega
      case rel=>exact⟨_,_,rfl,rfl,H',⟨by have:=HK1.out;omega⟩,⟨by repeat(first|exact HB.out|apply Zm|apply Zp)⟩,⟨by repeat(first|exact HW.out|apply Zm|apply Zp)⟩⟩
     ·rw[if_neg c4] at H;exact absurd H (by simp)
    ·rw[if_neg c3] at H
     simp only[Option.some.injEq,Prod.mk.injEq] at H
     obtain⟨rfl,rfl,rfl⟩:=H
     go_wp2
     go_ret
     exact⟨_,rfl,ZB.new w0 _ A0 c0 l0 0 x3 (by repeat(first|exact HB.out|apply Zm|apply Zp)) HR0.out,by repeat(first|exact HB.out|apply Zn|apply Zm|apply Zp),by repeat(first|exact HW.out|apply Zn|apply Zm|apply Zp),HW.out.size⟩
   ·rw[if_neg c2] at H
    simp only[Option.some.injEq,Prod.mk.injEq] at H
    obtain⟨rfl,rfl,rfl⟩:=H
    go_wp2
    go_ret
    exact⟨_,rfl,ZB.new w0 _ A0 c0 l0 0 x3 (by repeat(first|exact HB.out|apply Zm|apply Zp)) HR0.out,by repeat(first|exact HB.out|apply Zn|apply Zm|apply Zp),by repeat(first|exact HW.out|apply Zn|apply Zm|apply Zp),HW.out.size⟩
theorem Zaf.calls (k:Nat) (A0:Option Addr) (c0:Nat) (l0:List Int) (r1:List Int) (r2:Int) (r3:Int) (w0 w:World) (hB:Below w0.heap.size w0 w) (hr0:Kd.C (Kd.int .u8) w0 A0 l0.length l0) (hc0:l0.length≤c0) (h:Zaf.f k l0=some (r1,r2,r3)) :
  Calls Tryd.prog 46 #[.slice A0 l0.length c0] w fun e w'=>∃g_:Nat,e=.returned (.pointer (some ⟨g_,0,none⟩))∧ZB w0 w' g_ r1 r2 r3∧Below w0.heap.size w0 w'∧Below w.heap.size w w':=
 (Zaf.newc k A0 c0 l0 r1 r2 r3 w0 w hB hr0 hc0 h).mono fun e w' ⟨g,h1,h2,h3,h4,_⟩=>⟨g,h1,h2,h3,h4⟩
def Zbf.f (k:Nat) (l0:List Int):Option (List S54×List S81×Int):=(Zaf.f k l0).bind fun t=>(ZbH.f k t.1 t.2.1 t.2.2).bind fun s=>some (s.1,s.2.1,s.2.2.1)
theorem Zbf.calls (k:Nat) (A0:Option Addr) (c0:Nat) (l0:List Int) (r1:List S54) (r2:List S81) (r3:Int) (w:World) (hr0:Kd.C (Kd.int .u8) w A0 l0.length l0) (hc0:l0.length≤c0) (h:Zbf.f k l0=some (r1,r2,r3)) :
  Calls Tryd.prog 15 #[.slice A0 l0.length c0] w fun e w'=>∃v0_ v1_:Value,e=.returned (.agg #[v0_,v1_,.int .i64 r3])∧Kd.N k54 54 w' w.heap.size (fun k_=>(w.heap.size≤k_)∧some k_≠(v1_:Value).ownBlock) v0_ r1∧Kd.R k81 81 w' w.heap.size (fun k_=>(w.heap.size≤k_)) v1_ r2∧Below w.heap.size w w':=by
 unfold Zbf.f at h
 obtain⟨⟨b,i,o⟩,A0_,h⟩:=Option.bind_eq_some_iff.1 h
 dsimp only at h
 obtain⟨⟨s1,s2,s3,s4,s5⟩,A1_,h⟩:=Option.bind_eq_some_iff.1 h
 obtain⟨rfl,rfl,rfl⟩:s1=r1∧s2=r2∧s3=r3:=by simpa using h
 have A1:=Za A1_
 have HN:=Za fun (W:World) (hb:Below w.heap.size w W)=>Zaf.newc k A0 c0 l0 b i o w W hb hr0 hc0 A0_
 have hu:=Tryd.underlying39
 clear A0_ A1_ h hr0 hc0
 go_enter Tryd.func15,Tryd.ntmps15
 go_wp2_with (first|((with_reducible refine ZK (N:=2) rfl ?_);refine ZN ?hg (N:=2) ?hd (cs:=#[.slice none 0 0,.slice none 0 0,.int .i64 0]) (t:=39) ?hr ?_;(case hd=>rfl);(case hg=>rfl);(case hr=>first|(go_simp;done)|(go_simp;rfl));intro gr hg w1 hbox hb;have R1:=Za hbox;have GR:=Za (show w.heap.size≤gr by rw[hg];exact Nat.le_refl _);have B1:=Za hb;clear hbox hb hg)|(go_at_call 46;refine(HN.out _ B1.out).mono ?_;rintro e w2 ⟨g,rfl,hi_,hb_,hb2_,hg_⟩;have NE:=Za (show gr≠g from Nat.ne_of_lt (Nat.lt_of_lt_of_le (ZR R1.out) hg_));have R2:=Za (Zw R1.out hb2_);have I2:=Za hi_;have B2:=Za hb_;have K2:=Za (ZI.of_below hb_ g none);clear hi_ hb_ hb2_ hg_)|(go_at_call 45;refine(ZbH.calls k g b i o s1 s2 s3 s4 s5 w _ I2.out B2.out A1.out).mono ?_;rintro e w3 ⟨v0,v1,rfl,hn_,ht_,hi_,hb_,hk_⟩;have F:=Za (Zeb (z:=s3) GR.out (Nat.le_refl _) R2.out K2.out NE.out hn_ ht_ hi_ hb_ hk_);have R3:=ZI.blk hk_ R2.out NE.out (by simp);have k0:w3.cell? ⟨gr,0,none⟩=some (.slice none 0 0):=(Zo R3 0).trans rfl;have k1:w3.cell? ⟨gr,1,none⟩=some (.slice none 0 0):=(Zo R3 1).trans rfl;have k2:w3.cell? ⟨gr,2,none⟩=some (.int .i64 0):=(Zo R3 2).trans rfl;have f0:=Zu R3 0;have f1:=Zu R3 1;have f2:=Zu R3 2;obtain⟨AN,cN,eN⟩:=Kd.N_slice hn_;obtain⟨AT,cT,eT⟩:=Kd.R_slice ht_;subst eN;subst eT;clear hn_ ht_ hi_ hb_ hk_ R3))
 refine bodyPost_ret (results_cell_row rfl _ _ gr 39 #[.slice AN s1.length cN,.slice AT s2.length cT,.int .i64 s3] (0,0) _ rfl F.out.1 Tryd.underlying39 rfl (by kernel_rfl)) rfl ?_
 exact⟨_,_,rfl,F.out.2.1,F.out.2.2.1,F.out.2.2.2.2.1⟩
def facI (ts:List S81) (i:Int):Int:=wrap64 (wrap64 ((Zz ts i).f3 - (Zz ts i).f2)+1)
def atS (ts:List S81) (s:Int×List Int) (i:Int):Int×List Int:=(wrap64 (Int.tdiv s.1 (facI ts i)),s.2 ++ [wrap64 ((Zz ts i).f2+Int.tmod s.1 (facI ts i))])
def atQ (q:Int) (s:Int×List Int):Int×List Int:=if q≥0 then(wrap64 (Int.tdiv s.1 2),s.2 ++ [wrap64 (1 - wrap64 (Int.tmod s.1 2 * 2))]) else(s.1,s.2 ++ [1])
def Zbx (q:Int→Int):Nat→Nat→Int×List Int→Int×List Int
 | 0,_,s=>s
 | d+1,p,s=>Zbx q d (p+1) (atQ (q (p:Int)) s)
def atAll (ts:List S81) (q:Int→Int) (L:List Int) (n:Int):List Int×List Int:=((L.foldl (atS ts) (n,[])).2,(Zbx q 3 1 ((L.foldl (atS ts) (n,[])).1,[])).2)
def okF (ts:List S81) (L:List Int):Bool:=decide (L.length≤1048576) && L.all fun x=>decide (0≤x) && (decide (x<ts.length) && !(facI ts x == 0))
theorem okF_iff {ts:List S81} {L:List Int} (h:okF ts L=true):L.length≤1048576∧∀x∈L,0≤x∧x<ts.length∧facI ts x≠0:=by
 unfold okF at h
 simp only[Bool.and_eq_true,decide_eq_true_eq,List.all_eq_true,Bool.not_eq_true',beq_eq_false_iff_ne] at h
 exact h
def ccS (ts:List S81) (a i:Int):Int:=wrap64 (a * facI ts i)
def ccQ (q x:Int):Int:=if q≥0 then wrap64 (x * 2) else x
def Zci (q:Int→Int):Nat→Nat→Int→Int
 | 0,_,x=>x
 | d+1,p,x=>Zci q d (p+1) (ccQ (q (p:Int)) x)
def okI (ts:List S81) (L:List Int):Bool:=decide (L.length≤1048576) && L.all fun x=>decide (0≤x) && decide (x<ts.length)
theorem okI_iff {ts:List S81} {L:List Int} (h:okI ts L=true):L.length≤1048576∧∀x∈L,0≤x∧x<ts.length:=by
 unfold okI at h
 simp only[Bool.and_eq_true,decide_eq_true_eq,List.all_eq_true] at h
 exact h
def wq (f:Int→Option Int):Option (Int→Int):=(f 1).bind fun a=>(f 2).bind fun b=>(f 3).bind fun c=>some (fun p=>if p=1 then a else if p=2 then b else c)
theorem wq_some {f:Int→Option Int} {q:Int→Int} (h:wq f=some q):∀p:Nat,1≤p→p≤3→f (p:Int)=some (q (p:Int)):=by
 unfold wq at h
 obtain⟨a,ha,h⟩:=Option.bind_eq_some_iff.1 h
 obtain⟨b,hb,h⟩:=Option.bind_eq_some_iff.1 h
 obtain⟨c,hc,h⟩:=Option.bind_eq_some_iff.1 h
 obtain rfl:=Zg h
 intro p h1 h3
 have:p=1∨p=2∨p=3:=by omega
 rcases this with rfl|rfl|rfl
 ·exact ha
 ·exact hb
 ·exact hc
theorem wq_of {f:Int→Option Int} {q:Int→Int} (h:∀p:Nat,1≤p→p≤3→f (p:Int)=some (q (p:Int))):∃q',wq f=some q'∧(∀s,Zbx q' 3 1 s=Zbx q 3 1 s)∧∀s,Zci q' 3 1 s=Zci q 3 1 s:=by
 have h1:=h 1 (by omega) (by omega)
 have h2:=h 2 (by omega) (by omega)
 have h3:=h 3 (by omega) (by omega)
 refine⟨_,by unfold wq;rw[show f 1=_ from h1,Zi,show f 2=_ from h2,Zi,show f 3=_ from h3,Zi],fun s=>?_,fun s=>?_⟩
 ·rfl
 ·rfl
structure Two (w W:World) (gs g4 g5:Nat) (vs cs:Array Value) (uG uK:Value) (G K:List Int):Prop where
 rg:Kd.R (Kd.int .i64) 3 W w.heap.size (fun k=>some k≠uK.ownBlock) uG G
 rk:Kd.R (Kd.int .i64) 3 W w.heap.size (fun k=>some k≠uG.ownBlock) uK K
 hb:Below w.heap.size w W
 bs:W.heap[gs]? = some (Obj.cells vs 39 (0,0))
 b4:W.heap[g4]? = some (Obj.cells #[.slice none 0 0,.slice none 0 0] 44 (0,0))
 b5:W.heap[g5]? = some (Obj.cells cs 44 (0,0))
 n45:g4≠g5
 g4b:w.heap.size≤g4
 g5b:w.heap.size≤g5
section
variable {w W w1:World} {gs g4 g5:Nat} {vs cs cs':Array Value} {uG uK v1:Value} {G G1 K:List Int}
theorem Two.below (h:Two w W gs g4 g5 vs cs uG uK G K) (hb:Below W.heap.size W w1):Two w w1 gs g4 g5 vs cs uG uK G K:=
 ⟨Kd.R_below h.rg hb,Kd.R_below h.rk hb,Zx h.hb hb,Zw h.bs hb,Zw h.b4 hb,Zw h.b5 hb,h.n45,h.g4b,h.g5b⟩
theorem Two.grow {j:Nat} (h:Two w W gs g4 g5 vs cs uG uK G K) (ho:Kd.R (Kd.int .i64) 3 w1 w.heap.size (fun k=>some k≠uK.ownBlock) v1 G1) (hb:Below w.heap.size w w1) (hg:W.grownBy w1 uG.ownBlock) (hat:v1.ownBlock=uG.ownBlock∨∃b,v1.ownBlock=some b∧W.heap.size≤b) (e:cs.setIfInBounds j v1=cs') :
  Two w (w1.setCell ⟨g5,j,none⟩ v1) gs g4 g5 vs cs' v1 uK G1 K∧(w1.heap[g5]? = some (Obj.cells cs 44 (0,0))∧w1.heap[gs]? = some (Obj.cells vs 39 (0,0)))∧∃A c,v1=.slice A G1.length c:=by
 have HR1:=Kd.R_after (ok:=fun _=>True) (Kd.R_mono h.rk (fun _ hk=>⟨trivial,hk⟩)) hg hat
 have c4:=Zao h.b4 hg (Kd.R_ne h.rg h.b4 (by decide))
 have c5:=Zao h.b5 hg (Kd.R_ne h.rg h.b5 (by decide))
 have ss:=Zao h.bs hg (Kd.R_ne h.rg h.bs (by decide))
 exact⟨⟨Kd.R_mono (Kd.R_far (p:=⟨g5,j,none⟩) (Kd.R_types ho c5 (by decide)) (fun _ hk=>hk.2) v1) (fun _ hk=>hk.1),Kd.R_mono (Kd.R_far (p:=⟨g5,j,none⟩) (Kd.R_types HR1 c5 (by decide)) (fun _ hk=>hk.2) v1) (fun _ hk=>hk.1.2),Zq hb h.g5b,ZF ss (p:=⟨g5,j,none⟩) (Zbv ss c5 (by decide)) v1,ZF c4 (p:=⟨g5,j,none⟩) h.n45 v1,ZO c5 j v1 e,h.n45,h.g4b,h.g5b⟩,⟨c5,ss⟩,Kd.R_slice ho⟩
theorem Two.turn (h:Two w W gs g4 g5 vs #[uG,.slice none 0 0] uG uK G K):Two w W gs g4 g5 vs #[uG,.slice none 0 0] (.slice none 0 0) uG [] G:=
 ⟨Kd.R_nil _ _ _ _ _,Kd.R_mono h.rg (fun _ _=>by simp[Value.ownBlock]),h.hb,h.bs,h.b4,h.b5,h.n45,h.g4b,h.g5b⟩
theorem Two.done (h:Two w W gs g4 g5 vs cs uG uK G K) {a b:Value}:Kd.R (Kd.int .i64) 3 ((W.setCell ⟨g4,0,none⟩ a).setCell ⟨g4,1,none⟩ b) w.heap.size (fun k=>some k≠uG.ownBlock) uK K∧Kd.R (Kd.int .i64) 3 ((W.setCell ⟨g4,0,none⟩ a).setCell ⟨g4,1,none⟩ b) w.heap.size (fun k=>some k≠uK.ownBlock) uG G∧Below w.heap.size w ((W.setCell ⟨g4,0,none⟩ a).setCell ⟨g4,1,none⟩ b)∧((W.setCell ⟨g4,0,none⟩ a).setCell ⟨g4,1,none⟩ b).heap[g4]? = some (Obj.cells #[a,b] 44 (0,0)):=
 ⟨Kd.R_mono (Kd.R_far (p:=⟨g4,1,none⟩) (Kd.R_far (p:=⟨g4,0,none⟩) (Kd.R_types h.rk h.b4 (by decide)) (fun _ hk=>hk.2) a) (fun _ hk=>hk.2) b) (fun _ hk=>hk.1),Kd.R_mono (Kd.R_far (p:=⟨g4,1,none⟩) (Kd.R_far (p:=⟨g4,0,none⟩) (Kd.R_types h.rg h.b4 (by decide)) (fun _ hk=>hk.2) a) (fun _ hk=>hk.2) b) (fun _ hk=>hk.1),Zq (Zq h.hb h.g4b) h.g4b,ZO (cs:=#[a,.slice none 0 0]) (ZO (cs:=#[.slice none 0 0,.slice none 0 0]) h.b4 0 a rfl) 1 b rfl⟩
end
abbrev ZJ:=S54
abbrev PTie:=S81
theorem Zco (l:List ZJ) (i:Nat):Zy l (i:Int)=l.getD i z54:=by unfold Zy;rw[Int.toNat_natCast]
theorem ZdI (l:List PTie) (i:Nat):Zz l (i:Int)=l.getD i z81:=by unfold Zz;rw[Int.toNat_natCast]
def ZbK (ns:List ZJ) (ts:List PTie):Prop:=ns.length≤1048576∧ts.length≤1048576∧∀n∈ns,n.f0.size≤1048576∧n.f1.length≤1048576
def Zaa.l0:Nat→ByteArray→Int→Option (Bool)
 | 0,_,_=>none
 | k+1,x0,x3=>if x3<(x0.size:Int) then(if 0≤x3 then(if (bt x0 x3)≥97 then(if (bt x0 x3)≥48 then(if ((bt x0 x3)≤122) then(Zaa.l0 k x0 (wrap64 (x3+1))) else(if ((bt x0 x3)≤57) then(if x3=0 then(some false) else(Zaa.l0 k x0 (wrap64 (x3+1)))) else(some false))) else(if ((bt x0 x3)≤122) then(Zaa.l0 k x0 (wrap64 (x3+1))) else(some false))) else(if (bt x0 x3)≥48 then(if ((bt x0 x3)≤57) then(if x3=0 then(some false) else(Zaa.l0 k x0 (wrap64 (x3+1)))) else(some false)) else(some false))) else(none)) else(if (x0.size:Int)≥1 then(some (decide ((x0.size:Int)≤8))) else(some false))
def Zaa.f (k:Nat) (a0:ByteArray):Option (Bool):=Zaa.l0 k a0 0
theorem Zaa.calls (k:Nat) (a0:ByteArray) (r:Bool) (w:World) (h:Zaa.f k a0=some r) :
  Calls Tryd.prog 131 #[.string a0] w fun e w'=>e=.returned (.bool r)∧ZQ w w':=by
 have H:(Zaa.l0 k a0 0)=some r:=h
 clear h
 have H':=Za H
 clear H
 go_enter Tryd.func131,Tryd.ntmps131
 go_wp2
 repeat(go_quiet (fail);try go_wp2)
 go_loopg [3] k (fun kq v3 w'=>∃(x3_1:Int),v3=.int .i64 x3_1∧Aside0 (Zaa.l0 kq a0 x3_1=some r)∧Aside0 (kq≤k)∧ZQ w w')
 case atStart=>exact⟨(0),(by first|rfl|(simp;done)|(simp[*];done)),H',⟨Nat.le_refl _⟩,by repeat(first|exact ZQ.refl _|apply ZQ.step)⟩
 case round=>
  clear H'
  try clear c1
  obtain⟨x3_1,rfl,HA,HK1,⟨m1,rfl⟩⟩:=hrel
  cases gk with
  | zero=>exact absurd HA.out (by simp[Zaa.l0])
  | succ k1=>
   have H:=HA.out
   clear HA
   simp only[Zaa.l0] at H
   by_cases c2:x3_1<(a0.size:Int)
   ·rw[if_pos c2] at H
    have c2b0:decide (x3_1<(a0.size:Int))=true:=Ze c2
    clear c2
    by_cases c3:0≤x3_1
    ·rw[if_pos c3] at H
     have c3b0:decide (0≤x3_1)=true:=Ze c3
     clear c3
     by_cases c5:(bt a0 x3_1)≥97
     ·rw[if_pos c5] at H
      have c5b0:decide (97≤(bt a0 x3_1))=true:=Ze c5
      clear c5
      by_cases c8:(bt a0 x3_1)≥48
      ·rw[if_pos c8] at H
       have c8b0:decide (48≤(bt a0 x3_1))=true:=Ze c8
       clear c8
       by_cases c10:((bt a0 x3_1)≤122)
       ·rw[if_pos c10] at H
        have c10b0:decide ((bt a0 x3_1)≤122)=true:=Ze c10
        clear c10
        have H':=Za H
        clear H
        have p4:0≤(x3_1:Int):=Zd (by first|(with_reducible assumption)|assumption)
        have q4:x3_1<(a0.size:Int):=Zd (by first|(with_reducible assumption)|assumption)
        have hx4:=ZaH a0 x3_1
        replace p4:=eq_true p4
        replace q4:=eq_true q4
        have p6:0≤(x3_1:Int):=Zd (by first|(with_reducible assumption)|assumption)
        have q6:x3_1<(a0.size:Int):=Zd (by first|(with_reducible assumption)|assumption)
        have hx6:=ZaH a0 x3_1
        replace p6:=eq_true p6
        replace q6:=eq_true q6
        have p7:0≤(x3_1:Int):=Zd (by first|(with_reducible assumption)|assumption)
        have q7:x3_1<(a0.size:Int):=Zd (by first|(with_reducible assumption)|assumption)
        have hx7:=ZaH a0 x3_1
        replace p7:=eq_true p7
        replace q7:=eq_true q7
        have p9:0≤(x3_1:Int):=Zd (by first|(with_reducible assumption)|assumption)
        have q9:x3_1<(a0.size:Int):=Zd (by first|(with_reducible assumption)|assumption)
        have hx9:=ZaH a0 x3_1
        replace p9:=eq_true p9
        replace q9:=eq_true q9
        go_wp2
        repeat(go_quiet (fail);try go_wp2)
        go_roundg k1
        case measure=>have:=HK1.out;omega
        case rel=>exact⟨(wrap64 (x3_1+1)),(by first|rfl|(simp;done)|(simp[*];done)),H',⟨by have:=HK1.out;omega⟩,by repeat(first|exact ZQ.refl _|apply ZQ.step)⟩
       ·rw[if_neg c10] at H
        have c10b0:decide ((bt a0 x3_1)≤122)=false:=Zf c10
        clear c10
        by_cases c11:((bt a0 x3_1)≤57)
        ·rw[if_pos c11] at H
         have c11b0:decide ((bt a0 x3_1)≤57)=true:=Ze c11
         clear c11
         by_cases c12:x3_1=0
         ·rw[if_pos c12] at H
          have c12b0:(x3_1 == 0)=true:=beq_iff_eq.mpr c12
          have c12b1:(x3_1 != 0)=false:=bne_eq_false_iff_eq.mpr c12
          clear c12
          obtain rfl:=Zg H
          have p4:0≤(x3_1:Int):=Zd (by first|(with_reducible assumption)|assumption)
          have q4:x3_1<(a0.size:Int):=Zd (by first|(with_reducible assumption)|assumption)
          have hx4:=ZaH a0 x3_1
          replace p4:=eq_true p4
          replace q4:=eq_true q4
          have p6:0≤(x3_1:Int):=Zd (by first|(with_reducible assumption)|assumption)
          have q6:x3_1<(a0.size:Int):=Zd (by first|(with_reducible assumption)|assumption)
          have hx6:=ZaH a0 x3_1
          replace p6:=eq_true p6
          replace q6:=eq_true q6
          have p7:0≤(x3_1:Int):=Zd (by first|(with_reducible assumption)|assumption)
          have q7:x3_1<(a0.size:Int):=Zd (by first|(with_reducible assumption)|assumption)
          have hx7:=ZaH a0 x3_1
          replace p7:=eq_true p7
          replace q7:=eq_true q7
          have p9:0≤(x3_1:Int):=Zd (by first|(with_reducible assumption)|assumption)
          have q9:x3_1<(a0.size:Int):=Zd (by first|(with_reducible assumption)|assumption)
          have hx9:=ZaH a0 x3_1
          replace p9:=eq_true p9
          replace q9:=eq_true q9
          go_wp2
          repeat(go_quiet (fail);try go_wp2)
          go_ret
          exact⟨by first|rfl|(simp;done)|(simp[*];done),by repeat(first|exact ZQ.refl _|apply ZQ.step)⟩
         ·rw[if_neg c12] at H
          have c12b0:(x3_1 == 0)=false:=beq_eq_false_iff_ne.mpr c12
          have c12b1:(x3_1 != 0)=true:=bne_iff_ne.mpr c12
          have H':=Za H
          clear H
          have p4:0≤(x3_1:Int):=Zd (by first|(with_reducible assumption)|assumption)
          have q4:x3_1<(a0.size:Int):=Zd (by first|(with_reducible assumption)|assumption)
          have hx4:=ZaH a0 x3_1
          replace p4:=eq_true p4
          replace q4:=eq_true q4
          have p6:0≤(x3_1:Int):=Zd (by first|(with_reducible assumption)|assumption)
          have q6:x3_1<(a0.size:Int):=Zd (by first|(with_reducible assumption)|assumption)
          have hx6:=ZaH a0 x3_1
          replace p6:=eq_true p6
          replace q6:=eq_true q6
          have p7:0≤(x3_1:Int):=Zd (by first|(with_reducible assumption)|assumption)
          have q7:x3_1<(a0.size:Int):=Zd (by first|(with_reducible assumption)|assumption)
          have hx7:=ZaH a0 x3_1
          replace p7:=eq_true p7
          replace q7:=eq_true q7
          have p9:0≤(x3_1:Int):=Zd (by first|(with_reducible assumption)|assumption)
          have q9:x3_1<(a0.size:Int):=Zd (by first|(with_reducible assumption)|assumption)
          have hx9:=ZaH a0 x3_1
          replace p9:=eq_true p9
          replace q9:=eq_true q9
          go_wp2
          repeat(go_quiet (fail);try go_wp2)
          go_roundg k1
          case measure=>have:=HK1.out;omega
          case rel=>exact⟨(wrap64 (x3_1+1)),(by first|rfl|(simp;done)|(simp[*];done)),H',⟨by have:=HK1.out;omega⟩,by repeat(first|exact ZQ.refl _|apply ZQ.step)⟩
        ·rw[if_neg c11] at H
         have c11b0:decide ((bt a0 x3_1)≤57)=false:=Zf c11
         clear c11
         obtain rfl:=Zg H
         have p4:0≤(x3_1:Int):=Zd (by first|(with_reducible assumption)|assumption)
         have q4:x3_1<(a0.size:Int):=Zd (by first|(with_reducible assumption)|assumption)
         have hx4:=ZaH a0 x3_1
         replace p4:=eq_true p4
         replace q4:=eq_true q4
         have p6:0≤(x3_1:Int):=Zd (by first|(with_reducible assumption)|assumption)
         have q6:x3_1<(a0.size:Int):=Zd (by first|(with_reducible assumption)|assumption)
         have hx6:=ZaH a0 x3_1
         replace p6:=eq_true p6
         replace q6:=eq_true q6
         have p7:0≤(x3_1:Int):=Zd (by first|(with_reducible assumption)|assumption)
         have q7:x3_1<(a0.size:Int):=Zd (by first|(with_reducible assumption)|assumption)
         have hx7:=ZaH a0 x3_1
         replace p7:=eq_true p7
         replace q7:=eq_true q7
         have p9:0≤(x3_1:Int):=Zd (by first|(with_reducible assumption)|assumption)
         have q9:x3_1<(a0.size:Int):=Zd (by first|(with_reducible assumption)|assumption)
         have hx9:=ZaH a0 x3_1
         replace p9:=eq_true p9
         replace q9:=eq_true q9
         go_wp2
         repeat(go_quiet (fail);try go_wp2)
         go_ret
         exact⟨by first|rfl|(simp;done)|(simp[*];done),by repeat(first|exact ZQ.refl _|apply ZQ.step)⟩
      ·rw[if_neg c8] at H
       have c8b0:decide (48≤(bt a0 x3_1))=false:=Zf c8
       clear c8
       by_cases c13:((bt a0 x3_1)≤122)
       ·rw[if_pos c13] at H
        have c13b0:decide ((bt a0 x3_1)≤122)=true:=Ze c13
        clear c13
        have H':=Za H
        clear H
        have p4:0≤(x3_1:Int):=Zd (by first|(with_reducible assumption)|assumption)
        have q4:x3_1<(a0.size:Int):=Zd (by first|(with_reducible assumption)|assumption)
        have hx4:=ZaH a0 x3_1
        replace p4:=eq_true p4
        replace q4:=eq_true q4
        have p6:0≤(x3_1:Int):=Zd (by first|(with_reducible assumption)|assumption)
        have q6:x3_1<(a0.size:Int):=Zd (by first|(with_reducible assumption)|assumption)
        have hx6:=ZaH a0 x3_1
        replace p6:=eq_true p6
        replace q6:=eq_true q6
        have p7:0≤(x3_1:Int):=Zd (by first|(with_reducible assumption)|assumption)
        have q7:x3_1<(a0.size:Int):=Zd (by first|(with_reducible assumption)|assumption)
        have hx7:=ZaH a0 x3_1
        replace p7:=eq_true p7
        replace q7:=eq_true q7
        go_wp2
        repeat(go_quiet (fail);try go_wp2)
        go_roundg k1
        case measure=>have:=HK1.out;omega
        case rel=>exact⟨(wrap64 (x3_1+1)),(by first|rfl|(simp;done)|(simp[*];done)),H',⟨by have:=HK1.out;omega⟩,by repeat(first|exact ZQ.refl _|apply ZQ.step)⟩
       ·rw[if_neg c13] at H
        have c13b0:decide ((bt a0 x3_1)≤122)=false:=Zf c13
        clear c13
        obtain rfl:=Zg H
        have p4:0≤(x3_1:Int):=Zd (by first|(with_reducible assumption)|assumption)
        have q4:x3_1<(a0.size:Int):=Zd (by first|(with_reducible assumption)|assumption)
        have hx4:=ZaH a0 x3_1
        replace p4:=eq_true p4
        replace q4:=eq_true q4
        have p6:0≤(x3_1:Int):=Zd (by first|(with_reducible assumption)|assumption)
        have q6:x3_1<(a0.size:Int):=Zd (by first|(with_reducible assumption)|assumption)
        have hx6:=ZaH a0 x3_1
        replace p6:=eq_true p6
        replace q6:=eq_true q6
        have p7:0≤(x3_1:Int):=Zd (by first|(with_reducible assumption)|assumption)
        have q7:x3_1<(a0.size:Int):=Zd (by first|(with_reducible assumption)|assumption)
        have hx7:=ZaH a0 x3_1
        replace p7:=eq_true p7
        replace q7:=eq_true q7
        go_wp2
        repeat(go_quiet (fail);try go_wp2)
        go_ret
        exact⟨by first|rfl|(simp;done)|(simp[*];done),by repeat(first|exact ZQ.refl _|apply ZQ.step)⟩
     ·rw[if_neg c5] at H
      have c5b0:decide (97≤(bt a0 x3_1))=false:=Zf c5
      clear c5
      by_cases c15:(bt a0 x3_1)≥48
      ·rw[if_pos c15] at H
       have c15b0:decide (48≤(bt a0 x3_1))=true:=Ze c15
       clear c15
       by_cases c17:((bt a0 x3_1)≤57)
       ·rw[if_pos c17] at H
        have c17b0:decide ((bt a0 x3_1)≤57)=true:=Ze c17
        clear c17
        by_cases c18:x3_1=0
        ·rw[if_pos c18] at H
         have c18b0:(x3_1 == 0)=true:=beq_iff_eq.mpr c18
         have c18b1:(x3_1 != 0)=false:=bne_eq_false_iff_eq.mpr c18
         clear c18
         obtain rfl:=Zg H
         have p4:0≤(x3_1:Int):=Zd (by first|(with_reducible assumption)|assumption)
         have q4:x3_1<(a0.size:Int):=Zd (by first|(with_reducible assumption)|assumption)
         have hx4:=ZaH a0 x3_1
         replace p4:=eq_true p4
         replace q4:=eq_true q4
         have p14:0≤(x3_1:Int):=Zd (by first|(with_reducible assumption)|assumption)
         have q14:x3_1<(a0.size:Int):=Zd (by first|(with_reducible assumption)|assumption)
         have hx14:=ZaH a0 x3_1
         replace p14:=eq_true p14
         replace q14:=eq_true q14
         have p16:0≤(x3_1:Int):=Zd (by first|(with_reducible assumption)|assumption)
         have q16:x3_1<(a0.size:Int):=Zd (by first|(with_reducible assumption)|assumption)
         have hx16:=ZaH a0 x3_1
         replace p16:=eq_true p16
         replace q16:=eq_true q16
         go_wp2
         repeat(go_quiet (fail);try go_wp2)
         go_ret
         exact⟨by first|rfl|(simp;done)|(simp[*];done),by repeat(first|exact ZQ.refl _|apply ZQ.step)⟩
        ·rw[if_neg c18] at H
         have c18b0:(x3_1 == 0)=false:=beq_eq_false_iff_ne.mpr c18
         have c18b1:(x3_1 != 0)=true:=bne_iff_ne.mpr c18
         have H':=Za H
         clear H
         have p4:0≤(x3_1:Int):=Zd (by first|(with_reducible assumption)|assumption)
         have q4:x3_1<(a0.size:Int):=Zd (by first|(with_reducible assumption)|assumption)
         have hx4:=ZaH a0 x3_1
         replace p4:=eq_true p4
         replace q4:=eq_true q4
         have p14:0≤(x3_1:Int):=Zd (by first|(with_reducible assumption)|assumption)
         have q14:x3_1<(a0.size:Int):=Zd (by first|(with_reducible assumption)|assumption)
         have hx14:=ZaH a0 x3_1
         replace p14:=eq_true p14
         replace q14:=eq_true q14
         have p16:0≤(x3_1:Int):=Zd (by first|(with_reducible assumption)|assumption)
         have q16:x3_1<(a0.size:Int):=Zd (by first|(with_reducible assumption)|assumption)
         have hx16:=ZaH a0 x3_1
         replace p16:=eq_true p16
         replace q16:=eq_true q16
         go_wp2
         repeat(go_quiet (fail);try go_wp2)
         go_roundg k1
         case measure=>have:=HK1.out;omega
         case rel=>exact⟨(wrap64 (x3_1+1)),(by first|rfl|(simp;done)|(simp[*];done)),H',⟨by have:=HK1.out;omega⟩,by repeat(first|exact ZQ.refl _|apply ZQ.step)⟩
       ·rw[if_neg c17] at H
        have c17b0:decide ((bt a0 x3_1)≤57)=false:=Zf c17
        clear c17
        obtain rfl:=Zg H
        have p4:0≤(x3_1:Int):=Zd (by first|(with_reducible assumption)|assumption)
        have q4:x3_1<(a0.size:Int):=Zd (by first|(with_reducible assumption)|assumption)
        have hx4:=ZaH a0 x3_1
        replace p4:=eq_true p4
        replace q4:=eq_true q4
        have p14:0≤(x3_1:Int):=Zd (by first|(with_reducible assumption)|assumption)
        have q14:x3_1<(a0.size:Int):=Zd (by first|(with_reducible assumption)|assumption)
        have hx14:=ZaH a0 x3_1
        replace p14:=eq_true p14
        replace q14:=eq_true q14
        have p16:0≤(x3_1:Int):=Zd (by first|(with_reducible assumption)|assumption)
        have q16:x3_1<(a0.size:Int):=Zd (by first|(with_reducible assumption)|assumption)
        have hx16:=ZaH a0 x3_1
        replace p16:=eq_true p16
        replace q16:=eq_true q16
        go_wp2
        repeat(go_quiet (fail);try go_wp2)
        go_ret
        exact⟨by first|rfl|(simp;done)|(simp[*];done),by repeat(first|exact ZQ.refl _|apply ZQ.step)⟩
      ·rw[if_neg c15] at H
       have c15b0:decide (48≤(bt a0 x3_1))=false:=Zf c15
       clear c15
       obtain rfl:=Zg H
       have p4:0≤(x3_1:Int):=Zd (by first|(with_reducible assumption)|assumption)
       have q4:x3_1<(a0.size:Int):=Zd (by first|(with_reducible assumption)|assumption)
       have hx4:=ZaH a0 x3_1
       replace p4:=eq_true p4
       replace q4:=eq_true q4
       have p14:0≤(x3_1:Int):=Zd (by first|(with_reducible assumption)|assumption)
       have q14:x3_1<(a0.size:Int):=Zd (by first|(with_reducible assumption)|assumption)
       have hx14:=ZaH a0 x3_1
       replace p14:=eq_true p14
       replace q14:=eq_true q14
       go_wp2
       repeat(go_quiet (fail);try go_wp2)
       go_ret
       exact⟨by first|rfl|(simp;done)|(simp[*];done),by repeat(first|exact ZQ.refl _|apply ZQ.step)⟩
    ·rw[if_neg c3] at H
     exact absurd H (by simp)
   ·rw[if_neg c2] at H
    have c2b0:decide (x3_1<(a0.size:Int))=false:=Zf c2
    clear c2
    by_cases c19:(a0.size:Int)≥1
    ·rw[if_pos c19] at H
     have c19b0:decide (1≤(a0.size:Int))=true:=Ze c19
     have c19b1:decide (1≤a0.size)=true:=Ze (by omega)
     clear c19
     obtain rfl:=Zg H
     go_wp2
     repeat(go_quiet (fail);try go_wp2)
     go_ret
     exact⟨by first|rfl|(simp;done)|(simp[*];done),by repeat(first|exact ZQ.refl _|apply ZQ.step)⟩
    ·rw[if_neg c19] at H
     have c19b0:decide (1≤(a0.size:Int))=false:=Zf c19
     have c19b1:decide (1≤a0.size)=false:=Zf (by omega)
     clear c19
     obtain rfl:=Zg H
     go_wp2
     repeat(go_quiet (fail);try go_wp2)
     go_ret
     exact⟨by first|rfl|(simp;done)|(simp[*];done),by repeat(first|exact ZQ.refl _|apply ZQ.step)⟩
def chB (s:ByteArray) (i:Nat):Bool:=(decide (97≤bt s i) && decide (bt s i≤122)) || (decide (0<i) && decide (48≤bt s i) && decide (bt s i≤57))
def chsB (s:ByteArray) (i:Nat):Nat→Bool
 | 0=>true
 | d+1=>chB s i && chsB s (i+1) d
def nameB (s:ByteArray):Bool:=chsB s 0 s.size && (decide (1≤s.size) && decide (s.size≤8))
theorem Zff (s:ByteArray) (hs:s.size≤9223372036854775807) (k:Nat) (hk:2 ^ 64≤k):Zaa.f k s=some (nameB s):=by
 have key:=Zc7 s.size (fun k i=>Zaa.l0 k s (i:Int)=some (chsB s i (s.size - i) && (decide (1≤s.size) && decide (s.size≤8)))) 0
  (fun k _=>by
   simp only[Zaa.l0]
   rw[if_neg (by omega),Nat.sub_self]
   unfold chsB
   by_cases h1:1≤s.size
   ·rw[if_pos (by omega),Ze h1]
    simp only[Bool.true_and]
    congr 1
    rw[Bool.eq_iff_iff];simp;omega
   ·rw[if_neg (by omega),Zf h1];rfl)
  (fun k i _ hi ih=>by
   simp only[Zaa.l0]
   rw[if_pos (by omega),if_pos (by omega),Z9 hi (by omega),ih,show chsB s i (s.size - i)=(chB s i && chsB s (i+1) (s.size - (i+1))) by rw[show s.size - i=(s.size - (i+1))+1 by omega];rfl]
   have hF:chB s i=false→(chB s i && chsB s (i+1) (s.size - (i+1)) && (decide (1≤s.size) && decide (s.size≤8)))=false:=fun h=>by rw[h];rfl
   have hT:chB s i=true→(chB s i && chsB s (i+1) (s.size - (i+1)) && (decide (1≤s.size) && decide (s.size≤8)))=(chsB s (i+1) (s.size - (i+1)) && (decide (1≤s.size) && decide (s.size≤8))):=fun h=>by rw[h,Bool.true_and]
   generalize hc:bt s (i:Int)=c at *
   have hch:chB s i=((decide (97≤c) && decide (c≤122)) || (decide (0<i) && decide (48≤c) && decide (c≤57))):=by unfold chB;rw[hc]
   by_cases a1:c≥97
   ·rw[if_pos a1,if_pos (by omega)]
    by_cases a2:c≤122
    ·rw[if_pos a2,hT (by rw[hch];simp;omega)]
    ·rw[if_neg a2,if_neg (by omega),hF (by rw[hch];simp;omega)]
   ·rw[if_neg a1]
    by_cases b1:c≥48
    ·rw[if_pos b1]
     by_cases b2:c≤57
     ·rw[if_pos b2]
      by_cases b0:(i:Int)=0
      ·rw[if_pos b0,hF (by rw[hch];simp;omega)]
      ·rw[if_neg b0,hT (by rw[hch];simp;omega)]
     ·rw[if_neg b2,hF (by rw[hch];simp;omega)]
    ·rw[if_neg b1,hF (by rw[hch];simp;omega)]) 0 k (Nat.zero_le _) (by omega)
 unfold Zaa.f nameB
 simpa using key
theorem ZcS {x:Int} (h:ZbC x=true):Zag.f x=some (prp x):=by
 have:=(Zcc x).1 h
 unfold Zag.f prp mx
 rw[Z1 (by omega) (by omega)]
 congr 1
 split <;> split <;> omega
theorem Zb4 (l:List Int) (hl:l.length≤9223372036854775807) (k:Nat) (hk:2 ^ 64≤k):ZV.f k l=some (labB l):=by
 have key:=Zc7 l.length (fun k i=>(0<i→ZbC (l.getD (i - 1) 0)=true)→ZV.l0 k l l l.length (i:Int)=some (ZbI (if i=0 then 0 else prp (l.getD (i - 1) 0)) (l.drop i))) 0
  (fun k _ _=>by simp[ZV.l0,ZbI])
  (fun k i _ hi ih hb=>by
   simp only[ZV.l0]
   rw[if_pos (by omega),if_pos (by omega),if_pos (by omega),Zbq,Z9 hi (by omega),Za2 hi 0]
   unfold ZbI
   have ih':=fun h=>ih (fun _=>h)
   simp only[Nat.add_sub_cancel,Nat.add_eq_zero_iff,Nat.one_ne_zero,and_false,if_false] at ih'
   by_cases h0:l.getD i 0=0
   ·rw[if_pos h0,h0];simp[ZbC]
   rw[if_neg h0]
   by_cases h1:l.getD i 0≥-3
   ·rw[if_neg (by omega)]
    by_cases h2:l.getD i 0≤3
    ·have hok:ZbC (l.getD i 0)=true:=(Zcc _).2 ⟨h0,h1,h2⟩
     have hp:=prp_pos hok
     rw[if_neg (by omega)]
     by_cases hi0:i=0
     ·subst hi0
      rw[if_neg (by omega),ih' hok,hok]
      simp only[Bool.true_and,if_true]
      rw[Ze (show(0:Int)<prp (l.getD 0 0) by omega)]
      rfl
     ·rw[if_pos (by omega),wrap_pred (by omega) (by omega),if_pos (by omega),if_pos (by omega),Zbq,ZcS (hb (by omega)),Zi,ZcS hok,Zi,if_neg hi0,hok]
      by_cases hlt:prp (l.getD (i - 1) 0)<prp (l.getD i 0)
      ·rw[if_neg (by omega),ih' hok,Ze hlt];rfl
      ·rw[if_pos (by omega),Zf hlt];rfl
    ·rw[if_pos (by omega)]
     rw[show ZbC (l.getD i 0)=false from Bool.eq_false_iff.2 fun h=>by have:=(Zcc _).1 h;omega];rfl
   ·rw[if_pos (by omega)]
    rw[show ZbC (l.getD i 0)=false from Bool.eq_false_iff.2 fun h=>by have:=(Zcc _).1 h;omega];rfl) 0 k (Nat.zero_le _) (by omega)
 unfold ZV.f labB
 have:=key (fun h=>absurd h (by omega))
 simpa using this
def Zb9.f (k:Nat) (a0_0:ByteArray) (l0_1:List Int) (a0_2:Int):Option (Bool):=(Zaa.f k a0_0).bind fun t2=>(if t2=true then((ZV.f k l0_1).bind fun t3=>(if t3=true then(if a0_2≥0 then(some (decide (a0_2≤3))) else(some false)) else(some false))) else(some false))
theorem Zb9.calls (k:Nat) (a0_0:ByteArray) (A0_1:Option Addr) (c0_1:Nat) (l0_1:List Int) (a0_2:Int) (r:Bool) (w:World) (hr0_1:Kd.C (Kd.int .i64) w A0_1 l0_1.length l0_1) (hc0_1:l0_1.length≤c0_1) (h:Zb9.f k a0_0 l0_1 a0_2=some r) :
  Calls Tryd.prog 107 #[.agg #[.string a0_0,.slice A0_1 l0_1.length c0_1,.int .i64 a0_2]] w fun e w'=>e=.returned (.bool r)∧Below w.heap.size w w':=by
 have hu54:=Tryd.underlying54
 have HR0_1:=Za hr0_1;have HC0_1:=Za hc0_1;clear hr0_1 hc0_1
 have HB:=Za (Below.refl w.heap.size w)
 have H:((Zaa.f k a0_0).bind fun t2=>(if t2=true then((ZV.f k l0_1).bind fun t3=>(if t3=true then(if a0_2≥0 then(some (decide (a0_2≤3))) else(some false)) else(some false))) else(some false)))=some r:=h
 clear h
 replace H:=Zh H
 obtain⟨t2,A20,H⟩:=H
 replace H:(if t2=true then((ZV.f k l0_1).bind fun t3=>(if t3=true then(if a0_2≥0 then(some (decide (a0_2≤3))) else(some false)) else(some false))) else(some false))=some r:=H
 have A2:=Za A20;clear A20
 by_cases c3:t2=true
 ·subst c3
  have H1:((ZV.f k l0_1).bind fun t3=>(if t3=true then(if a0_2≥0 then(some (decide (a0_2≤3))) else(some false)) else(some false)))=some r:=by rw[if_pos rfl] at H;exact H
  clear H
  have H:=H1
  clear H1
  replace H:=Zh H
  obtain⟨t3,A40,H⟩:=H
  replace H:(if t3=true then(if a0_2≥0 then(some (decide (a0_2≤3))) else(some false)) else(some false))=some r:=H
  have A4:=Za A40;clear A40
  by_cases c5:t3=true
  ·subst c5
   have H1:(if a0_2≥0 then(some (decide (a0_2≤3))) else(some false))=some r:=by rw[if_pos rfl] at H;exact H
   clear H
   have H:=H1
   clear H1
   by_cases c6:a0_2≥0
   ·rw[if_pos c6] at H
    have c6b0:decide (0≤a0_2)=true:=Ze c6
    clear c6
    obtain rfl:=Zg H
    go_enter Tryd.func107,Tryd.ntmps107
    go_wp2_with (first|((with_reducible refine ZK (N:=1) rfl ?_);refine ZN ?hg (N:=1) ?hd (cs:=#[.string a0_0,.slice A0_1 l0_1.length c0_1,.int .i64 a0_2]) (t:=54) ?hr ?_;(case hd=>rfl);(case hg=>rfl);(case hr=>first|(go_simp;done)|(go_simp;rfl));intro gb1 hg w7 hbox hb;have BK1:=Za (hbox);have GW1:=Za ((by rw[hg];exact(ZA (by repeat(first|(with_reducible first|exact HB.out|apply Zn|apply Zm|apply Zp)|exact HB.out))):w.heap.size≤gb1));have GE1:=Za ((by rw[hg];exact(ZA (by repeat(first|(with_reducible first|exact HB.out|apply Zn|apply Zm|apply Zp)|exact HB.out))):w.heap.size≤gb1));replace HB:=Za (Zx (by repeat(first|(with_reducible first|exact HB.out|apply Zn|apply Zm|apply Zp)|exact HB.out)) hb);clear hb hbox hg;have hcz8_0:w7.cell? ⟨gb1,0,none⟩=some (.string a0_0):=(Zo BK1.out 0).trans rfl;have hcz8_1:w7.cell? ⟨gb1,1,none⟩=some (.slice A0_1 l0_1.length c0_1):=(Zo BK1.out 1).trans rfl;have hcz8_2:w7.cell? ⟨gb1,2,none⟩=some (.int .i64 a0_2):=(Zo BK1.out 2).trans rfl;have hfz8_0:=Zu BK1.out 0;have hfz8_1:=Zu BK1.out 1;have hfz8_2:=Zu BK1.out 2)|((with_reducible refine ZU (f:=131) rfl ?_);refine Zaj (some 5) rfl rfl Tryd.func131 (by kernel_rfl) rfl #[.string a0_0] rfl (by(try simp only[List.map_toArray,List.map_cons,List.map_nil]);first|done|rfl|(simp only[Zk,Zj];rfl)) ?_;(with_reducible refine(Zaa.calls k a0_0 true _ A2.out).mono ?_);rintro e w' ⟨rfl,⟨nd,rfl⟩⟩;refine⟨_,rfl,?_⟩)|(go_at_call 8;(with_reducible refine(ZV.calls k _ _ l0_1 true _ ?side1 ?side2 A4.out).mono ?_);(case side1=>repeat(first|exact(Zb HR0_1.out (by repeat(first|(with_reducible first|exact HB.out|apply Zn|apply Zm|apply Zp|refine Zq ?_ GE1.out)|exact HB.out)))|(with_reducible refine Kd.C_alloc ?_ _)|(with_reducible refine Kd.C_drewN ?_ _)|(with_reducible refine Kd.C_drew ?_)));(case side2=>exact HC0_1.out);rintro e w9 ⟨rfl,hb⟩;replace BK1:=Za (Zw (g:=gb1) (o:=.cells #[.string a0_0,.slice A0_1 l0_1.length c0_1,.int .i64 a0_2] 54 (0,0)) (by(with_reducible repeat(first|refine Zs ?_ _|refine Zt ?_|refine Zr ?_ _));exact BK1.out) hb);replace HB:=Za (Zx (by repeat(first|(with_reducible first|exact HB.out|apply Zn|apply Zm|apply Zp|refine Zq ?_ GE1.out)|exact HB.out)) hb);(try clear hb);(try clear hb2);(try clear hk);(try clear hi);have hcz10_0:w9.cell? ⟨gb1,0,none⟩=some (.string a0_0):=(Zo BK1.out 0).trans rfl;have hcz10_1:w9.cell? ⟨gb1,1,none⟩=some (.slice A0_1 l0_1.length c0_1):=(Zo BK1.out 1).trans rfl;have hcz10_2:w9.cell? ⟨gb1,2,none⟩=some (.int .i64 a0_2):=(Zo BK1.out 2).trans rfl;have hfz10_0:=Zu BK1.out 0;have hfz10_1:=Zu BK1.out 1;have hfz10_2:=Zu BK1.out 2))
    go_ret
    exact⟨by first|rfl|(simp[ZD,ZC] <;> rfl)|(simp[*,ZD,ZC] <;> rfl),by repeat(first|(with_reducible first|exact HB.out|apply Zn|apply Zm|apply Zp|refine Zq ?_ GE1.out)|exact HB.out)⟩
   ·rw[if_neg c6] at H
    have c6b0:decide (0≤a0_2)=false:=Zf c6
    clear c6
    obtain rfl:=Zg H
    go_enter Tryd.func107,Tryd.ntmps107
    go_wp2_with (first|((with_reducible refine ZK (N:=1) rfl ?_);refine ZN ?hg (N:=1) ?hd (cs:=#[.string a0_0,.slice A0_1 l0_1.length c0_1,.int .i64 a0_2]) (t:=54) ?hr ?_;(case hd=>rfl);(case hg=>rfl);(case hr=>first|(go_simp;done)|(go_simp;rfl));intro gb1 hg w11 hbox hb;have BK1:=Za (hbox);have GW1:=Za ((by rw[hg];exact(ZA (by repeat(first|(with_reducible first|exact HB.out|apply Zn|apply Zm|apply Zp)|exact HB.out))):w.heap.size≤gb1));have GE1:=Za ((by rw[hg];exact(ZA (by repeat(first|(with_reducible first|exact HB.out|apply Zn|apply Zm|apply Zp)|exact HB.out))):w.heap.size≤gb1));replace HB:=Za (Zx (by repeat(first|(with_reducible first|exact HB.out|apply Zn|apply Zm|apply Zp)|exact HB.out)) hb);clear hb hbox hg;have hcz12_0:w11.cell? ⟨gb1,0,none⟩=some (.string a0_0):=(Zo BK1.out 0).trans rfl;have hcz12_1:w11.cell? ⟨gb1,1,none⟩=some (.slice A0_1 l0_1.length c0_1):=(Zo BK1.out 1).trans rfl;have hcz12_2:w11.cell? ⟨gb1,2,none⟩=some (.int .i64 a0_2):=(Zo BK1.out 2).trans rfl;have hfz12_0:=Zu BK1.out 0;have hfz12_1:=Zu BK1.out 1;have hfz12_2:=Zu BK1.out 2)|((with_reducible refine ZU (f:=131) rfl ?_);refine Zaj (some 5) rfl rfl Tryd.func131 (by kernel_rfl) rfl #[.string a0_0] rfl (by(try simp only[List.map_toArray,List.map_cons,List.map_nil]);first|done|rfl|(simp only[Zk,Zj];rfl)) ?_;(with_reducible refine(Zaa.calls k a0_0 true _ A2.out).mono ?_);rintro e w' ⟨rfl,⟨nd,rfl⟩⟩;refine⟨_,rfl,?_⟩)|(go_at_call 8;(with_reducible refine(ZV.calls k _ _ l0_1 true _ ?side1 ?side2 A4.out).mono ?_);(case side1=>repeat(first|exact(Zb HR0_1.out (by repeat(first|(with_reducible first|exact HB.out|apply Zn|apply Zm|apply Zp|refine Zq ?_ GE1.out)|exact HB.out)))|(with_reducible refine Kd.C_alloc ?_ _)|(with_reducible refine Kd.C_drewN ?_ _)|(with_reducible refine Kd.C_drew ?_)));(case side2=>exact HC0_1.out);rintro e w13 ⟨rfl,hb⟩;replace BK1:=Za (Zw (g:=gb1) (o:=.cells #[.string a0_0,.slice A0_1 l0_1.length c0_1,.int .i64 a0_2] 54 (0,0)) (by(with_reducible repeat(first|refine Zs ?_ _|refine Zt ?_|refine Zr ?_ _));exact BK1.out) hb);replace HB:=Za (Zx (by repeat(first|(with_reducible first|exact HB.out|apply Zn|apply Zm|apply Zp|refine Zq ?_ GE1.out)|exact HB.out)) hb);(try clear hb);(try clear hb2);(try clear hk);(try clear hi);have hcz14_0:w13.cell? ⟨gb1,0,none⟩=some (.string a0_0):=(Zo BK1.out 0).trans rfl;have hcz14_1:w13.cell? ⟨gb1,1,none⟩=some (.slice A0_1 l0_1.length c0_1):=(Zo BK1.out 1).trans rfl;have hcz14_2:w13.cell? ⟨gb1,2,none⟩=some (.int .i64 a0_2):=(Zo BK1.out 2).trans rfl;have hfz14_0:=Zu BK1.out 0;have hfz14_1:=Zu BK1.out 1;have hfz14_2:=Zu BK1.out 2))
    go_ret
    exact⟨by first|rfl|(simp[ZD,ZC] <;> rfl)|(simp[*,ZD,ZC] <;> rfl),by repeat(first|(with_reducible first|exact HB.out|apply Zn|apply Zm|apply Zp|refine Zq ?_ GE1.out)|exact HB.out)⟩
  ·replace c5:=Bool.eq_false_iff.mpr c5
   subst c5
   have H1:(some false)=some r:=by rw[if_neg (show ¬(false=true) by decide)] at H;exact H
   clear H
   have H:=H1
   clear H1
   obtain rfl:=Zg H
   go_enter Tryd.func107,Tryd.ntmps107
   go_wp2_with (first|((with_reducible refine ZK (N:=1) rfl ?_);refine ZN ?hg (N:=1) ?hd (cs:=#[.string a0_0,.slice A0_1 l0_1.length c0_1,.int .i64 a0_2]) (t:=54) ?hr ?_;(case hd=>rfl);(case hg=>rfl);(case hr=>first|(go_simp;done)|(go_simp;rfl));intro gb1 hg w15 hbox hb;have BK1:=Za (hbox);have GW1:=Za ((by rw[hg];exact(ZA (by repeat(first|(with_reducible first|exact HB.out|apply Zn|apply Zm|apply Zp)|exact HB.out))):w.heap.size≤gb1));have GE1:=Za ((by rw[hg];exact(ZA (by repeat(first|(with_reducible first|exact HB.out|apply Zn|apply Zm|apply Zp)|exact HB.out))):w.heap.size≤gb1));replace HB:=Za (Zx (by repeat(first|(with_reducible first|exact HB.out|apply Zn|apply Zm|apply Zp)|exact HB.out)) hb);clear hb hbox hg;have hcz16_0:w15.cell? ⟨gb1,0,none⟩=some (.string a0_0):=(Zo BK1.out 0).trans rfl;have hcz16_1:w15.cell? ⟨gb1,1,none⟩=some (.slice A0_1 l0_1.length c0_1):=(Zo BK1.out 1).trans rfl;have hcz16_2:w15.cell? ⟨gb1,2,none⟩=some (.int .i64 a0_2):=(Zo BK1.out 2).trans rfl;have hfz16_0:=Zu BK1.out 0;have hfz16_1:=Zu BK1.out 1;have hfz16_2:=Zu BK1.out 2)|((with_reducible refine ZU (f:=131) rfl ?_);refine Zaj (some 5) rfl rfl Tryd.func131 (by kernel_rfl) rfl #[.string a0_0] rfl (by(try simp only[List.map_toArray,List.map_cons,List.map_nil]);first|done|rfl|(simp only[Zk,Zj];rfl)) ?_;(with_reducible refine(Zaa.calls k a0_0 true _ A2.out).mono ?_);rintro e w' ⟨rfl,⟨nd,rfl⟩⟩;refine⟨_,rfl,?_⟩)|(go_at_call 8;(with_reducible refine(ZV.calls k _ _ l0_1 false _ ?side1 ?side2 A4.out).mono ?_);(case side1=>repeat(first|exact(Zb HR0_1.out (by repeat(first|(with_reducible first|exact HB.out|apply Zn|apply Zm|apply Zp|refine Zq ?_ GE1.out)|exact HB.out)))|(with_reducible refine Kd.C_alloc ?_ _)|(with_reducible refine Kd.C_drewN ?_ _)|(with_reducible refine Kd.C_drew ?_)));(case side2=>exact HC0_1.out);rintro e w17 ⟨rfl,hb⟩;replace BK1:=Za (Zw (g:=gb1) (o:=.cells #[.string a0_0,.slice A0_1 l0_1.length c0_1,.int .i64 a0_2] 54 (0,0)) (by(with_reducible repeat(first|refine Zs ?_ _|refine Zt ?_|refine Zr ?_ _));exact BK1.out) hb);replace HB:=Za (Zx (by repeat(first|(with_reducible first|exact HB.out|apply Zn|apply Zm|apply Zp|refine Zq ?_ GE1.out)|exact HB.out)) hb);(try clear hb);(try clear hb2);(try clear hk);(try clear hi)))
   go_ret
   exact⟨by first|rfl|(simp[ZD,ZC] <;> rfl)|(simp[*,ZD,ZC] <;> rfl),by repeat(first|(with_reducible first|exact HB.out|apply Zn|apply Zm|apply Zp|refine Zq ?_ GE1.out)|exact HB.out)⟩
 ·replace c3:=Bool.eq_false_iff.mpr c3
  subst c3
  have H1:(some false)=some r:=by rw[if_neg (show ¬(false=true) by decide)] at H;exact H
  clear H
  have H:=H1
  clear H1
  obtain rfl:=Zg H
  go_enter Tryd.func107,Tryd.ntmps107
  go_wp2_with (first|((with_reducible refine ZK (N:=1) rfl ?_);refine ZN ?hg (N:=1) ?hd (cs:=#[.string a0_0,.slice A0_1 l0_1.length c0_1,.int .i64 a0_2]) (t:=54) ?hr ?_;(case hd=>rfl);(case hg=>rfl);(case hr=>first|(go_simp;done)|(go_simp;rfl));intro gb1 hg w18 hbox hb;have BK1:=Za (hbox);have GW1:=Za ((by rw[hg];exact(ZA (by repeat(first|(with_reducible first|exact HB.out|apply Zn|apply Zm|apply Zp)|exact HB.out))):w.heap.size≤gb1));have GE1:=Za ((by rw[hg];exact(ZA (by repeat(first|(with_reducible first|exact HB.out|apply Zn|apply Zm|apply Zp)|exact HB.out))):w.heap.size≤gb1));replace HB:=Za (Zx (by repeat(first|(with_reducible first|exact HB.out|apply Zn|apply Zm|apply Zp)|exact HB.out)) hb);clear hb hbox hg;have hcz19_0:w18.cell? ⟨gb1,0,none⟩=some (.string a0_0):=(Zo BK1.out 0).trans rfl;have hcz19_1:w18.cell? ⟨gb1,1,none⟩=some (.slice A0_1 l0_1.length c0_1):=(Zo BK1.out 1).trans rfl;have hcz19_2:w18.cell? ⟨gb1,2,none⟩=some (.int .i64 a0_2):=(Zo BK1.out 2).trans rfl;have hfz19_0:=Zu BK1.out 0;have hfz19_1:=Zu BK1.out 1;have hfz19_2:=Zu BK1.out 2)|((with_reducible refine ZU (f:=131) rfl ?_);refine Zaj (some 5) rfl rfl Tryd.func131 (by kernel_rfl) rfl #[.string a0_0] rfl (by(try simp only[List.map_toArray,List.map_cons,List.map_nil]);first|done|rfl|(simp only[Zk,Zj];rfl)) ?_;(with_reducible refine(Zaa.calls k a0_0 false _ A2.out).mono ?_);rintro e w' ⟨rfl,⟨nd,rfl⟩⟩;refine⟨_,rfl,?_⟩))
  go_ret
  exact⟨by first|rfl|(simp[ZD,ZC] <;> rfl)|(simp[*,ZD,ZC] <;> rfl),by repeat(first|(with_reducible first|exact HB.out|apply Zn|apply Zm|apply Zp|refine Zq ?_ GE1.out)|exact HB.out)⟩
def nodeB (s:ByteArray) (l:List Int) (n:Int):Bool:=nameB s && labB l && (decide (0≤n) && decide (n≤3))
theorem Zfd (s:ByteArray) (l:List Int) (n:Int) (hs:s.size≤9223372036854775807) (hl:l.length≤9223372036854775807) (k:Nat) (hk:2 ^ 64≤k):Zb9.f k s l n=some (nodeB s l n):=by
 unfold Zb9.f nodeB
 rw[Zff s hs k hk,Zi,Zb4 l hl k hk]
 cases nameB s
 ·rfl
 ·rw[if_pos rfl,Zi]
  cases labB l
  ·rfl
  ·rw[if_pos rfl]
   by_cases h:n≥0
   ·rw[if_pos h,Ze (show(0:Int)≤n from h)];rfl
   ·rw[if_neg h,Zf (show ¬(0:Int)≤n from h)];rfl
def Zcg (n m:S54):Bool:=!(decide (m.f0.toList=n.f0.toList)) && (decide (n.f2=0) || !(decide (m.f2=n.f2)))
def Zcy (ns:List S54) (i:Nat):Bool:=nodeB (ns.getD i z54).f0 (ns.getD i z54).f1 (ns.getD i z54).f2 && (ns.take i).all (Zcg (ns.getD i z54))
def Zbr (ns:List S54) (i:Nat):Nat→Bool
 | 0=>true
 | d+1=>Zcy ns i && Zbr ns (i+1) d
def ZW (ns:List S54):Bool:=decide (1≤ns.length) && decide (ns.length≤7) && decide ((ns.getD 0 z54).f1.length=0) && decide ((ns.getD 0 z54).f2=0) && Zbr ns 0 ns.length
theorem ZeM {ns:List S54} {i:Nat} (h:i<ns.length):Zbr ns i (ns.length - i)=(Zcy ns i && Zbr ns (i+1) (ns.length - (i+1))):=by
 rw[show ns.length - i=(ns.length - (i+1))+1 by omega];rfl
theorem take_step {ns:List S54} {i j:Nat} (hj:j<i) (hi:i≤ns.length) (p:S54→Bool):((ns.take i).drop j).all p=(p (ns.getD j z54) && ((ns.take i).drop (j+1)).all p):=by
 rw[Za2 (show j<(ns.take i).length by rw[Zj];omega) z54,List.all_cons]
 congr 2
 rw[List.getD_eq_getElem?_getD,List.getD_eq_getElem?_getD,List.getElem?_take_of_lt hj]
def ZbA.f (l0_0:List (S54)) (l0_1:List (S81)) (a0_2:Int):Option Bool:=if l0_0.all (fun n=>decide (n.f0.size≤9223372036854775807) && decide (n.f1.length≤9223372036854775807))=true then some (ZW l0_0) else none
theorem ZbA.calls (A0_0:Option Addr) (c0_0:Nat) (l0_0:List (S54)) (A0_1:Option Addr) (c0_1:Nat) (l0_1:List (S81)) (a0_2:Int) (r:Bool) (w:World) (hr0_0:Kd.C k54 w A0_0 l0_0.length l0_0) (hc0_0:l0_0.length≤c0_0) (hr0_1:Kd.C k81 w A0_1 l0_1.length l0_1) (hc0_1:l0_1.length≤c0_1) (h:ZbA.f l0_0 l0_1 a0_2=some r) :
  Calls Tryd.prog 73 #[.agg #[.slice A0_0 l0_0.length c0_0,.slice A0_1 l0_1.length c0_1,.int .i64 a0_2]] w fun e w'=>e=.returned (.bool r)∧Below w.heap.size w w':=by
 unfold ZbA.f at h
 by_cases hall:l0_0.all (fun n=>decide (n.f0.size≤9223372036854775807) && decide (n.f1.length≤9223372036854775807))=true
 case neg=>rw[if_neg hall] at h;exact absurd h (by simp)
 rw[if_pos hall] at h
 obtain rfl:=Zg h
 have HFIT:=Za (show ∀x∈l0_0,x.f0.size≤9223372036854775807∧x.f1.length≤9223372036854775807 from fun x hx=>by
  have:=List.all_eq_true.1 hall x hx
  simpa using this)
 have HR0:=Za hr0_0;have HC0:=Za hc0_0
 have HN0:=Za (show l0_0.length≤9223372036854775807 from hr0_0.2.1)
 have hu:=Tryd.underlying39
 have hu2:=Tryd.underlying54
 clear hr0_0 hc0_0 hr0_1 hc0_1 h hall
 have HB0:=Za (Zn (Below.refl w.heap.size w) (.cells #[.slice A0_0 l0_0.length c0_0,.slice A0_1 l0_1.length c0_1,.int .i64 a0_2] 39))
 cases b1:decide ((l0_0.length:Int)<1) with
 | true=>
  have HE:=Za (show ZW l0_0=false by
   unfold ZW
   rw[Zf (show ¬1≤l0_0.length by have:=Zd b1;omega)];rfl)
  go_enter Tryd.func73,Tryd.ntmps73
  go_wp2
  go_ret
  exact⟨by rw[HE.out];rfl,HB0.out⟩
 | false=>
 cases b2:decide ((7:Int)<(l0_0.length:Int)) with
 | true=>
  have HE:=Za (show ZW l0_0=false by
   unfold ZW
   rw[Zf (show ¬l0_0.length≤7 by have:=Zd b2;omega)];simp)
  go_enter Tryd.func73,Tryd.ntmps73
  go_wp2
  go_ret
  exact⟨by rw[HE.out];rfl,HB0.out⟩
 | false=>
 have h0z:(0:Int)<(l0_0.length:Int):=by have:=of_decide_eq_false b1;omega
 obtain⟨ad,A1,c1,e1,hx0,hx1,hx2,l1,g1⟩:=Zbw HR0.out 0 (Int.le_refl 0) h0z
 cases e1
 have hrd:(Zy l0_0 0)=l0_0.getD 0 z54:=rfl
 simp only[Int.toNat_zero,Nat.zero_mul,Addr.add_zero',hrd] at hx0 hx1 hx2
 have HE0:=Za (show ZW l0_0=(decide ((l0_0.getD 0 z54).f1.length=0) && decide ((l0_0.getD 0 z54).f2=0) && Zbr l0_0 0 l0_0.length) by
  unfold ZW
  rw[Ze (show 1≤l0_0.length by omega),Ze (show l0_0.length≤7 by have:=of_decide_eq_false b2;omega)];rfl)
 have h0n:0<l0_0.length:=by omega
 have hlta:=Zc w _ hx2
 revert hx1 hx2 HE0
 generalize (l0_0.getD 0 z54).f1.length=m1
 generalize (l0_0.getD 0 z54).f2=m2
 intro hx1 hx2 HE0
 clear hx0 l1 g1 hrd
 cases m1 with
 | succ m1=>
  have HE:=Za (show ZW l0_0=false by
   rw[HE0.out,Zf (show ¬m1+1=0 by omega)];rfl)
  clear HE0
  go_enter Tryd.func73,Tryd.ntmps73
  go_wp2
  go_ret
  exact⟨by rw[HE.out];rfl,HB0.out⟩
 | zero=>
 rw[Ze rfl,Bool.true_and] at HE0
 cases b4:(m2 != 0) with
 | true=>
  have HE:=Za (show ZW l0_0=false by
   rw[HE0.out,Zf (bne_iff_ne.1 b4)];rfl)
  clear HE0
  go_enter Tryd.func73,Tryd.ntmps73
  go_wp2
  go_ret
  exact⟨by rw[HE.out];rfl,HB0.out⟩
 | false=>
 rw[Ze (bne_eq_false_iff_eq.1 b4),Bool.true_and] at HE0
 go_enter Tryd.func73,Tryd.ntmps73
 go_wp2
 clear b1 b2 b4 hx1 hx2 h0n h0z hlta
 go_loopg [37] l0_0.length (fun gg s37 wr=>∃kk:Nat,s37=.int .i64 (kk:Int)∧Aside0 (kk≤l0_0.length)∧Aside0 (l0_0.length - kk≤gg)∧Aside0 (Below w.heap.size w wr)∧Aside0 (wr.cell? ⟨w.heap.size,0,none⟩=some (.slice (some ad) l0_0.length c0_0))∧Aside0 (ZW l0_0=Zbr l0_0 kk (l0_0.length - kk)))
 case atStart=>exact⟨0,rfl,⟨Nat.zero_le _⟩,⟨by omega⟩,HB0,⟨by go_simp⟩,HE0⟩
 case round=>
 clear HE0
 obtain⟨kk,rfl,HK,HG,HBr,HX,HE⟩:=hrel
 have k0:=HX.out
 have hk0:=Zc wr _ k0
 by_cases hlt:kk<l0_0.length
 ·have hltz:(kk:Int)<(l0_0.length:Int):=by omega
  have hkc:kk≤c0_0:=by have:=HC0.out;omega
  obtain⟨ad',A1,c1,e1,hx0,hx1,hx2,l1,g1⟩:=Zbw (Zb HR0.out HBr.out) (kk:Int) (by omega) hltz
  cases e1
  have hrd:(Zy l0_0 (kk:Int))=l0_0.getD kk z54:=by unfold Zy;rw[Int.toNat_natCast]
  have hfit:=HFIT.out _ (ZaY hlt z54)
  rw[hrd] at hx0 hx1 hx2 l1 g1
  rw[Int.toNat_natCast] at hx0 hx1 hx2
  have HD:=HE.out
  rw[ZeM hlt,Zcy] at HD
  clear hrd HE
  generalize l0_0.getD kk z54=nd at hx0 hx1 hx2 l1 g1 HD hfit
  obtain⟨nm,lb,wt⟩:=nd
  dsimp only at hx0 hx1 hx2 l1 g1 HD hfit
  have HNO:=Za fun (W:World) (hb:Below wr.heap.size wr W)=>Zb9.calls (2 ^ 64) nm A1 c1 lb wt (nodeB nm lb wt) W (Zb g1 hb) l1 (Zfd nm lb wt hfit.1 hfit.2 _ (Nat.le_refl _))
  have hlta:=Zc wr _ hx0
  have HB1:=Za (Zn (Below.refl wr.heap.size wr) (.cells #[.string nm,.slice A1 lb.length c1,.int .i64 wt] 54))
  clear g1 l1 hfit
  generalize nodeB nm lb wt=q at HNO HD
  cases q with
  | false=>
   go_wp2_with (go_at_call 107;refine(HNO.out _ HB1.out).mono ?_;rintro e w3 ⟨rfl,hb⟩;have HB3:=Za (HB1.out.trans (hb.mono HB1.out.size));clear hb)
   go_ret
   exact⟨by rw[HD];rfl,HBr.out.trans (HB3.out.mono HBr.out.size)⟩
  | true=>
  rw[Bool.true_and] at HD
  have HDA:=Za HD
  have K1:=Za (show(wr.alloc (.cells #[.string nm,.slice A1 lb.length c1,.int .i64 wt] 54)).cell? ⟨wr.heap.size,0,none⟩=some (.string nm)∧(wr.alloc (.cells #[.string nm,.slice A1 lb.length c1,.int .i64 wt] 54)).cell? ⟨wr.heap.size,2,none⟩=some (.int .i64 wt)∧(wr.alloc (.cells #[.string nm,.slice A1 lb.length c1,.int .i64 wt] 54)).cell? ⟨w.heap.size,0,none⟩=some (.slice (some ad) l0_0.length c0_0) from⟨by go_simp,by go_simp,by go_simp⟩)
  clear HD
  go_wp2_with (go_at_call 107;refine(HNO.out _ HB1.out).mono ?_;rintro e w3 ⟨rfl,hb⟩;have HB3:=Za (HB1.out.trans (hb.mono HB1.out.size));have n0:=ZE hb K1.out.1;have n2:=ZE hb K1.out.2.1;have n3:=ZE hb K1.out.2.2;have hn0:=Zc w3 _ n0;clear hb)
  have KN:=Za (And.intro n0 (And.intro n2 n3))
  have HBw:=Za (HBr.out.trans (HB3.out.mono HBr.out.size))
  clear n0 n2 n3 hx0 hx1 hx2 k0 HNO K1 HB1 HX hn0 hk0 hlta
  obtain⟨wo,hwo⟩:∃wo,wo=wr:=⟨_,rfl⟩
  subst hwo
  have HGo:=HG
  clear HG
  go_loopg [50] kk (fun gg s50 wr=>∃jj:Nat,s50=.int .i64 (jj:Int)∧Aside0 (jj≤kk)∧Aside0 (kk - jj≤gg)∧Aside0 (Below w3.heap.size w3 wr)∧Aside0 (ZW l0_0=(((l0_0.take kk).drop jj).all (Zcg ⟨nm,lb,wt⟩) && Zbr l0_0 (kk+1) (l0_0.length - (kk+1)))))
  case atStart=>exact⟨0,rfl,⟨Nat.zero_le _⟩,⟨by omega⟩,⟨Below.refl _ _⟩,HDA⟩
  case round=>
  clear HDA
  obtain⟨jj,rfl,HJ,HG,HBs,HE⟩:=hrel
  have n0:=ZE HBs.out KN.out.1
  have n2:=ZE HBs.out KN.out.2.1
  have n3:=ZE HBs.out KN.out.2.2
  have HBx:=Za (HBw.out.trans (HBs.out.mono HBw.out.size))
  by_cases hjt:jj<kk
  ·have hjz:(jj:Int)<(kk:Int):=by omega
   have hjl:(jj:Int)<(l0_0.length:Int):=by omega
   obtain⟨ad',A2,c2,e1,hx0,hx1,hx2,l2,g2⟩:=Zbw (Zb HR0.out HBx.out) (jj:Int) (by omega) hjl
   cases e1
   have hrd:(Zy l0_0 (jj:Int))=l0_0.getD jj z54:=by unfold Zy;rw[Int.toNat_natCast]
   rw[hrd] at hx0 hx1 hx2
   rw[Int.toNat_natCast] at hx0 hx1 hx2
   have HD:=HE.out
   rw[take_step hjt (by omega)] at HD
   clear hrd HE l2 g2
   generalize l0_0.getD jj z54=ne at hx0 hx1 hx2 HD
   obtain⟨nm2,lb2,wt2⟩:=ne
   dsimp only at hx0 hx1 hx2
   have hlta:=Zc wr _ hx0
   have hltb:=Zc wr _ n0
   have HDB:=Za HD;clear HD
   have HBy:=Za (Zn (Below.refl wr.heap.size wr) (.cells #[.string nm2,.slice A2 lb2.length c2,.int .i64 wt2] 54))
   have bad:Zcg ⟨nm,lb,wt⟩ ⟨nm2,lb2,wt2⟩=false→Aside0 (ZW l0_0=false):=fun hh=>⟨by rw[HDB.out,hh];rfl⟩
   have good:Zcg ⟨nm,lb,wt⟩ ⟨nm2,lb2,wt2⟩=true→Aside0 (ZW l0_0=(((l0_0.take kk).drop (jj+1)).all (Zcg ⟨nm,lb,wt⟩) && Zbr l0_0 (kk+1) (l0_0.length - (kk+1)))):=fun hh=>⟨by rw[HDB.out,hh,Bool.true_and]⟩
   clear HDB
   cases b1:(nm2.toList == nm.toList) with
   | true=>
    have HF:=bad (by simp only[Zcg,Ze (beq_iff_eq.1 b1)];rfl)
    clear bad good
    go_wp2
    go_ret
    exact⟨by rw[HF.out];rfl,HBx.out.trans (HBy.out.mono HBx.out.size)⟩
   | false=>
   have d1:=Zf (beq_eq_false_iff_ne.1 b1)
   cases b2:(wt != 0) with
   | false=>
    have HF:=good (by simp only[Zcg,d1,Ze (bne_eq_false_iff_eq.1 b2)];rfl)
    clear bad good d1
    go_wp2
    go_roundg (kk - (jj+1))
    case measure=>have:=HG.out;omega
    case rel=>exact⟨jj+1,by rw[Z9 hjt (by have:=HN0.out;omega)],⟨by omega⟩,⟨by omega⟩,⟨HBs.out.trans (HBy.out.mono HBs.out.size)⟩,HF⟩
   | true=>
   cases b3:(wt2 == wt) with
   | true=>
    have HF:=bad (by simp only[Zcg,d1,Zf (bne_iff_ne.1 b2),Ze (beq_iff_eq.1 b3)];rfl)
    clear bad good d1
    go_wp2
    go_ret
    exact⟨by rw[HF.out];rfl,HBx.out.trans (HBy.out.mono HBx.out.size)⟩
   | false=>
    have HF:=good (by simp only[Zcg,d1,Zf (bne_iff_ne.1 b2),Zf (beq_eq_false_iff_ne.1 b3)];rfl)
    clear bad good d1
    go_wp2
    go_roundg (kk - (jj+1))
    case measure=>have:=HG.out;omega
    case rel=>exact⟨jj+1,by rw[Z9 hjt (by have:=HN0.out;omega)],⟨by omega⟩,⟨by omega⟩,⟨HBs.out.trans (HBy.out.mono HBs.out.size)⟩,HF⟩
  ·obtain rfl:jj=kk:=by have:=HJ.out;omega
   have HF:=Za (show ZW l0_0=Zbr l0_0 (jj+1) (l0_0.length - (jj+1)) by
    rw[HE.out,List.drop_of_length_le (by rw[Zj];omega)];rfl)
   clear HE hjt
   go_wp2
   go_roundg (l0_0.length - (jj+1))
   case measure=>have:=HGo.out;omega
   case rel=>exact⟨jj+1,by rw[Z9 hlt HN0.out],⟨by omega⟩,⟨by omega⟩,HBx,⟨n3⟩,HF⟩
 ·obtain rfl:kk=l0_0.length:=by have:=HK.out;omega
  have HF:=Za (show ZW l0_0=true by rw[HE.out,Nat.sub_self];rfl)
  clear HE hlt
  go_wp2
  go_ret
  exact⟨by rw[HF.out];rfl,HBr.out⟩
theorem areNodes_f (ns:List ZJ) (ts:List PTie) (z:Int) (hb:∀n∈ns,n.f0.size≤9223372036854775807∧n.f1.length≤9223372036854775807):ZbA.f ns ts z=some (ZW ns):=by
 unfold ZbA.f
 rw[if_pos (List.all_eq_true.2 fun x hx=>by have:=hb x hx;simpa using this)]
theorem ZdX:∀(l:List Int) (p:Int),ZbI p l=true→∀x∈l,ZbC x=true
 | [],_,_,x,hx=>by simp at hx
 | y :: l,p,h,x,hx=>by
  unfold ZbI at h
  simp only[Bool.and_eq_true] at h
  rcases List.mem_cons.1 hx with rfl|hx
  ·exact h.1.1
  ·exact ZdX l _ h.2 x hx
theorem Zdz {ns:List ZJ}:∀(d i:Nat),Zbr ns i d=true→∀j,i≤j→j<i+d→Zcy ns j=true
 | 0,i,_,j,h1,h2=>by omega
 | d+1,i,h,j,h1,h2=>by
  rw[Zbr,Bool.and_eq_true] at h
  by_cases e:j=i
  ·rw[e];exact h.1
  ·exact Zdz d (i+1) h.2 j (by omega) (by omega)
theorem Zc0 {ns:List ZJ} (h:ZW ns=true):∀j,j<ns.length→Zcy ns j=true:=by
 unfold ZW at h
 rw[Bool.and_eq_true] at h
 exact fun j hj=>Zdz _ _ h.2 j (Nat.zero_le _) (by omega)
theorem Zfj {ns:List ZJ} (h:ZW ns=true):∀n∈ns,∀x∈n.f1,ZbC x=true:=by
 intro n hn x hx
 obtain⟨j,hj,rfl⟩:=List.mem_iff_getElem.1 hn
 have:=Zc0 h j hj
 unfold Zcy nodeB labB at this
 rw[show ns.getD j z54=ns[j] by rw[List.getD_eq_getElem?_getD,Zl hj];rfl] at this
 simp only[Bool.and_eq_true] at this
 exact ZdX _ _ this.1.1.2 x hx
def fitN (ns:List ZJ):Bool:=ns.all fun n=>decide (n.f0.size≤9223372036854775807) && decide (n.f1.length≤9223372036854775807)
theorem fitN_iff {ns:List ZJ} (h:fitN ns=true):∀n∈ns,n.f0.size≤9223372036854775807∧n.f1.length≤9223372036854775807:=fun n hn=>by
 have:=List.all_eq_true.1 h n hn
 simpa using this
theorem showCell0 (w:World) (x y z:Value) (t:TypeId):(w.alloc (.cells #[x,y,z] t)).cell? ⟨w.heap.size,0,none⟩=some x:=by go_simp
theorem showCell1 (w:World) (x y z:Value) (t:TypeId):(w.alloc (.cells #[x,y,z] t)).cell? ⟨w.heap.size,1,none⟩=some y:=by go_simp
theorem showCell2 (w:World) (x y z:Value) (t:TypeId):(w.alloc (.cells #[x,y,z] t)).cell? ⟨w.heap.size,2,none⟩=some z:=by go_simp
theorem quietX {P:Program} {f:FuncId} {args:Array Value} {W:World} {a x:Nat} {v:Value} (h:Calls P f args (W.drewN (a+x)) fun e w'=>e=.returned v∧∃m,w'=(W.drewN (a+x)).drewN m):Calls P f args (W.drewN (a+x)) fun e w''=>e=.returned v∧∃n,w''=W.drewN (a+n):=
 h.mono fun _ _ ⟨he,m,hm⟩=>⟨he,x+m,by rw[hm,World.drewN_drewN,Nat.add_assoc]⟩
theorem quiet0 {P:Program} {f:FuncId} {args:Array Value} {W:World} {x:Nat} {v:Value} (h:Calls P f args (W.drewN x) fun e w'=>e=.returned v∧∃m,w'=(W.drewN x).drewN m):Calls P f args (W.drewN x) fun e w''=>e=.returned v∧∃n,w''=W.drewN n:=
 h.mono fun _ _ ⟨he,m,hm⟩=>⟨he,x+m,by rw[hm,World.drewN_drewN]⟩
def Zba.f (l0:List Int) (a1:Int):Option Int:=some (ZaK (fun y=>decide (a1=y)) l0)
theorem Zba.calls (A0:Option Addr) (c0:Nat) (l0:List Int) (a1:Int) (r:Int) (w:World) (hr0:Kd.C (Kd.int .i64) w A0 l0.length l0) (hc0:l0.length≤c0) (h:Zba.f l0 a1=some r) :
  Calls Tryd.prog 65 #[.slice A0 l0.length c0,.int .i64 a1] w fun e w'=>e=.returned (.int .i64 r)∧Below w.heap.size w w':=by
 obtain rfl:=Zg h
 have HR0:=Za hr0
 have HL:l0.length≤9223372036854775807:=HR0.out.2.1
 clear hr0 h hc0
 go_enter Tryd.func65,Tryd.ntmps65
 go_wp2
 go_loopg [5,8] l0.length (fun gg _ s8 wr=>∃kk:Nat,Aside0 (kk≤l0.length)∧Aside0 (l0.length - kk≤gg)∧s8=.int .i64 kk∧Aside0 (Below w.heap.size w wr)∧Aside0 (∀j y,j<kk→l0[j]? = some y→decide (a1=y)=false))
 case atStart=>exact⟨0,⟨Nat.zero_le _⟩,⟨by omega⟩,rfl,⟨Below.refl _ _⟩,⟨fun j y hj=>absurd hj (Nat.not_lt_zero _)⟩⟩
 case round=>
  obtain⟨kk,HK,HG,rfl,HB,HN⟩:=hrel
  by_cases hlt:kk<l0.length
  ·have hltz:(kk:Int)<(l0.length:Int):=by omega
   obtain⟨ad,e1,hx⟩:=Kd.at_int HR0.out (kk:Int) (by omega) hltz
   cases e1
   replace hx:=(HB.out.cell (Zc w _ hx)).trans hx
   rw[Int.toNat_natCast] at hx
   have hxe:l0[kk]? = some (rd l0 (kk:Int)):=by
    unfold rd
    rw[Int.toNat_natCast,List.getD_eq_getElem?_getD,Zl hlt];rfl
   generalize rd l0 (kk:Int)=y at hx hxe
   have HX:=Za hxe;clear hxe
   by_cases hq:a1=y
   ·have hqb:(a1 == y)=true:=beq_iff_eq.2 hq
    have HQ:=Za (Ze hq)
    clear hq
    go_wp2
    go_ret
    exact⟨by rw[ZbZ _ l0 kk y HX.out HQ.out HN.out];rfl,HB.out⟩
   ·have hqb:(a1 == y)=false:=beq_eq_false_iff_ne.2 hq
    have HQ:=Za (Zf hq)
    clear hq
    go_wp2
    go_roundg (l0.length - (kk+1))
    case measure=>have:=HG.out;omega
    case rel=>
     refine⟨kk+1,⟨by omega⟩,⟨by omega⟩,by go_num,HB,⟨fun j y' hj hy=>?_⟩⟩
     by_cases e:j=kk
     ·subst e
      rw[HX.out] at hy
      cases hy
      exact HQ.out
     ·exact HN.out j y' (by omega) hy
  ·have hltz:¬(kk:Int)<(l0.length:Int):=by omega
   have:kk=l0.length:=by have:=HK.out;omega
   subst this
   go_wp2
   go_ret
   exact⟨by rw[ZbP _ l0 HN.out];rfl,HB.out⟩
theorem Zba.quiet (A0:Option Addr) (c0:Nat) (l0:List Int) (a1:Int) (w:World) (hr0:Kd.C (Kd.int .i64) w A0 l0.length l0) :
  Calls Tryd.prog 65 #[.slice A0 l0.length c0,.int .i64 a1] w fun e w'=>e=.returned (.int .i64 (ZaK (fun y=>decide (a1=y)) l0))∧∃n,w'=w.drewN n:=by
 have HR0:=Za hr0
 have HL:l0.length≤9223372036854775807:=HR0.out.2.1
 clear hr0
 go_enter Tryd.func65,Tryd.ntmps65
 go_wp2
 go_loopg [5,8] l0.length (fun gg _ s8 wr=>∃kk:Nat,Aside0 (kk≤l0.length)∧Aside0 (l0.length - kk≤gg)∧s8=.int .i64 kk∧wr=w∧Aside0 (∀j y,j<kk→l0[j]? = some y→decide (a1=y)=false))
 case atStart=>exact⟨0,⟨Nat.zero_le _⟩,⟨by omega⟩,rfl,rfl,⟨fun j y hj=>absurd hj (Nat.not_lt_zero _)⟩⟩
 case round=>
  obtain⟨kk,HK,HG,rfl,rfl,HN⟩:=hrel
  by_cases hlt:kk<l0.length
  ·have hltz:(kk:Int)<(l0.length:Int):=by omega
   obtain⟨ad,e1,hx⟩:=Kd.at_int HR0.out (kk:Int) (by omega) hltz
   cases e1
   rw[Int.toNat_natCast] at hx
   have hxe:l0[kk]? = some (rd l0 (kk:Int)):=by
    unfold rd
    rw[Int.toNat_natCast,List.getD_eq_getElem?_getD,Zl hlt];rfl
   generalize rd l0 (kk:Int)=y at hx hxe
   have HX:=Za hxe;clear hxe
   by_cases hq:a1=y
   ·have hqb:(a1 == y)=true:=beq_iff_eq.2 hq
    have HQ:=Za (Ze hq)
    clear hq
    go_wp2
    go_ret
    exact⟨by rw[ZbZ _ l0 kk y HX.out HQ.out HN.out];rfl,0,(World.drewN_zero _).symm⟩
   ·have hqb:(a1 == y)=false:=beq_eq_false_iff_ne.2 hq
    have HQ:=Za (Zf hq)
    clear hq
    go_wp2
    go_roundg (l0.length - (kk+1))
    case measure=>have:=HG.out;omega
    case rel=>
     refine⟨kk+1,⟨by omega⟩,⟨by omega⟩,by go_num,rfl,⟨fun j y' hj hy=>?_⟩⟩
     by_cases e:j=kk
     ·subst e
      rw[HX.out] at hy
      cases hy
      exact HQ.out
     ·exact HN.out j y' (by omega) hy
  ·have hltz:¬(kk:Int)<(l0.length:Int):=by omega
   have:kk=l0.length:=by have:=HK.out;omega
   subst this
   go_wp2
   go_ret
   exact⟨by rw[ZbP _ l0 HN.out];rfl,0,(World.drewN_zero _).symm⟩
def Zac.f (l0:List Int) (a1:Int):Option Bool:=some (l0.any fun y=>decide (a1=y))
theorem Zac.calls (A0:Option Addr) (c0:Nat) (l0:List Int) (a1:Int) (r:Bool) (w:World) (hr0:Kd.C (Kd.int .i64) w A0 l0.length l0) (hc0:l0.length≤c0) (h:Zac.f l0 a1=some r) :
  Calls Tryd.prog 34 #[.slice A0 l0.length c0,.int .i64 a1] w fun e w'=>e=.returned (.bool r)∧Below w.heap.size w w':=by
 obtain rfl:=Zg h
 have HI:=Za (Zba.calls A0 c0 l0 a1 (ZaK (fun y=>decide (a1=y)) l0) w hr0 hc0 rfl)
 have HE:=Za (Zce (fun y=>decide (a1=y)) l0)
 clear hr0 hc0 h
 go_enter Tryd.func34,Tryd.ntmps34
 go_wp2_with (go_at_call 65;refine HI.out.mono ?_;rintro e w' ⟨rfl,hb⟩)
 go_ret
 exact⟨by rw[← HE.out];rfl,hb⟩
theorem Zac.hand (A0:Option Addr) (c0:Nat) (l0:List Int) (a1:Int) (w:World) (hr0:Kd.C (Kd.int .i64) w A0 l0.length l0) (hc0:l0.length≤c0) :
  Calls Tryd.prog 34 #[.slice A0 l0.length c0,.int .i64 a1] w fun e w'=>e=.returned (.bool (l0.any fun y=>decide (a1=y)))∧Below w.heap.size w w':=Zac.calls A0 c0 l0 a1 _ w hr0 hc0 rfl
def ZaX.f (k:Nat) (l0 l1:List Int):Option Bool:=(ZV.f k l0).bind fun a=>if a=true then(ZV.f k l1).bind fun b=>if b=true then some (l1.all fun x=>l0.any fun y=>decide (x=y)) else some false else some false
theorem Zds.clo (B:Nat) (A0:Option Addr) (c0:Nat) (l0:List Int) (x:Int) (W:World) (hB:W.cell? ⟨B,0,none⟩=some (.slice A0 l0.length c0)) (hr0:Kd.C (Kd.int .i64) W A0 l0.length l0) (hc0:l0.length≤c0) :
  Calls Tryd.prog 33 #[.int .i64 x,.pointer (some ⟨B,0,none⟩)] W fun e w'=>e=.returned (.bool (!(l0.any fun y=>decide (x=y))))∧Below W.heap.size W w':=by
 have HC:=Za ((Zac.hand A0 c0 l0 x W hr0 hc0))
 clear hr0 hc0
 go_enter Tryd.func33,Tryd.ntmps33
 go_wp2_with (go_at_call 34;refine HC.out.mono ?_;rintro e w' ⟨rfl,hb⟩)
 go_ret
 exact⟨rfl,hb⟩
theorem ZaX.calls (k:Nat) (A0:Option Addr) (c0:Nat) (l0:List Int) (A1:Option Addr) (c1:Nat) (l1:List Int) (r:Bool) (w:World) (hr0:Kd.C (Kd.int .i64) w A0 l0.length l0) (hc0:l0.length≤c0) (hr1:Kd.C (Kd.int .i64) w A1 l1.length l1) (hc1:l1.length≤c1) (h:ZaX.f k l0 l1=some r) :
  Calls Tryd.prog 9 #[.slice A0 l0.length c0,.slice A1 l1.length c1] w fun e w'=>e=.returned (.bool r)∧Below w.heap.size w w':=by
 unfold ZaX.f at h
 obtain⟨a,ha,h⟩:=Option.bind_eq_some_iff.1 h
 have LA:=Za fun (W:World) (hb:Below w.heap.size w W)=>(ZV.calls k A0 c0 l0 a W (Zb hr0 hb) hc0 ha).mono fun e w' ⟨he,hd⟩=>(⟨he,by first|exact hd|exact hd.below⟩:e=Ending.returned (.bool a)∧Below W.heap.size W w')
 have B0:=Za ((Below.refl w.heap.size w).alloc (Nat.le_refl _) (.cells #[.slice A0 l0.length c0] 23))
 cases a with
 | false=>
  rw[if_neg (by decide)] at h
  obtain rfl:=Zg h
  clear hr0 hr1 ha h hc0 hc1
  go_enter Tryd.func9,Tryd.ntmps9
  go_wp2_with fail
  refine(LA.out _ B0.out).mono ?_
  rintro e w1 ⟨rfl,hb1⟩
  have B1:=Za (B0.out.trans (hb1.mono B0.out.size))
  clear hb1
  go_wp2
  go_ret
  exact⟨rfl,B1.out⟩
 | true=>
  rw[if_pos rfl] at h
  obtain⟨b,hb_,h⟩:=Option.bind_eq_some_iff.1 h
  have LB:=Za fun (W:World) (hb:Below w.heap.size w W)=>(ZV.calls k A1 c1 l1 b W (Zb hr1 hb) hc1 hb_).mono fun e w' ⟨he,hd⟩=>(⟨he,by first|exact hd|exact hd.below⟩:e=Ending.returned (.bool b)∧Below W.heap.size W w')
  cases b with
  | false=>
   rw[if_neg (by decide)] at h
   obtain rfl:=Zg h
   clear hr0 hr1 ha h hc0 hc1 hb_
   go_enter Tryd.func9,Tryd.ntmps9
   go_wp2_with fail
   refine(LA.out _ B0.out).mono ?_
   rintro e w1 ⟨rfl,hb1⟩
   have B1:=Za (B0.out.trans (hb1.mono B0.out.size))
   clear hb1
   go_wp2_with fail
   refine(LB.out _ B1.out).mono ?_
   rintro e w2 ⟨rfl,hb2⟩
   have B2:=Za (B1.out.trans (hb2.mono B1.out.size))
   clear hb2
   go_wp2
   go_ret
   exact⟨rfl,B2.out⟩
  | true=>
   rw[if_pos rfl] at h
   obtain rfl:=Zg h
   have HC:=Za fun (W:World) (hb:Below w.heap.size w W) (hcell:W.cell? ⟨w.heap.size,0,none⟩=some (.slice A0 l0.length c0))=>Zbp.any (fun x=>!(l0.any fun y=>decide (x=y))) 33 #[.pointer (some ⟨w.heap.size,0,none⟩)] (enters_of Tryd.func33 (by kernel_rfl) rfl) A1 c1 l1 W (Zb hr1 hb)
    (fun W' x _ hb'=>Zds.clo w.heap.size A0 c0 l0 x W' ((hb'.cell (Zc W _ hcell)).trans hcell) (Zb hr0 (hb.trans (hb'.mono hb.size))) hc0)
   have HV:=Za (show(!(l1.any fun x=>!(l0.any fun y=>decide (x=y))))=l1.all fun x=>l0.any fun y=>decide (x=y) by rw[List.not_any_eq_all_not];simp)
   have C0:=Za (show(w.alloc (.cells #[.slice A0 l0.length c0] 23)).cell? ⟨w.heap.size,0,none⟩=some (.slice A0 l0.length c0) by go_simp)
   clear hr0 hr1 ha h hc0 hc1 hb_
   go_enter Tryd.func9,Tryd.ntmps9
   go_wp2_with fail
   refine(LA.out _ B0.out).mono ?_
   rintro e w1 ⟨rfl,hb1⟩
   have B1:=Za (B0.out.trans (hb1.mono B0.out.size))
   have C1:=Za ((hb1.cell (Zc _ _ C0.out)).trans C0.out)
   clear hb1
   go_wp2_with fail
   refine(LB.out _ B1.out).mono ?_
   rintro e w2 ⟨rfl,hb2⟩
   have B2:=Za (B1.out.trans (hb2.mono B1.out.size))
   have C2:=Za ((hb2.cell (Zc _ _ C1.out)).trans C1.out)
   clear hb2
   go_wp2_with fail
   refine(HC.out _ B2.out C2.out).mono ?_
   rintro e w3 ⟨rfl,hb3⟩
   go_wp2
   go_ret
   exact⟨by rw[← HV.out];rfl,B2.out.trans (hb3.mono B2.out.size)⟩
def impB (a b:List Int):Bool:=labB a && labB b && b.all fun x=>a.any fun y=>decide (x=y)
theorem Zdr (a b:List Int) (ha:a.length≤9223372036854775807) (hb:b.length≤9223372036854775807) (k:Nat) (hk:2 ^ 64≤k):ZaX.f k a b=some (impB a b):=by
 unfold ZaX.f impB
 rw[Zb4 a ha k hk,Zi,Zb4 b hb k hk]
 cases labB a
 ·rfl
 ·rw[if_pos rfl,Zi]
  cases labB b <;> rfl
theorem impl_Node.any (p:S54→Bool) (g:Nat) (lb:Array Value) (eg:∀args w,(callFunc g args).run Tryd.prog w=.ok (.enter g args) w) (A0:Option Addr) (c0:Nat) (l0:List S54) (w:World) (hr0:Kd.C k54 w A0 l0.length l0)
  (hp:∀(W:World) (x:S54) (A1_:Option Addr) (c1_:Nat),x∈l0→Below w.heap.size w W→x.f1.length≤c1_→Kd.C (Kd.int .i64) W A1_ x.f1.length x.f1→Calls Tryd.prog g (#[.agg #[.string x.f0,.slice A1_ x.f1.length c1_,.int .i64 x.f2]] ++ lb) W fun e w'=>e=.returned (.bool (p x))∧Below W.heap.size W w') :
  Calls Tryd.prog 77 #[.slice A0 l0.length c0,.func (.func g) #[] lb] w fun e w'=>e=.returned (.int .i64 (ZaK p l0))∧Below w.heap.size w w':=by
 have HR0:=Za hr0;have HP:=Za hp;clear hr0 hp
 have HL:l0.length≤9223372036854775807:=HR0.out.2.1
 go_enter Tryd.func77,Tryd.ntmps77
 go_wp2
 go_loopg [5,8] l0.length (fun gg _ s8 wr=>∃kk:Nat,Aside0 (kk≤l0.length)∧Aside0 (l0.length - kk≤gg)∧s8=.int .i64 kk∧Aside0 (Below w.heap.size w wr)∧Aside0 (∀j y,j<kk→l0[j]? = some y→p y=false))
 case atStart=>exact⟨0,⟨Nat.zero_le _⟩,⟨by omega⟩,rfl,⟨Below.refl _ _⟩,⟨fun j y hj=>absurd hj (Nat.not_lt_zero _)⟩⟩
 case round=>
  obtain⟨kk,HK,HG,rfl,HB,HN⟩:=hrel
  by_cases hlt:kk<l0.length
  ·have hltz:(kk:Int)<(l0.length:Int):=by omega
   obtain⟨ad,A1_,c1_,e1,hx0,hx1,hx2,l1_,g1_⟩:=Zbw HR0.out (kk:Int) (by omega) hltz
   cases e1
   replace hx0:=(HB.out.cell (Zc w _ hx0)).trans hx0
   rw[Int.toNat_natCast] at hx0
   replace hx1:=(HB.out.cell (Zc w _ hx1)).trans hx1
   rw[Int.toNat_natCast] at hx1
   replace hx2:=(HB.out.cell (Zc w _ hx2)).trans hx2
   rw[Int.toNat_natCast] at hx2
   have hxe:l0[kk]? = some (Zy l0 (kk:Int)):=by
    unfold Zy
    rw[Int.toNat_natCast,List.getD_eq_getElem?_getD,Zl hlt];rfl
   generalize Zy l0 (kk:Int)=y at hx0 hx1 hx2 l1_ g1_ hxe
   have HX:=Za hxe;clear hxe
   have hcall:=HP.out wr y A1_ c1_ (List.mem_of_getElem? HX.out) HB.out l1_ (Zb g1_ HB.out)
   clear g1_ l1_
   cases hq:p y with
   | true=>
    have HQ:=Za hq
    rw[hq] at hcall
    clear hq
    go_wp2_with (go_at_fn g;refine hcall.mono ?_;rintro e w' ⟨rfl,hb⟩)
    go_ret
    exact⟨by rw[ZbZ p l0 kk y HX.out HQ.out HN.out];rfl,HB.out.trans (hb.mono HB.out.size)⟩
   | false=>
    have HQ:=Za hq
    rw[hq] at hcall
    clear hq
    go_wp2_with (go_at_fn g;refine hcall.mono ?_;rintro e w' ⟨rfl,hb⟩)
    go_roundg (l0.length - (kk+1))
    case measure=>have:=HG.out;omega
    case rel=>
     refine⟨kk+1,⟨by omega⟩,⟨by omega⟩,by go_num,⟨HB.out.trans (hb.mono HB.out.size)⟩,⟨fun j y' hj hy=>?_⟩⟩
     by_cases e:j=kk
     ·subst e
      rw[HX.out] at hy
      cases hy
      exact HQ.out
     ·exact HN.out j y' (by omega) hy
  ·have hltz:¬(kk:Int)<(l0.length:Int):=by omega
   have:kk=l0.length:=by have:=HK.out;omega
   subst this
   go_wp2
   go_ret
   exact⟨by rw[ZbP p l0 HN.out];rfl,HB.out⟩
def Zad (ns:List S54) (p:Int):Int:=ZaK (fun n=>decide (0<p) && decide (n.f2=p)) ns
def Zaw.f (l0_0:List (S54)) (l0_1:List (S81)) (a0_2:Int) (a1:Int):Option Int:=some (Zad l0_0 a1)
theorem ZeN.clo (B:Nat) (p:Int) (W:World) (hB:W.cell? ⟨B,0,none⟩=some (.int .i64 p)) (x:S54) (A1_:Option Addr) (c1_:Nat) :
  Calls Tryd.prog 78 #[.agg #[.string x.f0,.slice A1_ x.f1.length c1_,.int .i64 x.f2],.pointer (some ⟨B,0,none⟩)] W fun e w'=>e=.returned (.bool (decide (0<p) && decide (x.f2=p)))∧Below W.heap.size W w':=by
 have hlt:B<W.heap.size:=Zc W _ hB
 have HE:=Za (show(x.f2 == p)=decide (x.f2=p) by rw[Bool.eq_iff_iff];simp)
 cases hp:decide (0<p) with
 | false=>
  go_enter Tryd.func78,Tryd.ntmps78
  go_wp2
  go_ret
  exact⟨rfl,(Below.refl _ _).alloc (Nat.le_refl _) _⟩
 | true=>
  go_enter Tryd.func78,Tryd.ntmps78
  go_wp2
  go_ret
  exact⟨by rw[← HE.out];rfl,(Below.refl _ _).alloc (Nat.le_refl _) _⟩
theorem Zaw.calls (A0_0:Option Addr) (c0_0:Nat) (l0_0:List (S54)) (A0_1:Option Addr) (c0_1:Nat) (l0_1:List (S81)) (a0_2:Int) (a1:Int) (r:Int) (w:World) (hr0_0:Kd.C k54 w A0_0 l0_0.length l0_0) (hc0_0:l0_0.length≤c0_0) (hr0_1:Kd.C k81 w A0_1 l0_1.length l0_1) (hc0_1:l0_1.length≤c0_1) (h:Zaw.f l0_0 l0_1 a0_2 a1=some r) :
  Calls Tryd.prog 49 #[.agg #[.slice A0_0 l0_0.length c0_0,.slice A0_1 l0_1.length c0_1,.int .i64 a0_2],.int .i64 a1] w fun e w'=>e=.returned (.int .i64 r)∧Below w.heap.size w w':=by
 obtain rfl:=Zg h
 have HC':=Za fun (W:World) (B:Nat) (hb:Below w.heap.size w W) (hcell:W.cell? ⟨B,0,none⟩=some (.int .i64 a1))=>impl_Node.any (fun n=>decide (0<a1) && decide (n.f2=a1)) 78 #[.pointer (some ⟨B,0,none⟩)] (enters_of Tryd.func78 (by kernel_rfl) rfl) A0_0 c0_0 l0_0 W (Zb hr0_0 hb)
    (fun W' x A1_ c1_ _ hb' _ _=>ZeN.clo B a1 W' ((hb'.cell (Zc W _ hcell)).trans hcell) x A1_ c1_)
 clear hr0_0 hr0_1 h
 have HB2:=Za (((Below.refl w.heap.size w).alloc (Nat.le_refl _) (.cells #[.slice A0_0 l0_0.length c0_0,.slice A0_1 l0_1.length c0_1,.int .i64 a0_2] 39)).alloc (by simp) (.cells #[.int .i64 a1] 3))
 have hu:=Tryd.underlying39
 go_enter Tryd.func49,Tryd.ntmps49
 go_wp2_with fail
 refine(HC'.out _ _ HB2.out (by go_simp)).mono ?_
 rintro e w' ⟨rfl,hb⟩
 go_wp2
 go_ret
 exact⟨rfl,HB2.out.trans (hb.mono HB2.out.size)⟩
def Zbl.f (k:Nat) (l0_0:List (S54)) (l0_1:List (S81)) (a0_2:Int) (l1:List Int) (a2:Int):Option Bool:=(Zag.f a2).bind fun p=>((Zaw.f l0_0 l0_1 a0_2 p).bind fun q=>(if q<0 then(some false) else(if 0≤q then(if q<(l0_0.length:Int) then((Zac.f ((Zy l0_0 q).f1) a2).bind fun s=>(if s=true then(some false) else((Zac.f ((Zy l0_0 q).f1) (wrap64 (-a2))).bind fun t=>(if t=true then(some false) else((ZaX.f k l1 ((Zy l0_0 q).f1)).bind fun u=>(some u)))))) else(none)) else(none))))
theorem Zbl.calls (k:Nat) (A0_0:Option Addr) (c0_0:Nat) (l0_0:List (S54)) (A0_1:Option Addr) (c0_1:Nat) (l0_1:List (S81)) (a0_2:Int) (A1:Option Addr) (c1:Nat) (l1:List Int) (a2:Int) (r:Bool) (w:World) (hr0_0:Kd.C k54 w A0_0 l0_0.length l0_0) (hc0_0:l0_0.length≤c0_0) (hr0_1:Kd.C k81 w A0_1 l0_1.length l0_1) (hc0_1:l0_1.length≤c0_1) (hr1:Kd.C (Kd.int .i64) w A1 l1.length l1) (hc1:l1.length≤c1) (h:Zbl.f k l0_0 l0_1 a0_2 l1 a2=some r) :
  Calls Tryd.prog 76 #[.agg #[.slice A0_0 l0_0.length c0_0,.slice A0_1 l0_1.length c0_1,.int .i64 a0_2],.slice A1 l1.length c1,.int .i64 a2] w fun e w'=>e=.returned (.bool r)∧Below w.heap.size w w':=by
 unfold Zbl.f at h
 obtain⟨p,hp,h⟩:=Option.bind_eq_some_iff.1 h
 obtain⟨q,hq,h⟩:=Option.bind_eq_some_iff.1 h
 have HP:=Za fun (W:World)=>Zag.calls a2 p W hp
 have HW:=Za fun (W:World) (hb:Below w.heap.size w W)=>Zaw.calls A0_0 c0_0 l0_0 A0_1 c0_1 l0_1 a0_2 p q W (Zb hr0_0 hb) hc0_0 (Zb hr0_1 hb) hc0_1 hq
 have HR0:=Za hr0_0;have HR1:=Za hr1;have HC1:=Za hc1;have HH:=Za h
 have hu:=Tryd.underlying39
 have hu2:=Tryd.underlying54
 clear hr0_0 hc0_0 hr0_1 hc0_1 hr1 hc1 hp hq h
 go_enter Tryd.func76,Tryd.ntmps76
 go_wp2
 go_region_held3 (fun w'=>Below w.heap.size w w'∧w'.cell? ⟨w.heap.size,0,none⟩=some (.slice A0_0 l0_0.length c0_0)∧w'.cell? ⟨w.heap.size,1,none⟩=some (.slice A0_1 l0_1.length c0_1)∧w'.cell? ⟨w.heap.size,2,none⟩=some (.int .i64 a0_2))
  (first|(refine⟨by repeat(first|(with_reducible first|exact Below.refl _ _|apply Zn|apply Zm|apply Zp|assumption)|exact Below.refl _ _),?_⟩;go_simp;done)|(refine⟨Zx (by repeat(first|(with_reducible first|exact Below.refl _ _|apply Zn|apply Zm|apply Zp|assumption)|exact Below.refl _ _)) hb,ZE hb ?_,ZE hb ?_,ZE hb ?_⟩ <;> (go_simp;done)))
  (first|(go_at_call 30;refine(HP.out _).mono ?_;rintro e w' ⟨rfl,hb⟩;have hbw:Below w.heap.size w _:=Zx (by repeat(first|(with_reducible first|exact Below.refl _ _|apply Zn|apply Zm|apply Zp|assumption)|exact Below.refl _ _)) hb)|(go_at_call 49;(refine(HW.out _ ?s1).mono ?_);(case s1=>exact(by repeat(first|(with_reducible first|exact Below.refl _ _|apply Zn|apply Zm|apply Zp|assumption)|exact Below.refl _ _)));rintro e w' ⟨rfl,hb⟩))
 rename_i hHeld
 obtain⟨hbA,k0,k1,k2⟩:=hHeld
 have HA:=Za hbA
 have hk0:=Zc _ _ k0
 clear hbA HP HW
 cases d1:decide (q<0) with
 | true=>
  have HE:=Za (show false=r from Zg ((if_pos (Zd d1)).symm.trans HH.out))
  go_wp2
  go_ret
  exact⟨by rw[← HE.out];rfl,HA.out⟩
 | false=>
 have h:=HH.out
 rw[if_neg (of_decide_eq_false d1)] at h
 split at h
 case isFalse=>exact absurd h (by simp)
 rename_i h0
 split at h
 case isFalse=>exact absurd h (by simp)
 rename_i h1
 obtain⟨ad,A3,c3,e3,hx0,hx1,hx2,l3,g3⟩:=Zbw (Zb HR0.out HA.out) q h0 h1
 cases e3
 have hlta:=Zc _ _ hx1
 revert hx1 l3 g3 h
 generalize (Zy l0_0 q).f1=lb
 intro h hx1 l3 g3
 have p0:=eq_true h0
 have p1:=eq_true h1
 obtain⟨s,hs,h⟩:=Option.bind_eq_some_iff.1 h
 have HS:=Za fun (W:World) (g:Kd.C (Kd.int .i64) W A3 lb.length lb)=>Zac.calls A3 c3 lb a2 s W g l3 hs
 have G3:=Za g3;have L3:=Za l3;clear hx0 hx2 h0 h1 hs HH g3 l3
 cases s with
 | true=>
  have HE:=Za (show false=r from Zg ((if_pos rfl).symm.trans h))
  clear h
  go_wp2_with (go_at_call 34;refine(HS.out _ G3.out).mono ?_;rintro e w5 ⟨rfl,hb⟩)
  go_ret
  exact⟨by rw[← HE.out];rfl,HA.out.trans (hb.mono HA.out.size)⟩
 | false=>
 rw[if_neg (by simp)] at h
 obtain⟨t,ht,h⟩:=Option.bind_eq_some_iff.1 h
 have HT:=Za fun (W:World) (g:Kd.C (Kd.int .i64) W A3 lb.length lb)=>Zac.calls A3 c3 lb (wrap64 (-a2)) t W g L3.out ht
 clear ht
 cases t with
 | true=>
  have HE:=Za (show false=r from Zg ((if_pos rfl).symm.trans h))
  clear h
  go_wp2_with (first|(go_at_call 34;with_reducible refine(HS.out _ G3.out).mono ?_;rintro e w5 ⟨rfl,hb⟩;have HB5:=Za (HA.out.trans (hb.mono HA.out.size));have G5:=Za (Zb G3.out hb);clear hb)|(go_at_call 34;with_reducible refine(HT.out _ G5.out).mono ?_;rintro e w6 ⟨rfl,hb⟩;have HB6:=Za (HB5.out.trans (hb.mono HB5.out.size));clear hb))
  go_ret
  exact⟨by rw[← HE.out];rfl,HB6.out⟩
 | false=>
 rw[if_neg (by simp)] at h
 obtain⟨u,hu_,h⟩:=Option.bind_eq_some_iff.1 h
 obtain rfl:=Zg h
 have HI:=Za fun (W:World) (g:Kd.C (Kd.int .i64) W A1 l1.length l1) (g2:Kd.C (Kd.int .i64) W A3 lb.length lb)=>ZaX.calls k A1 c1 l1 A3 c3 lb u W g HC1.out g2 L3.out hu_
 clear hu_ h
 go_wp2_with (first|(go_at_call 34;with_reducible refine(HS.out _ G3.out).mono ?_;rintro e w5 ⟨rfl,hb⟩;have HB5:=Za (HA.out.trans (hb.mono HA.out.size));have G5:=Za (Zb G3.out hb);clear hb)|(go_at_call 34;with_reducible refine(HT.out _ G5.out).mono ?_;rintro e w6 ⟨rfl,hb⟩;have HB6:=Za (HB5.out.trans (hb.mono HB5.out.size));have G6:=Za (Zb G5.out hb);clear hb)|(go_at_call 9;refine(HI.out _ (Zb HR1.out HB6.out) G6.out).mono ?_;rintro e w7 ⟨rfl,hb⟩;have HB7:=Za (HB6.out.trans (hb.mono HB6.out.size));clear hb))
 go_ret
 exact⟨rfl,HB7.out⟩
def Zd2 (ns:List ZJ) (lb:List Int) (x w:Int):Bool:=
 decide (0≤w) && !((Zy ns w).f1.any fun y=>decide (x=y)) && !((Zy ns w).f1.any fun y=>decide (-x=y)) && impB lb (Zy ns w).f1
def ZbL (ns:List ZJ) (lb:List Int) (x:Int):Bool:=Zd2 ns lb x (Zad ns (prp x))
theorem isWatched_f (ns:List ZJ) (ts:List PTie) (z:Int) (lb:List Int) (x:Int) (hb:∀n∈ns,n.f1.length≤9223372036854775807) (hl:lb.length≤9223372036854775807) (hx:ZbC x=true) (k:Nat) (hk:2 ^ 64≤k) :
  Zbl.f k ns ts z lb x=some (ZbL ns lb x):=by
 have hx3:=(Zcc x).1 hx
 have hbd:=Zd8 (fun n:ZJ=>decide (0<prp x) && decide (n.f2=prp x)) ns
 unfold Zbl.f
 rw[ZcS hx,Zi]
 unfold Zaw.f ZbL Zd2
 rw[Zi]
 have hbd' : -1≤Zad ns (prp x)∧Zad ns (prp x)<ns.length:=hbd
 generalize Zad ns (prp x)=w at hbd' ⊢
 by_cases h:w<0
 ·rw[if_pos h,Zf (show ¬0≤w by omega)];rfl
 ·rw[if_neg h,if_pos (by omega),if_pos (by omega),Ze (show 0≤w by omega)]
  have hm:(Zy ns w).f1.length≤9223372036854775807:=by
   obtain⟨n,rfl⟩:=Int.eq_ofNat_of_zero_le (show 0≤w by omega)
   rw[show Zy ns (n:Int)=ns.getD n z54 from Zco ns n]
   exact hb _ (ZaY (by omega) _)
  unfold Zac.f
  rw[Zi,Z1 (i:=-x) (by omega) (by omega),Zdr lb _ hl hm k hk]
  simp only[Zi,Bool.true_and]
  cases (Zy ns w).f1.any fun y=>decide (x=y)
  ·cases (Zy ns w).f1.any fun y=>decide (-x=y)
   ·simp
   ·rfl
  ·rfl
def Z3.l0:Nat→List Int→List Int→Int→Int→Option (Bool)
 | 0,_,_,_,_=>none
 | k+1,x0,x1,x12,x13=>if x13<x12 then(if 0≤x13 then(if x13<(x0.length:Int) then(if x13<(x1.length:Int) then(if (rd x0 x13)=(rd x1 x13) then(Z3.l0 k x0 x1 x12 (wrap64 (x13+1))) else(some false)) else(none)) else(none)) else(none)) else(some true)
def Z3.f (k:Nat) (l0:List Int) (l1:List Int):Option (Bool):=if (l0.length:Int)=(l1.length:Int) then(Z3.l0 k l0 l1 (l0.length:Int) 0) else(some false)
theorem Z3.calls (k:Nat) (A0:Option Addr) (c0:Nat) (l0:List Int) (A1:Option Addr) (c1:Nat) (l1:List Int) (r:Bool) (w:World) (hr0:Kd.C (Kd.int .i64) w A0 l0.length l0) (hc0:l0.length≤c0) (hr1:Kd.C (Kd.int .i64) w A1 l1.length l1) (hc1:l1.length≤c1) (h:Z3.f k l0 l1=some r) :
  Calls Tryd.prog 109 #[.slice A0 l0.length c0,.slice A1 l1.length c1] w fun e w'=>e=.returned (.bool r)∧ZQ w w':=by
 have HR0:=Za hr0;have HC0:=Za hc0;clear hr0 hc0;have HR1:=Za hr1;have HC1:=Za hc1;clear hr1 hc1
 have H:(if (l0.length:Int)=(l1.length:Int) then(Z3.l0 k l0 l1 (l0.length:Int) 0) else(some false))=some r:=h
 clear h
 by_cases c3:(l0.length:Int)=(l1.length:Int)
 ·rw[if_pos c3] at H
  have c3b0:((l0.length:Int) == (l1.length:Int))=true:=beq_iff_eq.mpr c3
  have c3b1:((l0.length:Int) != (l1.length:Int))=false:=bne_eq_false_iff_eq.mpr c3
  have c3b2:(l0.length == l1.length)=true:=by first|simpa using c3|(simp at c3 ⊢;omega)
  clear c3
  have H':=Za H
  clear H
  go_enter Tryd.func109,Tryd.ntmps109
  go_wp2
  repeat(go_quiet (fail);try go_wp2)
  go_loopg [13] k (fun kq v13 w'=>∃(x13_1:Int),v13=.int .i64 x13_1∧Aside0 (Z3.l0 kq l0 l1 (l0.length:Int) x13_1=some r)∧Aside0 (kq≤k)∧ZQ w w')
  case atStart=>exact⟨(0),(by first|rfl|(simp;done)|(simp[*];done)),H',⟨Nat.le_refl _⟩,by repeat(first|exact ZQ.refl _|apply ZQ.step)⟩
  case round=>
   clear H'
   try clear c1
   try clear p2
   try clear c3
   try clear c3b0
   try clear c3b1
   try clear c3b2
   obtain⟨x13_1,rfl,HA,HK1,⟨m1,rfl⟩⟩:=hrel
   cases gk with
   | zero=>exact absurd HA.out (by simp[Z3.l0])
   | succ k1=>
    have H:=HA.out
    clear HA
    simp only[Z3.l0] at H
    by_cases c4:x13_1<(l0.length:Int)
    ·rw[if_pos c4] at H
     have c4b0:decide (x13_1<(l0.length:Int))=true:=Ze c4
     clear c4
     by_cases c5:0≤x13_1
     ·rw[if_pos c5] at H
      have c5b0:decide (0≤x13_1)=true:=Ze c5
      clear c5
      by_cases c6:x13_1<(l0.length:Int)
      ·rw[if_pos c6] at H
       have c6b0:decide (x13_1<(l0.length:Int))=true:=Ze c6
       clear c6
       by_cases c7:x13_1<(l1.length:Int)
       ·rw[if_pos c7] at H
        have c7b0:decide (x13_1<(l1.length:Int))=true:=Ze c7
        clear c7
        by_cases c8:(rd l0 x13_1)=(rd l1 x13_1)
        ·rw[if_pos c8] at H
         have c8b0:((rd l0 x13_1) == (rd l1 x13_1))=true:=beq_iff_eq.mpr c8
         have c8b1:((rd l0 x13_1) != (rd l1 x13_1))=false:=bne_eq_false_iff_eq.mpr c8
         clear c8
         have H':=Za H
         clear H
         have p1:0≤(x13_1:Int):=Zd (by first|(with_reducible assumption)|assumption)
         have q1:x13_1<(l0.length:Int):=Zd (by first|(with_reducible assumption)|assumption)
         obtain⟨ad1,e1,hx1_0⟩:=Kd.at_int HR0.out x13_1 p1 q1
         cases e1
         replace p1:=eq_true p1
         replace q1:=eq_true q1
         have p109002:0≤(x13_1:Int):=Zd (by first|(with_reducible assumption)|assumption)
         have q2:x13_1<(l1.length:Int):=Zd (by first|(with_reducible assumption)|assumption)
         obtain⟨ad2,e2,hx2_0⟩:=Kd.at_int HR1.out x13_1 p109002 q2
         cases e2
         replace p109002:=eq_true p109002
         replace q2:=eq_true q2
         go_wp2
         repeat(go_quiet (fail);try go_wp2)
         go_roundg k1
         case measure=>have:=HK1.out;omega
         case rel=>exact⟨(wrap64 (x13_1+1)),(by first|rfl|(simp;done)|(simp[*];done)),H',⟨by have:=HK1.out;omega⟩,by repeat(first|exact ZQ.refl _|apply ZQ.step)⟩
        ·rw[if_neg c8] at H
         have c8b0:((rd l0 x13_1) == (rd l1 x13_1))=false:=beq_eq_false_iff_ne.mpr c8
         have c8b1:((rd l0 x13_1) != (rd l1 x13_1))=true:=bne_iff_ne.mpr c8
         obtain rfl:=Zg H
         have p1:0≤(x13_1:Int):=Zd (by first|(with_reducible assumption)|assumption)
         have q1:x13_1<(l0.length:Int):=Zd (by first|(with_reducible assumption)|assumption)
         obtain⟨ad1,e1,hx1_0⟩:=Kd.at_int HR0.out x13_1 p1 q1
         cases e1
         replace p1:=eq_true p1
         replace q1:=eq_true q1
         have p109002:0≤(x13_1:Int):=Zd (by first|(with_reducible assumption)|assumption)
         have q2:x13_1<(l1.length:Int):=Zd (by first|(with_reducible assumption)|assumption)
         obtain⟨ad2,e2,hx2_0⟩:=Kd.at_int HR1.out x13_1 p109002 q2
         cases e2
         replace p109002:=eq_true p109002
         replace q2:=eq_true q2
         go_wp2
         repeat(go_quiet (fail);try go_wp2)
         go_ret
         exact⟨by first|rfl|(simp;done)|(simp[*];done),by repeat(first|exact ZQ.refl _|apply ZQ.step)⟩
       ·rw[if_neg c7] at H
        exact absurd H (by simp)
      ·rw[if_neg c6] at H
       exact absurd H (by simp)
     ·rw[if_neg c5] at H
      exact absurd H (by simp)
    ·rw[if_neg c4] at H
     have c4b0:decide (x13_1<(l0.length:Int))=false:=Zf c4
     clear c4
     obtain rfl:=Zg H
     go_wp2
     repeat(go_quiet (fail);try go_wp2)
     go_ret
     exact⟨by first|rfl|(simp;done)|(simp[*];done),by repeat(first|exact ZQ.refl _|apply ZQ.step)⟩
 ·rw[if_neg c3] at H
  have c3b0:((l0.length:Int) == (l1.length:Int))=false:=beq_eq_false_iff_ne.mpr c3
  have c3b1:((l0.length:Int) != (l1.length:Int))=true:=bne_iff_ne.mpr c3
  have c3b2:(l0.length == l1.length)=false:=by first|simpa using c3|(simp at c3 ⊢;omega)
  obtain rfl:=Zg H
  go_enter Tryd.func109,Tryd.ntmps109
  go_wp2
  repeat(go_quiet (fail);try go_wp2)
  go_ret
  exact⟨by first|rfl|(simp;done)|(simp[*];done),by repeat(first|exact ZQ.refl _|apply ZQ.step)⟩
theorem sEqual_f (l m:List Int) (hl:l.length≤9223372036854775807) (k:Nat) (hk:2 ^ 64≤k):Z3.f k l m=some (decide (l=m)):=by
 unfold Z3.f
 by_cases e:l.length=m.length
 ·rw[if_pos (by omega)]
  have key:=Zc7 l.length (fun k i=>Z3.l0 k l m l.length (i:Int)=some (decide (l.drop i=m.drop i))) 0
   (fun k _=>by
    simp only[Z3.l0]
    rw[if_neg (by omega),List.drop_of_length_le (Nat.le_refl _),List.drop_of_length_le (by omega)]
    simp)
   (fun k i _ hi ih=>by
    simp only[Z3.l0]
    rw[if_pos (by omega),if_pos (by omega),if_pos (by omega),if_pos (by omega),Zbq,Zbq,Z9 hi (by omega),Za2 hi 0,Za2 (show i<m.length by omega) 0]
    by_cases h:l.getD i 0=m.getD i 0
    ·rw[if_pos h,ih,h];simp
    ·rw[if_neg h]
     simp only[List.cons.injEq,h,false_and,decide_false]) 0 k (Nat.zero_le _) (by omega)
  simpa using key
 ·rw[if_neg (by omega)]
  have:l≠m:=fun h=>e (by rw[h])
  simp[this]
def Zcu.f (a0:Int):Option (Bool):=if a0≥(-20) then(some (decide (a0≤20))) else(some false)
theorem Zcu.calls (a0:Int) (r:Bool) (w:World) (h:Zcu.f a0=some r) :
  Calls Tryd.prog 108 #[.int .i64 a0] w fun e w'=>e=.returned (.bool r)∧ZQ w w':=by
 have H:(if a0≥(-20) then(some (decide (a0≤20))) else(some false))=some r:=h
 clear h
 by_cases c2:a0≥(-20)
 ·rw[if_pos c2] at H
  have c2b0:decide ((-20)≤a0)=true:=Ze c2
  clear c2
  obtain rfl:=Zg H
  go_enter Tryd.func108,Tryd.ntmps108
  go_wp2
  go_ret
  exact⟨by first|rfl|(simp;done)|(simp[*];done),by repeat(first|exact ZQ.refl _|apply ZQ.step)⟩
 ·rw[if_neg c2] at H
  have c2b0:decide ((-20)≤a0)=false:=Zf c2
  clear c2
  obtain rfl:=Zg H
  go_enter Tryd.func108,Tryd.ntmps108
  go_wp2
  go_ret
  exact⟨by first|rfl|(simp;done)|(simp[*];done),by repeat(first|exact ZQ.refl _|apply ZQ.step)⟩
theorem impl_Tie_132.any (p:S81→Bool) (g:Nat) (lb:Array Value) (eg:∀args w,(callFunc g args).run Tryd.prog w=.ok (.enter g args) w) (A0:Option Addr) (c0:Nat) (l0:List S81) (w:World) (hr0:Kd.C k81 w A0 l0.length l0)
  (hp:∀(W:World) (x:S81),x∈l0→Below w.heap.size w W→Calls Tryd.prog g (#[.agg #[.int .i64 x.f0,.int .i64 x.f1,.int .i64 x.f2,.int .i64 x.f3,.bool x.f4]] ++ lb) W fun e w'=>e=.returned (.bool (p x))∧Below W.heap.size W w') :
  Calls Tryd.prog 132 #[.slice A0 l0.length c0,.func (.func g) #[] lb] w fun e w'=>e=.returned (.int .i64 (ZaK p l0))∧Below w.heap.size w w':=by
 have HR0:=Za hr0;have HP:=Za hp;clear hr0 hp
 have HL:l0.length≤9223372036854775807:=HR0.out.2.1
 go_enter Tryd.func132,Tryd.ntmps132
 go_wp2
 go_loopg [5,8] l0.length (fun gg _ s8 wr=>∃kk:Nat,Aside0 (kk≤l0.length)∧Aside0 (l0.length - kk≤gg)∧s8=.int .i64 kk∧Aside0 (Below w.heap.size w wr)∧Aside0 (∀j y,j<kk→l0[j]? = some y→p y=false))
 case atStart=>exact⟨0,⟨Nat.zero_le _⟩,⟨by omega⟩,rfl,⟨Below.refl _ _⟩,⟨fun j y hj=>absurd hj (Nat.not_lt_zero _)⟩⟩
 case round=>
  obtain⟨kk,HK,HG,rfl,HB,HN⟩:=hrel
  by_cases hlt:kk<l0.length
  ·have hltz:(kk:Int)<(l0.length:Int):=by omega
   obtain⟨ad,e1,hx0,hx1,hx2,hx3,hx4⟩:=Zck HR0.out (kk:Int) (by omega) hltz
   cases e1
   replace hx0:=(HB.out.cell (Zc w _ hx0)).trans hx0
   rw[Int.toNat_natCast] at hx0
   replace hx1:=(HB.out.cell (Zc w _ hx1)).trans hx1
   rw[Int.toNat_natCast] at hx1
   replace hx2:=(HB.out.cell (Zc w _ hx2)).trans hx2
   rw[Int.toNat_natCast] at hx2
   replace hx3:=(HB.out.cell (Zc w _ hx3)).trans hx3
   rw[Int.toNat_natCast] at hx3
   replace hx4:=(HB.out.cell (Zc w _ hx4)).trans hx4
   rw[Int.toNat_natCast] at hx4
   have hxe:l0[kk]? = some (Zz l0 (kk:Int)):=by
    unfold Zz
    rw[Int.toNat_natCast,List.getD_eq_getElem?_getD,Zl hlt];rfl
   generalize Zz l0 (kk:Int)=y at hx0 hx1 hx2 hx3 hx4 hxe
   have HX:=Za hxe;clear hxe
   have hcall:=HP.out wr y (List.mem_of_getElem? HX.out) HB.out
   cases hq:p y with
   | true=>
    have HQ:=Za hq
    rw[hq] at hcall
    clear hq
    go_wp2_with (go_at_fn g;refine hcall.mono ?_;rintro e w' ⟨rfl,hb⟩)
    go_ret
    exact⟨by rw[ZbZ p l0 kk y HX.out HQ.out HN.out];rfl,HB.out.trans (hb.mono HB.out.size)⟩
   | false=>
    have HQ:=Za hq
    rw[hq] at hcall
    clear hq
    go_wp2_with (go_at_fn g;refine hcall.mono ?_;rintro e w' ⟨rfl,hb⟩)
    go_roundg (l0.length - (kk+1))
    case measure=>have:=HG.out;omega
    case rel=>
     refine⟨kk+1,⟨by omega⟩,⟨by omega⟩,by go_num,⟨HB.out.trans (hb.mono HB.out.size)⟩,⟨fun j y' hj hy=>?_⟩⟩
     by_cases e:j=kk
     ·subst e
      rw[HX.out] at hy
      cases hy
      exact HQ.out
     ·exact HN.out j y' (by omega) hy
  ·have hltz:¬(kk:Int)<(l0.length:Int):=by omega
   have:kk=l0.length:=by have:=HK.out;omega
   subst this
   go_wp2
   go_ret
   exact⟨by rw[ZbP p l0 HN.out];rfl,HB.out⟩
theorem impl_Tie_110.any (p:S81→Bool) (g:Nat) (lb:Array Value) (eg:∀args w,(callFunc g args).run Tryd.prog w=.ok (.enter g args) w) (A0:Option Addr) (c0:Nat) (l0:List S81) (w:World) (hr0:Kd.C k81 w A0 l0.length l0)
  (hp:∀(W:World) (x:S81),x∈l0→Below w.heap.size w W→Calls Tryd.prog g (#[.agg #[.int .i64 x.f0,.int .i64 x.f1,.int .i64 x.f2,.int .i64 x.f3,.bool x.f4]] ++ lb) W fun e w'=>e=.returned (.bool (p x))∧Below W.heap.size W w') :
  Calls Tryd.prog 110 #[.slice A0 l0.length c0,.func (.func g) #[] lb] w fun e w'=>e=.returned (.bool (l0.any p))∧Below w.heap.size w w':=by
 have HI:=Za (impl_Tie_132.any p g lb eg A0 c0 l0 w hr0 hp)
 clear hr0 hp
 have HE:=Za (Zce p l0)
 go_enter Tryd.func110,Tryd.ntmps110
 go_wp2_with (go_at_call 132;refine HI.out.mono ?_;rintro e w' ⟨rfl,hb⟩)
 go_ret
 exact⟨by rw[← HE.out];rfl,hb⟩
def ZaE.f (a0:Int) (a1:Int):Option (Bool):=if a1≥0 then(some (decide (a1<a0))) else(some false)
theorem ZaE.calls (a0:Int) (a1:Int) (r:Bool) (w:World) (h:ZaE.f a0 a1=some r) :
  Calls Tryd.prog 55 #[.int .i64 a0,.int .i64 a1] w fun e w'=>e=.returned (.bool r)∧ZQ w w':=by
 have H:(if a1≥0 then(some (decide (a1<a0))) else(some false))=some r:=h
 clear h
 by_cases c3:a1≥0
 ·rw[if_pos c3] at H
  have c3b0:decide (0≤a1)=true:=Ze c3
  clear c3
  obtain rfl:=Zg H
  go_enter Tryd.func55,Tryd.ntmps55
  go_wp2
  go_ret
  exact⟨by first|rfl|(simp;done)|(simp[*];done),by repeat(first|exact ZQ.refl _|apply ZQ.step)⟩
 ·rw[if_neg c3] at H
  have c3b0:decide (0≤a1)=false:=Zf c3
  clear c3
  obtain rfl:=Zg H
  go_enter Tryd.func55,Tryd.ntmps55
  go_wp2
  go_ret
  exact⟨by first|rfl|(simp;done)|(simp[*];done),by repeat(first|exact ZQ.refl _|apply ZQ.step)⟩
end Go.Proofs.YtoeimopgoaffcaaDoor.Pr
