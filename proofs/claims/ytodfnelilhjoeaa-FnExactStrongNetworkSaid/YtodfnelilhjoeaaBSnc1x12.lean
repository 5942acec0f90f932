/- The texts of one claim, put together by a program of this session. -/
import Derived.Deep.LoopGhost
import Derived.Deep.RegionHeld3
import Derived.Test.YtodfnelilhjoeaaBSnc1x1
import Derived.Test.YtodfnelilhjoeaaBSnc1x10
import Derived.Test.YtodfnelilhjoeaaBSnc1x11
import Derived.Test.YtodfnelilhjoeaaBSnc1x2
import Derived.Test.YtodfnelilhjoeaaBSnc1x3
import Derived.Test.YtodfnelilhjoeaaBSnc1x5
import Derived.Test.YtodfnelilhjoeaaBSnc1x6
import Derived.Test.YtodfnelilhjoeaaBSnc1x7
import Derived.Test.YtodfnelilhjoeaaBSnc1x8
import Derived.Test.YtodfnelilhjoeaaBSnc1x9
namespace Go.Proofs.Ytodfnelilhjoeaa.Pr
open Go.RowKit Go.Proofs.YtodfnelilhjoeaaW.PrintWords Go.Proofs.YtodfnelilhjoeaaW.PrintLast Go.Proofs.YtodfnelilhjoeaaW.PrintMore
attribute [local go_sem] Zac Zaa Zam Zal Z5 Z4 Zab Z9
set_option linter.unusedVariables false
set_option linter.unusedSimpArgs false
open Go.Proofs.Ytodfnelilhjoeaa.Ni
theorem nodes_open {w:World} {base:Nat} {ok:Nat→Prop} {v:Value} {xs:List S116} (h:Kd.S k116 116 w base ok v xs) (hn:0<xs.length) :
  ∃g cap cur,∃f:Nat→Nat,∃lv:Nat→Value,v=.slice (some ⟨g,0,none⟩) xs.length cap∧base≤g∧ok g∧w.heap[g]? = some (.cells cur 116 (0,0))∧xs.length≤cap∧cap≤maxLen∧cur.size=cap * 3 ∧
   (∀j,j<xs.length→cur[j * 3+1]? = some (lv j)∧Kd.R (Kd.int .i64) 3 w base (fun k=>(ok k∧k≠g)∧f k=j) (lv j) (xs.getD j z116).f1):=by
 obtain⟨f,hok,inner,⟨hlen,ho⟩,hr⟩:=h
 rw[List.length_zipIdx] at ho hlen
 rcases ho with ⟨_,h0⟩|⟨g,cap,cur,h1,h2,h3,h4,h5,h6,h7⟩
 ·omega
 subst h1
 have key:∀j,j<xs.length→∃lv,cur[j * 3+1]? = some lv∧Kd.R (Kd.int .i64) 3 w base (fun k=>(ok k∧k≠g)∧f k=j) lv (xs.getD j z116).f1:=by
  intro j hj
  have hm:=hr.2 j _ (Kd.zip_at (getD_some hj z116))
  obtain⟨v1,he,hR⟩:=Zc9 hm
  refine⟨v1,?_,Kd.R_mono hR fun k hk=>⟨⟨hk.1.1,fun e=>hk.1.2 (by rw[e];rfl)⟩,hk.2⟩⟩
  have h8:inner[j * 3+1]? = some v1:=by
   have h9:((inner.drop (j * 3)).take 3)[1]? = some v1:=by rw[show(inner.drop (j * 3)).take 3=_ from he];rfl
   rw[List.getElem?_take_of_lt (by omega),List.getElem?_drop] at h9
   exact h9
  rw[← h7,List.getElem?_take_of_lt (by show _<xs.length * 3;omega)] at h8
  simpa using h8
 refine⟨g,cap,cur,f,fun j=>if hj:j<xs.length then(key j hj).choose else .nilIface,rfl,h2,hok g rfl,h3,h4,h5,h6,fun j hj=>?_⟩
 have:=(key j hj).choose_spec
 simp only[dif_pos hj]
 exact this
structure MInv (w wr:World) (ok:Nat→Prop) (f:Nat→Nat) (g n:Nat) (cur:Array Value) (i:Nat):Prop where
 sz:w.heap.size≤wr.heap.size
 far:∀k,k<w.heap.size→k≠g→¬(ok k∧f k<i)→wr.heap[k]? = w.heap[k]?
 row:∃cur':Array Value,wr.heap[g]? = some (.cells cur' 116 (0,0))∧cur'.size=cur.size∧∀j,j<n→cur'[j * 3+1]? = cur[j * 3+1]?
theorem MInv.below {w wr w1:World} {ok:Nat→Prop} {f:Nat→Nat} {g n:Nat} {cur:Array Value} {i:Nat} (h:MInv w wr ok f g n cur i) (hb:Below wr.heap.size wr w1) (hg:g<w.heap.size):MInv w w1 ok f g n cur i:=by
 obtain⟨cur',h1,h2,h3⟩:=h.row
 refine⟨Nat.le_trans h.sz hb.size,fun k hk hkg hn=>(hb.block k (Nat.lt_of_lt_of_le hk h.sz)).trans (h.far k hk hkg hn),cur',?_,h2,h3⟩
 rw[hb.block g (Nat.lt_of_lt_of_le hg h.sz)];exact h1
set_option maxHeartbeats 4000000 in
set_option maxRecDepth 100000 in
theorem markNodeS_k (w0 w:World) (ok:Nat→Prop) (v:Value) (xs:List S116) (hB:Below w0.heap.size w0 w) (hs:Kd.S k116 116 w w0.heap.size ok v xs) (hxs:∀x∈xs,x.f1.length≤1048576) (hl:xs.length≤1048576) (a:Int) (h0:0≤a) (h1:a≤1125899906842624) :
  Calls Try.prog 78 #[v,.int .i64 a] w fun e w'=>∃r:Int,e=.returned (.int .i64 r)∧Aside0 (0≤r∧r≤a+xs.length * 2097152)∧Below w0.heap.size w0 w'∧Kept w w' ok:=by
 by_cases hn:0<xs.length
 case neg=>
  obtain rfl:xs=[]:=List.eq_nil_of_length_eq_zero (by omega)
  obtain⟨A,c,rfl⟩:=Kd.S_slice hs
  have HB:=Za hB
  have HA:=Za (And.intro h0 h1)
  clear hB hs hxs hl h0 h1 hn
  go_enter Try.func78,Try.ntmps78
  go_wp2
  go_loopg [1,5] 1 (fun gg s1 s5 wr=>s1=.int .i64 a∧s5=.int .i64 0∧Aside0 (wr=w))
  case atStart=>exact⟨rfl,rfl,⟨rfl⟩⟩
  case round=>
   obtain⟨rfl,rfl,hw⟩:=hrel
   obtain rfl:=hw.out
   go_wp2
   go_ret
   exact⟨a,rfl,⟨by have:=HA.out;simp;omega⟩,HB.out,Kept.refl _ _⟩
 obtain⟨g,cap,cur,f,lv,rfl,hbg,hok,hg,hcap,hmax,hsz,hlab⟩:=nodes_open hs hn
 have hbound:∀k,ok k→w0.heap.size≤k∨True:=fun _ _=>.inr trivial
 have hlt:=ZO hg
 have HB:=Za hB;have HOK:=Za hok;have HG:=Za hg;have HBG:=Za hbg;have HLAB:=Za hlab;have HXS:=Za hxs;have HSZ:=Za hsz;have HM:=Za hmax
 obtain⟨n,hnx⟩:∃n,n=xs.length:=⟨_,rfl⟩
 rw[← hnx] at HLAB hcap hn hl
 have HNX:=Za hnx;clear hB hok hg hbg hlab hxs hsz hs hmax hbound
 rw[← hnx]
 clear hnx
 go_enter Try.func78,Try.ntmps78
 go_wp2
 go_loopg [1,5] n (fun gg s1 s5 wr=>∃kk:Nat,∃b:Int,Aside0 (kk≤n)∧Aside0 (n - kk≤gg)∧s1=.int .i64 b∧s5=.int .i64 kk∧Aside0 (0≤b∧b≤a+kk * 2097152)∧Aside0 (Below w0.heap.size w0 wr)∧Aside0 (MInv w wr ok f g n cur kk))
 case atStart=>exact⟨0,a,⟨Nat.zero_le _⟩,⟨by omega⟩,rfl,rfl,⟨by omega⟩,HB,⟨⟨Nat.le_refl _,fun _ _ _ _=>rfl,cur,HG.out,rfl,fun _ _=>rfl⟩⟩⟩
 case round=>
  obtain⟨kk,b,HK,HGG,rfl,rfl,HBD,HBr,HI⟩:=hrel
  by_cases hlt2:kk<n
  ·have hltz:(kk:Int)<(n:Int):=by omega
   have hbd:=HBD.out
   obtain⟨rt,hrt⟩:=markText_f b hbd.1 (by omega) (2 ^ 64) (Nat.le_refl _)
   have HRT:=Za hrt;clear hrt
   go_wp2_with fail
   refine(Zay.calls (2 ^ 64) b rt _ HRT.out).mono ?_
   rintro e w1 ⟨rfl,hb⟩
   have HI1:=Za (HI.out.below hb hlt)
   have HB1:=Za (HBr.out.trans (hb.mono HBr.out.size))
   clear hb
   obtain⟨cur1,hr1,hz1,hc1⟩:=HI1.out.row
   have hin:kk * 3+2<cur1.size:=by have:=HSZ.out;omega
   obtain⟨hlv,hR⟩:=HLAB.out kk hlt2
   obtain⟨Al,cl,el⟩:=Kd.R_slice hR
   have q1:w1.cell? ⟨g,kk * 3+1,none⟩=some (.slice Al (xs.getD kk z116).f1.length cl):=by
    rw[Zs hr1,hc1 kk hlt2,hlv,el]
   have f0:=Zr hr1 (kk * 3)
   have q0:=Zs hr1 (kk * 3)
   obtain⟨u0,hu0⟩:∃u,cur1[kk * 3]? = some u:=⟨_,Array.getElem?_eq_getElem (by omega)⟩
   rw[hu0] at q0
   rw[el] at hR
   have HR:=Za hR;have HR1:=Za hr1;have HC1:=Za hc1;have HZ1:=Za hz1
   have hlx:(xs.getD kk z116).f1.length≤1048576:=HXS.out _ (Zbr (by have:=HNX.out;omega) _)
   have HRL:=Za hR.1
   generalize hlab':(xs.getD kk z116).f1=lb at q1 HR hlx
   clear hlv hR el hr1 hc1 hz1 hlab' HRL
   have HMK:=Za (ZdR lb hlx (b+1) (by omega) (by omega) (2 ^ 64) (Nat.le_refl _))
   go_wp2_with fail
   refine(Zau.calls (2 ^ 64) (fun k=>(ok k∧k≠g)∧f k=kk) _ lb (b+1) _ _ w0 _ ?hb ?hr HMK.out).mono ?_
   case hb=>exact Zq HB1.out HBG.out
   case hr=>exact Kd.R_step HR.out fun k hk hlt3=>(Below.heap_setCell w1 _ _ k hk.1.2).trans (HI1.out.far k hlt3 hk.1.2 (by rintro⟨_,h9⟩;have:=hk.2;omega))
   rintro e w2 ⟨rfl,_,hb2,hk2⟩
   have hr2:w2.heap[g]? = some (.cells (cur1.setIfInBounds (kk * 3) (.string rt)) 116 (0,0)):=blk_kept (ZL HR1.out (kk * 3) (.string rt) rfl) hk2 (fun h9=>h9.1.2 rfl)
   have f2:=Zr hr2 (kk * 3+2)
   have q2:=Zs hr2 (kk * 3+2)
   obtain⟨u2,hu2⟩:∃u,(cur1.setIfInBounds (kk * 3) (.string rt))[kk * 3+2]? = some u:=⟨_,Array.getElem?_eq_getElem (by simp;omega)⟩
   rw[hu2] at q2
   have HR2:=Za hr2;have HB2:=Za hb2;have HK2:=Za hk2;clear hr2 hb2 hk2 hu2 hu0 f0 q0 q1
   have hw1:IntKind.i64.wrap (b+1+lb.length+1)=b+1+lb.length+1:=by simp[IntKind.wrap,IntKind.signed,IntKind.bits];omega
   have hw2:wrap64 (b+1+lb.length+1)=b+1+lb.length+1:=ZaJ (by omega) (by omega)
   go_wp2
   go_roundg (n - (kk+1))
   case measure=>have:=HGG.out;omega
   case rel=>
    refine⟨kk+1,b+1+lb.length+1,⟨by omega⟩,⟨by omega⟩,by first|rfl|go_num,by go_num,⟨by omega⟩,⟨Zq HB2.out HBG.out⟩,⟨?_,?_,?_⟩⟩
    ·have h9:=HK2.out.1
     have h8:=HI1.out.sz
     simp[World.setCell] at h9 ⊢
     omega
    ·intro k hk hkg hn9
     have hk8:k<w1.heap.size:=Nat.lt_of_lt_of_le hk HI1.out.sz
     rw[Below.heap_setCell w2 _ _ k hkg,HK2.out.2 k (by simpa [World.setCell] using hk8) (fun h7=>hn9 ⟨h7.1.1,by have:=h7.2;omega⟩),Below.heap_setCell w1 _ _ k hkg]
     exact HI1.out.far k hk hkg (fun h7=>hn9 ⟨h7.1,by have:=h7.2;omega⟩)
    ·refine⟨_,ZL HR2.out (kk * 3+2) _ rfl,by simpa using HZ1.out,fun j hj=>?_⟩
     rw[Array.getElem?_setIfInBounds_ne (by omega),Array.getElem?_setIfInBounds_ne (by omega)]
     exact HC1.out j hj
  ·have hltz:¬(kk:Int)<(n:Int):=by omega
   have:kk=n:=by have:=HK.out;omega
   subst this
   go_wp2
   go_ret
   refine⟨b,rfl,⟨by have:=HBD.out;have:=HNX.out;omega⟩,HBr.out,HI.out.sz,fun k hk hn9=>HI.out.far k hk (fun e=>hn9 (e ▸ HOK.out)) (fun h7=>hn9 h7.1)⟩
set_option maxHeartbeats 4000000 in
set_option maxRecDepth 100000 in
theorem markShow_k (w0 w:World) (b:Nat) (v0 v1:Value) (ns:List S116) (ts:List S90) (z:Int) (hB:Below w0.heap.size w0 w) (hs:Kd.S k116 116 w w0.heap.size (fun k=>k<b) v0 ns) (ht:Kd.R k90 90 w w0.heap.size (fun k=>k<b) v1 ts)
  (hxs:∀x∈ns,x.f1.length≤1048576) (hl:ns.length≤1048576) (hl2:ts.length≤1048576) (a:Int) (h0:0≤a) (h1:a≤562949953421312) :
  Calls Try.prog 26 #[.agg #[v0,v1,.int .i64 z],.int .i64 a] w fun e w'=>∃r:Int,e=.returned (.int .i64 r)∧Aside0 (0≤r∧r≤a+4398046511104)∧Below w0.heap.size w0 w'∧Kept w w' (fun k=>k<b):=by
 obtain⟨A0,c0,e0⟩:=Kd.S_slice hs
 obtain⟨A1,c1,e1⟩:=Kd.R_slice ht
 have hty:=Kd.R_typed ht
 have hs2:=Kd.S_bound (Kd.S_apart' hs hty (by decide))
 have hbox:∀k,(((k<b∧some k≠v1.ownBlock)∧w0.heap.size≤k∧k<w.heap.size∧∃q,q∈116 :: Kd.E k116∧∃cells,w.heap[k]? = some (.cells cells q (0,0))))→k<b∧some k≠v1.ownBlock∧k<w.heap.size:=fun k hk=>⟨hk.1.1,hk.1.2,hk.2.2.1⟩
 have HS:=Za (Kd.S_mono hs2 hbox)
 have HT:=Za (Kd.R_tight (by rfl) ht)
 have HTB:=Za fun k (hk:v1.ownBlock=some k)=>ht.1 k hk
 have HTL:=Za (Kd.R_lt ht)
 have HB:=Za hB;have HXS:=Za hxs
 have hu:=Try.underlying35
 subst e0;subst e1
 have hsz:=hB.size
 clear hs ht hs2 hty hbox hB hxs
 have HC1:=Za fun (W:World) (hb:Below w.heap.size w W)=>markNodeS_k w0 W _ _ ns (HB.out.trans (hb.mono hsz)) (Kd.S_below HS.out hb) HXS.out hl a h0 (by omega)
 have B1:=Za (Zn (Below.refl w.heap.size w) (.cells #[.slice A0 ns.length c0,.slice A1 ts.length c1,.int .i64 z] 35))
 go_enter Try.func26,Try.ntmps26
 go_wp2_with fail
 refine(HC1.out _ B1.out).mono ?_
 rintro e w1 ⟨r1,rfl,HR1,hb1,hk1⟩
 have s1:w1.cell? ⟨w.heap.size,1,none⟩=some (.slice A1 ts.length c1):=ZbV (W:=w.alloc _) (by go_simp) hk1 (by simp)
 have hkk:Kept w w1 (fun k=>k<b):=(Kept.of_below B1.out _).then_ hk1 (fun k hk=>.inl hk.1)
 have hr1:=HR1.out
 obtain⟨l2,hf⟩:=markTieS_f ts hl2 r1 hr1.1 (by omega) (2 ^ 64) (Nat.le_refl _)
 have HF:=Za hf
 have HT2:=Za (Kd.R_kept (Kd.R_below HT.out B1.out) hk1 (fun k hk h2=>h2.2.1 hk))
 have HB1:=Za hb1;have HKK:=Za hkk;clear hb1 hk1 hf hkk
 go_wp2_with fail
 refine(Zag.calls (2 ^ 64) (fun k=>some k=(Value.slice A1 ts.length c1).ownBlock) _ ts r1 _ _ w0 _ HB1.out HT2.out HF.out).mono ?_
 rintro e w2 ⟨rfl,_,hb2,hk2⟩
 have HB2:=Za hb2
 have HK2:=Za (HKK.out.then_ hk2 (fun k hk=>.inl (HTB.out k hk.symm)))
 clear hb2 hk2 s1
 go_wp2
 go_ret
 exact⟨_,rfl,⟨by have:=HR1.out;omega⟩,HB2.out,HK2.out⟩
set_option maxHeartbeats 4000000 in
set_option maxRecDepth 100000 in
theorem markSimple_k (w0 w:World) (b:Nat) (n:Int) (v:Value) (xs:List S112) (hB:Below w0.heap.size w0 w) (hs:Kd.R k112 112 w w0.heap.size (fun k=>k<b) v xs) (hl:xs.length≤1048576) (a:Int) (h0:0≤a) (h1:a≤562949953421312) :
  Calls Try.prog 61 #[.agg #[.int .i64 n,v],.int .i64 a] w fun e w'=>e=.returned (.int .i64 (a+4 * xs.length))∧Kd.R k112 112 w' w0.heap.size (fun k=>k<b) v (Za9 a xs.length)∧Below w0.heap.size w0 w'∧Kept w w' (fun k=>k<b):=by
 obtain⟨A,c,rfl⟩:=Kd.R_slice hs
 have HS:=Za hs;have HB:=Za hB
 have hu:=Try.underlying58
 have hsz:=hB.size
 have HC1:=Za fun (W:World) (hb:Below w.heap.size w W)=>markLinkS_k w0 W _ _ xs (HB.out.trans (hb.mono hsz)) (Kd.R_below HS.out hb) hl a h0 h1
 have B1:=Za (Zn (Below.refl w.heap.size w) (.cells #[.int .i64 n,.slice A xs.length c] 58))
 clear hs hB hl h0 h1
 go_enter Try.func61,Try.ntmps61
 go_wp2_with fail
 refine(HC1.out _ B1.out).mono ?_
 rintro e w1 ⟨rfl,hr1,hb1,hk1⟩
 have HR1:=Za hr1;have HB1:=Za hb1
 have HK1:=Za ((Kept.of_below B1.out (fun k=>k<b)).then_ hk1 (fun k hk=>.inl hk))
 clear hb1 hk1 hr1
 go_wp2
 go_ret
 exact⟨rfl,HR1.out,HB1.out,HK1.out⟩
set_option maxHeartbeats 4000000 in
set_option maxRecDepth 100000 in
theorem laws_eqNode.same (a0:ByteArray) (A1:Option Addr) (c1:Nat) (A1':Option Addr) (c1':Nat) (l1:List Int) (a2:Int) (w:World) (hr1:Kd.C (Kd.int .i64) w A1 l1.length l1) (hc1:l1.length≤c1) (hr1':Kd.C (Kd.int .i64) w A1' l1.length l1) (hc1':l1.length≤c1') :
  Calls Try.prog 127 #[.agg #[.string a0,.slice A1 l1.length c1,.int .i64 a2],.agg #[.string a0,.slice A1' l1.length c1',.int .i64 a2]] w fun e w'=>e=.returned (.bool true)∧Below w.heap.size w w':=by
 have hu:=Try.underlying116
 have H1:=Za fun (W:World) (hb:Below w.heap.size w W)=>(ZaL.calls (2 ^ 64) A1 c1 l1 A1' c1' l1 true W (Zb hr1 hb) hc1 (Zb hr1' hb) hc1' (eqIntS_refl l1 hr1.2.1 (2 ^ 64) (Nat.le_refl _))).mono fun e w' ⟨he,hd⟩=>(And.intro he hd.below:e=Ending.returned (.bool true)∧Below W.heap.size W w')
 clear hr1 hc1 hr1' hc1'
 have HB0:=Za (Zn (Zn (Below.refl w.heap.size w) (.cells #[.string a0,.slice A1 l1.length c1,.int .i64 a2] 116)) (.cells #[.string a0,.slice A1' l1.length c1',.int .i64 a2] 116))
 go_enter Try.func127,Try.ntmps127
 go_wp2_with fail
 refine(H1.out _ HB0.out).mono ?_
 rintro e w1 ⟨rfl,hb⟩
 have HB1:=Za (HB0.out.trans (hb.mono HB0.out.size))
 have s2:w1.cell? ⟨w.heap.size,2,none⟩=some (.int .i64 a2):=ZJ hb (by go_simp)
 have t2:w1.cell? ⟨w.heap.size+1,2,none⟩=some (.int .i64 a2):=ZJ hb (by go_simp)
 clear hb
 go_wp2
 go_ret
 exact⟨rfl,HB1.out⟩
set_option maxHeartbeats 4000000 in
set_option maxRecDepth 100000 in
theorem laws_eqNodeS.same (A0:Option Addr) (c0:Nat) (A0':Option Addr) (c0':Nat) (l0:List (S116)) (w:World) (hr0:Kd.C k116 w A0 l0.length l0) (hc0:l0.length≤c0) (hr0':Kd.C k116 w A0' l0.length l0) (hc0':l0.length≤c0') :
  Calls Try.prog 74 #[.slice A0 l0.length c0,.slice A0' l0.length c0'] w fun e w'=>e=.returned (.bool true)∧Below w.heap.size w w':=by
 have hL:l0.length≤9223372036854775807:=hr0.2.1
 have HR:=Za hr0
 have HS:=Za hr0'
 clear hr0 hr0'
 go_enter Try.func74,Try.ntmps74
 go_wp2
 go_loopg [5] l0.length (fun gg s5 wr=>∃kk:Nat,Aside0 (kk≤l0.length)∧Aside0 (l0.length - kk≤gg)∧s5=.int .i64 kk∧Aside0 (Below w.heap.size w wr))
 case atStart=>exact⟨0,⟨Nat.zero_le _⟩,⟨by omega⟩,rfl,⟨Below.refl _ _⟩⟩
 case round=>
  obtain⟨kk,HK,HG,rfl,HBr⟩:=hrel
  by_cases hlt:kk<l0.length
  ·have hltz:(kk:Int)<(l0.length:Int):=by omega
   obtain⟨adx,A1x,c1x,ex,hx0,hx1,hx2,l1x,g1x⟩:=Zaq HR.out (kk:Int) (by omega) hltz
   obtain⟨ady,A1y,c1y,ey,hy0,hy1,hy2,l1y,g1y⟩:=Zaq HS.out (kk:Int) (by omega) hltz
   cases ex
   cases ey
   rw[Int.toNat_natCast] at hx0 hx1 hx2 hy0 hy1 hy2
   generalize Zz l0 (kk:Int)=y at hx0 hx1 hx2 l1x g1x hy0 hy1 hy2 l1y g1y
   replace hx0:=ZJ HBr.out hx0
   replace hx1:=ZJ HBr.out hx1
   replace hx2:=ZJ HBr.out hx2
   replace hy0:=ZJ HBr.out hy0
   replace hy1:=ZJ HBr.out hy1
   replace hy2:=ZJ HBr.out hy2
   have hltx:=Zc wr _ hx0
   have hlty:=Zc wr _ hy0
   have G1x:=Za g1x;have G1y:=Za g1y;clear g1x g1y
   go_wp2_with fail
   go_region_held3 (fun w'=>Below wr.heap.size wr w'∧w'.cell? (adx.add (kk * 3))=some (.string y.f0)∧w'.cell? ⟨(adx.add (kk * 3)).block,(adx.add (kk * 3)).off+1,none⟩=some (.slice A1x y.f1.length c1x)∧w'.cell? ⟨(adx.add (kk * 3)).block,(adx.add (kk * 3)).off+2,none⟩=some (.int .i64 y.f2)∧w'.cell? (ady.add (kk * 3))=some (.string y.f0)∧w'.cell? ⟨(ady.add (kk * 3)).block,(ady.add (kk * 3)).off+1,none⟩=some (.slice A1y y.f1.length c1y)∧w'.cell? ⟨(ady.add (kk * 3)).block,(ady.add (kk * 3)).off+2,none⟩=some (.int .i64 y.f2))
    (first|(refine⟨by repeat(first|(with_reducible first|exact Below.refl _ _|apply Zn|apply Zm|apply Zt|exact(‹Below wr.heap.size wr _∧_› : Below wr.heap.size wr _∧_).1)|exact Below.refl _ _),?_⟩;go_simp;done)|(have HQ_:=Zw (‹Below wr.heap.size wr _∧_› : Below wr.heap.size wr _∧_).1 hb;exact⟨HQ_,ZJ HQ_ hx0,ZJ HQ_ hx1,ZJ HQ_ hx2,ZJ HQ_ hy0,ZJ HQ_ hy1,ZJ HQ_ hy2⟩))
    (first|(go_at_call 127;(refine(laws_eqNode.same y.f0 A1x c1x A1y c1y y.f1 y.f2 _ ?p0 l1x ?p1 l1y).mono ?_);(case p0=>exact(Zb (Zb G1x.out HBr.out) (‹Below wr.heap.size wr _∧_› : Below wr.heap.size wr _∧_).1));(case p1=>exact(Zb (Zb G1y.out HBr.out) (‹Below wr.heap.size wr _∧_› : Below wr.heap.size wr _∧_).1));rintro e w3 ⟨rfl,hb⟩))
   have HB3:=Za (‹Below wr.heap.size wr w3∧_› : Below wr.heap.size wr w3∧_).1
   go_wp2
   go_roundg (l0.length - (kk+1))
   case measure=>have:=HG.out;omega
   case rel=>exact⟨kk+1,⟨by omega⟩,⟨by omega⟩,by go_num,⟨HBr.out.trans (HB3.out.mono HBr.out.size)⟩⟩
  ·have hltz:¬(kk:Int)<(l0.length:Int):=by omega
   have:kk=l0.length:=by have:=HK.out;omega
   subst this
   go_wp2
   go_ret
   exact⟨rfl,HBr.out⟩
set_option maxHeartbeats 4000000 in
set_option maxRecDepth 100000 in
theorem laws_eqTie.same (a0:Int) (a1:Int) (a2:Int) (a3:Int) (a4:Bool) (w:World)  :
  Calls Try.prog 128 #[.agg #[.int .i64 a0,.int .i64 a1,.int .i64 a2,.int .i64 a3,.bool a4],.agg #[.int .i64 a0,.int .i64 a1,.int .i64 a2,.int .i64 a3,.bool a4]] w fun e w'=>e=.returned (.bool true)∧Below w.heap.size w w':=by
 have hu:=Try.underlying90
 have HB0:=Za (Zn (Zn (Below.refl w.heap.size w) (.cells #[.int .i64 a0,.int .i64 a1,.int .i64 a2,.int .i64 a3,.bool a4] 90)) (.cells #[.int .i64 a0,.int .i64 a1,.int .i64 a2,.int .i64 a3,.bool a4] 90))
 go_enter Try.func128,Try.ntmps128
 go_wp2
 go_ret
 exact⟨rfl,by repeat(first|exact Below.refl _ _|apply Zn|apply Zm|apply ZaF)⟩
set_option maxHeartbeats 4000000 in
set_option maxRecDepth 100000 in
theorem laws_eqTieS.same (A0:Option Addr) (c0:Nat) (A0':Option Addr) (c0':Nat) (l0:List (S90)) (w:World) (hr0:Kd.C k90 w A0 l0.length l0) (hc0:l0.length≤c0) (hr0':Kd.C k90 w A0' l0.length l0) (hc0':l0.length≤c0') :
  Calls Try.prog 75 #[.slice A0 l0.length c0,.slice A0' l0.length c0'] w fun e w'=>e=.returned (.bool true)∧Below w.heap.size w w':=by
 have hL:l0.length≤9223372036854775807:=hr0.2.1
 have HR:=Za hr0
 have HS:=Za hr0'
 clear hr0 hr0'
 go_enter Try.func75,Try.ntmps75
 go_wp2
 go_loopg [5] l0.length (fun gg s5 wr=>∃kk:Nat,Aside0 (kk≤l0.length)∧Aside0 (l0.length - kk≤gg)∧s5=.int .i64 kk∧Aside0 (Below w.heap.size w wr))
 case atStart=>exact⟨0,⟨Nat.zero_le _⟩,⟨by omega⟩,rfl,⟨Below.refl _ _⟩⟩
 case round=>
  obtain⟨kk,HK,HG,rfl,HBr⟩:=hrel
  by_cases hlt:kk<l0.length
  ·have hltz:(kk:Int)<(l0.length:Int):=by omega
   obtain⟨adx,ex,hx0,hx1,hx2,hx3,hx4⟩:=ZaH HR.out (kk:Int) (by omega) hltz
   obtain⟨ady,ey,hy0,hy1,hy2,hy3,hy4⟩:=ZaH HS.out (kk:Int) (by omega) hltz
   cases ex
   cases ey
   rw[Int.toNat_natCast] at hx0 hx1 hx2 hx3 hx4 hy0 hy1 hy2 hy3 hy4
   generalize Zv l0 (kk:Int)=y at hx0 hx1 hx2 hx3 hx4 hy0 hy1 hy2 hy3 hy4
   replace hx0:=ZJ HBr.out hx0
   replace hx1:=ZJ HBr.out hx1
   replace hx2:=ZJ HBr.out hx2
   replace hx3:=ZJ HBr.out hx3
   replace hx4:=ZJ HBr.out hx4
   replace hy0:=ZJ HBr.out hy0
   replace hy1:=ZJ HBr.out hy1
   replace hy2:=ZJ HBr.out hy2
   replace hy3:=ZJ HBr.out hy3
   replace hy4:=ZJ HBr.out hy4
   have hltx:=Zc wr _ hx0
   have hlty:=Zc wr _ hy0
   go_wp2_with fail
   go_region_held3 (fun w'=>Below wr.heap.size wr w'∧w'.cell? (adx.add (kk * 5))=some (.int .i64 y.f0)∧w'.cell? ⟨(adx.add (kk * 5)).block,(adx.add (kk * 5)).off+1,none⟩=some (.int .i64 y.f1)∧w'.cell? ⟨(adx.add (kk * 5)).block,(adx.add (kk * 5)).off+2,none⟩=some (.int .i64 y.f2)∧w'.cell? ⟨(adx.add (kk * 5)).block,(adx.add (kk * 5)).off+3,none⟩=some (.int .i64 y.f3)∧w'.cell? ⟨(adx.add (kk * 5)).block,(adx.add (kk * 5)).off+4,none⟩=some (.bool y.f4)∧w'.cell? (ady.add (kk * 5))=some (.int .i64 y.f0)∧w'.cell? ⟨(ady.add (kk * 5)).block,(ady.add (kk * 5)).off+1,none⟩=some (.int .i64 y.f1)∧w'.cell? ⟨(ady.add (kk * 5)).block,(ady.add (kk * 5)).off+2,none⟩=some (.int .i64 y.f2)∧w'.cell? ⟨(ady.add (kk * 5)).block,(ady.add (kk * 5)).off+3,none⟩=some (.int .i64 y.f3)∧w'.cell? ⟨(ady.add (kk * 5)).block,(ady.add (kk * 5)).off+4,none⟩=some (.bool y.f4))
    (first|(refine⟨by repeat(first|(with_reducible first|exact Below.refl _ _|apply Zn|apply Zm|apply Zt|exact(‹Below wr.heap.size wr _∧_› : Below wr.heap.size wr _∧_).1)|exact Below.refl _ _),?_⟩;go_simp;done)|(have HQ_:=Zw (‹Below wr.heap.size wr _∧_› : Below wr.heap.size wr _∧_).1 hb;exact⟨HQ_,ZJ HQ_ hx0,ZJ HQ_ hx1,ZJ HQ_ hx2,ZJ HQ_ hx3,ZJ HQ_ hx4,ZJ HQ_ hy0,ZJ HQ_ hy1,ZJ HQ_ hy2,ZJ HQ_ hy3,ZJ HQ_ hy4⟩))
    (first|(go_at_call 128;(refine(laws_eqTie.same y.f0 y.f1 y.f2 y.f3 y.f4 _ ).mono ?_);rintro e w3 ⟨rfl,hb⟩))
   have HB3:=Za (‹Below wr.heap.size wr w3∧_› : Below wr.heap.size wr w3∧_).1
   go_wp2
   go_roundg (l0.length - (kk+1))
   case measure=>have:=HG.out;omega
   case rel=>exact⟨kk+1,⟨by omega⟩,⟨by omega⟩,by go_num,⟨HBr.out.trans (HB3.out.mono HBr.out.size)⟩⟩
  ·have hltz:¬(kk:Int)<(l0.length:Int):=by omega
   have:kk=l0.length:=by have:=HK.out;omega
   subst this
   go_wp2
   go_ret
   exact⟨rfl,HBr.out⟩
set_option maxHeartbeats 4000000 in
set_option maxRecDepth 100000 in
theorem laws_eqShow.same (A0:Option Addr) (c0:Nat) (A0':Option Addr) (c0':Nat) (l0:List (S116)) (A1:Option Addr) (c1:Nat) (A1':Option Addr) (c1':Nat) (l1:List (S90)) (a2:Int) (w:World) (hr0:Kd.C k116 w A0 l0.length l0) (hc0:l0.length≤c0) (hr0':Kd.C k116 w A0' l0.length l0) (hc0':l0.length≤c0') (hr1:Kd.C k90 w A1 l1.length l1) (hc1:l1.length≤c1) (hr1':Kd.C k90 w A1' l1.length l1) (hc1':l1.length≤c1') :
  Calls Try.prog 21 #[.agg #[.slice A0 l0.length c0,.slice A1 l1.length c1,.int .i64 a2],.agg #[.slice A0' l0.length c0',.slice A1' l1.length c1',.int .i64 a2]] w fun e w'=>e=.returned (.bool true)∧Below w.heap.size w w':=by
 have hu:=Try.underlying35
 have H0:=Za fun (W:World) (hb:Below w.heap.size w W)=>laws_eqNodeS.same A0 c0 A0' c0' l0 W (Zb hr0 hb) hc0 (Zb hr0' hb) hc0'
 have H1:=Za fun (W:World) (hb:Below w.heap.size w W)=>laws_eqTieS.same A1 c1 A1' c1' l1 W (Zb hr1 hb) hc1 (Zb hr1' hb) hc1'
 clear hr0 hc0 hr0' hc0' hr1 hc1 hr1' hc1'
 have HB0:=Za (Zn (Zn (Below.refl w.heap.size w) (.cells #[.slice A0 l0.length c0,.slice A1 l1.length c1,.int .i64 a2] 35)) (.cells #[.slice A0' l0.length c0',.slice A1' l1.length c1',.int .i64 a2] 35))
 go_enter Try.func21,Try.ntmps21
 go_wp2_with fail
 refine(H0.out _ HB0.out).mono ?_
 rintro e w1 ⟨rfl,hb⟩
 have HB1:=Za (HB0.out.trans (hb.mono HB0.out.size))
 have s1:w1.cell? ⟨w.heap.size,1,none⟩=some (.slice A1 l1.length c1):=ZJ hb (by go_simp)
 have t1:w1.cell? ⟨w.heap.size+1,1,none⟩=some (.slice A1' l1.length c1'):=ZJ hb (by go_simp)
 have s2:w1.cell? ⟨w.heap.size,2,none⟩=some (.int .i64 a2):=ZJ hb (by go_simp)
 have t2:w1.cell? ⟨w.heap.size+1,2,none⟩=some (.int .i64 a2):=ZJ hb (by go_simp)
 clear hb
 go_wp2_with fail
 refine(H1.out _ HB1.out).mono ?_
 rintro e w2 ⟨rfl,hb⟩
 have HB2:=Za (HB1.out.trans (hb.mono HB1.out.size))
 replace s2:=ZJ hb s2
 replace t2:=ZJ hb t2
 clear hb s1 t1
 go_wp2
 go_ret
 exact⟨rfl,HB2.out⟩
set_option maxHeartbeats 4000000 in
set_option maxRecDepth 100000 in
theorem laws_eqLink.same (a0:Int) (a1:Int) (a2:Int) (a3:Int) (w:World)  :
  Calls Try.prog 152 #[.agg #[.int .i64 a0,.int .i64 a1,.int .i64 a2,.int .i64 a3],.agg #[.int .i64 a0,.int .i64 a1,.int .i64 a2,.int .i64 a3]] w fun e w'=>e=.returned (.bool true)∧Below w.heap.size w w':=by
 have hu:=Try.underlying112
 have HB0:=Za (Zn (Zn (Below.refl w.heap.size w) (.cells #[.int .i64 a0,.int .i64 a1,.int .i64 a2,.int .i64 a3] 112)) (.cells #[.int .i64 a0,.int .i64 a1,.int .i64 a2,.int .i64 a3] 112))
 go_enter Try.func152,Try.ntmps152
 go_wp2
 go_ret
 exact⟨rfl,by repeat(first|exact Below.refl _ _|apply Zn|apply Zm|apply ZaF)⟩
set_option maxHeartbeats 4000000 in
set_option maxRecDepth 100000 in
theorem laws_eqLinkS.same (A0:Option Addr) (c0:Nat) (A0':Option Addr) (c0':Nat) (l0:List (S112)) (w:World) (hr0:Kd.C k112 w A0 l0.length l0) (hc0:l0.length≤c0) (hr0':Kd.C k112 w A0' l0.length l0) (hc0':l0.length≤c0') :
  Calls Try.prog 113 #[.slice A0 l0.length c0,.slice A0' l0.length c0'] w fun e w'=>e=.returned (.bool true)∧Below w.heap.size w w':=by
 have hL:l0.length≤9223372036854775807:=hr0.2.1
 have HR:=Za hr0
 have HS:=Za hr0'
 clear hr0 hr0'
 go_enter Try.func113,Try.ntmps113
 go_wp2
 go_loopg [5] l0.length (fun gg s5 wr=>∃kk:Nat,Aside0 (kk≤l0.length)∧Aside0 (l0.length - kk≤gg)∧s5=.int .i64 kk∧Aside0 (Below w.heap.size w wr))
 case atStart=>exact⟨0,⟨Nat.zero_le _⟩,⟨by omega⟩,rfl,⟨Below.refl _ _⟩⟩
 case round=>
  obtain⟨kk,HK,HG,rfl,HBr⟩:=hrel
  by_cases hlt:kk<l0.length
  ·have hltz:(kk:Int)<(l0.length:Int):=by omega
   obtain⟨adx,ex,hx0,hx1,hx2,hx3⟩:=ZaY HR.out (kk:Int) (by omega) hltz
   obtain⟨ady,ey,hy0,hy1,hy2,hy3⟩:=ZaY HS.out (kk:Int) (by omega) hltz
   cases ex
   cases ey
   rw[Int.toNat_natCast] at hx0 hx1 hx2 hx3 hy0 hy1 hy2 hy3
   generalize ZM l0 (kk:Int)=y at hx0 hx1 hx2 hx3 hy0 hy1 hy2 hy3
   replace hx0:=ZJ HBr.out hx0
   replace hx1:=ZJ HBr.out hx1
   replace hx2:=ZJ HBr.out hx2
   replace hx3:=ZJ HBr.out hx3
   replace hy0:=ZJ HBr.out hy0
   replace hy1:=ZJ HBr.out hy1
   replace hy2:=ZJ HBr.out hy2
   replace hy3:=ZJ HBr.out hy3
   have hltx:=Zc wr _ hx0
   have hlty:=Zc wr _ hy0
   go_wp2_with fail
   go_region_held3 (fun w'=>Below wr.heap.size wr w'∧w'.cell? (adx.add (kk * 4))=some (.int .i64 y.f0)∧w'.cell? ⟨(adx.add (kk * 4)).block,(adx.add (kk * 4)).off+1,none⟩=some (.int .i64 y.f1)∧w'.cell? ⟨(adx.add (kk * 4)).block,(adx.add (kk * 4)).off+2,none⟩=some (.int .i64 y.f2.f0)∧w'.cell? ⟨(adx.add (kk * 4)).block,(adx.add (kk * 4)).off+3,none⟩=some (.int .i64 y.f2.f1)∧w'.cell? (ady.add (kk * 4))=some (.int .i64 y.f0)∧w'.cell? ⟨(ady.add (kk * 4)).block,(ady.add (kk * 4)).off+1,none⟩=some (.int .i64 y.f1)∧w'.cell? ⟨(ady.add (kk * 4)).block,(ady.add (kk * 4)).off+2,none⟩=some (.int .i64 y.f2.f0)∧w'.cell? ⟨(ady.add (kk * 4)).block,(ady.add (kk * 4)).off+3,none⟩=some (.int .i64 y.f2.f1))
    (first|(refine⟨by repeat(first|(with_reducible first|exact Below.refl _ _|apply Zn|apply Zm|apply Zt|exact(‹Below wr.heap.size wr _∧_› : Below wr.heap.size wr _∧_).1)|exact Below.refl _ _),?_⟩;go_simp;done)|(have HQ_:=Zw (‹Below wr.heap.size wr _∧_› : Below wr.heap.size wr _∧_).1 hb;exact⟨HQ_,ZJ HQ_ hx0,ZJ HQ_ hx1,ZJ HQ_ hx2,ZJ HQ_ hx3,ZJ HQ_ hy0,ZJ HQ_ hy1,ZJ HQ_ hy2,ZJ HQ_ hy3⟩))
    (first|(go_at_call 152;(refine(laws_eqLink.same y.f0 y.f1 y.f2.f0 y.f2.f1 _ ).mono ?_);rintro e w3 ⟨rfl,hb⟩))
   have HB3:=Za (‹Below wr.heap.size wr w3∧_› : Below wr.heap.size wr w3∧_).1
   go_wp2
   go_roundg (l0.length - (kk+1))
   case measure=>have:=HG.out;omega
   case rel=>exact⟨kk+1,⟨by omega⟩,⟨by omega⟩,by go_num,⟨HBr.out.trans (HB3.out.mono HBr.out.size)⟩⟩
  ·have hltz:¬(kk:Int)<(l0.length:Int):=by omega
   have:kk=l0.length:=by have:=HK.out;omega
   subst this
   go_wp2
   go_ret
   exact⟨rfl,HBr.out⟩
set_option maxHeartbeats 4000000 in
set_option maxRecDepth 100000 in
theorem Zcx.same (a0:Int) (A1:Option Addr) (c1:Nat) (A1':Option Addr) (c1':Nat) (l1:List (S112)) (w:World) (hr1:Kd.C k112 w A1 l1.length l1) (hc1:l1.length≤c1) (hr1':Kd.C k112 w A1' l1.length l1) (hc1':l1.length≤c1') :
  Calls Try.prog 60 #[.agg #[.int .i64 a0,.slice A1 l1.length c1],.agg #[.int .i64 a0,.slice A1' l1.length c1']] w fun e w'=>e=.returned (.bool true)∧Below w.heap.size w w':=by
 have hu:=Try.underlying58
 have H1:=Za fun (W:World) (hb:Below w.heap.size w W)=>laws_eqLinkS.same A1 c1 A1' c1' l1 W (Zb hr1 hb) hc1 (Zb hr1' hb) hc1'
 clear hr1 hc1 hr1' hc1'
 have HB0:=Za (Zn (Zn (Below.refl w.heap.size w) (.cells #[.int .i64 a0,.slice A1 l1.length c1] 58)) (.cells #[.int .i64 a0,.slice A1' l1.length c1'] 58))
 go_enter Try.func60,Try.ntmps60
 go_wp2_with fail
 refine(H1.out _ HB0.out).mono ?_
 rintro e w1 ⟨rfl,hb⟩
 have HB1:=Za (HB0.out.trans (hb.mono HB0.out.size))
 clear hb
 go_wp2
 go_ret
 exact⟨rfl,HB1.out⟩
end Go.Proofs.Ytodfnelilhjoeaa.Pr
namespace Go.Proofs.Ytodfnelilhjoeaa.Pr
open Go.RowKit Go.Proofs.YtodfnelilhjoeaaW.PrintWords Go.Proofs.YtodfnelilhjoeaaW.PrintLast Go.Proofs.YtodfnelilhjoeaaW.PrintMore
attribute [local go_sem] Zac Zaa Zam Zal Z5 Z4 Zab Z9
set_option linter.unusedVariables false
set_option linter.unusedSimpArgs false
theorem ZaQ.o (k:Nat) (A0_0:Option Addr) (c0_0:Nat) (l0_0:List (S127)) (A0_1:Option Addr) (c0_1:Nat) (l0_1:List (S130)) (a0_2:Int) (r1:List (S116)) (r2:List (S90)) (r3:Int) (w:World) (hr0_0:Kd.C k127 w A0_0 l0_0.length l0_0) (hc0_0:l0_0.length≤c0_0) (hr0_1:Kd.C k130 w A0_1 l0_1.length l0_1) (hc0_1:l0_1.length≤c0_1) (h:ZaQ.f k l0_0 l0_1 a0_2=some (r1,r2,r3)) :
  Calls Try.prog 18 #[.agg #[.slice A0_0 l0_0.length c0_0,.slice A0_1 l0_1.length c0_1,.int .i64 a0_2]] w fun e w'=>∃A0_ c0_ A1_ c1_,e=.returned (.agg #[.slice A0_ r1.length c0_,.slice A1_ r2.length c1_,.int .i64 r3])∧Aside0 (r1.length≤c0_∧Kd.C k116 w' A0_ r1.length r1)∧Aside0 (r2.length≤c1_∧Kd.C k90 w' A1_ r2.length r2)∧Aside0 (Kd.S k116 116 w' w.heap.size (fun k_=>True∧(w.heap.size≤k_∧k_<w'.heap.size)) (.slice A0_ r1.length c0_) r1∧Kd.R k90 90 w' w.heap.size (fun k_=>True∧(w.heap.size≤k_∧k_<w'.heap.size)) (.slice A1_ r2.length c1_) r2)∧Below w.heap.size w w':=
 (ZaQ.calls k A0_0 c0_0 l0_0 A0_1 c0_1 l0_1 a0_2 r1 r2 r3 w hr0_0 hc0_0 hr0_1 hc0_1 h).mono fun e w' ⟨v0_,v1_,he,q0_,q1_,hb⟩=>by
  obtain⟨A0_,c0_,rfl,g0_⟩:=Kd.S_reads q0_
  obtain⟨A1_,c1_,rfl,g1_⟩:=Kd.R_reads q1_
  exact⟨A0_,c0_,A1_,c1_,he,⟨g0_⟩,⟨g1_⟩,⟨Kd.S_mono (Kd.S_bound q0_) (fun k hk=>⟨hk.1,hk.2.1,hk.2.2.1⟩),Kd.R_mono (Kd.R_bound q1_) (fun k hk=>⟨hk.1,hk.2.1,hk.2.2.1⟩)⟩,hb⟩
theorem ZF.o (k:Nat) (A0_0:Option Addr) (c0_0:Nat) (l0_0:List (S116)) (A0_1:Option Addr) (c0_1:Nat) (l0_1:List (S90)) (a0_2:Int) (r1:Int) (r2:List (S112)) (r3:Bool) (w:World) (hr0_0:Kd.C k116 w A0_0 l0_0.length l0_0) (hc0_0:l0_0.length≤c0_0) (hr0_1:Kd.C k90 w A0_1 l0_1.length l0_1) (hc0_1:l0_1.length≤c0_1) (h:ZF.f k l0_0 l0_1 a0_2=some (r1,r2,r3)) :
  Calls Try.prog 37 #[.agg #[.slice A0_0 l0_0.length c0_0,.slice A0_1 l0_1.length c0_1,.int .i64 a0_2]] w fun e w'=>∃A0_ c0_,e=.returned (.tuple #[.agg #[.int .i64 r1,.slice A0_ r2.length c0_],.bool r3])∧Aside0 (r2.length≤c0_∧Kd.C k112 w' A0_ r2.length r2)∧Aside0 (Kd.R k112 112 w' w.heap.size (fun k_=>True∧(w.heap.size≤k_∧k_<w'.heap.size)) (.slice A0_ r2.length c0_) r2)∧Below w.heap.size w w':=
 (ZF.calls k A0_0 c0_0 l0_0 A0_1 c0_1 l0_1 a0_2 r1 r2 r3 w hr0_0 hc0_0 hr0_1 hc0_1 h).mono fun e w' ⟨v1_,he,q0_,hb⟩=>by
  obtain⟨A0_,c0_,rfl,g0_⟩:=Kd.R_reads q0_
  exact⟨A0_,c0_,he,⟨g0_⟩,⟨Kd.R_mono (Kd.R_bound q0_) (fun k hk=>⟨hk.1,hk.2.1,hk.2.2.1⟩)⟩,hb⟩
end Go.Proofs.Ytodfnelilhjoeaa.Pr
namespace Go.Proofs.Ytodfnelilhjoeaa.Pr
open Go.RowKit Go.Proofs.YtodfnelilhjoeaaW.PrintWords Go.Proofs.Ytodfnelilhjoeaa.Ni
theorem szIntS_f (l:List Int) (hl:l.length≤9223372036854775807) (a:Int) (h0:0≤a) (h1:a≤1048576):Zby.f l a=some (if a - l.length<0 then -1 else a - l.length):=by
 unfold Zby.f
 rw[ZaJ (by omega) (by omega)]
 split <;> rfl
theorem szNode_f (s:ByteArray) (l:List Int) (n:Int) (hs:s.size≤9223372036854775807) (hl:l.length≤9223372036854775807) (a:Int) (h0:0≤a) (h1:a≤1048576) :
  ∃r,ZbM.f s l n a=some r∧(r<0∨(0≤r∧r≤a∧s.size≤1048576∧l.length≤1048576)):=by
 unfold ZbM.f
 rw[ZaJ (by omega) (by omega)]
 by_cases h:a - (s.size:Int)<0
 ·rw[if_pos h];exact⟨_,rfl,.inl (by omega)⟩
 ·rw[if_neg h,szIntS_f l hl _ (by omega) (by omega),Zi]
  by_cases h2:a - (s.size:Int) - l.length<0
  ·rw[if_pos h2,if_pos (by omega)];exact⟨_,rfl,.inl (by omega)⟩
  ·rw[if_neg h2,if_neg h2];exact⟨_,rfl,.inr ⟨by omega,by omega,by omega,by omega⟩⟩
theorem toNode_f (s:ByteArray) (l:List Int) (n:Int) (hl:l.length≤35184372088832) (k:Nat) (hk:2 ^ 64≤k):Zb1.f k s l n=some (s,l,n):=by
 unfold Zb1.f
 rw[toIntS_f l hl k hk];rfl
theorem szNodeS_l (l:List LNode) (hl:l.length≤9223372036854775807) (hb:∀n∈l,n.f0.size≤9223372036854775807∧n.f1.length≤9223372036854775807) (k:Nat) (hk:2 ^ 64≤k) :
  ∀a:Int,0≤a→a≤1048576→∃r,Zap.l0 k l a 0=some r∧(r<0∨(0≤r∧r≤a∧∀n∈l,n.f0.size≤1048576∧n.f1.length≤1048576)):=by
 have key:=ZaC l.length (fun k i=>∀a:Int,0≤a→a≤1048576→∃r,Zap.l0 k l a (i:Int)=some r∧(r<0∨(0≤r∧r≤a∧∀n∈l.drop i,n.f0.size≤1048576∧n.f1.length≤1048576))) 0
  (fun k _ a h0 h1=>⟨a,by simp[Zap.l0],.inr ⟨h0,Int.le_refl _,by simp⟩⟩)
  (fun k i _ hi ih a h0 h1=>by
   simp only[Zap.l0]
   rw[if_pos (by omega),if_pos (by omega),rdLN_nat,Z6 hi (by omega)]
   have hm:=hb _ (Zbr hi z127)
   obtain⟨r,hr,h⟩:=szNode_f (l.getD i z127).f0 (l.getD i z127).f1 (l.getD i z127).f2 hm.1 hm.2 a h0 h1
   rw[hr,Zi]
   rcases h with h|⟨h2,h3,h4,h5⟩
   ·rw[if_pos h];exact⟨_,rfl,.inl (by omega)⟩
   ·rw[if_neg (by omega)]
    obtain⟨q,hq,h⟩:=ih r h2 (by omega)
    refine⟨q,hq,?_⟩
    rcases h with h|⟨h6,h7,h8⟩
    ·exact .inl h
    ·refine .inr ⟨h6,by omega,?_⟩
     rw[ZaE hi z127]
     intro n hn
     rcases List.mem_cons.1 hn with rfl|hn
     ·exact⟨h4,h5⟩
     ·exact h8 n hn) 0 k (Nat.zero_le _) (by omega)
 intro a h0 h1
 simpa using key a h0 h1
theorem szShow_f (ns:List LNode) (ts:List LTie) (z:Int) (hn:ns.length≤9223372036854775807) (hb:∀n∈ns,n.f0.size≤9223372036854775807∧n.f1.length≤9223372036854775807) (ht:ts.length≤9223372036854775807) (k:Nat) (hk:2 ^ 64≤k) (a:Int) (h0:0≤a) (h1:a≤1048576) :
  ∃r,ZbL.f k ns ts z a=some r∧(r<0∨(0≤r∧r≤a∧ZcS ns ts)):=by
 unfold ZbL.f Zap.f
 rw[ZaJ (by omega) (by omega)]
 by_cases h:a - (ns.length:Int)<0
 ·rw[if_pos h,Zi,if_pos (by omega)];exact⟨_,rfl,.inl (by omega)⟩
 ·rw[if_neg h]
  obtain⟨r,hr,h⟩:=szNodeS_l ns hn hb k hk (a - ns.length) (by omega) (by omega)
  rw[hr,Zi]
  rcases h with h|⟨h2,h3,h4⟩
  ·rw[if_pos h];exact⟨_,rfl,.inl (by omega)⟩
  ·rw[if_neg (by omega)]
   unfold Zbx.f
   rw[ZaJ (by omega) (by omega)]
   by_cases h5:r - (ts.length:Int)<0
   ·rw[if_pos h5,Zi,if_pos (by omega)];exact⟨_,rfl,.inl (by omega)⟩
   ·rw[if_neg h5,Zi,if_neg h5];exact⟨_,rfl,.inr ⟨by omega,by omega,by omega,by omega,h4⟩⟩
theorem toNodeS_f (l:List LNode) (hl:l.length≤1048576) (hb:∀n∈l,n.f0.size≤1048576∧n.f1.length≤1048576) (k:Nat) (hk:2 ^ 65≤k):Zao.f k l=some (l.map cvN):=by
 have key:=ZaC l.length (fun k i=>Zao.l0 k l ((l.map cvN).take i ++ List.replicate ((l.map cvN).length - i) z116) (i:Int)=some (l.map cvN)) (2 ^ 64)
  (fun k _=>by simp[Zao.l0];rw[List.take_of_length_le (by simp)])
  (fun k i hk hi ih=>by
   simp only[Zao.l0]
   have hm:=hb _ (Zbr hi z127)
   rw[if_pos (by omega),if_pos (by omega),rdLN_nat,toNode_f _ _ _ (by omega) k hk,Zi,if_pos (by simp;omega),Z6 hi (by omega),Int.toNat_natCast,ZdG (l.map cvN) _ z116 i (by simpa using hi) _ (by rw[getD_map cvN l i z127 z116 zN];rfl)]
   exact ih) 0 k (Nat.zero_le _) (by omega)
 unfold Zao.f
 rw[if_pos (by omega),if_pos (by omega),Int.toNat_natCast]
 simpa using key
theorem toTieS_f (l:List LTie) (hl:l.length≤1048576) (k:Nat) (hk:2 ^ 64≤k):Zat.f k l=some (l.map cvT):=by
 have key:=ZaC l.length (fun k i=>Zat.l0 k l ((l.map cvT).take i ++ List.replicate ((l.map cvT).length - i) z90) (i:Int)=some (l.map cvT)) 0
  (fun k _=>by simp[Zat.l0];rw[List.take_of_length_le (by simp)])
  (fun k i hk hi ih=>by
   simp only[Zat.l0,Zcg.f]
   rw[if_pos (by omega),if_pos (by omega),rdLT_nat,Zi,if_pos (by simp;omega),Z6 hi (by omega),Int.toNat_natCast,ZdG (l.map cvT) _ z90 i (by simpa using hi) _ (by rw[getD_map cvT l i z130 z90 zT];rfl)]
   exact ih) 0 k (Nat.zero_le _) (by omega)
 unfold Zat.f
 rw[if_pos (by omega),if_pos (by omega),Int.toNat_natCast]
 simpa using key
theorem toShow_f (ns:List LNode) (ts:List LTie) (z:Int) (h:ZcS ns ts) (k:Nat) (hk:2 ^ 65≤k):ZaQ.f k ns ts z=some (ns.map cvN,ts.map cvT,z):=by
 unfold ZaQ.f
 rw[toNodeS_f ns h.1 h.2.2 k hk,Zi,toTieS_f ts h.2.1 k (by omega)];rfl
theorem idx_at {α:Type} (p:α→Bool) (l:List α) (i:Nat) (x:α) (h:l[i]? = some x) (hx:p x=true):decide (Za8 p l=(i:Int))=(l.take i).all (fun y=>!p y):=by
 have hi:i<l.length:=by
  rcases Nat.lt_or_ge i l.length with h'|h'
  ·exact h'
  ·rw[List.getElem?_eq_none h'] at h;exact absurd h (by simp)
 by_cases ha:(l.take i).all (fun y=>!p y)=true
 ·rw[ha,decide_eq_true_eq]
  refine ZbI p l i x h hx fun j y hj hy=>?_
  have:=List.all_eq_true.1 ha y (List.mem_of_getElem? (i:=j) (by rw[List.getElem?_take_of_lt hj];exact hy))
  simpa using this
 ·rw[Bool.eq_false_iff.2 ha,decide_eq_false_iff_not]
  intro e
  apply ha
  rw[List.all_eq_true]
  intro y hy
  obtain⟨j,hj,rfl⟩:=List.mem_iff_getElem.1 hy
  have hj':j<i:=by rw[Zj] at hj;omega
  unfold Za8 at e
  cases hf:l.findIdx? p with
  | none=>rw[hf] at e;simp only at e;omega
  | some m=>
   rw[hf] at e
   have:m=i:=by simp only at e;omega
   subst this
   obtain⟨_,_,h3⟩:=List.findIdx?_eq_some_iff_getElem.1 hf
   have:=h3 j hj'
   rw[List.getElem_take]
   simpa using this
theorem all_pair {α:Type} (a b:α→Bool) (c:Bool) (l:List α):l.all (fun m=>a m && (c || b m))=(l.all a && (c || l.all b)):=by
 induction l with
 | nil=>simp
 | cons x l ih=>rw[List.all_cons,List.all_cons,List.all_cons,ih];cases a x <;> cases b x <;> cases c <;> simp
theorem Zdu (a b:Int):(!(a != b))=decide (a=b):=by rw[Bool.eq_iff_iff];simp
theorem snodeC_at {ns:List ZZ} {i:Nat} (h:i<ns.length):ZbR ns (Zz ns (i:Int)) i=Zcb ns i:=by
 rw[Zbz]
 unfold ZbR Zcb
 have hs:=getD_some h z116
 generalize ns.getD i z116=y at hs
 rw[Zdu,Zdu,Zdu,ZcH,ZbB,idx_at _ ns i y hs (Ze rfl),idx_at _ ns i y hs (Ze rfl),Bool.and_assoc,← all_pair]
 rfl
theorem Zdx {ns:List ZZ}:∀(d i:Nat),i+d=ns.length→ZaW ns i d=Zbn ns i d
 | 0,_,_=>rfl
 | d+1,i,h=>by rw[ZaW,Zbn,snodeC_at (by omega),Zdx d (i+1) (by omega)]
theorem watch_same (ns:List ZZ) {p:Int} (hp:0<p):Zb9 ns p=ZbB ns p:=by
 unfold Zb9 ZbB
 rw[Ze hp]
 simp only[Bool.true_and]
theorem Zdi (ns:List ZZ) (lb:List Int) {x:Int} (hx:Zbc x=true):ZbJ ns lb x=Zb7 ns lb x:=by
 unfold ZbJ ZdE Zb7 Zcz hasB
 rw[watch_same ns (by have:=prp_pos hx;omega)]
 congr 3
 rw[Bool.eq_iff_iff];simp
theorem ZdQ {ns:List ZZ} {n:ZZ} (h:∀x∈n.f1,Zbc x=true):Zb4 ns n=ZbF ns n:=by
 unfold Zb4 ZbF
 rw[Bool.eq_iff_iff,Bool.not_eq_true',List.any_eq_false,List.all_eq_true]
 constructor
 ·intro hh x hx
  have:=hh x hx
  rw[← Zdi ns _ (h x hx)];simpa using this
 ·intro hh x hx
  have:=hh x hx
  rw[← Zdi ns _ (h x hx)] at this;simpa using this
theorem nodes_same (ns:List ZZ):Zbg ns=(ZaZ ns && ns.all (Zb4 ns)):=by
 have e:Zbg ns=(ZaZ ns && ns.all (ZbF ns)):=by
  unfold Zbg ZaZ inB
  rw[Zdx ns.length 0 (by omega),Zdu,show Zz ns 0=ns.getD 0 z116 from Zbz ns 0]
  rw[show(decide ((1:Int)≤(ns.length:Int)) && decide ((ns.length:Int)≤7))=(decide (1≤ns.length) && decide (ns.length≤7)) by rw[Bool.eq_iff_iff];simp only[Bool.and_eq_true,decide_eq_true_eq];omega]
  rw[show(!(decide (((ns.getD 0 z116).f1.length:Int) > 0)))=decide ((ns.getD 0 z116).f1.length=0) by rw[Bool.eq_iff_iff];simp only[Bool.not_eq_true',decide_eq_true_eq,decide_eq_false_iff_not];omega]
 rw[e]
 cases h:ZaZ ns with
 | false=>rfl
 | true=>
  rw[Bool.true_and,Bool.true_and,Bool.eq_iff_iff,List.all_eq_true,List.all_eq_true]
  constructor
  ·intro hh n hn;rw[ZdQ (Zcy h n hn)];exact hh n hn
  ·intro hh n hn;rw[← ZdQ (Zcy h n hn)];exact hh n hn
def Zcq (ns:List ZZ) (ts:List PTie) (i:Nat):Nat→Bool
 | 0=>true
 | d+1=>tieB ns ts i && Zcq ns ts (i+1) d
theorem in_same (n:Nat) (x:Int):inB x 0 ((n:Int) - 1)=ZbY n x:=by
 unfold inB ZbY
 rw[Bool.eq_iff_iff];simp;omega
theorem tie_same {ns:List ZZ} {ts:List PTie} {i:Nat} (h:i<ts.length):tieB ns ts i=Zcm ns ts i:=by
 unfold tieB Zcm
 have hs:=getD_some h z90
 rw[Zc1]
 generalize ts.getD i z90=t at hs
 obtain⟨tf,tt,tl,th,tb⟩:=t
 show tieC tf tt tl th tb ns ts i=Zbj tf tt tl th tb ns ts i
 unfold tieC Zbj spanB
 rw[in_same,in_same]
 cases tb with
 | false=>
  rw[Bool.eq_iff_iff]
  simp only[Bool.not_false,Bool.true_or,Bool.and_true,Bool.and_eq_true,Bool.not_eq_true',beq_eq_false_iff_ne,decide_eq_true_eq,decide_eq_false_iff_not]
  constructor
  ·rintro⟨⟨⟨⟨⟨a1,a2⟩,a3⟩,a4⟩,a5⟩,a6⟩
   exact⟨⟨⟨⟨⟨a1,a2⟩,a3⟩,by omega,by omega⟩,by omega,by omega⟩,a6⟩
  ·rintro⟨⟨⟨⟨⟨a1,a2⟩,a3⟩,a4,a5⟩,a6,a7⟩,a8⟩
   exact⟨⟨⟨⟨⟨a1,a2⟩,a3⟩,by omega⟩,by omega⟩,a8⟩
 | true=>
  have hf:(Zbw ts tt == (i:Int))=!((ts.take i).any fun u=>u.f4 && decide (u.f1=tt)):=by
   rw[show(Zbw ts tt == (i:Int))=decide (Zbw ts tt=(i:Int)) by rw[Bool.eq_iff_iff];simp,Zbw,idx_at _ ts i _ hs (by simp),Bool.eq_iff_iff]
   simp
   exact forall_congr' fun x=>forall_congr' fun _=>by cases x.f4 <;> simp
  rw[hf]
  rw[Bool.eq_iff_iff]
  simp only[Bool.not_true,Bool.false_or,Bool.and_eq_true,Bool.not_eq_true',beq_eq_false_iff_ne,decide_eq_true_eq,decide_eq_false_iff_not,beq_iff_eq,bne_eq_false_iff_eq]
  constructor
  ·rintro⟨⟨⟨⟨⟨⟨a1,a2⟩,a3⟩,a4⟩,a5⟩,a6⟩,⟨⟨⟨⟨b1,b2⟩,b3⟩,b4⟩,b5⟩⟩
   exact⟨⟨⟨⟨⟨⟨a1,a2⟩,a3⟩,by omega,by omega⟩,by omega,by omega⟩,a6⟩,⟨⟨⟨⟨by omega,b2⟩,b3⟩,b4.symm⟩,b5⟩⟩
  ·rintro⟨⟨⟨⟨⟨⟨a1,a2⟩,a3⟩,a4,a5⟩,a6,a7⟩,a8⟩,⟨⟨⟨⟨b1,b2⟩,b3⟩,b4⟩,b5⟩⟩
   exact⟨⟨⟨⟨⟨⟨a1,a2⟩,a3⟩,by omega⟩,by omega⟩,a8⟩,⟨⟨⟨⟨by omega,b2⟩,b3⟩,b4.symm⟩,b5⟩⟩
theorem ties_from {ns:List ZZ} {ts:List PTie}:∀(d i:Nat),i+d=ts.length→Zcq ns ts i d=Zbq ns ts i d
 | 0,_,_=>rfl
 | d+1,i,h=>by rw[Zcq,Zbq,tie_same (by omega),ties_from d (i+1) (by omega)]
theorem Zeq (ns:List ZZ) (ts:List PTie) (z:Int) (ht:ts.length≤14):∀(d i k:Nat),i+d=ts.length→d<k→Z2.l0 k ts.length (i:Int) ns ts z=some (Zcq ns ts i d):=by
 intro d
 induction d with
 | zero=>
  intro i k hi hk
  obtain⟨m,rfl⟩:∃m,k=m+1:=⟨k - 1,by omega⟩
  simp only[Z2.l0]
  rw[if_neg (by omega)];rfl
 | succ d ih=>
  intro i k hi hk
  obtain⟨m,rfl⟩:∃m,k=m+1:=⟨k - 1,by omega⟩
  simp only[Z2.l0]
  rw[if_pos (by omega),ZbK.f,if_pos (by omega),Zi,Zcq,Z6 (n:=ts.length) (by omega) (by omega),ih (i+1) m (by omega) (by omega)]
  cases tieB ns ts i <;> rfl
theorem Zer (ns:List ZZ) (ts:List PTie) (z:Int) (hf:fitN ns=true) (k:Nat) (hk:2 ^ 64≤k):Z2.f k ns ts z=some (Za2 ns ts z):=by
 obtain⟨m,rfl⟩:∃m,k=m+1:=⟨k - 1,by omega⟩
 unfold Z2.f Za4.f Za2 ZaR
 rw[if_pos hf,Zi,nodes_same]
 simp only[Z2.j0,l01In_f,Zi,if_true]
 cases h1:ZaZ ns with
 | false=>rfl
 | true=>
  cases h2:ns.all (Zb4 ns) with
  | false=>simp
  | true=>
   rw[Bool.and_true,if_pos rfl]
   by_cases h3:(ts.length:Int) > 14
   ·rw[if_pos h3,Zf (show ¬ts.length≤14 by omega)];simp
   ·rw[if_neg h3,Ze (show ts.length≤14 by omega)]
    have hl:=Zeq ns ts z (by omega) ts.length 0 m (by omega) (by omega)
    rw[show((0:Nat):Int)=0 from rfl] at hl
    rw[hl,ties_from _ _ (by omega)]
    by_cases h4:z<1
    ·rw[show inB z 1 10=false by unfold inB;rw[Zf (show ¬(1:Int)≤z by omega)];rfl,Ze h4];simp
    ·by_cases h5:10<z
     ·rw[show inB z 1 10=false by unfold inB;rw[Zf (show ¬z≤(10:Int) by omega)];simp,Ze h5];simp
     ·rw[show inB z 1 10=true by unfold inB;rw[Ze (show(1:Int)≤z by omega),Ze (show z≤(10:Int) by omega)];rfl,Zf h4,Zf h5];simp
theorem fitN_of {ns:List ZZ} {ts:List PTie} (h:Zc2 ns ts):fitN ns=true:=by
 unfold fitN
 rw[List.all_eq_true]
 intro n hn
 have:=h.2.2 n hn
 simp;omega
theorem Zde {ns:List ZZ} {ts:List PTie} {z:Int} (hf:fitN ns=true):Zbb.f ns ts z=some (Za2 ns ts z):=by
 unfold Zbb.f
 rw[if_pos hf]
theorem pshowB_nodes {ns:List ZZ} {ts:List PTie} {z:Int} (h:Za2 ns ts z=true):ZaZ ns=true:=by
 unfold Za2 at h
 simp only[Bool.and_eq_true] at h
 exact h.1.1.1.1
theorem ZcU {ns:List ZZ} {ts:List PTie} {z:Int} (h:Za2 ns ts z=true):ZaR ns ts=true:=by
 unfold Za2 at h
 simp only[Bool.and_eq_true] at h
 exact h.1.1.1.2
theorem nodes_watch {ns:List ZZ} (h:ZaZ ns=true):∀n∈ns,0≤n.f2∧n.f2≤3:=by
 intro n hn
 obtain⟨j,hj,rfl⟩:=List.mem_iff_getElem.1 hn
 have:=Zdr h j hj
 unfold Zcb Zcf at this
 rw[show ns.getD j z116=ns[j] by rw[List.getD_eq_getElem?_getD,Zl hj];rfl] at this
 simp only[Bool.and_eq_true,decide_eq_true_eq] at this
 exact this.1.2
theorem pwatch_out {ns:List ZZ} (h:ZaZ ns=true) {p:Int} (hp:¬(1≤p∧p≤3)):Zb9 ns p=-1:=by
 unfold Zb9
 refine Zbu _ _ fun j y _ hy=>?_
 have:=nodes_watch h y (List.mem_of_getElem? hy)
 rw[Bool.eq_false_iff]
 intro hh
 simp only[Bool.and_eq_true,decide_eq_true_eq] at hh
 omega
theorem pig:∀(n:Nat) (l:List Int),l.Nodup→(∀x∈l,0≤x∧x<n)→l.length≤n
 | 0,l,_,h=>by
  cases l with
  | nil=>exact Nat.le_refl _
  | cons x l=>have:=h x (by simp);omega
 | n+1,l,hn,h=>by
  have h1:=pig n (l.erase (n:Int)) (hn.sublist (List.erase_sublist ..)) (fun x hx=>by
   have:=(hn.mem_erase_iff).1 hx
   have h2:=h x this.2
   omega)
  rw[List.length_erase] at h1
  split at h1 <;> omega
theorem idxOf_in {α:Type} (p:α→Bool) (l:List α) (d:α) (h:0≤Za8 p l):Za8 p l<l.length∧p (l.getD (Za8 p l).toNat d)=true:=by
 unfold Za8 at h ⊢
 cases hf:l.findIdx? p with
 | none=>rw[hf] at h;simp only at h;omega
 | some m=>
  obtain⟨h1,h2,_⟩:=List.findIdx?_eq_some_iff_getElem.1 hf
  simp only[Int.toNat_natCast]
  refine⟨by omega,?_⟩
  rw[List.getD_eq_getElem?_getD,Zl h1];exact h2
theorem pfree_in {ts:List PTie} {n:Int} (h:0≤ZbC ts n):ZbC ts n<ts.length∧(Zv ts (ZbC ts n)).f4=true∧(Zv ts (ZbC ts n)).f1=n:=by
 have:=idxOf_in (fun t:PTie=>t.f4 && decide (t.f1=n)) ts z90 h
 refine⟨this.1,?_⟩
 have h2:=this.2
 simp only[Bool.and_eq_true,decide_eq_true_eq] at h2
 exact h2
theorem Zdw {ns:List ZZ} {ts:List PTie}:∀(d i:Nat),Zbq ns ts i d=true→∀j,i≤j→j<i+d→Zcm ns ts j=true
 | 0,i,_,j,h1,h2=>by omega
 | d+1,i,h,j,h1,h2=>by
  rw[Zbq,Bool.and_eq_true] at h
  by_cases e:j=i
  ·rw[e];exact h.1
  ·exact Zdw d (i+1) h.2 j (by omega) (by omega)
theorem ZcW {ns:List ZZ} {ts:List PTie} (h:ZaR ns ts=true):∀j,j<ts.length→Zcm ns ts j=true:=by
 unfold ZaR at h
 rw[Bool.and_eq_true] at h
 exact fun j hj=>Zdw _ _ h.1 j (Nat.zero_le _) (by omega)
theorem free_to {ns:List ZZ} {ts:List PTie} (h:ZaR ns ts=true) {j:Int} (h0:0≤j) (h1:j<ts.length) (hf:(Zv ts j).f4=true):1≤(Zv ts j).f1∧(Zv ts j).f1<ns.length:=by
 obtain⟨m,rfl⟩:=Int.eq_ofNat_of_zero_le h0
 have:=ZcW h m (by omega)
 unfold Zcm Zbj at this
 rw[hf] at this
 simp only[ZbY,Bool.and_eq_true,Bool.not_true,Bool.false_or,decide_eq_true_eq,Bool.not_eq_true',beq_eq_false_iff_ne] at this
 obtain⟨⟨⟨⟨⟨⟨_,a⟩,_⟩,_⟩,_⟩,_⟩,⟨⟨⟨⟨_,b⟩,_⟩,_⟩,_⟩⟩:=this
 omega
structure Chn (ts:List PTie) (node:Int) (c:List Int):Prop where
 nodup:c.Nodup
 ok:∀j∈c,0≤j∧j<ts.length∧(Zv ts j).f4=true∧ZbC ts (Zv ts j).f1=j
 cl:∀j∈c,(Zv ts j).f0=node∨∃i∈c,(Zv ts j).f0=(Zv ts i).f1
theorem Chn.len {ns:List ZZ} {ts:List PTie} {node:Int} {c:List Int} (ht:ZaR ns ts=true) (h1:1≤ns.length) (h:Chn ts node c):c.length+1≤ns.length:=by
 have:=pig ns.length (0 :: c.map fun j=>(Zv ts j).f1) (by
  rw[List.nodup_cons]
  refine⟨fun hm=>?_,?_⟩
  ·obtain⟨j,hj,e⟩:=List.mem_map.1 hm
   have h2:=h.ok j hj
   have:=free_to ht h2.1 h2.2.1 h2.2.2.1
   omega
  ·unfold List.Nodup
   rw[List.pairwise_map]
   refine h.nodup.imp_of_mem ?_
   intro a b ha hb hab e
   apply hab
   rw[← (h.ok a ha).2.2.2,← (h.ok b hb).2.2.2,e]) (by
  intro x hx
  rcases List.mem_cons.1 hx with rfl|hx
  ·omega
  ·obtain⟨j,hj,rfl⟩:=List.mem_map.1 hx
   have h2:=h.ok j hj
   have:=free_to ht h2.1 h2.2.1 h2.2.2.1
   omega)
 simpa using this
def sLo (ts:List PTie) (c:List Int):Int:=c.foldl (fun a j=>wrap64 (a+(Zv ts j).f2)) 0
def sHi (ts:List PTie) (c:List Int):Int:=c.foldl (fun a j=>wrap64 (a+(Zv ts j).f3)) 0
theorem sLo_snoc (ts:List PTie) (c:List Int) (j:Int):sLo ts (c ++ [j])=wrap64 (sLo ts c+(Zv ts j).f2):=by unfold sLo;rw[List.foldl_append];rfl
theorem sHi_snoc (ts:List PTie) (c:List Int) (j:Int):sHi ts (c ++ [j])=wrap64 (sHi ts c+(Zv ts j).f3):=by unfold sHi;rw[List.foldl_append];rfl
theorem base_out {ns:List ZZ} {ts:List PTie} {z:Int} (hn:ns.length≤1048576) (hl:ts.length≤9223372036854775807) {c:List Int} (hok:∀j∈c,0≤j∧j<ts.length∧(Zv ts j).f4=true∧ZbC ts (Zv ts j).f1=j)
  (hcl:∀j∈c,∃i∈c,(Zv ts j).f0=(Zv ts i).f1):∀(e n:Nat) (lo hi:Int) (k:Nat),(∀j∈c,n+e=ns.length+1→2 ^ 64+e<k→ZT.l0 k (Zv ts j).f1 lo hi (n:Int) ns ts z=some (-1,0,0,false)):=by
 intro e
 induction e with
 | zero=>
  intro n lo hi k j _ hne hk
  obtain⟨m,rfl⟩:∃m,k=m+1:=⟨k - 1,by omega⟩
  simp only[ZT.l0]
  rw[if_neg (by omega)]
 | succ e ih=>
  intro n lo hi k j hj hne hk
  obtain⟨m,rfl⟩:∃m,k=m+1:=⟨k - 1,by omega⟩
  simp only[ZT.l0]
  obtain⟨h0,h1,_,h3⟩:=hok j hj
  obtain⟨i,hi',e1⟩:=hcl j hj
  rw[if_pos (by omega),Zct ns ts z _ hl m (by omega),Zi,show Zbw ts (Zv ts j).f1=j from h3,if_neg (by omega),if_pos h0,if_pos h1,e1,Z6 (n:=ns.length+1) (by omega) (by omega)]
  exact ih (n+1) _ _ m i hi' (by omega) (by omega)
theorem chain_run {ns:List ZZ} {ts:List PTie} {z:Int} (ht:ZaR ns ts=true) (h1:1≤ns.length) (hn:ns.length≤1048576) (hl:ts.length≤1048576):∀(d:Nat) (node:Int) (c:List Int) (k:Nat),Chn ts node c→ns.length≤c.length+d→2 ^ 65+d<k →
  ∃b c',ZR.l0 k node c ns ts z=some (b,c')∧(∀j∈c',0≤j∧j<ts.length)∧c'.length≤ns.length ∧
   (ZT.l0 k node (sLo ts c) (sHi ts c) c.length ns ts z=some (b,sLo ts c',sHi ts c',true)∨(b=-1∧c'=[]∧ZT.l0 k node (sLo ts c) (sHi ts c) c.length ns ts z=some (-1,0,0,false))):=by
 intro d
 induction d with
 | zero=>
  intro node c k hc hd _
  have:=hc.len ht h1
  omega
 | succ d ih=>
  intro node c k hc hd hk
  have hcl:=hc.len ht h1
  obtain⟨m,rfl⟩:∃m,k=m+1:=⟨k - 1,by omega⟩
  simp only[ZR.l0,ZT.l0]
  rw[if_pos (by omega),Zct ns ts z node (by omega) m (by omega)]
  unfold ZaX.f
  rw[Zi,Zi,show Zbw ts node=ZbC ts node from rfl]
  have hin:=@pfree_in ts node
  generalize hfk:ZbC ts node=fk at hin
  by_cases h0:fk<0
  ·rw[if_pos h0,if_pos h0]
   exact⟨node,c,rfl,fun j hj=>⟨(hc.ok j hj).1,(hc.ok j hj).2.1⟩,by omega,.inl rfl⟩
  ·obtain⟨h2,h3,h4⟩:=hin (by omega)
   rw[if_neg h0,if_neg h0]
   unfold ZK.f
   rw[Zi,if_pos (show 0≤fk by omega),if_pos h2]
   by_cases hm:fk∈c
   ·rw[if_pos (by rw[List.any_eq_true];exact⟨fk,hm,by simp⟩)]
    refine⟨-1,[],rfl,fun j hj=>by simp at hj,by simp,.inr ⟨rfl,rfl,?_⟩⟩
    have hcc:∀j∈c,∃i∈c,(Zv ts j).f0=(Zv ts i).f1:=fun j hj=>by
     rcases hc.cl j hj with e|e
     ·exact⟨fk,hm,by rw[e,h4]⟩
     ·exact e
    obtain⟨i,hi,e1⟩:=hcc fk hm
    rw[if_pos (show 0≤fk by omega),if_pos h2,e1,Z6 (n:=ns.length) (by omega) (by omega)]
    exact base_out hn (by omega) hc.ok hcc (ns.length - c.length) (c.length+1) _ _ m i hi (by omega) (by omega)
   ·rw[if_neg (by rw[List.any_eq_true];rintro⟨x,hx,e⟩;exact hm (by have:=Zd e;rw[this];exact hx)),if_pos (by omega),if_pos (show 0≤fk by omega),if_pos h2]
    have hc2:Chn ts (Zv ts fk).f0 (c ++ [fk]):=by
     refine⟨?_,?_,?_⟩
     ·rw[List.nodup_append]
      exact⟨hc.nodup,by simp,fun a ha b hb=>by rw[List.mem_singleton] at hb;subst hb;exact fun e=>hm (e ▸ ha)⟩
     ·intro j hj
      rcases List.mem_append.1 hj with hj|hj
      ·exact hc.ok j hj
      ·rw[List.mem_singleton] at hj
       subst hj
       exact⟨by omega,h2,h3,by rw[h4,hfk]⟩
     ·intro j hj
      rcases List.mem_append.1 hj with hj|hj
      ·rcases hc.cl j hj with e|⟨i,hi,e⟩
       ·exact .inr ⟨fk,by simp,by rw[e,h4]⟩
       ·exact .inr ⟨i,by simp[hi],e⟩
      ·rw[List.mem_singleton] at hj
       subst hj
       exact .inl rfl
    have:=ih (Zv ts fk).f0 (c ++ [fk]) m hc2 (by simp;omega) (by omega)
    rw[sLo_snoc,sHi_snoc,show((c ++ [fk]).length:Int)=wrap64 ((c.length:Int)+1) by rw[Z6 (n:=ns.length) (by omega) (by omega)];simp] at this
    exact this
end Go.Proofs.Ytodfnelilhjoeaa.Pr
namespace Go.Proofs.Ytodfnelilhjoeaa.Pr
open Go.RowKit Go.Proofs.YtodfnelilhjoeaaW.PrintWords Go.Proofs.YtodfnelilhjoeaaW.PrintLast Go.Proofs.YtodfnelilhjoeaaW.PrintMore
attribute [local go_sem] Zac Zaa Zam Zal Z5 Z4 Zab Z9
set_option linter.unusedVariables false
set_option linter.unusedSimpArgs false
def Zah.l0:Nat→List Int→List (S90)→Int→Int→Option (List Int)
 | 0,_,_,_,_=>none
 | k+1,x3,x7,x8,x9=>if x9<x8 then(if 0≤x9 then(if x9<(x7.length:Int) then(if (Zv x7 x9).f4=true then(if x3.length<17592186044416 then(Zah.l0 k (x3 ++ [x9]) x7 x8 (wrap64 (x9+1))) else(none)) else(Zah.l0 k x3 x7 x8 (wrap64 (x9+1)))) else(none)) else(none)) else(some x3)
def Zah.f (k:Nat) (l0_0:List (S116)) (l0_1:List (S90)) (a0_2:Int):Option (List Int):=Zah.l0 k ([]:List Int) l0_1 (l0_1.length:Int) 0
set_option maxHeartbeats 8000000 in
set_option maxRecDepth 100000 in
theorem Zah.calls (k:Nat) (A0_0:Option Addr) (c0_0:Nat) (l0_0:List (S116)) (A0_1:Option Addr) (c0_1:Nat) (l0_1:List (S90)) (a0_2:Int) (r:List Int) (w:World) (hr0_0:Kd.C k116 w A0_0 l0_0.length l0_0) (hc0_0:l0_0.length≤c0_0) (hr0_1:Kd.C k90 w A0_1 l0_1.length l0_1) (hc0_1:l0_1.length≤c0_1) (h:Zah.f k l0_0 l0_1 a0_2=some r) :
  Calls Try.prog 80 #[.agg #[.slice A0_0 l0_0.length c0_0,.slice A0_1 l0_1.length c0_1,.int .i64 a0_2]] w fun e w'=>∃v0_:Value,e=.returned (v0_)∧Kd.R (Kd.int .i64) 3 w' w.heap.size (fun _=>True) v0_ r∧Below w.heap.size w w':=by
 have hu35:=Try.underlying35
 have hu90:=Try.underlying90
 have HR0_0:=Za hr0_0;have HC0_0:=Za hc0_0;clear hr0_0 hc0_0;have HR0_1:=Za hr0_1;have HC0_1:=Za hc0_1;clear hr0_1 hc0_1
 have HB:=Za (Below.refl w.heap.size w)
 have H:(Zah.l0 k ([]:List Int) l0_1 (l0_1.length:Int) 0)=some r:=h
 clear h
 have H':=Za H
 clear H
 go_enter Try.func80,Try.ntmps80
 go_wp2_with (first|((with_reducible refine ZI (N:=1) rfl ?_);refine ZH ?hg (N:=1) ?hd (cs:=#[.slice A0_0 l0_0.length c0_0,.slice A0_1 l0_1.length c0_1,.int .i64 a0_2]) (t:=35) ?hr ?_;(case hd=>rfl);(case hg=>rfl);(case hr=>first|(go_simp;done)|(go_simp;rfl));intro gb80001 hg w2 hbox hb;have BK80001:=Za (hbox);have GW80001:=Za ((by rw[hg];exact(Zx (by exact HB.out)):w.heap.size≤gb80001));have GE80001:=Za ((by rw[hg];exact(Zx (by exact HB.out)):w.heap.size≤gb80001));replace HB:=Za (Zw (by exact HB.out) hb);clear hb hbox hg;have hcz3_0:w2.cell? ⟨gb80001,0,none⟩=some (.slice A0_0 l0_0.length c0_0):=(Zs BK80001.out 0).trans rfl;have hcz3_1:w2.cell? ⟨gb80001,1,none⟩=some (.slice A0_1 l0_1.length c0_1):=(Zs BK80001.out 1).trans rfl;have hcz3_2:w2.cell? ⟨gb80001,2,none⟩=some (.int .i64 a0_2):=(Zs BK80001.out 2).trans rfl;have hfz3_0:=Zr BK80001.out 0;have hfz3_1:=Zr BK80001.out 1;have hfz3_2:=Zr BK80001.out 2))
 go_loopg [3,9] k (fun kq v3 v9 w'=>∃(x3_1:List Int) (x9_1:Int),v9=.int .i64 x9_1∧Aside0 (Zah.l0 kq x3_1 l0_1 (l0_1.length:Int) x9_1=some r)∧Aside0 (kq≤k)∧Aside0 (Kd.R (Kd.int .i64) 3 w' w.heap.size (fun _=>True) v3 x3_1)∧Aside0 (w'.heap[gb80001]? = some (.cells #[(.slice A0_0 l0_0.length c0_0),(.slice A0_1 l0_1.length c0_1),.int .i64 a0_2] 35 (0,0)))∧Aside0 (Below w.heap.size w w'))
 case atStart=>exact⟨(([]:List Int)),(0),(by first|rfl|(simp;done)|(simp[*];done)),H',⟨Nat.le_refl _⟩,⟨by first|exact Kd.R_nil _ _ _ _ _|exact Kd.N_nil _ _ _ _ _|exact Kd.V_nil _ _ _ _ _|exact Kd.Q_nil _ _ _ _ _|exact Kd.S_nil _ _ _ _ _⟩,⟨by(with_reducible repeat(first|refine Zp ?_ _|refine Zu ?_|refine Zo ?_ _));exact BK80001.out⟩,⟨by repeat(first|(with_reducible first|exact HB.out|apply Zn|apply Zm|apply Zt|refine Zq ?_ GE80001.out)|exact HB.out)⟩⟩
 case round=>
  clear H'
  try clear p2
  obtain⟨x3_1,x9_1,rfl,HA,HK1,HO_3,BK80001,HB⟩:=hrel
  cases gk with
  | zero=>exact absurd HA.out (by simp[Zah.l0])
  | succ k1=>
   have H:=HA.out
   clear HA
   simp only[Zah.l0] at H
   by_cases c4:x9_1<(l0_1.length:Int)
   ·rw[if_pos c4] at H
    have c4b0:decide (x9_1<(l0_1.length:Int))=true:=Ze c4
    clear c4
    by_cases c5:0≤x9_1
    ·rw[if_pos c5] at H
     have c5b0:decide (0≤x9_1)=true:=Ze c5
     clear c5
     by_cases c6:x9_1<(l0_1.length:Int)
     ·rw[if_pos c6] at H
      have c6b0:decide (x9_1<(l0_1.length:Int))=true:=Ze c6
      clear c6
      obtain⟨bq7,hbq7⟩:∃b_:Bool,b_=((Zv l0_1 x9_1).f4):=⟨_,rfl⟩
      replace H:(if bq7=true then(if x3_1.length<17592186044416 then(Zah.l0 k1 (x3_1 ++ [x9_1]) l0_1 (l0_1.length:Int) (wrap64 (x9_1+1))) else(none)) else(Zah.l0 k1 x3_1 l0_1 (l0_1.length:Int) (wrap64 (x9_1+1))))=some r:=by rw[← hbq7] at H;exact H
      have Nbq7:=Za hbq7;clear hbq7
      by_cases c8:bq7=true
      ·subst c8
       have H1:(if x3_1.length<17592186044416 then(Zah.l0 k1 (x3_1 ++ [x9_1]) l0_1 (l0_1.length:Int) (wrap64 (x9_1+1))) else(none))=some r:=by rw[if_pos rfl] at H;exact H
       clear H
       have H:=H1
       clear H1
       by_cases c9:x3_1.length<17592186044416
       ·rw[if_pos c9] at H
        have LMc9:=Za c9;clear c9
        obtain⟨y80004,hy80004⟩:∃y_:List Int,y_=(x3_1 ++ [x9_1]):=⟨_,rfl⟩
        replace H:(Zah.l0 k1 y80004 l0_1 (l0_1.length:Int) (wrap64 (x9_1+1)))=some r:=by first|(rw[hy80004];with_reducible exact H)|(have H2_:=(Zi _ _).symm.trans H;rw[hy80004];with_reducible exact H2_)|(have H2_:=(Zi _ _).symm.trans H;with_reducible exact H2_)|with_reducible exact H|(rw[hy80004];exact H)|exact H
        have Ny80004:=Za hy80004;clear hy80004
        have H':=Za H
        clear H
        have p80002:0≤(x9_1:Int):=Zd (by with_reducible assumption)
        have q80002:x9_1<(l0_1.length:Int):=Zd (by with_reducible assumption)
        obtain⟨ad80002,e80002,hx80002_0,hx80002_1,hx80002_2,hx80002_3,hx80002_4⟩:=ZaH HR0_1.out x9_1 p80002 q80002
        (try rw[← Nbq7.out] at hx80002_4)
        cases e80002
        replace hx80002_0:=(HB.out.cell (Zc w _ hx80002_0)).trans hx80002_0
        replace hx80002_1:=(HB.out.cell (Zc w _ hx80002_1)).trans hx80002_1
        replace hx80002_2:=(HB.out.cell (Zc w _ hx80002_2)).trans hx80002_2
        replace hx80002_3:=(HB.out.cell (Zc w _ hx80002_3)).trans hx80002_3
        replace hx80002_4:=(HB.out.cell (Zc w _ hx80002_4)).trans hx80002_4
        replace p80002:=eq_true p80002
        replace q80002:=eq_true q80002
        go_wp2_with (first|((with_reducible refine ZI (N:=5) rfl ?_);refine ZH ?hg (N:=5) ?hd (cs:=#[.int .i64 0,.int .i64 0,.int .i64 0,.int .i64 0,.bool false]) (t:=90) ?hr ?_;(case hd=>rfl);(case hg=>rfl);(case hr=>first|(go_simp;done)|(go_simp;rfl));intro gb80003 hg w10 hbox hb;have n0_:=Za (Kd.R_below (by exact HO_3.out) hb);have n1_:=Za (Zy (g:=gb80001) (o:=.cells #[.slice A0_0 l0_0.length c0_0,.slice (some ad80002) l0_1.length c0_1,.int .i64 a0_2] 35 (0,0)) BK80001.out hb);have n2_:=Za (Zw (by exact HB.out) hb);have n3_:=Za (hbox);have n4_:=Za ((by rw[hg];exact(Zx (by exact HB.out)):w.heap.size≤gb80003));have n5_:=n4_;have n6_:=Za ((by rw[hg];exact Nat.ne_of_lt (ZO (g:=gb80001) (o:=.cells #[.slice A0_0 l0_0.length c0_0,.slice (some ad80002) l0_1.length c0_1,.int .i64 a0_2] 35 (0,0)) BK80001.out):gb80001≠gb80003));have n7_:=Za n6_.out.symm;clear HO_3;clear BK80001;clear HB;have HO_3:=n0_;have BK80001:=n1_;have HB:=n2_;have BK80003:=n3_;have GW80003:=n4_;have GE80003:=n5_;have NB80001_80003:=n6_;have NB80003_80001:=n7_;clear n0_ n1_ n2_ n3_ n4_ n5_ n6_ n7_;clear hb hbox hg;have hnb11:=NB80003_80001.out;have hnc11:=NB80001_80003.out;have hcz12_0:w10.cell? ⟨gb80003,0,none⟩=some (.int .i64 0):=(Zs BK80003.out 0).trans rfl;have hcz12_1:w10.cell? ⟨gb80003,1,none⟩=some (.int .i64 0):=(Zs BK80003.out 1).trans rfl;have hcz12_2:w10.cell? ⟨gb80003,2,none⟩=some (.int .i64 0):=(Zs BK80003.out 2).trans rfl;have hcz12_3:w10.cell? ⟨gb80003,3,none⟩=some (.int .i64 0):=(Zs BK80003.out 3).trans rfl;have hcz12_4:w10.cell? ⟨gb80003,4,none⟩=some (.bool false):=(Zs BK80003.out 4).trans rfl;have hfz12_0:=Zr BK80003.out 0;have hfz12_1:=Zr BK80003.out 1;have hfz12_2:=Zr BK80003.out 2;have hfz12_3:=Zr BK80003.out 3;have hfz12_4:=Zr BK80003.out 4)|((with_reducible refine Zbf (b:=.append) (xs:=#[.tmp 16,.tmp 18]) rfl ?_);at_builtin;refine Kd.R_append (Kd.int .i64) (w0:=w) w.heap.size rfl (.tmp 16) (.tmp 18) 26 3 (.int .i64 0) 8 rfl Try.underlying26 info3 rfl (by decide) (by omega) u3 x3_1 x9_1 [.int .i64 x9_1] (fun _=>True) (fun _=>False) rfl (by first|(go_simp;done)|(go_simp;rfl)) ?aP (fun _ hk=>hk.elim) ?aF ?aO ?aB ?aS ?aL ?_;(case aP=>exact rfl);(case aB=>exact(by repeat(first|(with_reducible first|exact HB.out|apply Zn|apply Zm|apply Zt|refine Zq ?_ GE80001.out|refine Zq ?_ GE80003.out)|exact HB.out)));(case aF=>exact(fun _ _=>trivial));(case aO=>exact(by(with_reducible repeat(first|apply Kd.R_alloc|apply Kd.R_drewN|apply Kd.R_drew));exact Kd.R_mono (Kd.R_far (p:=⟨gb80003,4,none⟩) (Kd.R_far (p:=⟨gb80003,3,none⟩) (Kd.R_far (p:=⟨gb80003,2,none⟩) (Kd.R_far (p:=⟨gb80003,1,none⟩) (Kd.R_far (p:=⟨gb80003,0,none⟩) (Kd.R_types HO_3.out BK80003.out (by decide)) (fun _ hk=>hk.2) (.int .i64 ((Zv l0_1 x9_1).f0))) (fun _ hk=>hk.2) (.int .i64 ((Zv l0_1 x9_1).f1))) (fun _ hk=>hk.2) (.int .i64 ((Zv l0_1 x9_1).f2))) (fun _ hk=>hk.2) (.int .i64 ((Zv l0_1 x9_1).f3))) (fun _ hk=>hk.2) (.bool true)) (fun _ hk=>trivial)));(case aS=>exact(Zx (by repeat(first|(with_reducible first|exact HB.out|apply Zn|apply Zm|apply Zt|refine Zq ?_ GE80001.out|refine Zq ?_ GE80003.out)|exact HB.out))));(case aL=>have:=LMc9.out;omega);intro v80005 w13 ho hb hg hat;rw[← Ny80004.out] at ho;have HO80006:=Za (ho);replace BK80001:=Za (Zar (g:=gb80001) (o:=.cells #[.slice A0_0 l0_0.length c0_0,.slice (some ad80002) l0_1.length c0_1,.int .i64 a0_2] 35 (0,0)) (by(with_reducible repeat(first|refine Zp ?_ _|refine Zu ?_|refine Zo ?_ _));refine ZD ?_ NB80001_80003.out _;(with_reducible repeat(first|refine Zp ?_ _|refine Zu ?_|refine Zo ?_ _));refine ZD ?_ NB80001_80003.out _;(with_reducible repeat(first|refine Zp ?_ _|refine Zu ?_|refine Zo ?_ _));refine ZD ?_ NB80001_80003.out _;(with_reducible repeat(first|refine Zp ?_ _|refine Zu ?_|refine Zo ?_ _));refine ZD ?_ NB80001_80003.out _;(with_reducible repeat(first|refine Zp ?_ _|refine Zu ?_|refine Zo ?_ _));refine ZD ?_ NB80001_80003.out _;(with_reducible repeat(first|refine Zp ?_ _|refine Zu ?_|refine Zo ?_ _));exact BK80001.out) hg (Kd.R_ne HO_3.out BK80001.out (by decide)));replace BK80003:=Za (Zar (g:=gb80003) (o:=.cells #[.int .i64 ((Zv l0_1 x9_1).f0),.int .i64 ((Zv l0_1 x9_1).f1),.int .i64 ((Zv l0_1 x9_1).f2),.int .i64 ((Zv l0_1 x9_1).f3),.bool true] 90 (0,0)) (by(with_reducible repeat(first|refine Zp ?_ _|refine Zu ?_|refine Zo ?_ _));refine ZL (cs:=#[.int .i64 ((Zv l0_1 x9_1).f0),.int .i64 ((Zv l0_1 x9_1).f1),.int .i64 ((Zv l0_1 x9_1).f2),.int .i64 ((Zv l0_1 x9_1).f3),.bool false]) ?_ 4 _ rfl;(with_reducible repeat(first|refine Zp ?_ _|refine Zu ?_|refine Zo ?_ _));refine ZL (cs:=#[.int .i64 ((Zv l0_1 x9_1).f0),.int .i64 ((Zv l0_1 x9_1).f1),.int .i64 ((Zv l0_1 x9_1).f2),.int .i64 0,.bool false]) ?_ 3 _ rfl;(with_reducible repeat(first|refine Zp ?_ _|refine Zu ?_|refine Zo ?_ _));refine ZL (cs:=#[.int .i64 ((Zv l0_1 x9_1).f0),.int .i64 ((Zv l0_1 x9_1).f1),.int .i64 0,.int .i64 0,.bool false]) ?_ 2 _ rfl;(with_reducible repeat(first|refine Zp ?_ _|refine Zu ?_|refine Zo ?_ _));refine ZL (cs:=#[.int .i64 ((Zv l0_1 x9_1).f0),.int .i64 0,.int .i64 0,.int .i64 0,.bool false]) ?_ 1 _ rfl;(with_reducible repeat(first|refine Zp ?_ _|refine Zu ?_|refine Zo ?_ _));refine ZL (cs:=#[.int .i64 0,.int .i64 0,.int .i64 0,.int .i64 0,.bool false]) ?_ 0 _ rfl;(with_reducible repeat(first|refine Zp ?_ _|refine Zu ?_|refine Zo ?_ _));exact BK80003.out) hg (Kd.R_ne HO_3.out BK80003.out (by decide)));replace HB:=Za (hb);clear HO_3;clear ho hb hg hat))
        go_roundg k1
        case measure=>have:=HK1.out;omega
        case rel=>exact⟨(y80004),(wrap64 (x9_1+1)),(by first|rfl|(simp;done)|(simp[*];done)),H',⟨by have:=HK1.out;omega⟩,⟨by(with_reducible repeat(first|apply Kd.R_alloc|apply Kd.R_drewN|apply Kd.R_drew));exact HO80006.out⟩,⟨by(with_reducible repeat(first|refine Zp ?_ _|refine Zu ?_|refine Zo ?_ _));exact BK80001.out⟩,⟨by repeat(first|(with_reducible first|exact HB.out|apply Zn|apply Zm|apply Zt|refine Zq ?_ GE80001.out|refine Zq ?_ GE80003.out)|exact HB.out)⟩⟩
       ·rw[if_neg c9] at H
        exact absurd H (by simp)
      ·replace c8:=Bool.eq_false_iff.mpr c8
       subst c8
       have H1:(Zah.l0 k1 x3_1 l0_1 (l0_1.length:Int) (wrap64 (x9_1+1)))=some r:=by rw[if_neg (show ¬(false=true) by decide)] at H;exact H
       clear H
       have H:=H1
       clear H1
       have H':=Za H
       clear H
       have p80002:0≤(x9_1:Int):=Zd (by with_reducible assumption)
       have q80002:x9_1<(l0_1.length:Int):=Zd (by with_reducible assumption)
       obtain⟨ad80002,e80002,hx80002_0,hx80002_1,hx80002_2,hx80002_3,hx80002_4⟩:=ZaH HR0_1.out x9_1 p80002 q80002
       (try rw[← Nbq7.out] at hx80002_4)
       cases e80002
       replace hx80002_0:=(HB.out.cell (Zc w _ hx80002_0)).trans hx80002_0
       replace hx80002_1:=(HB.out.cell (Zc w _ hx80002_1)).trans hx80002_1
       replace hx80002_2:=(HB.out.cell (Zc w _ hx80002_2)).trans hx80002_2
       replace hx80002_3:=(HB.out.cell (Zc w _ hx80002_3)).trans hx80002_3
       replace hx80002_4:=(HB.out.cell (Zc w _ hx80002_4)).trans hx80002_4
       replace p80002:=eq_true p80002
       replace q80002:=eq_true q80002
       go_wp2_with (first|((with_reducible refine ZI (N:=5) rfl ?_);refine ZH ?hg (N:=5) ?hd (cs:=#[.int .i64 0,.int .i64 0,.int .i64 0,.int .i64 0,.bool false]) (t:=90) ?hr ?_;(case hd=>rfl);(case hg=>rfl);(case hr=>first|(go_simp;done)|(go_simp;rfl));intro gb80003 hg w14 hbox hb;have n0_:=Za (Kd.R_below (by exact HO_3.out) hb);have n1_:=Za (Zy (g:=gb80001) (o:=.cells #[.slice A0_0 l0_0.length c0_0,.slice (some ad80002) l0_1.length c0_1,.int .i64 a0_2] 35 (0,0)) BK80001.out hb);have n2_:=Za (Zw (by exact HB.out) hb);have n3_:=Za (hbox);have n4_:=Za ((by rw[hg];exact(Zx (by exact HB.out)):w.heap.size≤gb80003));have n5_:=n4_;have n6_:=Za ((by rw[hg];exact Nat.ne_of_lt (ZO (g:=gb80001) (o:=.cells #[.slice A0_0 l0_0.length c0_0,.slice (some ad80002) l0_1.length c0_1,.int .i64 a0_2] 35 (0,0)) BK80001.out):gb80001≠gb80003));have n7_:=Za n6_.out.symm;clear HO_3;clear BK80001;clear HB;have HO_3:=n0_;have BK80001:=n1_;have HB:=n2_;have BK80003:=n3_;have GW80003:=n4_;have GE80003:=n5_;have NB80001_80003:=n6_;have NB80003_80001:=n7_;clear n0_ n1_ n2_ n3_ n4_ n5_ n6_ n7_;clear hb hbox hg;have hnb15:=NB80003_80001.out;have hnc15:=NB80001_80003.out;have hcz16_0:w14.cell? ⟨gb80003,0,none⟩=some (.int .i64 0):=(Zs BK80003.out 0).trans rfl;have hcz16_1:w14.cell? ⟨gb80003,1,none⟩=some (.int .i64 0):=(Zs BK80003.out 1).trans rfl;have hcz16_2:w14.cell? ⟨gb80003,2,none⟩=some (.int .i64 0):=(Zs BK80003.out 2).trans rfl;have hcz16_3:w14.cell? ⟨gb80003,3,none⟩=some (.int .i64 0):=(Zs BK80003.out 3).trans rfl;have hcz16_4:w14.cell? ⟨gb80003,4,none⟩=some (.bool false):=(Zs BK80003.out 4).trans rfl;have hfz16_0:=Zr BK80003.out 0;have hfz16_1:=Zr BK80003.out 1;have hfz16_2:=Zr BK80003.out 2;have hfz16_3:=Zr BK80003.out 3;have hfz16_4:=Zr BK80003.out 4))
       go_roundg k1
       case measure=>have:=HK1.out;omega
       case rel=>exact⟨(x3_1),(wrap64 (x9_1+1)),(by first|rfl|(simp;done)|(simp[*];done)),H',⟨by have:=HK1.out;omega⟩,⟨by(with_reducible repeat(first|apply Kd.R_alloc|apply Kd.R_drewN|apply Kd.R_drew));exact Kd.R_mono (Kd.R_far (p:=⟨gb80003,4,none⟩) (Kd.R_far (p:=⟨gb80003,3,none⟩) (Kd.R_far (p:=⟨gb80003,2,none⟩) (Kd.R_far (p:=⟨gb80003,1,none⟩) (Kd.R_far (p:=⟨gb80003,0,none⟩) (Kd.R_types HO_3.out BK80003.out (by decide)) (fun _ hk=>hk.2) (.int .i64 ((Zv l0_1 x9_1).f0))) (fun _ hk=>hk.2) (.int .i64 ((Zv l0_1 x9_1).f1))) (fun _ hk=>hk.2) (.int .i64 ((Zv l0_1 x9_1).f2))) (fun _ hk=>hk.2) (.int .i64 ((Zv l0_1 x9_1).f3))) (fun _ hk=>hk.2) (.bool false)) (fun _ hk=>trivial)⟩,⟨by(with_reducible repeat(first|refine Zp ?_ _|refine Zu ?_|refine Zo ?_ _));refine ZD ?_ NB80001_80003.out _;(with_reducible repeat(first|refine Zp ?_ _|refine Zu ?_|refine Zo ?_ _));refine ZD ?_ NB80001_80003.out _;(with_reducible repeat(first|refine Zp ?_ _|refine Zu ?_|refine Zo ?_ _));refine ZD ?_ NB80001_80003.out _;(with_reducible repeat(first|refine Zp ?_ _|refine Zu ?_|refine Zo ?_ _));refine ZD ?_ NB80001_80003.out _;(with_reducible repeat(first|refine Zp ?_ _|refine Zu ?_|refine Zo ?_ _));refine ZD ?_ NB80001_80003.out _;(with_reducible repeat(first|refine Zp ?_ _|refine Zu ?_|refine Zo ?_ _));exact BK80001.out⟩,⟨by repeat(first|(with_reducible first|exact HB.out|apply Zn|apply Zm|apply Zt|refine Zq ?_ GE80001.out|refine Zq ?_ GE80003.out)|exact HB.out)⟩⟩
     ·rw[if_neg c6] at H
      exact absurd H (by simp)
    ·rw[if_neg c5] at H
     exact absurd H (by simp)
   ·rw[if_neg c4] at H
    have c4b0:decide (x9_1<(l0_1.length:Int))=false:=Zf c4
    clear c4
    obtain rfl:=Zg H
    go_wp2
    go_ret
    exact⟨_,by first|rfl|(simp[ZB,ZA] <;> rfl)|(simp[*,ZB,ZA] <;> rfl),by(with_reducible repeat(first|apply Kd.R_alloc|apply Kd.R_drewN|apply Kd.R_drew));exact HO_3.out,by repeat(first|(with_reducible first|exact HB.out|apply Zn|apply Zm|apply Zt|refine Zq ?_ GE80001.out)|exact HB.out)⟩
def Zaj.l0:Nat→List Int→List (S90)→Int→Int→Option (List Int)
 | 0,_,_,_,_=>none
 | k+1,x3,x8,x9,x10=>if x10<x9 then(if 0≤x10 then(if x10<(x8.length:Int) then(if (Zv x8 x10).f4=true then(if x3.length<17592186044416 then(Zaj.l0 k (x3 ++ [x10]) x8 x9 (wrap64 (x10+1))) else(none)) else(Zaj.l0 k x3 x8 x9 (wrap64 (x10+1)))) else(none)) else(none)) else(some x3)
def Zaj.f (k:Nat) (l0_0:List (S116)) (l0_1:List (S90)) (a0_2:Int):Option (List Int):=Zaj.l0 k (([]:List Int)) l0_1 (l0_1.length:Int) 0
set_option maxHeartbeats 8000000 in
set_option maxRecDepth 100000 in
theorem Zaj.calls (k:Nat) (A0_0:Option Addr) (c0_0:Nat) (l0_0:List (S116)) (A0_1:Option Addr) (c0_1:Nat) (l0_1:List (S90)) (a0_2:Int) (r:List Int) (w:World) (hr0_0:Kd.C k116 w A0_0 l0_0.length l0_0) (hc0_0:l0_0.length≤c0_0) (hr0_1:Kd.C k90 w A0_1 l0_1.length l0_1) (hc0_1:l0_1.length≤c0_1) (h:Zaj.f k l0_0 l0_1 a0_2=some r) :
  Calls Try.prog 67 #[.agg #[.slice A0_0 l0_0.length c0_0,.slice A0_1 l0_1.length c0_1,.int .i64 a0_2]] w fun e w'=>∃v0_:Value,e=.returned (v0_)∧Kd.R (Kd.int .i64) 3 w' w.heap.size (fun _=>True) v0_ r∧Below w.heap.size w w':=by
 have hu35:=Try.underlying35
 have hu90:=Try.underlying90
 have HR0_0:=Za hr0_0;have HC0_0:=Za hc0_0;clear hr0_0 hc0_0;have HR0_1:=Za hr0_1;have HC0_1:=Za hc0_1;clear hr0_1 hc0_1
 have HB:=Za (Below.refl w.heap.size w)
 have H:(Zaj.l0 k (([]:List Int)) l0_1 (l0_1.length:Int) 0)=some r:=h
 clear h
 obtain⟨y67002,hy67002⟩:∃y_:List Int,y_=(([]:List Int)):=⟨_,rfl⟩
 replace H:(Zaj.l0 k y67002 l0_1 (l0_1.length:Int) 0)=some r:=by first|(rw[hy67002];with_reducible exact H)|(have H2_:=(Zi _ _).symm.trans H;rw[hy67002];with_reducible exact H2_)|(have H2_:=(Zi _ _).symm.trans H;with_reducible exact H2_)|with_reducible exact H|(rw[hy67002];exact H)|exact H
 have Ny67002:=Za hy67002;clear hy67002
 have H':=Za H
 clear H
 go_enter Try.func67,Try.ntmps67
 go_wp2_with (first|((with_reducible refine ZI (N:=1) rfl ?_);refine ZH ?hg (N:=1) ?hd (cs:=#[.slice A0_0 l0_0.length c0_0,.slice A0_1 l0_1.length c0_1,.int .i64 a0_2]) (t:=35) ?hr ?_;(case hd=>rfl);(case hg=>rfl);(case hr=>first|(go_simp;done)|(go_simp;rfl));intro gb67001 hg w2 hbox hb;have BK67001:=Za (hbox);have GW67001:=Za ((by rw[hg];exact(Zx (by exact HB.out)):w.heap.size≤gb67001));have GE67001:=Za ((by rw[hg];exact(Zx (by exact HB.out)):w.heap.size≤gb67001));replace HB:=Za (Zw (by exact HB.out) hb);clear hb hbox hg)|((with_reducible refine ZI (N:=6) rfl ?_);refine Kd.R_lit (Kd.int .i64) _ 3 ?hg (N:=6) ?hd (xs:=([]:List Int)) (inner:=[]) (ok:=fun _=>True) (okp:=fun _=>True) ?hr ?hp (fun _ hk=>hk) trivial (Below.refl _ _) (Nat.le_refl _) (by simp) ?_;(case hd=>rfl);(case hg=>rfl);(case hr=>first|(go_simp;done)|(go_simp;rfl));(case hp=>exact(Reps.none _ _));intro v67003 w3 ho4 hb hg_ hnew_;clear hg_ hnew_;(first|rw[← Ny67002.out] at ho4|(simp only[Int.reduceToNat] at ho4;rw[← Ny67002.out] at ho4));have HO67004:=Za (Kd.R_lower ho4 (Zx (by exact HB.out)));replace BK67001:=Za (Zy (g:=gb67001) (o:=.cells #[.slice A0_0 l0_0.length c0_0,.slice A0_1 l0_1.length c0_1,.int .i64 a0_2] 35 (0,0)) BK67001.out hb);replace HB:=Za (Zw (by exact HB.out) hb);clear hb ho4;have hcz5_0:w3.cell? ⟨gb67001,0,none⟩=some (.slice A0_0 l0_0.length c0_0):=(Zs BK67001.out 0).trans rfl;have hcz5_1:w3.cell? ⟨gb67001,1,none⟩=some (.slice A0_1 l0_1.length c0_1):=(Zs BK67001.out 1).trans rfl;have hcz5_2:w3.cell? ⟨gb67001,2,none⟩=some (.int .i64 a0_2):=(Zs BK67001.out 2).trans rfl;have hfz5_0:=Zr BK67001.out 0;have hfz5_1:=Zr BK67001.out 1;have hfz5_2:=Zr BK67001.out 2))
 go_loopg [3,10] k (fun kq v3 v10 w'=>∃(x3_1:List Int) (x10_1:Int),v10=.int .i64 x10_1∧Aside0 (Zaj.l0 kq x3_1 l0_1 (l0_1.length:Int) x10_1=some r)∧Aside0 (kq≤k)∧Aside0 (Kd.R (Kd.int .i64) 3 w' w.heap.size (fun _=>True) v3 x3_1)∧Aside0 (w'.heap[gb67001]? = some (.cells #[(.slice A0_0 l0_0.length c0_0),(.slice A0_1 l0_1.length c0_1),.int .i64 a0_2] 35 (0,0)))∧Aside0 (Below w.heap.size w w'))
 case atStart=>exact⟨(y67002),(0),(by first|rfl|(simp;done)|(simp[*];done)),H',⟨Nat.le_refl _⟩,⟨by(with_reducible repeat(first|apply Kd.R_alloc|apply Kd.R_drewN|apply Kd.R_drew));exact HO67004.out⟩,⟨by(with_reducible repeat(first|refine Zp ?_ _|refine Zu ?_|refine Zo ?_ _));exact BK67001.out⟩,⟨by repeat(first|(with_reducible first|exact HB.out|apply Zn|apply Zm|apply Zt|refine Zq ?_ GE67001.out)|exact HB.out)⟩⟩
 case round=>
  clear H'
  try clear p2
  obtain⟨x3_1,x10_1,rfl,HA,HK1,HO_3,BK67001,HB⟩:=hrel
  cases gk with
  | zero=>exact absurd HA.out (by simp[Zaj.l0])
  | succ k1=>
   have H:=HA.out
   clear HA
   simp only[Zaj.l0] at H
   by_cases c6:x10_1<(l0_1.length:Int)
   ·rw[if_pos c6] at H
    have c6b0:decide (x10_1<(l0_1.length:Int))=true:=Ze c6
    clear c6
    by_cases c7:0≤x10_1
    ·rw[if_pos c7] at H
     have c7b0:decide (0≤x10_1)=true:=Ze c7
     clear c7
     by_cases c8:x10_1<(l0_1.length:Int)
     ·rw[if_pos c8] at H
      have c8b0:decide (x10_1<(l0_1.length:Int))=true:=Ze c8
      clear c8
      obtain⟨bq9,hbq9⟩:∃b_:Bool,b_=((Zv l0_1 x10_1).f4):=⟨_,rfl⟩
      replace H:(if bq9=true then(if x3_1.length<17592186044416 then(Zaj.l0 k1 (x3_1 ++ [x10_1]) l0_1 (l0_1.length:Int) (wrap64 (x10_1+1))) else(none)) else(Zaj.l0 k1 x3_1 l0_1 (l0_1.length:Int) (wrap64 (x10_1+1))))=some r:=by rw[← hbq9] at H;exact H
      have Nbq9:=Za hbq9;clear hbq9
      by_cases c10:bq9=true
      ·subst c10
       have H1:(if x3_1.length<17592186044416 then(Zaj.l0 k1 (x3_1 ++ [x10_1]) l0_1 (l0_1.length:Int) (wrap64 (x10_1+1))) else(none))=some r:=by rw[if_pos rfl] at H;exact H
       clear H
       have H:=H1
       clear H1
       by_cases c11:x3_1.length<17592186044416
       ·rw[if_pos c11] at H
        have LMc11:=Za c11;clear c11
        obtain⟨y67007,hy67007⟩:∃y_:List Int,y_=(x3_1 ++ [x10_1]):=⟨_,rfl⟩
        replace H:(Zaj.l0 k1 y67007 l0_1 (l0_1.length:Int) (wrap64 (x10_1+1)))=some r:=by first|(rw[hy67007];with_reducible exact H)|(have H2_:=(Zi _ _).symm.trans H;rw[hy67007];with_reducible exact H2_)|(have H2_:=(Zi _ _).symm.trans H;with_reducible exact H2_)|with_reducible exact H|(rw[hy67007];exact H)|exact H
        have Ny67007:=Za hy67007;clear hy67007
        have H':=Za H
        clear H
        have p67005:0≤(x10_1:Int):=Zd (by with_reducible assumption)
        have q67005:x10_1<(l0_1.length:Int):=Zd (by with_reducible assumption)
        obtain⟨ad67005,e67005,hx67005_0,hx67005_1,hx67005_2,hx67005_3,hx67005_4⟩:=ZaH HR0_1.out x10_1 p67005 q67005
        (try rw[← Nbq9.out] at hx67005_4)
        cases e67005
        replace hx67005_0:=(HB.out.cell (Zc w _ hx67005_0)).trans hx67005_0
        replace hx67005_1:=(HB.out.cell (Zc w _ hx67005_1)).trans hx67005_1
        replace hx67005_2:=(HB.out.cell (Zc w _ hx67005_2)).trans hx67005_2
        replace hx67005_3:=(HB.out.cell (Zc w _ hx67005_3)).trans hx67005_3
        replace hx67005_4:=(HB.out.cell (Zc w _ hx67005_4)).trans hx67005_4
        replace p67005:=eq_true p67005
        replace q67005:=eq_true q67005
        go_wp2_with (first|((with_reducible refine ZI (N:=5) rfl ?_);refine ZH ?hg (N:=5) ?hd (cs:=#[.int .i64 0,.int .i64 0,.int .i64 0,.int .i64 0,.bool false]) (t:=90) ?hr ?_;(case hd=>rfl);(case hg=>rfl);(case hr=>first|(go_simp;done)|(go_simp;rfl));intro gb67006 hg w12 hbox hb;have n0_:=Za (Kd.R_below (by exact HO_3.out) hb);have n1_:=Za (Zy (g:=gb67001) (o:=.cells #[.slice A0_0 l0_0.length c0_0,.slice (some ad67005) l0_1.length c0_1,.int .i64 a0_2] 35 (0,0)) BK67001.out hb);have n2_:=Za (Zw (by exact HB.out) hb);have n3_:=Za (hbox);have n4_:=Za ((by rw[hg];exact(Zx (by exact HB.out)):w.heap.size≤gb67006));have n5_:=n4_;have n6_:=Za ((by rw[hg];exact Nat.ne_of_lt (ZO (g:=gb67001) (o:=.cells #[.slice A0_0 l0_0.length c0_0,.slice (some ad67005) l0_1.length c0_1,.int .i64 a0_2] 35 (0,0)) BK67001.out):gb67001≠gb67006));have n7_:=Za n6_.out.symm;clear HO_3;clear BK67001;clear HB;have HO_3:=n0_;have BK67001:=n1_;have HB:=n2_;have BK67006:=n3_;have GW67006:=n4_;have GE67006:=n5_;have NB67001_67006:=n6_;have NB67006_67001:=n7_;clear n0_ n1_ n2_ n3_ n4_ n5_ n6_ n7_;clear hb hbox hg;have hnb13:=NB67006_67001.out;have hnc13:=NB67001_67006.out;have hcz14_0:w12.cell? ⟨gb67006,0,none⟩=some (.int .i64 0):=(Zs BK67006.out 0).trans rfl;have hcz14_1:w12.cell? ⟨gb67006,1,none⟩=some (.int .i64 0):=(Zs BK67006.out 1).trans rfl;have hcz14_2:w12.cell? ⟨gb67006,2,none⟩=some (.int .i64 0):=(Zs BK67006.out 2).trans rfl;have hcz14_3:w12.cell? ⟨gb67006,3,none⟩=some (.int .i64 0):=(Zs BK67006.out 3).trans rfl;have hcz14_4:w12.cell? ⟨gb67006,4,none⟩=some (.bool false):=(Zs BK67006.out 4).trans rfl;have hfz14_0:=Zr BK67006.out 0;have hfz14_1:=Zr BK67006.out 1;have hfz14_2:=Zr BK67006.out 2;have hfz14_3:=Zr BK67006.out 3;have hfz14_4:=Zr BK67006.out 4)|((with_reducible refine Zbf (b:=.append) (xs:=#[.tmp 17,.tmp 19]) rfl ?_);at_builtin;refine Kd.R_append (Kd.int .i64) (w0:=w) w.heap.size rfl (.tmp 17) (.tmp 19) 26 3 (.int .i64 0) 8 rfl Try.underlying26 info3 rfl (by decide) (by omega) u3 x3_1 x10_1 [.int .i64 x10_1] (fun _=>True) (fun _=>False) rfl (by first|(go_simp;done)|(go_simp;rfl)) ?aP (fun _ hk=>hk.elim) ?aF ?aO ?aB ?aS ?aL ?_;(case aP=>exact rfl);(case aB=>exact(by repeat(first|(with_reducible first|exact HB.out|apply Zn|apply Zm|apply Zt|refine Zq ?_ GE67001.out|refine Zq ?_ GE67006.out)|exact HB.out)));(case aF=>exact(fun _ _=>trivial));(case aO=>exact(by(with_reducible repeat(first|apply Kd.R_alloc|apply Kd.R_drewN|apply Kd.R_drew));exact Kd.R_mono (Kd.R_far (p:=⟨gb67006,4,none⟩) (Kd.R_far (p:=⟨gb67006,3,none⟩) (Kd.R_far (p:=⟨gb67006,2,none⟩) (Kd.R_far (p:=⟨gb67006,1,none⟩) (Kd.R_far (p:=⟨gb67006,0,none⟩) (Kd.R_types HO_3.out BK67006.out (by decide)) (fun _ hk=>hk.2) (.int .i64 ((Zv l0_1 x10_1).f0))) (fun _ hk=>hk.2) (.int .i64 ((Zv l0_1 x10_1).f1))) (fun _ hk=>hk.2) (.int .i64 ((Zv l0_1 x10_1).f2))) (fun _ hk=>hk.2) (.int .i64 ((Zv l0_1 x10_1).f3))) (fun _ hk=>hk.2) (.bool true)) (fun _ hk=>trivial)));(case aS=>exact(Zx (by repeat(first|(with_reducible first|exact HB.out|apply Zn|apply Zm|apply Zt|refine Zq ?_ GE67001.out|refine Zq ?_ GE67006.out)|exact HB.out))));(case aL=>have:=LMc11.out;omega);intro v67008 w15 ho hb hg hat;rw[← Ny67007.out] at ho;have HO67009:=Za (ho);replace BK67001:=Za (Zar (g:=gb67001) (o:=.cells #[.slice A0_0 l0_0.length c0_0,.slice (some ad67005) l0_1.length c0_1,.int .i64 a0_2] 35 (0,0)) (by(with_reducible repeat(first|refine Zp ?_ _|refine Zu ?_|refine Zo ?_ _));refine ZD ?_ NB67001_67006.out _;(with_reducible repeat(first|refine Zp ?_ _|refine Zu ?_|refine Zo ?_ _));refine ZD ?_ NB67001_67006.out _;(with_reducible repeat(first|refine Zp ?_ _|refine Zu ?_|refine Zo ?_ _));refine ZD ?_ NB67001_67006.out _;(with_reducible repeat(first|refine Zp ?_ _|refine Zu ?_|refine Zo ?_ _));refine ZD ?_ NB67001_67006.out _;(with_reducible repeat(first|refine Zp ?_ _|refine Zu ?_|refine Zo ?_ _));refine ZD ?_ NB67001_67006.out _;(with_reducible repeat(first|refine Zp ?_ _|refine Zu ?_|refine Zo ?_ _));exact BK67001.out) hg (Kd.R_ne HO_3.out BK67001.out (by decide)));replace BK67006:=Za (Zar (g:=gb67006) (o:=.cells #[.int .i64 ((Zv l0_1 x10_1).f0),.int .i64 ((Zv l0_1 x10_1).f1),.int .i64 ((Zv l0_1 x10_1).f2),.int .i64 ((Zv l0_1 x10_1).f3),.bool true] 90 (0,0)) (by(with_reducible repeat(first|refine Zp ?_ _|refine Zu ?_|refine Zo ?_ _));refine ZL (cs:=#[.int .i64 ((Zv l0_1 x10_1).f0),.int .i64 ((Zv l0_1 x10_1).f1),.int .i64 ((Zv l0_1 x10_1).f2),.int .i64 ((Zv l0_1 x10_1).f3),.bool false]) ?_ 4 _ rfl;(with_reducible repeat(first|refine Zp ?_ _|refine Zu ?_|refine Zo ?_ _));refine ZL (cs:=#[.int .i64 ((Zv l0_1 x10_1).f0),.int .i64 ((Zv l0_1 x10_1).f1),.int .i64 ((Zv l0_1 x10_1).f2),.int .i64 0,.bool false]) ?_ 3 _ rfl;(with_reducible repeat(first|refine Zp ?_ _|refine Zu ?_|refine Zo ?_ _));refine ZL (cs:=#[.int .i64 ((Zv l0_1 x10_1).f0),.int .i64 ((Zv l0_1 x10_1).f1),.int .i64 0,.int .i64 0,.bool false]) ?_ 2 _ rfl;(with_reducible repeat(first|refine Zp ?_ _|refine Zu ?_|refine Zo ?_ _));refine ZL (cs:=#[.int .i64 ((Zv l0_1 x10_1).f0),.int .i64 0,.int .i64 0,.int .i64 0,.bool false]) ?_ 1 _ rfl;(with_reducible repeat(first|refine Zp ?_ _|refine Zu ?_|refine Zo ?_ _));refine ZL (cs:=#[.int .i64 0,.int .i64 0,.int .i64 0,.int .i64 0,.bool false]) ?_ 0 _ rfl;(with_reducible repeat(first|refine Zp ?_ _|refine Zu ?_|refine Zo ?_ _));exact BK67006.out) hg (Kd.R_ne HO_3.out BK67006.out (by decide)));replace HB:=Za (hb);clear HO_3;clear ho hb hg hat))
        go_roundg k1
        case measure=>have:=HK1.out;omega
        case rel=>exact⟨(y67007),(wrap64 (x10_1+1)),(by first|rfl|(simp;done)|(simp[*];done)),H',⟨by have:=HK1.out;omega⟩,⟨by(with_reducible repeat(first|apply Kd.R_alloc|apply Kd.R_drewN|apply Kd.R_drew));exact HO67009.out⟩,⟨by(with_reducible repeat(first|refine Zp ?_ _|refine Zu ?_|refine Zo ?_ _));exact BK67001.out⟩,⟨by repeat(first|(with_reducible first|exact HB.out|apply Zn|apply Zm|apply Zt|refine Zq ?_ GE67001.out|refine Zq ?_ GE67006.out)|exact HB.out)⟩⟩
       ·rw[if_neg c11] at H
        exact absurd H (by simp)
      ·replace c10:=Bool.eq_false_iff.mpr c10
       subst c10
       have H1:(Zaj.l0 k1 x3_1 l0_1 (l0_1.length:Int) (wrap64 (x10_1+1)))=some r:=by rw[if_neg (show ¬(false=true) by decide)] at H;exact H
       clear H
       have H:=H1
       clear H1
       have H':=Za H
       clear H
       have p67005:0≤(x10_1:Int):=Zd (by with_reducible assumption)
       have q67005:x10_1<(l0_1.length:Int):=Zd (by with_reducible assumption)
       obtain⟨ad67005,e67005,hx67005_0,hx67005_1,hx67005_2,hx67005_3,hx67005_4⟩:=ZaH HR0_1.out x10_1 p67005 q67005
       (try rw[← Nbq9.out] at hx67005_4)
       cases e67005
       replace hx67005_0:=(HB.out.cell (Zc w _ hx67005_0)).trans hx67005_0
       replace hx67005_1:=(HB.out.cell (Zc w _ hx67005_1)).trans hx67005_1
       replace hx67005_2:=(HB.out.cell (Zc w _ hx67005_2)).trans hx67005_2
       replace hx67005_3:=(HB.out.cell (Zc w _ hx67005_3)).trans hx67005_3
       replace hx67005_4:=(HB.out.cell (Zc w _ hx67005_4)).trans hx67005_4
       replace p67005:=eq_true p67005
       replace q67005:=eq_true q67005
       go_wp2_with (first|((with_reducible refine ZI (N:=5) rfl ?_);refine ZH ?hg (N:=5) ?hd (cs:=#[.int .i64 0,.int .i64 0,.int .i64 0,.int .i64 0,.bool false]) (t:=90) ?hr ?_;(case hd=>rfl);(case hg=>rfl);(case hr=>first|(go_simp;done)|(go_simp;rfl));intro gb67006 hg w16 hbox hb;have n0_:=Za (Kd.R_below (by exact HO_3.out) hb);have n1_:=Za (Zy (g:=gb67001) (o:=.cells #[.slice A0_0 l0_0.length c0_0,.slice (some ad67005) l0_1.length c0_1,.int .i64 a0_2] 35 (0,0)) BK67001.out hb);have n2_:=Za (Zw (by exact HB.out) hb);have n3_:=Za (hbox);have n4_:=Za ((by rw[hg];exact(Zx (by exact HB.out)):w.heap.size≤gb67006));have n5_:=n4_;have n6_:=Za ((by rw[hg];exact Nat.ne_of_lt (ZO (g:=gb67001) (o:=.cells #[.slice A0_0 l0_0.length c0_0,.slice (some ad67005) l0_1.length c0_1,.int .i64 a0_2] 35 (0,0)) BK67001.out):gb67001≠gb67006));have n7_:=Za n6_.out.symm;clear HO_3;clear BK67001;clear HB;have HO_3:=n0_;have BK67001:=n1_;have HB:=n2_;have BK67006:=n3_;have GW67006:=n4_;have GE67006:=n5_;have NB67001_67006:=n6_;have NB67006_67001:=n7_;clear n0_ n1_ n2_ n3_ n4_ n5_ n6_ n7_;clear hb hbox hg;have hnb17:=NB67006_67001.out;have hnc17:=NB67001_67006.out;have hcz18_0:w16.cell? ⟨gb67006,0,none⟩=some (.int .i64 0):=(Zs BK67006.out 0).trans rfl;have hcz18_1:w16.cell? ⟨gb67006,1,none⟩=some (.int .i64 0):=(Zs BK67006.out 1).trans rfl;have hcz18_2:w16.cell? ⟨gb67006,2,none⟩=some (.int .i64 0):=(Zs BK67006.out 2).trans rfl;have hcz18_3:w16.cell? ⟨gb67006,3,none⟩=some (.int .i64 0):=(Zs BK67006.out 3).trans rfl;have hcz18_4:w16.cell? ⟨gb67006,4,none⟩=some (.bool false):=(Zs BK67006.out 4).trans rfl;have hfz18_0:=Zr BK67006.out 0;have hfz18_1:=Zr BK67006.out 1;have hfz18_2:=Zr BK67006.out 2;have hfz18_3:=Zr BK67006.out 3;have hfz18_4:=Zr BK67006.out 4))
       go_roundg k1
       case measure=>have:=HK1.out;omega
       case rel=>exact⟨(x3_1),(wrap64 (x10_1+1)),(by first|rfl|(simp;done)|(simp[*];done)),H',⟨by have:=HK1.out;omega⟩,⟨by(with_reducible repeat(first|apply Kd.R_alloc|apply Kd.R_drewN|apply Kd.R_drew));exact Kd.R_mono (Kd.R_far (p:=⟨gb67006,4,none⟩) (Kd.R_far (p:=⟨gb67006,3,none⟩) (Kd.R_far (p:=⟨gb67006,2,none⟩) (Kd.R_far (p:=⟨gb67006,1,none⟩) (Kd.R_far (p:=⟨gb67006,0,none⟩) (Kd.R_types HO_3.out BK67006.out (by decide)) (fun _ hk=>hk.2) (.int .i64 ((Zv l0_1 x10_1).f0))) (fun _ hk=>hk.2) (.int .i64 ((Zv l0_1 x10_1).f1))) (fun _ hk=>hk.2) (.int .i64 ((Zv l0_1 x10_1).f2))) (fun _ hk=>hk.2) (.int .i64 ((Zv l0_1 x10_1).f3))) (fun _ hk=>hk.2) (.bool false)) (fun _ hk=>trivial)⟩,⟨by(with_reducible repeat(first|refine Zp ?_ _|refine Zu ?_|refine Zo ?_ _));refine ZD ?_ NB67001_67006.out _;(with_reducible repeat(first|refine Zp ?_ _|refine Zu ?_|refine Zo ?_ _));refine ZD ?_ NB67001_67006.out _;(with_reducible repeat(first|refine Zp ?_ _|refine Zu ?_|refine Zo ?_ _));refine ZD ?_ NB67001_67006.out _;(with_reducible repeat(first|refine Zp ?_ _|refine Zu ?_|refine Zo ?_ _));refine ZD ?_ NB67001_67006.out _;(with_reducible repeat(first|refine Zp ?_ _|refine Zu ?_|refine Zo ?_ _));refine ZD ?_ NB67001_67006.out _;(with_reducible repeat(first|refine Zp ?_ _|refine Zu ?_|refine Zo ?_ _));exact BK67001.out⟩,⟨by repeat(first|(with_reducible first|exact HB.out|apply Zn|apply Zm|apply Zt|refine Zq ?_ GE67001.out|refine Zq ?_ GE67006.out)|exact HB.out)⟩⟩
     ·rw[if_neg c8] at H
      exact absurd H (by simp)
    ·rw[if_neg c7] at H
     exact absurd H (by simp)
   ·rw[if_neg c6] at H
    have c6b0:decide (x10_1<(l0_1.length:Int))=false:=Zf c6
    clear c6
    obtain rfl:=Zg H
    go_wp2
    go_ret
    exact⟨_,by first|rfl|(simp[ZB,ZA] <;> rfl)|(simp[*,ZB,ZA] <;> rfl),by(with_reducible repeat(first|apply Kd.R_alloc|apply Kd.R_drewN|apply Kd.R_drew));exact HO_3.out,by repeat(first|(with_reducible first|exact HB.out|apply Zn|apply Zm|apply Zt|refine Zq ?_ GE67001.out)|exact HB.out)⟩
end Go.Proofs.Ytodfnelilhjoeaa.Pr
namespace Go.Proofs.Ytodfnelilhjoeaa.Pr
open Go.RowKit Go.Proofs.YtodfnelilhjoeaaW.PrintWords Go.Proofs.Ytodfnelilhjoeaa.Ni
def Zb5 (ts:List PTie) (n:Nat):List Int:=((List.range n).filter fun i=>(ts.getD i z90).f4).map fun i:Nat=>(i:Int)
def Zb6 (ts:List PTie):List Int:=Zb5 ts ts.length
theorem ZdB (ts:List PTie) (n:Nat):Zb5 ts (n+1)=if (ts.getD n z90).f4=true then Zb5 ts n ++ [(n:Int)] else Zb5 ts n:=by
 unfold Zb5
 rw[List.range_succ,List.filter_append,List.map_append]
 by_cases h:(ts.getD n z90).f4=true
 ·rw[if_pos h,List.filter_cons_of_pos (by simpa using h)];rfl
 ·rw[if_neg h,List.filter_cons_of_neg (by simpa using h)];simp
theorem Zda (ts:List PTie) (n:Nat):(Zb5 ts n).length≤n:=by
 unfold Zb5
 rw[List.length_map]
 exact Nat.le_trans (List.length_filter_le _ _) (by simp)
theorem freeIx_len (ts:List PTie):(Zb6 ts).length≤ts.length:=Zda ts ts.length
theorem freeIx_in {ts:List PTie} {x:Int} (h:x∈Zb6 ts):0≤x∧x<ts.length:=by
 unfold Zb6 Zb5 at h
 obtain⟨i,hi,rfl⟩:=List.mem_map.1 h
 have:=List.mem_range.1 (List.mem_filter.1 hi).1
 omega
theorem freeTies_f (ns:List ZZ) (ts:List PTie) (z:Int) (hl:ts.length≤1048576) (k:Nat) (hk:2 ^ 64≤k):Zah.f k ns ts z=some (Zb6 ts):=by
 have key:=ZaC ts.length (fun k i=>Zah.l0 k (Zb5 ts i) ts ts.length (i:Int)=some (Zb6 ts)) 0
  (fun k _=>by
   simp only[Zah.l0]
   rw[if_neg (by omega)];rfl)
  (fun k i _ hi ih=>by
   simp only[Zah.l0]
   have:=Zda ts i
   rw[ZdB] at ih
   rw[if_pos (by omega),if_pos (by omega),if_pos (by omega),Zc1,Z6 hi (by omega)]
   by_cases h:(ts.getD i z90).f4=true
   ·rw[if_pos h,if_pos (by omega)];rw[if_pos h] at ih;exact ih
   ·rw[if_neg h];rw[if_neg h] at ih;exact ih) 0 k (Nat.zero_le _) (by omega)
 unfold Zah.f
 exact key
theorem l10Free_f (ns:List ZZ) (ts:List PTie) (z:Int) (hl:ts.length≤1048576) (k:Nat) (hk:2 ^ 64≤k):Zaj.f k ns ts z=some (Zb6 ts):=by
 have key:=ZaC ts.length (fun k i=>Zaj.l0 k (Zb5 ts i) ts ts.length (i:Int)=some (Zb6 ts)) 0
  (fun k _=>by
   simp only[Zaj.l0]
   rw[if_neg (by omega)];rfl)
  (fun k i _ hi ih=>by
   simp only[Zaj.l0]
   have:=Zda ts i
   rw[ZdB] at ih
   rw[if_pos (by omega),if_pos (by omega),if_pos (by omega),Zc1,Z6 hi (by omega)]
   by_cases h:(ts.getD i z90).f4=true
   ·rw[if_pos h,if_pos (by omega)];rw[if_pos h] at ih;exact ih
   ·rw[if_neg h];rw[if_neg h] at ih;exact ih) 0 k (Nat.zero_le _) (by omega)
 unfold Zaj.f
 exact key
def chX (ts:List PTie):Nat→Int→List Int→Option (Int×List Int)
 | 0,_,_=>none
 | d+1,node,c=>if ZbC ts node<0 then some (node,c) else if ZbC ts node∈c then none else chX ts d (Zv ts (ZbC ts node)).f0 (c ++ [ZbC ts node])
theorem mem_freeIx {ts:List PTie} {j:Int} (h0:0≤j) (h1:j<ts.length) (hf:(Zv ts j).f4=true):j∈Zb6 ts:=by
 obtain⟨m,rfl⟩:=Int.eq_ofNat_of_zero_le h0
 rw[Zc1] at hf
 unfold Zb6 Zb5
 exact List.mem_map.2 ⟨m,List.mem_filter.2 ⟨List.mem_range.2 (by omega),hf⟩,rfl⟩
theorem tie_from {ns:List ZZ} {ts:List PTie} (h:ZaR ns ts=true) {j:Int} (h0:0≤j) (h1:j<ts.length):0≤(Zv ts j).f0∧(Zv ts j).f0<ns.length:=by
 obtain⟨m,rfl⟩:=Int.eq_ofNat_of_zero_le h0
 have:=ZcW h m (by omega)
 unfold Zcm Zbj at this
 simp only[ZbY,Bool.and_eq_true,decide_eq_true_eq] at this
 obtain⟨⟨⟨⟨⟨⟨a,_⟩,_⟩,_⟩,_⟩,_⟩,_⟩:=this
 omega
def bsOf (ts:List PTie) (o:Option (Int×List Int)):Int×Int×Int×Bool:=match o with|some r=>(r.1,sLo ts r.2,sHi ts r.2,true)|none=>(-1,0,0,false)
theorem chain_run2 {ns:List ZZ} {ts:List PTie} {z:Int} (ht:ZaR ns ts=true) (h1:1≤ns.length) (hn:ns.length≤1048576) (hl:ts.length≤1048576):∀(d:Nat) (node:Int) (c:List Int) (k:Nat),Chn ts node c→ns.length≤c.length+d→2 ^ 65+d<k→0≤node∧node<ns.length →
  ZR.l0 k node c ns ts z=some ((chX ts d node c).getD (-1,[]))∧ZT.l0 k node (sLo ts c) (sHi ts c) c.length ns ts z=some (bsOf ts (chX ts d node c)) ∧
   (∀r,chX ts d node c=some r→Z3.l0 k node c c.length ns ts z=some r.2∧(0≤r.1∧r.1<ns.length)∧(∀j∈r.2,j∈Zb6 ts)∧r.2.length≤ns.length):=by
 intro d
 induction d with
 | zero=>
  intro node c k hc hd _ _
  have:=hc.len ht h1
  omega
 | succ d ih=>
  intro node c k hc hd hk hnode
  have hcl:=hc.len ht h1
  obtain⟨m,rfl⟩:∃m,k=m+1:=⟨k - 1,by omega⟩
  simp only[ZR.l0,ZT.l0,Z3.l0,chX]
  rw[if_pos (show(c.length:Int)≤ns.length by omega),if_pos (show(c.length:Int)≤ns.length by omega),Zct ns ts z node (by omega) m (by omega)]
  unfold ZaX.f
  rw[Zi,Zi,Zi,show Zbw ts node=ZbC ts node from rfl]
  have hin:=@pfree_in ts node
  generalize hfk:ZbC ts node=fk at hin
  by_cases h0:fk<0
  ·simp only[if_pos h0]
   refine⟨rfl,rfl,?_⟩
   intro r hr
   cases hr
   exact⟨rfl,hnode,fun j hj=>mem_freeIx (hc.ok j hj).1 (hc.ok j hj).2.1 (hc.ok j hj).2.2.1,by show c.length≤_;omega⟩
  ·obtain⟨h2,h3,h4⟩:=hin (by omega)
   simp only[if_neg h0]
   unfold ZK.f
   rw[Zi,if_pos (show 0≤fk by omega),if_pos h2,if_pos (show 0≤fk by omega),if_pos h2,if_pos (show 0≤fk by omega),if_pos h2]
   by_cases hm:fk∈c
   ·rw[if_pos (by rw[List.any_eq_true];exact⟨fk,hm,by simp⟩)]
    simp only[if_pos hm]
    refine⟨rfl,?_,fun r hr=>by cases hr⟩
    have hcc:∀j∈c,∃i∈c,(Zv ts j).f0=(Zv ts i).f1:=fun j hj=>by
     rcases hc.cl j hj with e|e
     ·exact⟨fk,hm,by rw[e,h4]⟩
     ·exact e
    obtain⟨i,hi,e1⟩:=hcc fk hm
    rw[e1,Z6 (n:=ns.length) (by omega) (by omega)]
    exact base_out hn (by omega) hc.ok hcc (ns.length - c.length) (c.length+1) _ _ m i hi (by omega) (by omega)
   ·rw[if_neg (by rw[List.any_eq_true];rintro⟨x,hx,e⟩;exact hm (by have:=Zd e;rw[this];exact hx)),if_pos (show c.length<17592186044416 by omega),if_pos (show c.length<17592186044416 by omega)]
    simp only[if_neg hm]
    have hc2:Chn ts (Zv ts fk).f0 (c ++ [fk]):=by
     refine⟨?_,?_,?_⟩
     ·rw[List.nodup_append]
      exact⟨hc.nodup,by simp,fun a ha b hb=>by rw[List.mem_singleton] at hb;subst hb;exact fun e=>hm (e ▸ ha)⟩
     ·intro j hj
      rcases List.mem_append.1 hj with hj|hj
      ·exact hc.ok j hj
      ·rw[List.mem_singleton] at hj
       subst hj
       exact⟨by omega,h2,h3,by rw[h4,hfk]⟩
     ·intro j hj
      rcases List.mem_append.1 hj with hj|hj
      ·rcases hc.cl j hj with e|⟨i,hi,e⟩
       ·exact .inr ⟨fk,by simp,by rw[e,h4]⟩
       ·exact .inr ⟨i,by simp[hi],e⟩
      ·rw[List.mem_singleton] at hj
       subst hj
       exact .inl rfl
    have:=ih (Zv ts fk).f0 (c ++ [fk]) m hc2 (by simp;omega) (by omega) (tie_from ht (by omega) h2)
    rw[sLo_snoc,sHi_snoc,show((c ++ [fk]).length:Int)=wrap64 ((c.length:Int)+1) by rw[Z6 (n:=ns.length) (by omega) (by omega)];simp] at this
    exact this
theorem Chn.nil (ts:List PTie) (node:Int):Chn ts node []:=⟨List.nodup_nil,fun j hj=>(by simp at hj),fun j hj=>(by simp at hj)⟩
def chnB (ns:List ZZ) (ts:List PTie) (i:Int):Option (Int×List Int):=chX ts ns.length i []
theorem ZcQ {ns:List ZZ} {ts:List PTie} {z:Int} (ht:ZaR ns ts=true) (hn:ns.length≤1048576) (hl:ts.length≤1048576) (i:Nat) (hi:i<ns.length) (k:Nat) (hk:2 ^ 66≤k) :
  ZR.f k ns ts z i=some ((chnB ns ts i).getD (-1,[]))∧ZT.f k ns ts z i=some (bsOf ts (chnB ns ts i)) ∧
   (∀r,chnB ns ts i=some r→Z3.f k ns ts z i=some r.2∧(0≤r.1∧r.1<ns.length)∧(∀j∈r.2,j∈Zb6 ts)∧r.2.length≤ns.length):=
 chain_run2 ht (by omega) hn hl ns.length (i:Int) [] k (Chn.nil ts _) (by simp) (by omega) (by omega)
def plAt (ns:List ZZ) (ts:List PTie) (i:Nat):Bool:=(chnB ns ts i).isSome && decide (((ns.getD i z116).f1).length=0)
def ZbS (ns:List ZZ) (ts:List PTie):Nat→Nat→Bool
 | _,0=>true
 | i,d+1=>plAt ns ts i && ZbS ns ts (i+1) d
theorem plFrom_at {ns:List ZZ} {ts:List PTie}:∀(d i:Nat),ZbS ns ts i d=true→∀j,i≤j→j<i+d→plAt ns ts j=true
 | 0,i,_,j,h1,h2=>by omega
 | d+1,i,h,j,h1,h2=>by
  rw[ZbS,Bool.and_eq_true] at h
  by_cases e:j=i
  ·rw[e];exact h.1
  ·exact plFrom_at d (i+1) h.2 j (by omega) (by omega)
theorem Zd6 {ns:List ZZ} {ts:List PTie} {z:Int} (hc:Zc2 ns ts) (hs:Za2 ns ts z=true) (k:Nat) (hk:2 ^ 67≤k):Zae.f k ns ts z=some (ZbS ns ts 0 ns.length):=by
 have ht:=ZcU hs
 have hn:=hc.1
 have key:=ZaC ns.length (fun k i=>Zae.l0 k ns (ns.length:Int) (i:Int) ns ts z=some (ZbS ns ts i (ns.length - i))) (2 ^ 66)
  (fun k _=>by
   simp only[Zae.l0]
   rw[if_neg (by omega),Nat.sub_self];rfl)
  (fun k i hk hi ih=>by
   simp only[Zae.l0]
   have h:=(ZcQ (z:=z) ht hn hc.2.1 i hi k hk)
   rw[if_pos (by omega),if_pos (by omega),if_pos (by omega),h.1,Zi,Zbz,Z6 hi (by omega),ih,show ns.length - i=(ns.length - (i+1))+1 by omega,ZbS]
   unfold plAt
   have h3:=h.2.2
   cases hb:chnB ns ts i with
   | none=>rw[if_pos (by decide)];rfl
   | some r=>
    have:=(h3 r hb).2.1
    rw[if_neg (by show ¬r.1<0;omega)]
    by_cases hq:(ns.getD i z116).f1.length=0
    ·rw[if_neg (by omega),Ze hq];rfl
    ·rw[if_pos (by omega),Zf hq];rfl) 0 k (Nat.zero_le _) (by omega)
 unfold Zae.f
 rw[Zde (fitN_of hc),Zi,hs,if_pos rfl]
 simpa using key
theorem ZdM {ns:List ZZ} {ts:List PTie} {z:Int} (hc:Zc2 ns ts) (hs:Za2 ns ts z=true) (k:Nat) (hk:2 ^ 67≤k):Zaf.f k ns ts z=some (ZbS ns ts 0 ns.length):=by
 have ht:=ZcU hs
 have hn:=hc.1
 have key:=ZaC ns.length (fun k i=>Zaf.l0 k ns (ns.length:Int) (i:Int) ns ts z=some (ZbS ns ts i (ns.length - i))) (2 ^ 66)
  (fun k _=>by
   simp only[Zaf.l0]
   rw[if_neg (by omega),Nat.sub_self];rfl)
  (fun k i hk hi ih=>by
   simp only[Zaf.l0]
   have h:=(ZcQ (z:=z) ht hn hc.2.1 i hi k hk)
   rw[if_pos (by omega),if_pos (by omega),if_pos (by omega),h.2.1,Zi,Zbz,Z6 hi (by omega),ih,show ns.length - i=(ns.length - (i+1))+1 by omega,ZbS]
   unfold plAt
   by_cases hq:(ns.getD i z116).f1.length=0
   ·rw[if_neg (by omega),Ze hq]
    cases hb:chnB ns ts i with
    | none=>rw[if_neg (by simp[bsOf])];rfl
    | some r=>rw[if_pos (show(bsOf ts (some r)).2.2.2=true from rfl)];rfl
   ·rw[if_pos (by omega),Zf hq,Bool.and_false];rfl) 0 k (Nat.zero_le _) (by omega)
 unfold Zaf.f
 simpa using key
theorem ZdD (x:Int):∃q:Int,wrap64 x=x+18446744073709551616 * q:=by
 refine⟨(wrap64 x - x) / 18446744073709551616,?_⟩
 unfold wrap64 at *
 omega
theorem wrap_eq {x y q:Int} (h:x=y+18446744073709551616 * q):wrap64 x=wrap64 y:=by
 subst h
 unfold wrap64
 omega
theorem gap_mod (f:Int→Int):∀(d:List Int) (L x s:Int),wrap64 (L+d.foldl (fun x j=>wrap64 (x - f j)) x)=wrap64 (wrap64 (L+x+s) - d.foldl (fun x j=>wrap64 (x+f j)) s)
 | [],L,x,s=>by
  obtain⟨q,e⟩:=ZdD (L+x+s)
  simp only[List.foldl_nil]
  rw[e]
  exact wrap_eq (q:=-q) (by omega)
 | j :: d,L,x,s=>by
  simp only[List.foldl_cons]
  rw[gap_mod f d L (wrap64 (x - f j)) (wrap64 (s+f j))]
  obtain⟨q1,e1⟩:=ZdD (x - f j)
  obtain⟨q2,e2⟩:=ZdD (s+f j)
  have e:wrap64 (L+wrap64 (x - f j)+wrap64 (s+f j))=wrap64 (L+x+s):=by
   rw[e1,e2];exact wrap_eq (q:=q1+q2) (by omega)
  rw[e]
def Za0 (c b:List Int):List Int:=c.filter fun j=>!(b.any fun y=>decide (j=y))
theorem offs_f (ns:List ZZ) (ts:List PTie) (z:Int) (c b:List Int) (hc:∀j∈c,0≤j∧j<ts.length) (hn:c.length≤1048576) (k:Nat) (hk:2 ^ 64≤k):ZX.f k ns ts z c b=some (sLo ts (Za0 c b),sHi ts (Za0 c b)):=by
 have key:=ZaC c.length (fun k i=>∀lo hi,ZX.l0 k b lo hi c c.length (i:Int) ns ts z=some ((Za0 (c.drop i) b).foldl (fun a j=>wrap64 (a+(Zv ts j).f2)) lo,(Za0 (c.drop i) b).foldl (fun a j=>wrap64 (a+(Zv ts j).f3)) hi)) 0
  (fun k _ lo hi=>by
   simp only[ZX.l0]
   rw[if_neg (by omega),List.drop_length];rfl)
  (fun k i _ hi ih lo hg=>by
   simp only[ZX.l0,ZK.f]
   have hm:=hc _ (Zbr hi 0)
   rw[if_pos (by omega),if_pos (by omega),if_pos (by omega),Zi,Zbk,Z6 hi (by omega),ZaE hi 0,Za0,List.filter_cons]
   cases hb:b.any fun y=>decide (c.getD i 0=y) with
   | true=>rw[if_pos rfl,ih];rfl
   | false=>rw[if_neg (by simp),if_pos hm.1,if_pos hm.2,ih];rfl) 0 k (Nat.zero_le _) (by omega)
 unfold ZX.f sLo sHi
 simpa using key 0 0
theorem gap_f (ns:List ZZ) (ts:List PTie) (z:Int) (a1 a2:Int) (a b:List Int) (k:Nat) (hk:2 ^ 66≤k) (e1:Z3.f k ns ts z a1=some a) (e2:Z3.f k ns ts z a2=some b) (ha:∀j∈a,0≤j∧j<ts.length) (hb:∀j∈b,0≤j∧j<ts.length) (hna:a.length≤1048576) (hnb:b.length≤1048576) :
  ZV.f k ns ts z a1 a2=some ((Za0 b a).foldl (fun x j=>wrap64 (x - (Zv ts j).f3)) (sLo ts (Za0 a b)),(Za0 b a).foldl (fun x j=>wrap64 (x - (Zv ts j).f2)) (sHi ts (Za0 a b))):=by
 have key1:=ZaC b.length (fun k i=>∀lo hi,ZV.l1 k a lo hi b b.length (i:Int) ns ts z=some ((Za0 (b.drop i) a).foldl (fun x j=>wrap64 (x - (Zv ts j).f3)) lo,(Za0 (b.drop i) a).foldl (fun x j=>wrap64 (x - (Zv ts j).f2)) hi)) (2 ^ 64)
  (fun k _ lo hi=>by
   simp only[ZV.l1]
   rw[if_neg (by omega),List.drop_length];rfl)
  (fun k i hk hi ih lo hg=>by
   simp only[ZV.l1]
   have hm:=hb _ (Zbr hi 0)
   rw[if_pos (by omega),if_pos (by omega),if_pos (by omega),Zbk,Zci a _ (by omega) k (by omega),Zi,Z6 hi (by omega),ZaE hi 0,Za0,List.filter_cons]
   cases hq:a.any fun y=>decide (b.getD i 0=y) with
   | true=>rw[if_pos rfl,ih];rfl
   | false=>rw[if_neg (by simp),if_pos hm.1,if_pos hm.2,ih];rfl)
 have key:=ZaC a.length (fun k i=>∀lo hi,ZV.l0 k a b lo hi a a.length (i:Int) ns ts z=some ((Za0 b a).foldl (fun x j=>wrap64 (x - (Zv ts j).f3)) ((Za0 (a.drop i) b).foldl (fun x j=>wrap64 (x+(Zv ts j).f2)) lo),(Za0 b a).foldl (fun x j=>wrap64 (x - (Zv ts j).f2)) ((Za0 (a.drop i) b).foldl (fun x j=>wrap64 (x+(Zv ts j).f3)) hi))) (2 ^ 65)
  (fun k hk lo hi=>by
   simp only[ZV.l0]
   rw[if_neg (by omega),List.drop_length]
   have:=key1 0 k (Nat.zero_le _) (by omega) lo hi
   simpa [Za0] using this)
  (fun k i hk hi ih lo hg=>by
   simp only[ZV.l0]
   have hm:=ha _ (Zbr hi 0)
   rw[if_pos (by omega),if_pos (by omega),if_pos (by omega),Zbk,Zci b _ (by omega) k (by omega),Zi,Z6 hi (by omega),ZaE hi 0,show Za0 (a.getD i 0 :: a.drop (i+1)) b=_ from List.filter_cons]
   cases hq:b.any fun y=>decide (a.getD i 0=y) with
   | true=>rw[if_pos rfl,ih];rfl
   | false=>rw[if_neg (by simp),if_pos hm.1,if_pos hm.2,ih];rfl) 0 k (Nat.zero_le _) (by omega) 0 0
 unfold ZV.f
 rw[e1,e2,Zi,Zi]
 unfold sLo sHi
 simpa using key
abbrev Zcc:=S112
theorem rdK_nat (l:List Zcc) (i:Nat):ZM l (i:Int)=l.getD i z112:=by unfold ZM;rw[Int.toNat_natCast]
def inR (a b c:Int):Bool:=decide (b≤a) && decide (a≤c)
theorem inR_f (a b c:Int):ZW.f a b c=some (inR a b c):=by
 unfold ZW.f inR
 by_cases h:a≥b
 ·rw[if_pos h,Ze (show b≤a from h),Bool.true_and]
 ·rw[if_neg h,Zf (show ¬b≤a from h),Bool.false_and]
theorem inR_q (a b c:Int) (w:World):Calls Try.prog 68 #[.int .i64 a,.int .i64 b,.int .i64 c] w fun e w'=>e=.returned (.bool (inR a b c))∧∃n,w'=w.drewN n:=
 (ZW.calls a b c _ w (inR_f a b c)).mono fun _ _ ⟨he,hd⟩=>⟨he,hd.out⟩
theorem sivOk_f (lo hi:Int):ZaU.f lo hi=some (ivOkB lo hi):=ivOk_f lo hi
theorem slink_ok {n:Int} (h0:1≤n) (h8:n≤8) (y:Zcc):(inR y.f0 0 (wrap64 (n - 1)) && (inR y.f1 0 (wrap64 (n - 1)) && ivOkB y.f2.f0 y.f2.f1))=Zbp n y:=by
 rw[ZaJ (by omega) (by omega)]
 unfold Zbp
 rw[show inR y.f0 0 (n - 1)=inN n y.f0 by unfold inR inN;rw[Bool.eq_iff_iff];simp only[Bool.and_eq_true,decide_eq_true_eq];omega,show inR y.f1 0 (n - 1)=inN n y.f1 by unfold inR inN;rw[Bool.eq_iff_iff];simp only[Bool.and_eq_true,decide_eq_true_eq];omega]
theorem ssimple_l (n:Int) (L:List Zcc) (h0:1≤n) (h8:n≤8) (hl:L.length≤40) (k:Nat) (hk:2 ^ 64≤k):ZS.l0 k L (L.length:Int) 0 n L=some (!(L.any fun x=>!Zbp n x)):=by
 have key:=ZaC L.length (fun k i=>ZS.l0 k L (L.length:Int) (i:Int) n L=some (!((L.drop i).any fun x=>!Zbp n x))) 0
  (fun k _=>by
   simp only[ZS.l0]
   rw[if_neg (by omega),List.drop_length];rfl)
  (fun k i _ hi ih=>by
   simp only[ZS.l0]
   rw[if_pos (by omega),if_pos (by omega),if_pos (by omega),Z6 hi (by omega),ih,ZaE hi z112,List.any_cons,rdK_nat]
   generalize L.getD i z112=y
   rw[← slink_ok h0 h8 y]
   simp only[inR_f,sivOk_f,Zi]
   cases inR y.f0 0 (wrap64 (n - 1)) <;> cases inR y.f1 0 (wrap64 (n - 1)) <;> cases ivOkB y.f2.f0 y.f2.f1 <;> rfl) 0 k (Nat.zero_le _) (by omega)
 simpa using key
theorem ZdN (n:Int) (L:List Zcc) (k:Nat) (hk:2 ^ 66≤k):ZS.f k n L=some (Zbh n L):=by
 obtain⟨k,rfl⟩:∃m,k=m+1:=⟨k - 1,by omega⟩
 unfold ZS.f Zbh
 simp only[inR_f,Zi,ZS.j0]
 by_cases h:1≤n∧n≤8
 ·rw[show inR n 1 8=true by unfold inR;simp[h.1,h.2],if_pos rfl,Zf (show ¬n<1 by omega),Zf (show ¬8<n by omega)]
  by_cases h2:(L.length:Int) > 40
  ·rw[Ze h2,if_pos rfl,Ze (show 40<L.length by omega)];rfl
  ·rw[Zf h2,if_neg (by simp),Zf (show ¬40<L.length by omega),ssimple_l n L h.1 h.2 (by omega) k (by omega)]
   simp
 ·rw[show inR n 1 8=false by unfold inR;rw[Bool.eq_false_iff];simp only[ne_eq,Bool.and_eq_true,decide_eq_true_eq];exact h,if_neg (by simp),if_pos trivial]
  by_cases h3:n<1
  ·rw[Ze h3];rfl
  ·rw[Zf h3,Ze (show 8<n by omega)];rfl
theorem simpleB_bd {n:Int} {L:List Zcc} (h:Zbh n L=true):1≤n∧n≤8∧L.length≤40∧∀x∈L,Zbp n x=true:=by
 unfold Zbh at h
 simp only[Bool.and_eq_true,Bool.not_eq_true',decide_eq_false_iff_not] at h
 obtain⟨h1,h2,h3,h4⟩:=h
 refine⟨by omega,by omega,by omega,fun x hx=>?_⟩
 have:=List.any_eq_false.1 h4 x hx
 simpa using this
theorem strong_l2 {ns:List ZZ} {ts:List PTie} {z e:Int} (hn:ns.length≤1048576) (hl:ts.length≤1048576):∀(d i:Nat) (acc:List Zcc),i+d=ns.length→acc.length+d≤4194304 →
  ∃r:Int×List Zcc×Bool,r.2.1.length≤1048576∧∀k,2 ^ 67+d<k→ZF.l2 k (ns.length:Int) (i:Int) ns ts z e acc=some r∧ZC.l2 k (ns.length:Int) (i:Int) ns ts z e acc=some r:=by
 intro d
 induction d with
 | zero=>
  intro i acc hi ha
  refine⟨if Zbh e acc=true then(e,acc,true) else(0,[],false),?_,fun k hk=>?_⟩
  ·split
   ·rename_i h
    have:=(simpleB_bd h).2.2.1
    show acc.length≤_
    omega
   ·exact Nat.zero_le _
  obtain⟨m,rfl⟩:∃m,k=m+1:=⟨k - 1,by omega⟩
  simp only[ZF.l2,ZC.l2]
  have h1:¬(i:Int)<(ns.length:Int):=by omega
  simp only[if_neg h1]
  rw[ZdN _ _ m (by omega),show ZbE.f e acc=some (Zbh e acc) from rfl,Zi]
  cases h:Zbh e acc with
  | true=>exact⟨rfl,rfl⟩
  | false=>exact⟨rfl,rfl⟩
 | succ d ih=>
  intro i acc hi ha
  have h1:(i:Int)<(ns.length:Int):=by omega
  have h2:acc.length<4398046511104:=by omega
  have hlen:(if Zbw ts (i:Int)≥0 then acc ++ [(⟨0,(i:Int),⟨0,0⟩⟩:Zcc)] else acc).length+d≤4194304:=by
   by_cases h:Zbw ts (i:Int)≥0
   ·rw[if_pos h,List.length_append];simp only[List.length_cons,List.length_nil];omega
   ·rw[if_neg h];omega
  obtain⟨r,hr,hr2⟩:=ih (i+1) _ (by omega) hlen
  refine⟨r,hr,fun k hk=>?_⟩
  obtain⟨m,rfl⟩:∃m,k=m+1:=⟨k - 1,by omega⟩
  have hr3:=hr2 m (by omega)
  simp only[ZF.l2,ZC.l2]
  simp only[if_pos h1]
  rw[Zct ns ts z (i:Int) (by omega) m (by omega),show ZaX.f ns ts z (i:Int)=some (Zbw ts (i:Int)) from rfl,Zi,Zi,Z6 (n:=ns.length) (by omega) (by omega)]
  by_cases h:Zbw ts (i:Int)≥0
  ·simp only[if_pos h,if_pos h2] at hr3 ⊢
   exact hr3
  ·simp only[if_neg h] at hr3 ⊢
   exact hr3
theorem tie_to {ns:List ZZ} {ts:List PTie} (h:ZaR ns ts=true) {j:Int} (h0:0≤j) (h1:j<ts.length):0≤(Zv ts j).f1∧(Zv ts j).f1<ns.length:=by
 obtain⟨m,rfl⟩:=Int.eq_ofNat_of_zero_le h0
 have:=ZcW h m (by omega)
 unfold Zcm Zbj at this
 simp only[ZbY,Bool.and_eq_true,decide_eq_true_eq] at this
 obtain⟨⟨⟨⟨⟨⟨_,a⟩,_⟩,_⟩,_⟩,_⟩,_⟩:=this
 omega
theorem Zdb {ns:List ZZ} {ts:List PTie} {z:Int} (ht:ZaR ns ts=true) (hn:ns.length≤1048576) (hl:ts.length≤1048576) (hp:ZbS ns ts 0 ns.length=true) (x:Int) (h0:0≤x) (h1:x<ns.length) :
  ∃r:Int×List Int,(∀k,2 ^ 66≤k→ZR.f k ns ts z x=some r∧ZT.f k ns ts z x=some (r.1,sLo ts r.2,sHi ts r.2,true)∧Z3.f k ns ts z x=some r.2)∧(∀j∈r.2,0≤j∧j<ts.length)∧r.2.length≤1048576:=by
 obtain⟨p,rfl⟩:=Int.eq_ofNat_of_zero_le h0
 have hq:=plFrom_at _ _ hp p (Nat.zero_le _) (by omega)
 unfold plAt at hq
 rw[Bool.and_eq_true] at hq
 obtain⟨r,hr⟩:=Option.isSome_iff_exists.1 hq.1
 obtain⟨_,_,c3,c4⟩:=(ZcQ (z:=z) ht hn hl p (by omega) (2 ^ 66) (by omega)).2.2 r hr
 refine⟨r,fun k hk=>?_,fun j hj=>freeIx_in (c3 j hj),by omega⟩
 obtain⟨a,b,c⟩:=ZcQ (z:=z) ht hn hl p (by omega) k hk
 rw[hr] at a b
 exact⟨a,b,(c r hr).1⟩
theorem strong_l1 {ns:List ZZ} {ts:List PTie} {z e:Int} (ht:ZaR ns ts=true) (hn:ns.length≤1048576) (hl:ts.length≤1048576) (hp:ZbS ns ts 0 ns.length=true):∀(d i:Nat) (acc:List Zcc),i+d=ts.length→acc.length+d+ns.length≤4194304 →
  ∃r:Int×List Zcc×Bool,r.2.1.length≤1048576∧∀k,2 ^ 68+d<k→ZF.l1 k ts (ts.length:Int) (i:Int) ns ts z e acc=some r∧ZC.l1 k ts (ts.length:Int) (i:Int) ns ts z e acc=some r:=by
 intro d
 induction d with
 | zero=>
  intro i acc hi ha
  obtain⟨r,hr,hr2⟩:=strong_l2 (z:=z) (e:=e) (ns:=ns) (ts:=ts) hn hl ns.length 0 acc (by omega) (by omega)
  refine⟨r,hr,fun k hk=>?_⟩
  obtain⟨m,rfl⟩:∃m,k=m+1:=⟨k - 1,by omega⟩
  simp only[ZF.l1,ZC.l1]
  have h1:¬(i:Int)<(ts.length:Int):=by omega
  simp only[if_neg h1]
  exact hr2 m (by omega)
 | succ d ih=>
  intro i acc hi ha
  have h1:(i:Int)<(ts.length:Int):=by omega
  have h0:(0:Int)≤(i:Int):=by omega
  have h2:acc.length<4398046511104:=by omega
  by_cases hf:(Zv ts (i:Int)).f4=true
  ·obtain⟨r,hr,hr2⟩:=ih (i+1) acc (by omega) (by omega)
   refine⟨r,hr,fun k hk=>?_⟩
   obtain⟨m,rfl⟩:∃m,k=m+1:=⟨k - 1,by omega⟩
   simp only[ZF.l1,ZC.l1]
   simp only[if_pos h1,if_pos h0,if_pos hf]
   rw[Z6 (n:=ts.length) (by omega) (by omega)]
   exact hr2 m (by omega)
  ·obtain⟨f0,f1⟩:=tie_from ht h0 h1
   obtain⟨g0,g1⟩:=tie_to ht h0 h1
   obtain⟨r1,k1,d1,e1⟩:=Zdb (z:=z) ht hn hl hp _ f0 f1
   obtain⟨r2,k2,d2,e2⟩:=Zdb (z:=z) ht hn hl hp _ g0 g1
   obtain⟨r,hr,hr2⟩:=ih (i+1) (acc ++ [⟨r1.1,r2.1,⟨wrap64 (wrap64 ((Zv ts (i:Int)).f2+sHi ts (Za0 r1.2 r2.2)) - sLo ts (Za0 r2.2 r1.2)),wrap64 (wrap64 ((Zv ts (i:Int)).f3+sLo ts (Za0 r1.2 r2.2)) - sHi ts (Za0 r2.2 r1.2))⟩⟩]) (by omega) (by rw[List.length_append];simp only[List.length_cons,List.length_nil];omega)
   refine⟨r,hr,fun k hk=>?_⟩
   obtain⟨m,rfl⟩:∃m,k=m+1:=⟨k - 1,by omega⟩
   obtain⟨a1,b1,c1⟩:=k1 m (by omega)
   obtain⟨a2,b2,c2⟩:=k2 m (by omega)
   simp only[ZF.l1,ZC.l1]
   simp only[if_pos h1,if_pos h0,if_neg hf]
   rw[Z6 (n:=ts.length) (by omega) (by omega),a1,a2,gap_f ns ts z _ _ r1.2 r2.2 m (by omega) c1 c2 d1 d2 e1 e2,b1,b2,Zi,Zi]
   simp only[Zi]
   rw[offs_f ns ts z r1.2 r2.2 d1 e1 m (by omega),offs_f ns ts z r2.2 r1.2 d2 e2 m (by omega)]
   simp only[Zi,if_pos h2]
   have q1:=gap_mod (fun j=>(Zv ts j).f2) (Za0 r2.2 r1.2) (Zv ts (i:Int)).f2 (sHi ts (Za0 r1.2 r2.2)) 0
   have q2:=gap_mod (fun j=>(Zv ts j).f3) (Za0 r2.2 r1.2) (Zv ts (i:Int)).f3 (sLo ts (Za0 r1.2 r2.2)) 0
   rw[Int.add_zero] at q1 q2
   rw[q1,q2]
   exact hr2 m (by omega)
theorem notIn_nil (c:List Int):Za0 c []=c:=by unfold Za0;simp
theorem strong_l0 {ns:List ZZ} {ts:List PTie} {z e:Int} (ht:ZaR ns ts=true) (hn:ns.length≤1048576) (hl:ts.length≤1048576) (hp:ZbS ns ts 0 ns.length=true):∀(d i:Nat) (acc:List Zcc),i+d=ns.length→acc.length+d≤1048576 →
  ∃r:Int×List Zcc×Bool,r.2.1.length≤1048576∧∀k,2 ^ 69+d<k→ZF.l0 k (ns.length:Int) (i:Int) ns ts z e acc=some r∧ZC.l0 k (ns.length:Int) (i:Int) ns ts z e acc=some r:=by
 intro d
 induction d with
 | zero=>
  intro i acc hi ha
  obtain⟨r,hr,hr2⟩:=strong_l1 (z:=z) (e:=e) ht hn hl hp ts.length 0 acc (by omega) (by omega)
  refine⟨r,hr,fun k hk=>?_⟩
  obtain⟨m,rfl⟩:∃m,k=m+1:=⟨k - 1,by omega⟩
  simp only[ZF.l0,ZC.l0]
  have h1:¬(i:Int)<(ns.length:Int):=by omega
  simp only[if_neg h1]
  exact hr2 m (by omega)
 | succ d ih=>
  intro i acc hi ha
  have h1:(i:Int)<(ns.length:Int):=by omega
  have h2:acc.length<4398046511104:=by omega
  obtain⟨r1,k1,d1,e1⟩:=Zdb (z:=z) ht hn hl hp (i:Int) (by omega) h1
  obtain⟨r,hr,hr2⟩:=ih (i+1) (acc ++ [⟨0,r1.1,⟨wrap64 (-(sLo ts r1.2)),wrap64 (z - sHi ts r1.2)⟩⟩]) (by omega) (by rw[List.length_append];simp only[List.length_cons,List.length_nil];omega)
  refine⟨r,hr,fun k hk=>?_⟩
  obtain⟨m,rfl⟩:∃m,k=m+1:=⟨k - 1,by omega⟩
  obtain⟨a1,b1,c1⟩:=k1 m (by omega)
  simp only[ZF.l0,ZC.l0]
  simp only[if_pos h1]
  rw[a1,b1,Z6 (n:=ns.length) (by omega) (by omega),Zi,Zi,offs_f ns ts z r1.2 [] d1 e1 m (by omega),notIn_nil]
  simp only[Zi,if_pos h2]
  exact hr2 m (by omega)
theorem strong_same {ns:List ZZ} {ts:List PTie} {z:Int} (hc:Zc2 ns ts) (k:Nat) (hk:2 ^ 70<k) :
  ∃r,ZF.f k ns ts z=some r∧ZC.f k ns ts z=some r∧r.2.1.length≤1048576:=by
 obtain⟨m,rfl⟩:∃m,k=m+1:=⟨k - 1,by omega⟩
 have hf:=fitN_of hc
 unfold ZF.f ZC.f
 rw[Zer ns ts z hf _ (by omega),Zi]
 cases hs:Za2 ns ts z with
 | false=>
  have hi:Zae.f (m+1) ns ts z=some false:=by
   unfold Zae.f
   rw[Zde hf,hs];rfl
  rw[hi,Zi,if_neg (by simp),if_neg (by simp)]
  simp only[ZC.j0,if_true]
  exact⟨_,rfl,rfl,Nat.zero_le _⟩
 | true=>
  rw[Zd6 hc hs _ (by omega),Zi,if_pos rfl,ZdM hc hs _ (by omega),Zi]
  cases hp:ZbS ns ts 0 ns.length with
  | false=>
   rw[if_neg (by simp)]
   simp only[ZC.j0,Bool.not_false,if_true]
   exact⟨_,rfl,rfl,Nat.zero_le _⟩
  | true=>
   rw[if_pos rfl]
   simp only[ZC.j0,Bool.not_true,Bool.false_eq_true,if_false]
   obtain⟨r,hr,hr2⟩:=strong_l0 (z:=z) (e:=(ns.length:Int)) (ZcU hs) hc.1 hc.2.1 hp ns.length 0 [] (by omega) (by have:=hc.1;simp only[List.length_nil];omega)
   exact⟨r,(hr2 (m+1) (by have:=hc.1;omega)).1,(hr2 m (by have:=hc.1;omega)).2,hr⟩
end Go.Proofs.Ytodfnelilhjoeaa.Pr
