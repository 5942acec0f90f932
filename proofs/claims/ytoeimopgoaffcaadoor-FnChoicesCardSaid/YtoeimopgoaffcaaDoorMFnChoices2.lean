/- By a program of this session. -/
import Derived.Test.YtoeimopgoaffcaaDoorMFnChoices1
set_option maxHeartbeats 8000000
namespace Go.Proofs.YtoeimopgoaffcaaDoor.Pr
open RowKit YtoeimopgoaffcaaDoorW.PrintWords YtoeimopgoaffcaaDoorW.PrintLast YtoeimopgoaffcaaDoorW.PrintMore
attribute [local go_sem] Zat Zar ZaG ZaF Zal Zak Zas Zaq
set_option linter.unusedVariables false
set_option linter.unusedSimpArgs false
def laws_FnChoices.Pure:Prop:=∀(y0:List Int),(fun l_:List Int=>l_.length≤maxLen∧∀x_∈l_,(fun n_:Int=>(Lit.int .u8 n_).wf=true) x_) y0→∃k,laws_FnChoices.f k y0=some true
end Go.Proofs.YtoeimopgoaffcaaDoor.Pr
set_option linter.unusedSimpArgs false
set_option linter.unusedVariables false
namespace Go.Proofs.YtoeimopgoaffcaaDoor.Pure
open RowKit Pr Ni YtoeimopgoaffcaaDoorW.PrintWords YtoeimopgoaffcaaDoorW.PrintMore
theorem smallC {ns:List ZJ} {ts:List PTie} {z:Int} (hs:Z6 ns ts z=true):ZbK ns ts:=by
 have hn:=ZaO hs
 refine⟨by have:=Zb8 hn;omega,by have:=Zdq (Zbn hs);omega,fun n hm=>?_⟩
 obtain⟨j,hj,rfl⟩:=List.mem_iff_getElem.1 hm
 have:=Zdd hn (j:=(j:Int)) (by omega) (by omega)
 rw[Zco,List.getD_eq_getElem?_getD,Zl hj] at this
 have h3:=Zde this.2.1
 simp only[Option.getD_some] at this h3
 exact⟨by omega,by omega⟩
theorem modC {x c:Int} (h0:0≤x) (hc:1≤c):0≤Int.tmod x c∧Int.tmod x c<c:=by
 rw[Int.tmod_eq_emod_of_nonneg h0]
 exact⟨Int.emod_nonneg _ (by omega),Int.emod_lt_of_pos _ (by omega)⟩
theorem same_l {a b:List Int} (hl:a.length=b.length) (ha:a.length≤1048576):∀(d i k:Nat),i+d=a.length→(∀j,j<i→a.getD j 0=b.getD j 0)→d<k→Z4.l0 k b a (a.length:Int) (i:Int)=some (decide (a=b))
 | 0,i,k,hi,he,hk=>by
  obtain⟨q,rfl⟩:∃q,k=q+1:=⟨k - 1,by omega⟩
  simp only[Z4.l0]
  rw[if_neg (by omega),Ze]
  refine List.ext_getElem hl fun j h1 h2=>?_
  have:=he j (by omega)
  rw[List.getD_eq_getElem?_getD,List.getD_eq_getElem?_getD,Zl h1,Zl h2] at this
  exact this
 | d+1,i,k,hi,he,hk=>by
  obtain⟨q,rfl⟩:∃q,k=q+1:=⟨k - 1,by omega⟩
  simp only[Z4.l0]
  rw[if_pos (by omega),if_pos (by omega),if_pos (by omega),if_pos (by omega),Zbq,Zbq,show wrap64 ((i:Int)+1)=((i+1:Nat):Int) by rw[Z1 (by omega) (by omega)];omega]
  by_cases h:a.getD i 0=b.getD i 0
  ·rw[if_pos h]
   exact same_l hl ha d (i+1) q (by omega) (fun j hj=>if e:j=i then e ▸ h else he j (by omega)) (by omega)
  ·rw[if_neg h,Zf (fun e=>h (by rw[e]))]
theorem same_f {a b:List Int} (ha:a.length≤1048576) (k:Nat) (hk:2 ^ 64≤k):Z4.f k a b=some (decide (a=b)):=by
 unfold Z4.f
 by_cases h:(a.length:Int)=(b.length:Int)
 ·rw[if_pos h]
  exact same_l (by omega) ha a.length 0 k (by omega) (fun j hj=>by omega) (by omega)
 ·rw[if_neg h,Zf (fun e=>h (by rw[e]))]
section
variable {ns:List ZJ} {ts:List PTie} {z:Int}
theorem happen_same (hd:DShow ns ts z) (hc:ZbK ns ts) {ln vs:List Int} (hch:ZaN ns ts ln vs=true) {i:Nat} (hi:i<ns.length) (k:Nat) (hk:2 ^ 67≤k):∃b v,Zbm.f k ns ts z ln vs (i:Int)=some b∧ZM.f k ((Zy ns (i:Int)).f1) vs=some v∧(b != (v == 1))=false:=by
 have h:Zbd ns ts z ln vs=true:=by unfold Zbd;rw[hd.ok,hch];rfl
 have hv:=Zcb hch
 have hl:labB ((Zy ns (i:Int)).f1)=true:=lbL_ok (ZaO hd.ok) hi
 have h3:=Zde hl
 refine⟨_,_,Zd6 ln vs _ hc (by have:=Zd4 hv;omega) k (by omega),ZcD _ vs (by omega) k (by omega),?_⟩
 unfold Zd9 labStB hapB
 rw[h,hl,hv,show Zbb ns.length (i:Int)=true by unfold Zbb;rw[Ze (by omega),Ze (by omega)];rfl]
 simp
theorem choices_l (hd:DShow ns ts z) (hc:ZbK ns ts) {x y:Int} {same:Bool} (hsame:(same == (x == y))=true) {ln vs:List Int} (hch:ZaN ns ts ln vs=true):∀(d i k:Nat),i+d=ns.length→2 ^ 68+d<k →
  laws_FnChoices.l0 k x y same true ns (ns.length:Int) (i:Int) ns ts z ln vs (ns.length:Int) (ZbW ns ts z ln vs)=some true
 | 0,i,k,hi,hk=>by
  obtain⟨q,rfl⟩:∃q,k=q+1:=⟨k - 1,by omega⟩
  have hv:=Zd4 (Zcb hch)
  have h:Zbd ns ts z ln vs=true:=by unfold Zbd;rw[hd.ok,hch];rfl
  simp only[laws_FnChoices.l0]
  rw[if_neg (by omega),if_pos hsame]
  simp only[if_true]
  rw[Zcm _ _ q (by omega),Zi,Zd7 hc (by omega) q (by omega),Zi]
  unfold mastB ZcE fin2
  rw[if_pos h,if_pos (ZdV hd.ok hd.lab hd.len hch)]
  simp
 | d+1,i,k,hi,hk=>by
  obtain⟨q,rfl⟩:∃q,k=q+1:=⟨k - 1,by omega⟩
  obtain⟨b,v,e1,e2,e3⟩:=happen_same hd hc hch (show i<ns.length by omega) q (by omega)
  simp only[laws_FnChoices.l0]
  have h7:=hc.1
  rw[if_pos (by omega),if_pos (by omega),if_pos (by omega),e1,Zi,e2,Zi,e3,if_neg (by simp),show wrap64 ((i:Int)+1)=((i+1:Nat):Int) by rw[Z1 (by omega) (by omega)];omega]
  exact choices_l hd hc hsame hch d (i+1) q (by omega) (by omega)
end
theorem FnChoices:laws_FnChoices.Pure:=by
 rintro b ⟨_,_⟩
 refine⟨2 ^ 70+1+1,?_⟩
 unfold laws_FnChoices.f
 by_cases h:(b.length:Int) > 1048576
 ·rw[if_pos h]
 rw[if_neg h]
 have hb:b.length≤1048576:=by omega
 obtain⟨ns,ts,z,e1,hd⟩:=show_f hb (2 ^ 70+1+1) (by omega)
 obtain⟨x,e2,x0,x1⟩:=num_f hb 40 (by omega) (2 ^ 70+1+1) (by omega)
 obtain⟨y,e3,y0,y1⟩:=num_f hb 42 (by omega) (2 ^ 70+1+1) (by omega)
 have hs:=hd.ok
 have hc:=smallC hs
 obtain⟨hcnt,p1,p2,q1,q2⟩:=Zed hs hd.len
 have hpp:1≤Za0 ts (Z2 ts) * pwV (Zad ns) 3 1:=Nat.mul_pos p1 q1
 have hc1:1≤ZaJ ns ts z:=by omega
 obtain⟨t0,t1⟩:=modC x0 hc1
 obtain⟨s0,s1⟩:=modC y0 hc1
 have hlen:∀n:Int,(Z5 ns ts z n).2.1.length≤1048576:=fun n=>by have:=(Zdp ns ts z n).2;omega
 rw[e1,Zi]
 dsimp only
 rw[Zcn (fitN_of hc) hc.2.1 _ (by omega),Zi,e2,Zi,if_neg (by omega),e3,Zi,Zch _ hc _ (by omega),Zi,Zch _ hc _ (by omega),Zi,Zch _ hc _ (by omega),Zi]
 have ok1:=Zd1 hs hd.len t0 t1
 have ok2:=Zd1 hs hd.len s0 s1
 have inj:=choiceAt_inj hs hd.len t0 t1 s0 s1
 rw[show(Z5 ns ts z (Int.tmod x (ZaJ ns ts z))).2.2=true by rw[Zb1 hs hd.len t0 t1],show(Z5 ns ts z (Int.tmod y (ZaJ ns ts z))).2.2=true by rw[Zb1 hs hd.len s0 s1],show(Z5 ns ts z (ZaJ ns ts z)).2.2=false by unfold Z5;rw[if_neg (by omega)],if_pos rfl,if_pos rfl,if_neg (by simp)]
 have h1:Zbd ns ts z (Z5 ns ts z (Int.tmod x (ZaJ ns ts z))).1 (Z5 ns ts z (Int.tmod x (ZaJ ns ts z))).2.1=true:=by unfold Zbd;rw[hs,ok1];rfl
 have h2:Zbd ns ts z (Z5 ns ts z (Int.tmod y (ZaJ ns ts z))).1 (Z5 ns ts z (Int.tmod y (ZaJ ns ts z))).2.1=true:=by unfold Zbd;rw[hs,ok2];rfl
 rw[ZbY _ _ hc (hlen _) _ (by omega),h1,Zi,if_pos rfl,ZbY _ _ hc (hlen _) _ (by omega),h2,Zi]
 have la:=(Zdp ns ts z (Int.tmod x (ZaJ ns ts z))).1
 have lh:=hlen (Int.tmod x (ZaJ ns ts z))
 have l2:=hc.2.1
 generalize Int.tmod x (ZaJ ns ts z)=n at ok1 inj h1 la lh t0 t1 ⊢
 generalize Int.tmod y (ZaJ ns ts z)=m at ok2 inj h2 s0 s1 ⊢
 have fin:∀same:Bool,(same == (n == m))=true→laws_FnChoices.j1 (2 ^ 70+1) n m same ns ts z (Z5 ns ts z n).1 (Z5 ns ts z n).2.1=some true:=fun same hsm=>by
  simp only[laws_FnChoices.j1]
  rw[ZcA hc lh _ (by omega),Zi]
  have e:ZcE ns ts z (Z5 ns ts z n).1 (Z5 ns ts z n).2.1=((ns.length:Int),ZbW ns ts z (Z5 ns ts z n).1 (Z5 ns ts z n).2.1,true):=by
   unfold ZcE fin2
   rw[if_pos h1,if_pos (ZdV hd.ok hd.lab hd.len ok1)]
  rw[e]
  exact choices_l hd hc hsm ok1 ns.length 0 (2 ^ 70) (by omega) (by have:=hc.1;omega)
 simp only[laws_FnChoices.j0]
 rw[if_neg (by simp),same_f (by omega) _ (by omega),Zi]
 by_cases hA:(Z5 ns ts z n).1=(Z5 ns ts z m).1
 ·rw[if_pos (Ze hA),same_f lh _ (by omega),Zi]
  refine fin _ ?_
  by_cases hB:(Z5 ns ts z n).2.1=(Z5 ns ts z m).2.1
  ·rw[Ze hB,inj hA hB];simp
  ·rw[Zf hB,show(n == m)=false from beq_eq_false_iff_ne.2 (fun e=>hB (by rw[e]))];rfl
 ·rw[if_neg (by simpa using hA)]
  refine fin _ ?_
  rw[show(n == m)=false from beq_eq_false_iff_ne.2 (fun e=>hA (by rw[e]))];rfl
end Go.Proofs.YtoeimopgoaffcaaDoor.Pure
