/- The texts of one claim, put together by a program of this session. -/
import Derived.Test.YthphnhmabieflabBWic1x2
import Derived.Test.YthphnhmabieflabBWic1x8
set_option linter.unusedVariables false
set_option linter.unusedSimpArgs false
namespace Go.Proofs.Ythphnhmabieflab.Pr
open Go.RowKit Go.Proofs.YthphnhmabieflabW.PrintWords Go.Proofs.Ythphnhmabieflab.Ni
def Za8 (L:List Zaq):Prop:=∀x∈L,(x.f2.f1=1000000∨-1000≤x.f2.f1∧x.f2.f1≤1000)∧(x.f2.f0=-1000000∨-1000≤x.f2.f0∧x.f2.f0≤1000)
theorem Za8.w:∀{L:List Zaq},Za8 L→Zby (Zaa L)
 | [],_,e,he=>by cases he
 | x :: t,h,e,he=>by
  rw[Zaa] at he
  rcases List.mem_append.1 he with he|he
  ·obtain⟨h1,h2⟩:=h x (by simp)
   unfold ZbV at he
   rcases List.mem_append.1 he with he|he
   ·split at he
    ·cases he
    ·rw[List.mem_singleton] at he;subst he
     simp only;omega
   ·split at he
    ·cases he
    ·rw[List.mem_singleton] at he;subst he
     simp only
     rw[Zaf (by omega) (by omega)];omega
  ·exact Za8.w (fun y hy=>h y (by simp[hy])) e he
theorem ZbP:∀(L M:List Zaq),Zaa (L ++ M)=Zaa L ++ Zaa M
 | [],M=>rfl
 | x :: t,M=>by rw[List.cons_append,Zaa,Zaa,ZbP t M,List.append_assoc]
theorem Feas.app {E F:List ZU} {q:Nat→Int}:Feas (E ++ F) q↔Feas E q∧Feas F q:=
 ⟨fun h=>⟨fun e he=>h e (List.mem_append.2 (.inl he)),fun e he=>h e (List.mem_append.2 (.inr he))⟩,fun h e he=>(List.mem_append.1 he).elim (h.1 e) (h.2 e)⟩
theorem ZcR {n:Int} {L:List Zaq} (hs:Zad n L=true) (hw:Za8 L):ZbK n L=true↔∃q,Feas (Zaa L) q:=by
 have hg:=ZcP hs
 obtain⟨g0,g8,g80,gin⟩:=ZbN hg
 obtain⟨s1,_,_,_⟩:=Zbz hs
 obtain⟨n,rfl⟩:=Int.eq_ofNat_of_zero_le g0
 have hE:Zar (Zaa L) n:=fun e he=>by have:=gin e he;omega
 unfold ZbK ncF
 rw[hs,if_pos hg,Bool.true_and,Int.toNat_natCast,List.isEmpty_iff]
 constructor
 ·intro h
  exact nc_pot hE (Za8.w hw).w (by omega) (by omega) (by omega) h
 ·rintro⟨q,hq⟩
  exact pot_nc hE (Za8.w hw).w (by omega) (by omega) (by omega) hq
theorem ZcW (n:Nat):∀(C:List Int) (i:Nat),(∀j,j<C.length→tcell n (i+j) (C.getD j 0)=true)→Zbw n i C=true
 | [],_,_=>rfl
 | x :: t,i,h=>by
  rw[Zbw,Bool.and_eq_true]
  refine⟨by have:=h 0 (by simp);simpa using this,ZcW n t (i+1) (fun j hj=>?_)⟩
  have:=h (j+1) (by simpa using hj)
  rw[show i+(j+1)=i+1+j by omega] at this
  simpa using this
theorem rowsB_at {R:Nat→List Int} {n:Nat} (hR:∀i,(R i).length=n):∀(d i0 i j:Nat),i<d→j<n→(Zbc R i0 d).getD (i * n+j) 0=clB ((R (i0+i)).getD j 0)
 | 0,_,_,_,h,_=>by omega
 | d+1,i0,0,j,_,hj=>by
  show(Zbc R i0 (d+1)).getD (0 * n+j) 0=clB ((R i0).getD j 0)
  rw[Zbc,Nat.zero_mul,Nat.zero_add,List.getD_eq_getElem?_getD,List.getElem?_append_left (by simpa [hR] using hj),List.getElem?_map,List.getD_eq_getElem?_getD,Zk (by rw[hR];exact hj)]
  rfl
 | d+1,i0,i+1,j,hi,hj=>by
  have e1:((R i0).map clB).length=n:=by simp[hR]
  have e2:(i+1) * n=n+i * n:=by rw[Nat.succ_mul];omega
  rw[Zbc,List.getD_eq_getElem?_getD,List.getElem?_append_right (by rw[e1];omega),e1,show(i+1) * n+j - n=i * n+j by omega,← List.getD_eq_getElem?_getD,rowsB_at hR d (i0+1) i j (by omega) hj,show i0+1+i=i0+(i+1) by omega]
def ZaQ (u:KSt) (j:Nat):Int:=if u.2.1.getD j false=true then u.1.getD j 0 else 1000000
theorem cellU_f {E:List ZU} {N a:Nat} {u:KSt} (h:DS E N a u) {j:Nat} (hj:j<N):clB ((finB u).getD j 0)=ZaQ u j:=by
 rw[finB_at (by rw[h.l1];exact hj)]
 have:=h.bd j
 unfold ZaQ clB
 split <;> omega
theorem winOf {n:Nat} {L:List Zaq} {e:Nat} (hc:ZbK (n:Int) L=true) (hw:Za8 L) (he:e<n) (k:Nat) (hk:2 ^ 67≤k) :
  ∃lo hi:Int,Zaz.f k (n:Int) L (e:Int)=some (lo,hi,true)∧Zbq lo hi=true∧(∀x:Int,((lo=-1000000∨lo≤x)∧(hi=1000000∨x≤hi))↔∃q,Feas (Zaa L) q∧q e=q 0+x):=by
 have hs:Zad n L=true:=by unfold ZbK at hc;simp only[Bool.and_eq_true] at hc;exact hc.1
 have hg:=ZcP hs
 obtain⟨g0,g8,g80,gin⟩:=ZbN hg
 obtain⟨s1,_,_,_⟩:=Zbz hs
 have hE:Zar (Zaa L) n:=fun e he=>by have:=gin e he;omega
 have hww:=Za8.w hw
 obtain⟨p,hp⟩:=(ZcR hs hw).1 hc
 have hnc:ncB n (Zaa L)=[]:=by
  unfold ZbK ncF at hc
  rw[hs,if_pos hg,Bool.true_and] at hc
  exact List.isEmpty_iff.1 hc
 have hall:∀a:Nat,a<n→∃u,isf (Zaa L) (n+1) (kst0 n a)=some u∧DS (Zaa L) n a u:=fun a ha=>by
  have hst:=bf_still (a:=a) hE hww.w (by omega) (by omega) (by omega) p hp
  obtain⟨m,hm⟩:∃m,n=m+1:=⟨n - 1,by omega⟩
  rw[hm] at hst
  obtain⟨u,hu⟩:=isf_of m _ hst
  rw[← hm] at hu
  exact⟨u,Zce hu,DS.of hE hww (by omega) ha (show n+1≤9 by omega) (Zce hu) hp⟩
 have hch:∃U:Nat→KSt,∀a,a<n→isf (Zaa L) (n+1) (kst0 n a)=some (U a)∧DS (Zaa L) n a (U a):=
  ⟨fun a=>if h:a<n then(hall a h).choose else kst0 n a,fun a ha=>by dsimp only;rw[dif_pos ha];exact(hall a ha).choose_spec⟩
 obtain⟨U,hU⟩:=hch
 obtain⟨R,hRd⟩:∃R:Nat→List Int,∀a,R a=if a<n then finB (U a) else List.replicate n 0:=⟨_,fun _=>rfl⟩
 have hRl:∀a,(R a).length=n:=fun a=>by
  rw[hRd]
  split
  ·rename_i h;rw[Zci,(hU a h).2.l1]
  ·simp
 have hp1:=pclose_l n (Zaa L) R (by omega) hRl (fun i hi=>by
  unfold Zag.f
  rw[if_pos ⟨hg,ZbF.2 ⟨by omega,by omega⟩⟩,Int.toNat_natCast]
  unfold sfB
  rw[Int.toNat_natCast,Int.toNat_natCast,(hU i hi).1,hRd,if_pos hi]) n 0 k [] (by omega) (by omega) (by simp)
 have hlen:=rowsB_len R n hRl n 0
 have hat:∀i j,i<n→j<n→(Zbc R 0 n).getD (i * n+j) 0=ZaQ (U i) j:=fun i j hi hj=>by
  rw[rowsB_at hRl n 0 i j hi hj,Nat.zero_add,hRd,if_pos hi,cellU_f (hU i hi).2 hj]
 have hcu:∀i j,i<n→-740000≤ZaQ (U i) j∧ZaQ (U i) j≤1000000:=fun i j hi=>by
  have:=(hU i hi).2.bd j
  unfold ZaQ
  split <;> omega
 have hn0:0<n:=by omega
 have htab:Zbw n 0 (Zbc R 0 n)=true:=ZcW n _ 0 (fun j hj=>by
  rw[hlen] at hj
  have hd:j / n<n:=Nat.div_lt_of_lt_mul hj
  have hm:j % n<n:=Nat.mod_lt _ hn0
  have hjj:j=j / n * n+j % n:=by have:=Nat.div_add_mod j n;rw[Nat.mul_comm] at this;omega
  have hv:=hat (j / n) (j % n) hd hm
  rw[← hjj] at hv
  have hb:=hcu (j / n) (j % n) hd
  rw[Nat.zero_add,hv]
  unfold tcell
  rw[Zd (show(-1000000:Int)≤ZaQ (U (j / n)) (j % n) by omega),Zd (show ZaQ (U (j / n)) (j % n)≤1000000 by omega),Bool.true_and,Bool.true_and]
  by_cases h0:j % (n+1)=0
  ·have hdm:j / n=j % n:=by
    have h2:=(diag (n:=n) (i:=j) (by omega) (by omega) hj).2 h0
    rw[show Int.tdiv (j:Int) (n:Int)=((j / n:Nat):Int) from rfl,show Int.tmod (j:Int) (n:Int)=((j % n:Nat):Int) from rfl] at h2
    revert h2 hd hm
    generalize j / n=q
    generalize j % n=r
    intro hd hm h2
    rw[Zaf (by omega) (by omega)] at h2
    omega
   have:ZaQ (U (j / n)) (j % n)=0:=by
    rw[← hdm]
    unfold ZaQ
    rw[if_pos (hU _ hd).2.ka,(hU _ hd).2.da]
   rw[this];simp
  ·rw[Ze h0];rfl)
 have c1:=hat 0 e hn0 he
 have c2:=hat e 0 he hn0
 have b1:=hcu 0 e hn0
 have b2:=hcu e 0 he
 have hiff:∀x:Int,((-(ZaQ (U e) 0)=-1000000∨-(ZaQ (U e) 0)≤x)∧(ZaQ (U 0) e=1000000∨x≤ZaQ (U 0) e))↔∃q,Feas (Zaa L) q∧q e=q 0+x:=fun x=>by
  have d1:=(hU 0 hn0).2.bd e
  have d2:=(hU e he).2.bd 0
  constructor
  ·rintro⟨h1,h2⟩
   refine win_of hp (hU 0 hn0).2 (hU e he).2 (fun h=>?_) (fun h=>?_)
   ·unfold ZaQ at h2;rw[if_pos h] at h2;omega
   ·unfold ZaQ at h1;rw[if_pos h] at h1;omega
  ·rintro⟨q,hq,hb⟩
   obtain⟨h1,h2⟩:=of_win hq hb (hU 0 hn0).2 (hU e he).2
   unfold ZaQ
   refine⟨?_,?_⟩
   ·split
    ·rename_i h;right;have:=h2 h;omega
    ·left;rfl
   ·split
    ·rename_i h;right;exact h1 h
    ·left;rfl
 have hiv:Zbq (-(ZaQ (U e) 0)) (ZaQ (U 0) e)=true:=by
  have:=(hiff (p e - p 0)).2 ⟨p,hp,by omega⟩
  unfold Zbq
  simp only[Bool.and_eq_true,decide_eq_true_eq,Bool.not_eq_true',decide_eq_false_iff_not]
  omega
 refine⟨-(ZaQ (U e) 0),ZaQ (U 0) e,?_,hiv,hiff⟩
 ·unfold Zaz.f ZD.f
  rw[ZbG (n:Int) L k (by omega),gofB,if_pos hs,Zh]
  simp only[ZaN.f,Zh]
  rw[if_pos hg,show(0:Int)=((0:Nat):Int) from rfl,hp1,Zh]
  simp only[List.nil_append,Z0.f,Zh]
  rw[if_pos trivial,if_pos hs]
  have hw1:ZC.f k (n:Int) (Zbc R 0 n) ((0:Nat):Int) (e:Int)=some (-(ZaQ (U e) 0),ZaQ (U 0) e,true):=by
   unfold ZC.f
   rw[ptab_f n _ (by omega) hlen _ (by omega),htab,Zh]
   have i0:inN (n:Int) ((0:Nat):Int)=true:=ZbF.2 ⟨by omega,by omega⟩
   have ie:inN (n:Int) (e:Int)=true:=ZbF.2 ⟨by omega,by omega⟩
   rw[inN_f,inN_f,i0,ie,if_pos rfl,Zh,if_pos rfl,Zh]
   obtain⟨km,hkm⟩:∃m,k=m+1:=⟨k - 1,by omega⟩
   rw[hkm,ZC.j0]
   have h1:=cellI (by omega) ie i0
   have h2:=cellI (by omega) i0 ie
   have m1:e * n+0<n * n:=by
    have:e * n+n≤n * n:=by rw[← Nat.succ_mul];exact Nat.mul_le_mul_right n he
    omega
   have hb':n * n≤64:=Nat.le_trans (Nat.mul_le_mul (show n≤8 by omega) (show n≤8 by omega)) (by decide)
   have w1:wrap64 (wrap64 ((e:Int) * (n:Int))+((0:Nat):Int))=((e * n+0:Nat):Int):=by
    rw[show(e:Int) * (n:Int)=((e * n:Nat):Int) by simp,Zaf (i:=((e * n:Nat):Int)) (by omega) (by omega),Zaf (by omega) (by omega)];omega
   have w2:wrap64 (wrap64 (((0:Nat):Int) * (n:Int))+(e:Int))=((0 * n+e:Nat):Int):=by
    rw[show((0:Nat):Int) * (n:Int)=((0 * n:Nat):Int) by simp,Zaf (i:=((0 * n:Nat):Int)) (by omega) (by omega),Zaf (by omega) (by omega)];omega
   unfold ZaA.f ZaX.f
   rw[if_neg (by simp),if_pos h1.1,if_pos (by rw[hlen];exact h1.2),if_pos h2.1,if_pos (by rw[hlen];exact h2.2)]
   rw[w1,w2,Zbe,Zbe,c2,c1]
   simp only[Zh,if_true,ivOk_f]
   rw[Zaf (by omega) (by omega),hiv]
   rfl
  rw[hw1];rfl
structure DB (N a:Nat) (B:Int) (s:KSt):Prop where
 l1:s.1.length=N
 l2:s.2.1.length=N
 ka:s.2.1.getD a false=true
 bd:∀v,-B≤s.1.getD v 0∧s.1.getD v 0≤B
theorem DB.step {N a:Nat} {B:Int} {s:KSt} (h:DB N a B s) (h0:0≤B) (hB:B≤1000000000) {e:ZU} (hin:0≤e.f0∧e.f0<N∧0≤e.f1∧e.f1<N) (hw : -1000≤e.f2∧e.f2≤1000):DB N a (B+1000) (ZaI s e):=by
 obtain⟨d,kn,c⟩:=s
 obtain⟨l1,l2,ka,bd⟩:=h
 dsimp only at l1 l2 ka bd
 have b0:=bd e.f0.toNat
 have e0:rd d e.f0=d.getD e.f0.toNat 0:=rfl
 have hww:wrap64 (rd d e.f0+e.f2)=d.getD e.f0.toNat 0+e.f2:=by rw[e0];exact ZbT (by omega) (by omega)
 unfold ZaI
 dsimp only
 rw[hww]
 split
 ·refine⟨by simpa using l1,by simpa using l2,ZbB ka,fun v=>?_⟩
  by_cases cv:e.f1.toNat=v
  ·rw[cv,getD_set_eq (by rw[l1];omega)];omega
  ·rw[getD_set_ne cv];have:=bd v;omega
 ·exact⟨l1,l2,ka,fun v=>by have:=bd v;show -(B+1000)≤d.getD v 0∧d.getD v 0≤B+1000;omega⟩
theorem DB.rnd {N a:Nat}:∀(E:List ZU) (s:KSt) (B:Int),Zar E N→Zby E→DB N a B s→0≤B→B+(E.length:Int) * 1000≤1000000000→DB N a (B+(E.length:Int) * 1000) (krnd E s)
 | [],s,B,_,_,h,_,_=>⟨h.l1,h.l2,h.ka,fun v=>by have:=h.bd v;show -(B+((0:Nat):Int) * 1000)≤s.1.getD v 0∧s.1.getD v 0≤B+((0:Nat):Int) * 1000;omega⟩
 | e :: t,s,B,hE,hw,h,h0,hB=>by
  rw[List.length_cons] at hB ⊢
  have h1:=h.step h0 (by omega) (hE e (by simp)) (hw e (by simp))
  have h2:=DB.rnd t (ZaI s e) (B+1000) (fun x hx=>hE x (by simp[hx])) (fun x hx=>hw x (by simp[hx])) h1 (by omega) (by omega)
  exact⟨h2.l1,h2.l2,h2.ka,fun v=>by have:=h2.bd v;show -(B+((t.length+1:Nat):Int) * 1000)≤(krnd t (ZaI s e)).1.getD v 0∧(krnd t (ZaI s e)).1.getD v 0≤B+((t.length+1:Nat):Int) * 1000;omega⟩
theorem DB.isf {E:List ZU} {N a:Nat} (hE:Zar E N) (hw:Zby E) (hl:E.length≤82):∀(m:Nat) (s u:KSt) (B:Int),Pr.isf E m s=some u→DB N a B s→0≤B→B+(m:Int) * 82000≤1000000000→DB N a (B+(m:Int) * 82000) u
 | 0,_,_,_,h,_,_,_=>by cases h
 | m+1,s,u,B,h,hd,h0,hB=>by
  have h1:=DB.rnd E (s.1,s.2.1,false) B hE hw ⟨hd.l1,hd.l2,hd.ka,hd.bd⟩ h0 (by omega)
  have h2:DB N a (B+82000) (krnd E (s.1,s.2.1,false)):=⟨h1.l1,h1.l2,h1.ka,fun v=>by have:=h1.bd v;omega⟩
  rw[Pr.isf] at h
  try dsimp only at h
  split at h
  ·cases h
   exact⟨h2.l1,h2.l2,h2.ka,fun v=>by have:=h2.bd v;omega⟩
  ·have h3:=DB.isf hE hw hl m _ u (B+82000) h h2 (by omega) (by omega)
   exact⟨h3.l1,h3.l2,h3.ka,fun v=>by have:=h3.bd v;omega⟩
def minF (f:Nat→Int) (B:Int):Nat→Int
 | 0=>B
 | m+1=>min (f m) (minF f B m)
theorem minF_le (f:Nat→Int) (B:Int):∀(m i:Nat),i<m→minF f B m≤f i
 | m+1,i,h=>by
  by_cases e:i=m
  ·subst e;show min _ _≤_;omega
  ·have:=minF_le f B m i (by omega)
   show min _ _≤_;omega
theorem minF_eq (f:Nat→Int) (B:Int):∀(m:Nat),minF f B m=B∨∃i,i<m∧minF f B m=f i
 | 0=>.inl rfl
 | m+1=>by
  show min (f m) (minF f B m)=B∨∃i,i<m+1∧min (f m) (minF f B m)=f i
  by_cases c:f m≤minF f B m
  ·right;exact⟨m,by omega,by omega⟩
  ·rcases minF_eq f B m with h|⟨i,hi,h⟩
   ·left;omega
   ·right;exact⟨i,by omega,by omega⟩
theorem all_pot {E:List ZU} {n:Nat} (hE:Zar E n) (hw:Zby E) (hl:E.length≤82) (h8:n≤8) (h:∀i,i<n→∃u,isf E (n+1) (kst0 n i)=some u):∃p,Feas E p:=by
 have hch:∃U:Nat→KSt,∀a,a<n→isf E (n+1) (kst0 n a)=some (U a):=⟨fun a=>if h':a<n then(h a h').choose else kst0 n a,fun a ha=>by dsimp only;rw[dif_pos ha];exact(h a ha).choose_spec⟩
 obtain⟨U,hU⟩:=hch
 have hB:∀a,a<n→DB n a 738000 (U a):=fun a ha=>by
  have h1:=DB.isf (a:=a) hE hw hl (n+1) (kst0 n a) (U a) 0 (hU a ha) (by
   refine⟨by simp[kst0],by simp[kst0],ZbA (by simpa using ha) _ _,fun v=>?_⟩
   unfold kst0;simp only;rw[List.getD_eq_getElem?_getD,List.getElem?_replicate];split <;> simp) (by omega) (by omega)
  exact⟨h1.l1,h1.l2,h1.ka,fun v=>by have:=h1.bd v;omega⟩
 refine⟨fun v=>minF (fun i=>if (U i).2.1.getD v false=true then(U i).1.getD v 0 else 1000000) 1000000 n,fun e he=>?_⟩
 have hin:=hE e he
 have hwe:=hw e he
 dsimp only
 have ha:e.f0.toNat<n:=by omega
 have h0:=minF_le (fun i=>if (U i).2.1.getD e.f0.toNat false=true then(U i).1.getD e.f0.toNat 0 else 1000000) 1000000 n e.f0.toNat ha
 simp only[(hB _ ha).ka,if_true] at h0
 have hb0:=(hB _ ha).bd e.f0.toNat
 rcases minF_eq (fun i=>if (U i).2.1.getD e.f0.toNat false=true then(U i).1.getD e.f0.toNat 0 else 1000000) 1000000 n with h1|⟨i,hi,h1⟩
 ·omega
 ·rw[h1]
  by_cases hk:(U i).2.1.getD e.f0.toNat false=true
  ·rw[if_pos hk]
   have h3:=Zcu _ _ _ (hU i hi) e he
   have r0:rb (U i).2.1 e.f0=(U i).2.1.getD e.f0.toNat false:=rfl
   have r1:rb (U i).2.1 e.f1=(U i).2.1.getD e.f1.toNat false:=rfl
   have e0:rd (U i).1 e.f0=(U i).1.getD e.f0.toNat 0:=rfl
   have e1:rd (U i).1 e.f1=(U i).1.getD e.f1.toNat 0:=rfl
   have b0:=(hB i hi).bd e.f0.toNat
   rw[r0,r1,hk,e0,e1,ZbT (by omega) (by omega)] at h3
   have h4:=minF_le (fun i=>if (U i).2.1.getD e.f1.toNat false=true then(U i).1.getD e.f1.toNat 0 else 1000000) 1000000 n i hi
   cases hk1:(U i).2.1.getD e.f1.toNat false with
   | false=>exact absurd ⟨rfl,.inl hk1⟩ h3
   | true=>
    simp only[hk1,if_true] at h4
    have:¬((U i).1.getD e.f0.toNat 0+e.f2<(U i).1.getD e.f1.toNat 0):=fun hc=>h3 ⟨rfl,.inr hc⟩
    omega
  ·rw[if_neg hk] at h1
   omega
theorem close1 (n:Nat) (E:List ZU) (r:List Int) (hr:r.length=n) (hn:n≤8) (i:Nat) (hi:i<8):∀(d j K:Nat) (acc:List Int),j+d=n→d<K→acc.length+d≤100000→ZD.l1 K (i:Int) r (r.length:Int) (j:Int) (n:Int) E (n:Int) acc=ZD.l0 (K - d - 1) ((i+1:Nat):Int) (n:Int) E (n:Int) (acc ++ (r.drop j).map clB)
 | 0,j,K,acc,hj,hK,ha=>by
  obtain⟨m,rfl⟩:∃m,K=m+1:=⟨K - 1,by omega⟩
  simp only[ZD.l1]
  rw[if_neg (by rw[hr];omega),Za2 (n:=100) (by omega) (by omega),List.drop_of_length_le (by rw[hr];omega)]
  simp
 | d+1,j,K,acc,hj,hK,ha=>by
  obtain⟨m,rfl⟩:∃m,K=m+1:=⟨K - 1,by omega⟩
  simp only[ZD.l1]
  rw[if_pos (by rw[hr];omega),if_pos (by omega),if_pos (by rw[hr];omega),pcl_f,Zh,if_pos (by omega),Za2 (n:=n) (by omega) (by omega),close1 n E r hr hn i hi d (j+1) m _ (by omega) (by omega) (by simp;omega),Za9 (show j<r.length by rw[hr];omega) 0,Zbe,show m+1 - (d+1) - 1=m - d - 1 by omega]
  simp
theorem ZcY (n:Nat) (E:List ZU) (R:Nat→List Int×Bool) (hn:n≤8) (hR:∀i,(R i).2=true→(R i).1.length=n) (hf:∀i,i<n→Zag.f (n:Int) E (i:Int)=some (R i)) (j:Nat) (hj:j<n) (hb:(R j).2=false):∀(d i K:Nat) (acc:List Int),i+d=j→20 * (d+1)≤K→acc.length≤8 * i→∃x C,ZD.l0 K (i:Int) (n:Int) E (n:Int) acc=some (x,C,false)
 | 0,i,K,acc,hi,hK,ha=>by
  obtain⟨m,rfl⟩:∃m,K=m+1:=⟨K - 1,by omega⟩
  obtain rfl:i=j:=by omega
  simp only[ZD.l0]
  rw[if_pos (by omega),hf i hj,Zh,if_neg (by rw[hb];simp)]
  exact⟨_,_,rfl⟩
 | d+1,i,K,acc,hi,hK,ha=>by
  obtain⟨m,rfl⟩:∃m,K=m+1:=⟨K - 1,by omega⟩
  simp only[ZD.l0]
  rw[if_pos (by omega),hf i (by omega),Zh]
  cases hc:(R i).2 with
  | false=>rw[if_neg (by simp)];exact⟨_,_,rfl⟩
  | true=>
   have hl:=hR i hc
   rw[if_pos rfl]
   have h1:=close1 n E (R i).1 hl hn i (by omega) n 0 m acc (by omega) (by omega) (by omega)
   rw[show((0:Nat):Int)=0 from rfl] at h1
   rw[h1]
   exact ZcY n E R hn hR hf j hj hb d (i+1) (m - n - 1) _ (by omega) (by omega) (by simp[hl];omega)
theorem winBad {n:Nat} {L:List Zaq} (hs:Zad (n:Int) L=true) (hw:Za8 L) (hc:ZbK (n:Int) L=false) (a:Int) (k:Nat) (hk:2 ^ 67≤k):Zaz.f k (n:Int) L a=some (0,0,false):=by
 have hg:=ZcP hs
 obtain⟨g0,g8,g80,gin⟩:=ZbN hg
 have hE:Zar (Zaa L) n:=fun e he=>by have:=gin e he;omega
 have hww:=Za8.w hw
 have hno:¬∀i,i<n→∃u,isf (Zaa L) (n+1) (kst0 n i)=some u:=fun h=>by
  have:=(ZcR hs hw).2 (all_pot hE hww (by omega) (by omega) h)
  rw[hc] at this;cases this
 obtain⟨j,hj⟩:=Classical.not_forall.1 hno
 obtain⟨hj1,hj2⟩:=Classical.not_imp.1 hj
 have hj3:isf (Zaa L) (n+1) (kst0 n j)=none:=by
  cases hu:isf (Zaa L) (n+1) (kst0 n j) with
  | none=>rfl
  | some u=>exact absurd ⟨u,hu⟩ hj2
 have hR:∀i:Nat,(sfB (n:Int) (Zaa L) (i:Int) (n+1)).2=true→(sfB (n:Int) (Zaa L) (i:Int) (n+1)).1.length=n:=fun i h=>by
  unfold sfB at h ⊢
  rw[Int.toNat_natCast,Int.toNat_natCast] at h ⊢
  cases hu:isf (Zaa L) (n+1) (kst0 n i) with
  | none=>rw[hu] at h;cases h
  | some u=>simp only;rw[Zci,isf_len hu];simp[kst0]
 obtain⟨x,C,hx⟩:=ZcY n (Zaa L) (fun i=>sfB (n:Int) (Zaa L) (i:Int) (n+1)) (by omega) hR (fun i hi=>by
  unfold Zag.f
  rw[if_pos ⟨hg,ZbF.2 ⟨by omega,by omega⟩⟩,Int.toNat_natCast]) j hj1 (by
  show(sfB (n:Int) (Zaa L) (j:Int) (n+1)).2=false
  unfold sfB;rw[Int.toNat_natCast,Int.toNat_natCast,hj3]) j 0 k [] (by omega) (by omega) (by simp)
 unfold Zaz.f ZD.f
 rw[ZbG (n:Int) L k (by omega),gofB,if_pos hs,Zh]
 simp only[ZaN.f,Zh]
 rw[show((0:Nat):Int)=0 from rfl] at hx
 rw[if_pos hg,hx,Zh]
 simp only
 rw[if_neg (by simp)]
theorem ZcO {q:Nat→Int}:∀(t:List Int) (i:Nat),(∀x∈t,-1≤x∧x<1000000)→(Feas (Zaa (fixL i t)) q↔∀j,j<t.length→0<i+j→t.getD j 0≠-1→q (i+j)=q 0+t.getD j 0)
 | [],i,_=>⟨fun _ j hj=>by simp at hj,fun _ e he=>by cases he⟩
 | x :: t,i,h=>by
  have hx:=h x (by simp)
  have ih:=ZcO (q:=q) t (i+1) (fun y hy=>h y (by simp[hy]))
  rw[fixL,ZbP,Feas.app,ih]
  have h0:Feas (Zaa (if 0<i∧x≠-1 then[⟨0,(i:Int),⟨x,x⟩⟩] else[])) q↔(0<i→x≠-1→q i=q 0+x):=by
   by_cases c:0<i∧x≠-1
   ·rw[if_pos c]
    have e1:Zaa [(⟨0,(i:Int),⟨x,x⟩⟩:Zaq)]=[⟨0,(i:Int),x⟩,⟨(i:Int),0,-x⟩]:=by
     simp only[Zaa,ZbV]
     rw[if_neg (by omega),if_neg (by omega),Zaf (by omega) (by omega)];rfl
    rw[e1]
    constructor
    ·intro hf _ _
     have a1:=hf ⟨0,(i:Int),x⟩ (by simp)
     have a2:=hf ⟨(i:Int),0,-x⟩ (by simp)
     simp only[Int.toNat_natCast,Int.toNat_zero] at a1 a2
     omega
    ·intro hf e he
     have:=hf c.1 c.2
     simp only[List.mem_cons,List.not_mem_nil,or_false] at he
     rcases he with rfl|rfl
     ·simp only[Int.toNat_natCast,Int.toNat_zero];omega
     ·simp only[Int.toNat_natCast,Int.toNat_zero];omega
   ·rw[if_neg c]
    exact⟨fun _ a b=>absurd ⟨a,b⟩ c,fun _ e he=>by cases he⟩
  rw[h0]
  constructor
  ·rintro⟨h1,h2⟩ j hj hp hne
   cases j with
   | zero=>exact h1 (by omega) hne
   | succ j=>
    have:=h2 j (by simpa using hj) (by omega) hne
    rw[show i+(j+1)=i+1+j by omega];exact this
  ·intro hf
   refine⟨fun a b=>by have:=hf 0 (by simp) (by omega) b;simpa using this,fun j hj hp hne=>?_⟩
   have:=hf (j+1) (by simpa using hj) (by omega) hne
   rw[show i+1+j=i+(j+1) by omega];exact this
theorem Zc4:∀(t:List Int) (i:Nat),(∀x∈t,-1≤x∧x≤1000)→Za8 (fixL i t)
 | [],_,_,x,hx=>by cases hx
 | y :: t,i,h,x,hx=>by
  have hy:=h y (by simp)
  rw[fixL] at hx
  rcases List.mem_append.1 hx with hx|hx
  ·split at hx
   ·rw[List.mem_singleton] at hx;subst hx
    simp only;omega
   ·cases hx
  ·exact Zc4 t (i+1) (fun z hz=>h z (by simp[hz])) x hx
theorem fixL_ok {n:Int}:∀(t:List Int) (i:Nat),(∀x∈t,-1≤x∧x<1000000)→((i+t.length:Nat):Int)≤n→∀x∈fixL i t,ZaO n x=true
 | [],_,_,_,x,hx=>by cases hx
 | y :: t,i,h,hn,x,hx=>by
  have hy:=h y (by simp)
  rw[List.length_cons] at hn
  rw[fixL] at hx
  rcases List.mem_append.1 hx with hx|hx
  ·split at hx
   ·rename_i c
    rw[List.mem_singleton] at hx;subst hx
    unfold ZaO Zbq inN
    simp only[Bool.and_eq_true,decide_eq_true_eq,Bool.not_eq_true',decide_eq_false_iff_not]
    have:=c.2
    omega
   ·cases hx
  ·exact fixL_ok t (i+1) (fun z hz=>h z (by simp[hz])) (by rw[show i+1+t.length=i+(t.length+1) by omega];exact hn) x hx
theorem ZcX {n:Int} {L:List Zaq} (h1:1≤n) (h8:n≤8) (h40:L.length≤40) (h:∀x∈L,ZaO n x=true):Zad n L=true:=by
 unfold Zad
 rw[Ze (show ¬n<1 by omega),Ze (show ¬8<n by omega),Ze (show ¬40<L.length by omega)]
 simp only[Bool.not_false,Bool.true_and,Bool.not_eq_true',List.any_eq_false]
 intro x hx
 rw[h x hx];simp
theorem fix_ok {n:Nat} {L:List Zaq} {t:List Int} (hs:Zad (n:Int) L=true) (hL:L.length≤32) (ht:t.length=n) (h0:t.getD 0 0=0) (hb:∀x∈t,-1≤x∧x<1000000):fixB (n:Int) L t=((n:Int),L ++ fixL 0 t,true):=by
 obtain⟨s1,s8,s40,hl⟩:=Zbz hs
 have hp:partB (n:Int) L t=true:=by
  unfold partB
  rw[hs,Zd (show(t.length:Int)=(n:Int) by omega),Zd h0,Bool.true_and,Bool.true_and,Bool.true_and,Bool.not_eq_true',List.any_eq_false]
  intro x hx
  have:=hb x hx
  unfold Zbp
  simp only[Bool.not_eq_true',Bool.not_eq_false',Bool.and_eq_true,decide_eq_true_eq,Bool.not_eq_true]
  simp;omega
 have hlen:=fixL_len 0 t
 have h2:Zad (n:Int) (L ++ fixL 0 t)=true:=ZcX s1 s8 (by rw[List.length_append];omega) (fun x hx=>(List.mem_append.1 hx).elim (hl x) (fixL_ok t 0 hb (by omega) x))
 unfold fixB
 rw[if_pos hp,if_pos h2]
end Go.Proofs.Ythphnhmabieflab.Pr
namespace Go.Proofs.Ythphnhmabieflab.Pr
open Go.RowKit Go.Proofs.YthphnhmabieflabW.PrintWords Go.Proofs.Ythphnhmabieflab.Ni
def LnkD (n:Int) (x:Zaq):Prop:=ZaO n x=true∧(x.f2.f1=1000000∨-1000≤x.f2.f1∧x.f2.f1≤1000)∧(x.f2.f0=-1000000∨-1000≤x.f2.f0∧x.f2.f0≤1000)
theorem lnkD {n a c lo hi:Int} (h1:0≤a∧a<n) (h2:0≤c∧c<n) (h3:lo=-1000000∨-1000≤lo∧lo≤1000) (h4:hi=1000000∨-1000≤hi∧hi≤1000) (h5:lo=-1000000∨hi=1000000∨lo≤hi):LnkD n ⟨a,c,⟨lo,hi⟩⟩:=by
 refine⟨?_,h4,h3⟩
 unfold ZaO inN Zbq
 simp only[Bool.and_eq_true,decide_eq_true_eq,Bool.not_eq_true',decide_eq_false_iff_not]
 omega
theorem iv_f {b:List Int} {i h:Int} (hc:Cur b i):∃lo hi i' h',ZaW.f b i h=some (lo,hi,i',h')∧Cur b i'∧(lo=-1000000∨-1000≤lo∧lo≤1000)∧(hi=1000000∨-1000≤hi∧hi≤1000)∧(lo=-1000000∨hi=1000000∨lo≤hi):=by
 obtain⟨x,i1,h1,e1,x0,x1,c1⟩:=Zbj (n:=21) (h:=h) hc (by omega) (by omega)
 obtain⟨y,i2,h2,e2,y0,y1,c2⟩:=Zbj (n:=8) (h:=h1) c1 (by omega) (by omega)
 obtain⟨z,i3,h3,e3,z0,z1,c3⟩:=Zbj (n:=8) (h:=h2) c2 (by omega) (by omega)
 unfold ZaW.f ZaH.f
 rw[e1,Zh]
 simp only
 rw[e2,Zh]
 simp only[Zh]
 rw[e3,Zh]
 have w1:wrap64 (x - 10)=x - 10:=Zaf (by omega) (by omega)
 have w2:wrap64 (x - 10+y)=x - 10+y:=Zaf (by omega) (by omega)
 simp only[w1,w2]
 split
 ·exact⟨_,_,_,_,rfl,c3,by omega,by omega,by omega⟩
 ·split
  ·exact⟨_,_,_,_,rfl,c3,by omega,by omega,by omega⟩
  ·split
   ·exact⟨_,_,_,_,rfl,c3,by omega,by omega,by omega⟩
   ·exact⟨_,_,_,_,rfl,c3,by omega,by omega,by omega⟩
def Behind (m:Int) (L:List Zaq):Prop:=∀e:Int,1≤e→e<m→∃x∈L,x.f1=e∧0≤x.f0∧x.f0<e∧0≤x.f2.f0
theorem draw_l1 {b:List Int} {n:Int} (h2:2≤n) (h5:n≤5):∀(d:Nat) (x i h:Int) (L:List Zaq) (k:Nat),x≤d→0≤x→Cur b i→L.length+d≤7→(∀y∈L,LnkD n y)→Behind n L→d<k →
  ∃L' i' h',ZN.l1 k x b i h n L=some (n,L',i',h')∧L'.length≤7∧(∀y∈L',LnkD n y)∧Behind n L'
 | 0,x,i,h,L,k,hx,h0,hc,hl,hL,hB,hk=>by
  obtain⟨m,rfl⟩:∃m,k=m+1:=⟨k - 1,by omega⟩
  simp only[ZN.l1]
  rw[if_neg (by omega)]
  exact⟨_,_,_,rfl,by omega,hL,hB⟩
 | d+1,x,i,h,L,k,hx,h0,hc,hl,hL,hB,hk=>by
  obtain⟨m,rfl⟩:∃m,k=m+1:=⟨k - 1,by omega⟩
  simp only[ZN.l1]
  by_cases hp:x > 0
  ·rw[if_pos hp]
   obtain⟨a,i1,g1,e1,a0,a1,c1⟩:=Zbj (n:=n) (h:=h) hc (by omega) (by omega)
   obtain⟨c,i2,g2,e2,b0,b1,c2⟩:=Zbj (n:=n) (h:=g1) c1 (by omega) (by omega)
   obtain⟨lo,hi,i3,g3,e3,c3,q1,q2,q3⟩:=iv_f (h:=g2) c2
   rw[e1,Zh]
   simp only
   rw[e2,Zh]
   simp only
   rw[e3,Zh]
   simp only
   rw[if_pos (by omega),Zaf (i:=x - 1) (by omega) (by omega)]
   refine draw_l1 h2 h5 d (x - 1) i3 g3 _ m (by omega) (by omega) c3 (by rw[List.length_append];simp only[List.length_cons,List.length_nil];omega) (fun y hy=>?_) (fun e he1 he2=>?_) (by omega)
   ·rcases List.mem_append.1 hy with hy|hy
    ·exact hL y hy
    ·rw[List.mem_singleton] at hy;subst hy
     exact lnkD ⟨a0,a1⟩ ⟨b0,b1⟩ q1 q2 q3
   ·obtain⟨y,hy,r⟩:=hB e he1 he2
    exact⟨y,List.mem_append.2 (.inl hy),r⟩
  ·rw[if_neg hp]
   exact⟨_,_,_,rfl,by omega,hL,hB⟩
theorem draw_l0 {b:List Int} {n:Int} (h2:2≤n) (h5:n≤5):∀(d:Nat) (x i h:Int) (L:List Zaq) (k:Nat),x+d=n→1≤x→Cur b i→(L.length:Int)=x - 1→(∀y∈L,LnkD n y)→Behind x L→d+100<k →
  ∃L' i' h',ZN.l0 k x b i h n L=some (n,L',i',h')∧L'.length≤7∧(∀y∈L',LnkD n y)∧Behind n L'
 | 0,x,i,h,L,k,hx,h0,hc,hl,hL,hB,hk=>by
  obtain⟨m,rfl⟩:∃m,k=m+1:=⟨k - 1,by omega⟩
  simp only[ZN.l0]
  rw[if_neg (by omega)]
  obtain⟨a,i1,g1,e1,a0,a1,c1⟩:=Zbj (n:=4) (h:=h) hc (by omega) (by omega)
  rw[e1,Zh]
  have hxn:x=n:=by omega
  subst hxn
  exact draw_l1 h2 h5 3 a i1 g1 L m (by omega) a0 c1 (by omega) hL hB (by omega)
 | d+1,x,i,h,L,k,hx,h0,hc,hl,hL,hB,hk=>by
  obtain⟨m,rfl⟩:∃m,k=m+1:=⟨k - 1,by omega⟩
  simp only[ZN.l0]
  rw[if_pos (by omega)]
  obtain⟨a,i1,g1,e1,a0,a1,c1⟩:=Zbj (n:=5) (h:=h) hc (by omega) (by omega)
  obtain⟨fr,i2,g2,e2,b0,b1,c2⟩:=Zbj (n:=x) (h:=g1) c1 (by omega) (by omega)
  obtain⟨s,i3,g3,e3,s0,s1,c3⟩:=Zbj (n:=6) (h:=g2) c2 (by omega) (by omega)
  rw[e1,Zh]
  simp only
  rw[e2,Zh]
  simp only
  rw[e3,Zh]
  simp only
  rw[if_pos (by omega),Zaf (i:=x+1) (by omega) (by omega),Zaf (i:=a+s) (by omega) (by omega)]
  refine draw_l0 h2 h5 d (x+1) i3 g3 _ m (by omega) (by omega) c3 (by rw[List.length_append];simp only[List.length_cons,List.length_nil];omega) (fun y hy=>?_) (fun e he1 he2=>?_) (by omega)
  ·rcases List.mem_append.1 hy with hy|hy
   ·exact hL y hy
   ·rw[List.mem_singleton] at hy;subst hy
    exact lnkD ⟨b0,by omega⟩ ⟨by omega,by omega⟩ (by omega) (by omega) (by omega)
  ·by_cases c:e<x
   ·obtain⟨y,hy,r⟩:=hB e he1 c
    exact⟨y,List.mem_append.2 (.inl hy),r⟩
   ·exact⟨_,List.mem_append.2 (.inr (List.mem_singleton.2 rfl)),by show x=e;omega,b0,by show fr<e;omega,a0⟩
theorem simple_f {b:List Int} (hb:b.length≤1048576) (k:Nat) (hk:2 ^ 64≤k):∃(n:Nat) (L:List Zaq),ZaM.f k b=some ((n:Int),L)∧2≤n∧n≤5∧L.length≤7∧Zad (n:Int) L=true∧Za8 L∧Behind n L:=by
 obtain⟨h0,e0,c0⟩:=new_f hb k hk
 obtain⟨a,i1,g1,e1,a0,a1,c1⟩:=Zbj (n:=4) (h:=h0) c0 (by omega) (by omega)
 obtain⟨m,rfl⟩:=Int.eq_ofNat_of_zero_le a0
 have w:wrap64 (2+(m:Int))=((m+2:Nat):Int):=by rw[Zaf (by omega) (by omega)];omega
 obtain⟨L,i2,g2,e2,hl,hL,hB⟩:=draw_l0 (n:=((m+2:Nat):Int)) (by omega) (by omega) (m+1) 1 i1 g1 [] k (by omega) (by omega) c1 (by simp) (fun y hy=>by cases hy) (fun e h1 h2=>by omega) (by omega)
 refine⟨m+2,L,?_,by omega,by omega,hl,ZcX (by omega) (by omega) (by omega) (fun x hx=>(hL x hx).1),fun x hx=>(hL x hx).2,hB⟩
 unfold ZaM.f ZN.f
 rw[e0,Zh]
 simp only
 rw[e1,Zh]
 simp only
 rw[w,e2];rfl
end Go.Proofs.Ythphnhmabieflab.Pr
