/- The texts of one claim, put together by a program of this session. -/
import Derived.Test.YtpoffpdaadhkgaaBNtc1x1
namespace Go.Proofs.Ytpoffpdaadhkgaa.Pr
open Go.RowKit Go.Proofs.YtpoffpdaadhkgaaW.PrintWords Go.Proofs.Ytpoffpdaadhkgaa.Ni
abbrev SSt:=List Int×List Int×List Bool×Int
def Zbs (s:SSt) (i:Nat) (e:ZZ):SSt:=
 if rb s.2.2.1 e.f0=true∧(rb s.2.2.1 e.f1=false∨wrap64 (rd s.1 e.f0+e.f2)<rd s.1 e.f1) then(s.1.set e.f1.toNat (wrap64 (rd s.1 e.f0+e.f2)),s.2.1.set e.f1.toNat (i:Int),s.2.2.1.set e.f1.toNat true,(i:Int)) else s
def srnd:List ZZ→Nat→SSt→SSt
 | [],_,s=>s
 | e :: t,i,s=>srnd t (i+1) (Zbs s i e)
theorem rb_all {N:Nat} {x:Int} (h0:0≤x) (h:x<N):rb (List.replicate N true) x=true:=by
 unfold rb
 rw[List.getD_eq_getElem?_getD,List.getElem?_replicate,if_pos (by omega)];rfl
theorem srelax_all {N i:Nat} {d l:List Int} {ch:Int} {e:ZZ} (h:0≤e.f0∧e.f0<N∧0≤e.f1∧e.f1<N):Zbs (d,l,List.replicate N true,ch) i e=((relax (d,l,ch) i e).1,(relax (d,l,ch) i e).2.1,List.replicate N true,(relax (d,l,ch) i e).2.2):=by
 unfold Zbs relax
 dsimp only
 rw[rb_all h.1 h.2.1,rb_all h.2.2.1 h.2.2.2]
 by_cases c:wrap64 (rd d e.f0+e.f2)<rd d e.f1
 ·rw[if_pos ⟨rfl,.inr c⟩,if_pos c]
  simp
 ·rw[if_neg (by simp[c]),if_neg c]
theorem srnd_all {N:Nat}:∀(E:List ZZ) (i:Nat) (d l:List Int) (ch:Int),Za0 E N→srnd E i (d,l,List.replicate N true,ch)=((rnd E i (d,l,ch)).1,(rnd E i (d,l,ch)).2.1,List.replicate N true,(rnd E i (d,l,ch)).2.2)
 | [],_,_,_,_,_=>rfl
 | e :: t,i,d,l,ch,h=>by
  show srnd t (i+1) (Zbs _ i e)=_
  rw[srelax_all (h e (by simp))]
  rw[srnd_all t (i+1) _ _ _ (fun x hx=>h x (by simp[hx]))]
  rfl
def sknow (s:SSt):KSt:=(s.1,s.2.2.1,decide (0≤s.2.2.2))
theorem srelax_k (s:SSt) (i:Nat) (e:ZZ):sknow (Zbs s i e)=ZbD (sknow s) e:=by
 obtain⟨d,l,kn,ch⟩:=s
 unfold Zbs ZbD sknow
 dsimp only
 split
 ·simp
 ·rfl
theorem srnd_k:∀(E:List ZZ) (i:Nat) (s:SSt),sknow (srnd E i s)=krnd E (sknow s)
 | [],_,_=>rfl
 | e :: t,i,s=>by
  show sknow (srnd t (i+1) (Zbs s i e))=krnd t (ZbD (sknow s) e)
  rw[srnd_k t,srelax_k]
theorem srelax_len {s:SSt} {i n:Nat} {e:ZZ} (h:s.1.length=n∧s.2.1.length=n∧s.2.2.1.length=n):(Zbs s i e).1.length=n∧(Zbs s i e).2.1.length=n∧(Zbs s i e).2.2.1.length=n:=by
 unfold Zbs
 split
 ·simpa using h
 ·exact h
def isf (E:List ZZ):Nat→KSt→Option KSt
 | 0,_=>none
 | m+1,s=>let u:=krnd E (s.1,s.2.1,false);if u.2.2=false then some u else isf E m u
def finB (s:KSt):List Int:=(List.range s.1.length).map fun i=>if s.2.1.getD i false=true then min (s.1.getD i 0) 1000000 else 1000000
theorem Zc2 (s:KSt):(finB s).length=s.1.length:=by simp[finB]
theorem isf_more {E:List ZZ}:∀{m:Nat} {s u:KSt},isf E m s=some u→isf E (m+1) s=some u
 | 0,_,_,h=>by cases h
 | m+1,s,u,h=>by
  rw[isf] at h ⊢
  try dsimp only at h ⊢
  split at h
  ·rename_i h1;rw[if_pos h1];exact h
  ·rename_i h1;rw[if_neg h1];exact isf_more h
theorem isf_of {E:List ZZ}:∀(m:Nat) (s:KSt),(ZbN E (m+1) s).2.2=false→∃u,isf E (m+1) s=some u
 | 0,s,h=>by
  rw[isf]
  try dsimp only
  have h':(krnd E (s.1,s.2.1,false)).2.2=false:=h
  rw[if_pos h']
  exact⟨_,rfl⟩
 | m+1,s,h=>by
  rw[isf]
  try dsimp only
  split
  ·exact⟨_,rfl⟩
  ·exact isf_of m _ h
theorem Zcf {f d:List Int} {j:Nat} (hl:f.length=d.length) (hj:j<d.length):(f.take j ++ d.drop j).set j (f.getD j 0)=f.take (j+1) ++ d.drop (j+1):=by
 rw[ZaL hj 0]
 have:(f.take j).length=j:=by rw[Zj];omega
 have h2:=set_mid (f.take j) (d.getD j 0) (f.getD j 0) (d.drop (j+1))
 rw[this] at h2
 rw[h2,List.take_succ_eq_append_getElem (by omega),List.append_assoc,List.getD_eq_getElem?_getD,Zl (by omega)];rfl
theorem fill_at {f d:List Int} {j:Nat} (hl:f.length=d.length) (hj:j<d.length):(f.take j ++ d.drop j).getD j 0=d.getD j 0:=by
 have:(f.take j).length=j:=by rw[Zj];omega
 rw[List.getD_eq_getElem?_getD,List.getElem?_append_right (by omega),this,Nat.sub_self,List.getElem?_drop,Nat.add_zero,← List.getD_eq_getElem?_getD]
theorem fill_keep {f d:List Int} {j:Nat} (hl:f.length=d.length) (hj:j<d.length) (h:d.getD j 0=f.getD j 0):f.take j ++ d.drop j=f.take (j+1) ++ d.drop (j+1):=by
 rw[← Zcf hl hj,← h]
 have e:=fill_at hl hj
 have:j<(f.take j ++ d.drop j).length:=by simp;omega
 rw[← e,List.getD_eq_getElem?_getD,Zl this]
 simp
theorem finB_at {s:KSt} {j:Nat} (hj:j<s.1.length):(finB s).getD j 0=if s.2.1.getD j false=true then min (s.1.getD j 0) 1000000 else 1000000:=by
 unfold finB
 rw[List.getD_eq_getElem?_getD,List.getElem?_map,List.getElem?_range hj];rfl
theorem isf_c (E:List ZZ) (m:Nat) (d:List Int) (kn:List Bool) (c c':Bool):isf E m (d,kn,c)=isf E m (d,kn,c'):=by
 cases m <;> rfl
def sfB (n:Int) (E:List ZZ) (a:Int) (m:Nat):List Int×Bool:=match isf E m (kst0 n.toNat a.toNat) with|some u=>(finB u,true)|none=>([],false)
abbrev IR (w:World) (B g n c:Nat) (xs:List Int):Prop:=Kd.R (Kd.int .i64) 3 w B (fun k=>k=g) (.slice (some ⟨g,0,none⟩) n c) xs
theorem IR.of {w:World} {B g n c:Nat} {ok:Nat→Prop} {xs:List Int} (h:Kd.R (Kd.int .i64) 3 w B ok (.slice (some ⟨g,0,none⟩) n c) xs):IR w B g n c xs:=
 ⟨fun k hk=>by simp[Value.ownBlock] at hk;exact hk.symm,h.2⟩
theorem IR.cell {w:World} {B g n c:Nat} {xs:List Int} (h:IR w B g n c xs) {i:Int} (h0:0≤i) (h1:i<n):w.cell? ⟨g,i.toNat,none⟩=some (.int .i64 (rd xs i))∧w.frozen? ⟨g,i.toNat,none⟩=false:=Kd.R_celln 0 h i h0 h1
theorem IR.put {w:World} {B g n c:Nat} {xs:List Int} (h:IR w B g n c xs) (i x:Int):IR (w.setCell ⟨g,i.toNat,none⟩ (.int .i64 x)) B g n c (xs.set i.toNat x):=Kd.R_putn h i x
theorem IR.far {w:World} {B g n c:Nat} {xs:List Int} (h:IR w B g n c xs) {p:Addr} (ne:g≠p.block) (u:Value):IR (w.setCell p u) B g n c xs:=Kd.R_far h (fun k hk=>by subst hk;exact ne) u
theorem IR.low {w w1:World} {B g n c:Nat} {xs:List Int} (h:IR w B g n c xs) (hb:Below w.heap.size w w1):IR w1 B g n c xs:=Kd.R_below h hb
theorem IR.lt {w:World} {B g n c:Nat} {xs:List Int} (h:IR w B g n c xs):g<w.heap.size:=Kd.R_lt h g (by simp[Value.ownBlock])
theorem IR.base {w:World} {B g n c:Nat} {xs:List Int} (h:IR w B g n c xs):B≤g:=Kd.R_base h g (by simp[Value.ownBlock])
theorem IR.reads {w:World} {B g n c:Nat} {xs:List Int} (h:IR w B g n c xs):n=xs.length∧n≤c∧Kd.C (Kd.int .i64) w (some ⟨g,0,none⟩) xs.length xs:=Kd.R_reads' h
abbrev BR (w:World) (B g n c:Nat) (xs:List Bool):Prop:=Kd.R Kd.bool 4 w B (fun k=>k=g) (.slice (some ⟨g,0,none⟩) n c) xs
theorem BR.of {w:World} {B g n c:Nat} {ok:Nat→Prop} {xs:List Bool} (h:Kd.R Kd.bool 4 w B ok (.slice (some ⟨g,0,none⟩) n c) xs):BR w B g n c xs:=
 ⟨fun k hk=>by simp[Value.ownBlock] at hk;exact hk.symm,h.2⟩
theorem BR.cell {w:World} {B g n c:Nat} {xs:List Bool} (h:BR w B g n c xs) {i:Int} (h0:0≤i) (h1:i<n):w.cell? ⟨g,i.toNat,none⟩=some (.bool (xs.getD i.toNat false))∧w.frozen? ⟨g,i.toNat,none⟩=false:=Kd.R_celln false h i h0 h1
theorem BR.put {w:World} {B g n c:Nat} {xs:List Bool} (h:BR w B g n c xs) (i:Int) (x:Bool):BR (w.setCell ⟨g,i.toNat,none⟩ (.bool x)) B g n c (xs.set i.toNat x):=Kd.R_putn h i x
theorem BR.far {w:World} {B g n c:Nat} {xs:List Bool} (h:BR w B g n c xs) {p:Addr} (ne:g≠p.block) (u:Value):BR (w.setCell p u) B g n c xs:=Kd.R_far h (fun k hk=>by subst hk;exact ne) u
theorem BR.low {w w1:World} {B g n c:Nat} {xs:List Bool} (h:BR w B g n c xs) (hb:Below w.heap.size w w1):BR w1 B g n c xs:=Kd.R_below h hb
theorem BR.lt {w:World} {B g n c:Nat} {xs:List Bool} (h:BR w B g n c xs):g<w.heap.size:=Kd.R_lt h g (by simp[Value.ownBlock])
theorem BR.base {w:World} {B g n c:Nat} {xs:List Bool} (h:BR w B g n c xs):B≤g:=Kd.R_base h g (by simp[Value.ownBlock])
theorem Zb3 {n:Int} {E:List ZZ} (h:ZaR n E=true):0≤n∧n≤8∧E.length≤80∧∀e∈E,0≤e.f0∧e.f0<n∧0≤e.f1∧e.f1<n∧-1000000<e.f2∧e.f2<1000000:=by
 unfold ZaR at h
 simp only[Bool.and_eq_true,Bool.not_eq_true',decide_eq_false_iff_not] at h
 obtain⟨h1,h2,h3,h4⟩:=h
 refine⟨by omega,by omega,by omega,fun e he=>?_⟩
 have:=List.any_eq_false.1 h4 e he
 unfold Za7 wgtB inN at this
 simp at this
 omega
end Go.Proofs.Ytpoffpdaadhkgaa.Pr
