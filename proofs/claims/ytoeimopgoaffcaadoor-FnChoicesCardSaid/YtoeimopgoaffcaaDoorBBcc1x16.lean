/- By a program of this session. -/
import Derived.Laws.CopyOwn
import Derived.Test.YtoeimopgoaffcaaDoorBBcc1x15
namespace Go.Proofs.YtoeimopgoaffcaaDoor.Pr
open RowKit YtoeimopgoaffcaaDoorW.PrintWords YtoeimopgoaffcaaDoorW.PrintLast YtoeimopgoaffcaaDoorW.PrintMore
attribute [local go_sem] Zat Zar ZaG ZaF Zal Zak Zas Zaq
set_option linter.unusedVariables false
set_option linter.unusedSimpArgs false
open Ni
def ZG.f (l0:List Int) (a1:Int):Option (List Int):=if l0.length=1∧0≤a1∧a1≤8 then some (List.replicate a1.toNat (l0.getD 0 0)) else none
theorem ZG.mul (a1:Int) (h0:0≤a1) (h1:a1≤8) (w:World):Calls Tryd.prog 116 #[.int .u64 1,.int .u64 a1] w fun e w'=>e=.returned (.tuple #[.int .u64 0,.int .u64 a1])∧∃m,w'=w.drewN m:=
 (Zee.calls 1 a1 0 a1 w (by
  have:a1=0∨a1=1∨a1=2∨a1=3∨a1=4∨a1=5∨a1=6∨a1=7∨a1=8:=by omega
  rcases this with rfl|rfl|rfl|rfl|rfl|rfl|rfl|rfl|rfl <;> rfl)).mono fun _ _ ⟨he,hd⟩=>⟨he,hd.out⟩
theorem ZG.row {w:World} {base:Nat} {ok:Nat→Prop} {v:Value} {xs:List Int} (h:Kd.R (Kd.int .i64) 3 w base ok v xs) (hn:0<xs.length) :
  ∃g cap cur,v=.slice (some ⟨g,0,none⟩) xs.length cap∧base≤g∧w.heap[g]? = some (.cells cur 3 (0,0))∧xs.length≤cap∧cap≤maxLen∧cur.size=cap:=by
 obtain⟨_,inner,⟨hlen,ho⟩,hr⟩:=h
 rcases ho with ⟨_,h0⟩|⟨g,cap,cur,h1,h2,h3,h4,h5,h6,h7⟩
 ·omega
 ·refine⟨g,cap,cur,h1,h2,h3,h4,h5,?_⟩
  rw[h6];exact Nat.mul_one _
theorem ZG.made {w:World} {base g cap n:Nat} {L:List Value} {a:Int} (hb:base≤g) (hg:w.heap[g]? = some (.cells L.toArray 3 (0,0))) (hn:n≤cap) (hm:cap≤maxLen) (hL:L.length=cap) (ht:L.take n=List.replicate n (.int .i64 a)) :
  Kd.R (Kd.int .i64) 3 w base (fun _=>True) (.slice (some ⟨g,0,none⟩) n cap) (List.replicate n a):=by
 refine⟨fun _ _=>trivial,List.replicate n (.int .i64 a),⟨by simp[Kd.int,Kd.scalar],Or.inr ⟨g,cap,L.toArray,by simp,hb,hg,by simpa using hn,hm,by simp[Kd.int,Kd.scalar,hL],by simpa [Kd.int,Kd.scalar] using ht⟩⟩,by simp[Kd.int,Kd.scalar],?_⟩
 intro j p hj
 obtain⟨hjl,hje⟩:=List.getElem?_eq_some_iff.1 hj
 rw[List.length_replicate] at hjl
 rw[List.getElem_replicate] at hje
 subst hje
 show(List.drop (j * 1) (List.replicate n (Value.int .i64 a))).take 1=[Value.int .i64 a]
 rw[Nat.mul_one,List.drop_replicate,List.take_replicate,show min 1 (n - j)=1 by omega];rfl
theorem ZG.spl {L:List Value} {m c:Nat} {u:Value} (h:L.take m=List.replicate m u) (hm:m≤L.length) (hc:m+c≤L.length):(splice L m (List.replicate c u)).take (m+c)=List.replicate (m+c) u:=by
 unfold splice
 rw[h,List.length_replicate,← List.append_assoc,List.take_append_of_le_length (by simp),List.take_of_length_le (by simp),List.replicate_append_replicate]
theorem ZG.one {w w1:World} {ad:Addr} {a:Int} {j:Nat} {v:Value} (h:w.cell? (ad.add 0)=some (.int .i64 a)) (hj:[Value.int .i64 a][j]? = some v) (hb:Below w.heap.size w w1):w1.cell? (ad.add j)=some v:=by
 match j,hj with
 | 0,hj=>
  cases hj
  exact ZE hb h
theorem ZG.src {w:World} {g kk n c:Nat} {a:Int} {L X:List Value} (h:w.heap[g]? = some (.cells L.toArray 3 (0,0))) (ht:L.take kk=List.replicate kk (.int .i64 a)) (hX:X=List.replicate c (Value.int .i64 a)) (hc:c=Nat.min kk (n - kk)) :
  ∀j v,X[j]? = some v→w.cell? ((⟨g,0,none⟩:Addr).add j)=some v:=by
 intro j v hj
 subst hX
 obtain⟨hl,he⟩:=List.getElem?_eq_some_iff.1 hj
 rw[List.length_replicate] at hl
 rw[List.getElem_replicate] at he
 subst he
 have hk:j<kk:=Nat.lt_of_lt_of_le hl (hc ▸ Nat.min_le_left _ _)
 have e:L[j]? = some (.int .i64 a):=by
  have h2:(L.take kk)[j]? = some (.int .i64 a):=by rw[ht,List.getElem?_replicate,if_pos hk]
  rwa [List.getElem?_take_of_lt hk] at h2
 have:=Zo h j
 rw[show(⟨g,0,none⟩:Addr).add j=⟨g,j,none⟩ by by_cases h0:j=0 <;> simp[Addr.add,h0],this]
 simpa using e
theorem ZG.fit {n kk c cap:Nat} {L X:List Value} (h1:X.length=c) (hc:c=Nat.min kk (n - kk)) (hL:L.length=cap) (hn:n≤cap) (hk:kk≤n):kk+X.length≤L.length:=by
 have:=Nat.min_le_right kk (n - kk)
 rw[h1,hL,hc]
 show kk+Nat.min kk (n - kk)≤cap
 have h2:Nat.min kk (n - kk)≤n - kk:=this
 omega
theorem ZG.ones {c:Nat} {a:Int} {X:List Value} (hX:X=List.replicate c (Value.int .i64 a)):∀v∈X,v.oneCell'=true:=by
 intro v hv
 rw[hX] at hv
 rw[List.eq_of_mem_replicate hv];rfl
theorem ZG.sz:(Tryd.prog.info? 3).map (·.size)=some 1:=by
 obtain⟨i,hi,e⟩:=Option.map_eq_some_iff.1 ZbN
 rw[hi,Option.map_some]
 exact congrArg some (congrArg (fun x:Option Value×Nat×Nat=>x.2.1) e)
set_option maxHeartbeats 4000000 in
set_option maxRecDepth 100000 in
theorem ZG.calls (A0:Option Addr) (c0:Nat) (l0:List Int) (a1:Int) (r:List Int) (w:World) (hr0:Kd.C (Kd.int .i64) w A0 l0.length l0) (hc0:l0.length≤c0) (h:ZG.f l0 a1=some r) :
  Calls Tryd.prog 85 #[.slice A0 l0.length c0,.int .i64 a1] w fun e w'=>∃v0_:Value,e=.returned (v0_)∧Kd.R (Kd.int .i64) 3 w' w.heap.size (fun _=>True) v0_ r∧Below w.heap.size w w':=by
 unfold ZG.f at h
 by_cases hc:l0.length=1∧0≤a1∧a1≤8
 case neg=>rw[if_neg hc] at h;exact absurd h (by simp)
 rw[if_pos hc] at h
 obtain rfl:=Zg h
 obtain⟨hl1,h0,h8⟩:=hc
 obtain⟨a,rfl⟩:∃a,l0=[a]:=by
  match l0,hl1 with
  | [a],_=>exact⟨a,rfl⟩
 obtain⟨ad,e1,hx⟩:=Kd.at_int hr0 0 (Int.le_refl 0) (by simp)
 cases e1
 have hx':w.cell? (ad.add 0)=some (.int .i64 a):=hx
 have HX:=Za hx'
 have HMUL:=Za fun w=>ZG.mul a1 h0 h8 w
 obtain⟨n,rfl⟩:=Int.eq_ofNat_of_zero_le h0
 have hn8:n≤8:=by omega
 clear hr0 hc0 h hx hx' hl1
 show Calls _ _ #[.slice (some ad) 1 c0,_] _ _
 have HB0:=Za (Below.refl w.heap.size w)
 have hu:=Tryd.underlying23
 have hk1:IntKind.u64.wrap 1=1:=rfl
 have hk2:IntKind.u64.wrap (n:Int)=(n:Int):=by simp[IntKind.wrap,IntKind.signed,IntKind.bits];omega
 have hk3:IntKind.i64.wrap (n:Int)=(n:Int):=by simp[IntKind.wrap,IntKind.signed,IntKind.bits];omega
 rcases(show Aside0 (n=0)∨Aside0 (1≤n) from(Nat.eq_zero_or_pos n).elim (fun h=>.inl ⟨h⟩) (fun h=>.inr ⟨h⟩)) with hz|hn1
 ·go_enter Tryd.func85,Tryd.ntmps85
  go_wp2_with (first|(go_at_call 116;refine(HMUL.out _).mono ?_;rintro e w' ⟨rfl,m,rfl⟩)|((with_reducible refine ZK (N:=30) rfl ?_);refine Kd.R_make (Kd.int .i64) _ 3 rfl (N:=30) rfl 23 _ _ rfl (n:Int) rfl rfl Tryd.underlying23 (.int .i64 0) 8 ZbN rfl (by decide) (by omega) 0 (ok:=fun _=>True) (okp:=fun _=>True) rfl (fun _ hk=>hk) trivial h0 (by omega) (Below.refl _ _) (Nat.le_refl _) ?_;intro v1 w1 ho hb _ _;rw[Int.toNat_natCast] at ho;have HO:=Za (Kd.R_lower ho (ZA (Zm (Below.refl w.heap.size w) _)));have HB1:=Za (Zx (Zm (Below.refl w.heap.size w) _) hb);obtain⟨A,cap,hv⟩:=Kd.R_slice ho;rw[List.length_replicate] at hv;subst hv;clear ho hb)|((with_reducible refine ZK (N:=33) rfl ?_);refine wpList_copy_nothing rfl _ _ 23 23 rfl 3 Tryd.underlying23 ZG.sz _ _ _ _ _ _ rfl rfl (by rw[hz.out];rfl) ?_))
  go_loopg [8] 0 (fun _ s8 wr=>s8=.int .i64 0∧Aside0 (Below w.heap.size w wr)∧Aside0 (Kd.R (Kd.int .i64) 3 wr w.heap.size (fun _=>True) (.slice A n cap) (List.replicate n (0:Int))))
  case atStart=>exact⟨rfl,HB1,HO⟩
  case round=>
   obtain⟨rfl,HBr,HOr⟩:=hrel
   have hlt:¬0<n:=by rw[hz.out];omega
   have hltz:¬(0:Int)<(n:Int):=by omega
   go_wp2
   go_ret
   have e:List.replicate n a=List.replicate n (0:Int):=by rw[hz.out];rfl
   exact⟨_,rfl,by show Kd.R _ _ _ _ _ (.slice A n cap) (List.replicate n a);rw[e];exact HOr.out,HBr.out⟩
 ·go_enter Tryd.func85,Tryd.ntmps85
  go_wp2_with (first|(go_at_call 116;refine(HMUL.out _).mono ?_;rintro e w' ⟨rfl,m,rfl⟩)|((with_reducible refine ZK (N:=30) rfl ?_);refine Kd.R_make (Kd.int .i64) _ 3 rfl (N:=30) rfl 23 _ _ rfl (n:Int) rfl rfl Tryd.underlying23 (.int .i64 0) 8 ZbN rfl (by decide) (by omega) 0 (ok:=fun _=>True) (okp:=fun _=>True) rfl (fun _ hk=>hk) trivial h0 (by omega) (Below.refl _ _) (Nat.le_refl _) ?_;intro v1 w1 ho hb _ _;rw[Int.toNat_natCast] at ho;have HB1:=Za (Zx (Zm (Below.refl w.heap.size w) _) hb);obtain⟨g,cap,cur,hv,hbg,hg,hnc,hcm,hcs⟩:=ZG.row (Kd.R_lower ho (ZA (Zm (Below.refl w.heap.size w) _))) (by rw[List.length_replicate];exact hn1.out);rw[List.length_replicate] at hv hnc;subst hv;have HG:=Za hbg;have HH:=Za hg;have HC:=Za hnc;have HM:=Za hcm;have HS:=Za hcs;clear ho hb hbg hg hnc hcm hcs)|((with_reducible refine ZK (N:=33) rfl ?_);refine wpList_copy_splice rfl _ _ 23 23 rfl 3 Tryd.underlying23 ZG.sz _ _ _ _ _ _ rfl rfl g 0 cur.toList 3 HH.out [Value.int .i64 a] (by have:=hn1.out;show 1=Nat.min 1 n;exact(Nat.min_eq_left this).symm) (fun _=>⟨rfl,ad,rfl,fun j v hj=>(ZG.one HX.out hj HB1.out)⟩) (by have h1:=HS.out;have h2:=HC.out;have h3:=hn1.out;show 0+1≤cur.toList.length;rw[Array.length_toList];omega) (by intro v hv;rw[List.mem_singleton] at hv;subst hv;rfl) w.heap.size w HB1.out HG.out ?_;intro w2 hw2 hb2))
  have HH2:=Za (show w2.heap[g]? = some (.cells (splice cur.toList 0 [Value.int .i64 a]).toArray 3 (0,0)) from hw2)
  have HB2:=Za hb2;clear hw2 hb2
  go_loopg [8] n (fun gg s8 wr=>∃(kk:Nat) (L:List Value),s8=.int .i64 (kk:Int)∧Aside0 (1≤kk∧kk≤n)∧Aside0 (n - kk≤gg)∧Aside0 (wr.heap[g]? = some (.cells L.toArray 3 (0,0)))∧Aside0 (L.length=cap)∧Aside0 (L.take kk=List.replicate kk (.int .i64 a))∧Aside0 (Below w.heap.size w wr))
  case atStart=>
   have h1:=HS.out
   have h2:=HC.out
   have h3:=hn1.out
   have h4:0+1≤cur.toList.length:=by rw[Array.length_toList,h1];omega
   refine⟨1,splice cur.toList 0 [Value.int .i64 a],rfl,⟨by omega⟩,⟨by omega⟩,HH2,⟨?_⟩,⟨?_⟩,HB2⟩
   ·rw[length_splice _ _ _ h4,Array.length_toList];exact h1
   ·exact ZG.spl (L:=cur.toList) (m:=0) (c:=1) (u:=Value.int .i64 a) rfl (Nat.zero_le _) h4
  case round=>
   obtain⟨kk,L,rfl,HK,HGG,HHr,HLl,HLt,HBr⟩:=hrel
   by_cases hlt:kk<n
   ·have hltz:(kk:Int)<(n:Int):=by omega
    have hkc:kk<cap:=by have:=HC.out;omega
    have hkn:kk≤n:=by omega
    have hnc:n≤cap:=HC.out
    have hkc2:kk≤cap:=by omega
    have hne:¬cap=kk:=by omega
    obtain⟨c,hc⟩:∃c,c=Nat.min kk (n - kk):=⟨_,rfl⟩
    obtain⟨X,hX⟩:∃X,X=List.replicate c (Value.int .i64 a):=⟨_,rfl⟩
    have HX1:=Za (show X.length=c by rw[hX,List.length_replicate])
    have HX2:=Za hX;have HC2:=Za hc;clear hX hc
    have HP:=Za (show X.length=Nat.min kk (n - kk) from HX1.out.trans HC2.out)
    have HF:=Za (ZG.fit HX1.out HC2.out HLl.out HC.out HK.out.2)
    have HQ:=Za (ZG.ones HX2.out)
    have HR:=Za (ZG.src (w:=wr.drew) HHr.out HLt.out HX2.out HC2.out)
    have HBd:=Za (Zp HBr.out)
    go_wp2
    go_region_law (refine step_copy_splice rfl (.tmp 41) (.tmp 44) 23 23 rfl 3 Tryd.underlying23 ZG.sz (some ⟨g,kk,none⟩) (some ⟨g,0,none⟩) (n - kk) (cap - kk) kk cap (by simp[Act.eval,Act.put]) (by simp[Act.eval,Act.put]) g kk L 3 HHr.out X HP.out (fun _=>⟨rfl,_,rfl,HR.out⟩) HF.out HQ.out w.heap.size w HBd.out HG.out ?_;intro w3 hw3 hb3)
    have e:X.length=min kk (n - kk):=HP.out
    have hk1:=HK.out.1
    have hXl:X.length≤n - kk:=by omega
    have hX1:1≤X.length:=by omega
    have hkX:kk+X.length≤n:=by omega
    clear e
    have hwr:IntKind.i64.wrap ((kk:Int)+(X.length:Int))=(kk:Int)+(X.length:Int):=by simp[IntKind.wrap,IntKind.signed,IntKind.bits];omega
    have HW:=Za (show w3.heap[g]? = some (.cells (splice L kk X).toArray 3 (0,0)) from hw3)
    have HB3:=Za hb3;clear hw3 hb3
    go_wp2
    go_roundg (n - (kk+X.length))
    case measure=>have:=HGG.out;omega
    case rel=>
     refine⟨kk+X.length,splice L kk X,by first|rfl|go_num,⟨by omega⟩,⟨by omega⟩,HW,⟨?_⟩,⟨?_⟩,HB3⟩
     ·rw[length_splice _ _ _ HF.out];exact HLl.out
     ·rw[HX1.out,HX2.out]
      exact ZG.spl HLt.out (by have:=HLl.out;omega) (by have:=HLl.out;have:=HX1.out;omega)
   ·have hltz:¬(kk:Int)<(n:Int):=by omega
    have HE:=Za (show kk=n by have:=HK.out;omega)
    go_wp2
    go_ret
    exact⟨_,rfl,by show Kd.R _ _ _ _ _ (.slice (some ⟨g,0,none⟩) n cap) (List.replicate n a);exact ZG.made HG.out HHr.out HC.out HM.out HLl.out (by rw[← HE.out];exact HLt.out),HBr.out⟩
end Go.Proofs.YtoeimopgoaffcaaDoor.Pr
