/- By a program of this session. -/
import Derived.Lib.ItoaNum
import Derived.Lib.Join
import Derived.Test.YtoeimopgoaffcaaGreatDoorBBwc1x26
import Derived.Test.YtoeimopgoaffcaaGreatDoorBBwc1x27
set_option maxHeartbeats 8000000
set_option maxRecDepth 100000
namespace Go.Proofs.YtoeimopgoaffcaaGreatDoor.Pr
open RowKit YtoeimopgoaffcaaGreatDoorW.PrintWords Ni
def Zbk (ns:List ZK) (ts:List PTie) (ln vs:List Int):Bool:=decide (ln.length=(Zaa ts).length) && (decide (vs.length=3) && (Zbm ts (Zaa ts) ln && Za2 ns 0 vs))
def ZcR (ns:List ZK) (ts:List PTie) (z:Int) (ln vs:List Int):Bool:=Zat ns ts z && Zbk ns ts ln vs
theorem Zfz {ns:List ZK} {ts:List PTie} (z:Int) (ln vs:List Int) (hc:Zck ns ts) (_hl:vs.length≤1048576) (k:Nat) (hk:2 ^ 66≤k):ZbS.f k ns ts z ln vs=some (Zbk ns ts ln vs):=by
 unfold ZbS.f Zbk
 rw[Zdi ns ts z hc.2.1 _ (by omega),Zi,if_pos (List.all_eq_true.2 fun x hx=>by have:=ZdB hx;simpa using this)]
theorem Zd6 {ns:List ZK} {ts:List PTie} {z:Int} (ln vs:List Int) (hc:Zck ns ts) (hl:vs.length≤1048576) (k:Nat) (hk:2 ^ 66≤k):ZbT.f k ns ts z ln vs=some (ZcR ns ts z ln vs):=by
 unfold ZbT.f ZcR
 rw[ZdD (Zek hc),Zi]
 cases hs:Zat ns ts z with
 | false=>rfl
 | true=>rw[if_pos rfl,Bool.true_and,Zfz z ln vs hc hl k hk];rfl
theorem ZeH {ns:List ZK}:∀(l:List Int) (i:Nat),Za2 ns i l=true→∀n∈l,-1≤n∧n≤1
 | [],_,_,n,hn=>by simp at hn
 | v :: t,i,h,n,hn=>by
  rw[Za2,Bool.and_eq_true] at h
  rcases List.mem_cons.1 hn with rfl|hn
  ·have h1:=h.1
   unfold valAt at h1
   simp only[Bool.or_eq_true,Bool.and_eq_true,decide_eq_true_eq] at h1
   omega
  ·exact ZeH t _ h.2 n hn
theorem ZgA {ns:List ZK} {ts:List PTie} {ln vs:List Int} (h:Zbk ns ts ln vs=true):ZcG vs=true:=by
 unfold Zbk at h
 simp only[Bool.and_eq_true,decide_eq_true_eq] at h
 unfold ZcG
 rw[Ze h.2.1,Bool.true_and,List.all_eq_true]
 intro n hn
 have:=ZeH vs 0 h.2.2.2 n hn
 simp;omega
set_option linter.unusedVariables false
set_option linter.unusedSimpArgs false
def FOk (ts:List PTie) (i:Int):Prop:=1≤facI ts i∧facI ts i≤20∧-20≤(ZE ts i).f2∧(ZE ts i).f2≤20∧facI ts i=(ZE ts i).f3 - (ZE ts i).f2+1
theorem free_ok {ns:List ZK} {ts:List PTie} (h:ZaR ns ts=true) {j:Int} (hj:j∈Zaa ts):FOk ts j:=by
 have hf:=Zev h hj
 have hf4:=freeIx_is hj
 obtain⟨h0,h1⟩:=ZdB hj
 obtain⟨m,rfl⟩:=Int.eq_ofNat_of_zero_le h0
 have:=ZeY h m (by omega)
 unfold Zdc ZbU at this
 rw[hf4] at this
 simp only[Zc0,Zdt,Bool.and_eq_true,Bool.not_true,Bool.false_or,decide_eq_true_eq,Bool.not_eq_true',beq_eq_false_iff_ne,decide_eq_false_iff_not] at this
 obtain⟨⟨⟨⟨⟨⟨_,_⟩,_⟩,a⟩,b⟩,c⟩,⟨⟨⟨⟨d,_⟩,_⟩,_⟩,_⟩⟩:=this
 refine⟨hf.1,hf.2,a.1,a.2,?_⟩
 unfold facI wrap64
 omega
def decL (ts:List PTie):List Int→Int→List Int
 | [],_=>[]
 | i :: L,n=>((ZE ts i).f2+n % facI ts i) :: decL ts L (n / facI ts i)
def remL (ts:List PTie):List Int→Int→Int
 | [],n=>n
 | i :: L,n=>remL ts L (n / facI ts i)
def decV (q:Int→Int):Nat→Nat→Int→List Int
 | 0,_,_=>[]
 | d+1,p,r=>if q (p:Int)≥0 then(1 - r % 2 * 2) :: decV q d (p+1) (r / 2) else 1 :: decV q d (p+1) r
def pwV (q:Int→Int):Nat→Nat→Nat
 | 0,_=>1
 | d+1,p=>if q (p:Int)≥0 then 2 * pwV q d (p+1) else pwV q d (p+1)
theorem div_le {n f:Int} (h0:0≤n) (h1:1≤f):0≤n / f∧n / f≤n:=⟨Int.ediv_nonneg h0 (by omega),Int.ediv_le_self _ h0⟩
theorem foldl_atS (ts:List PTie):∀(L:List Int) (n:Int) (acc:List Int),(∀x∈L,FOk ts x)→0≤n→n≤4611686018427387903→L.foldl (atS ts) (n,acc)=(remL ts L n,acc ++ decL ts L n)
 | [],n,acc,_,_,_=>by simp[remL,decL]
 | i :: L,n,acc,h,h0,h1=>by
  obtain⟨a,b,c,d,_⟩:=h i (by simp)
  have hd:=div_le (f:=facI ts i) h0 a
  have hm:0≤n % facI ts i∧n % facI ts i<facI ts i:=⟨Int.emod_nonneg _ (by omega),Int.emod_lt_of_pos _ (by omega)⟩
  have e:atS ts (n,acc) i=(n / facI ts i,acc ++ [(ZE ts i).f2+n % facI ts i]):=by
   unfold atS
   dsimp only
   rw[Int.tdiv_eq_ediv_of_nonneg h0,Int.tmod_eq_emod_of_nonneg h0,Z9 (i:=n / facI ts i) (by omega) (by omega),Z9 (by omega) (by omega)]
  rw[List.foldl_cons,e,foldl_atS ts L _ _ (fun x hx=>h x (by simp[hx])) hd.1 (by omega),remL,decL,List.append_assoc]
  rfl
theorem remL_bd (ts:List PTie):∀(L:List Int) (n:Int),(∀x∈L,FOk ts x)→0≤n→0≤remL ts L n∧remL ts L n≤n
 | [],n,_,h0=>⟨h0,Int.le_refl _⟩
 | i :: L,n,h,h0=>by
  have hd:=div_le (f:=facI ts i) h0 (h i (by simp)).1
  have:=remL_bd ts L _ (fun x hx=>h x (by simp[hx])) hd.1
  rw[remL]
  exact⟨this.1,by omega⟩
theorem lens_dec (ts:List PTie):∀(L:List Int) (n:Int),(∀x∈L,FOk ts x)→0≤n→Zbm ts L (decL ts L n)=true
 | [],n,_,_=>by simp[Zbm,decL]
 | i :: L,n,h,h0=>by
  obtain⟨a,b,c,d,e⟩:=h i (by simp)
  have hd:=div_le (f:=facI ts i) h0 a
  have hm:0≤n % facI ts i∧n % facI ts i<facI ts i:=⟨Int.emod_nonneg _ (by omega),Int.emod_lt_of_pos _ (by omega)⟩
  rw[decL,Zbm,lens_dec ts L _ (fun x hx=>h x (by simp[hx])) hd.1,Ze (by omega),Ze (by omega)];rfl
theorem decL_len (ts:List PTie):∀(L:List Int) (n:Int),(decL ts L n).length=L.length
 | [],_=>rfl
 | i :: L,n=>by rw[decL,List.length_cons,decL_len ts L,List.length_cons]
theorem Zew (q:Int→Int):∀(d p:Nat) (r:Int) (acc:List Int),0≤r→r≤4611686018427387903→(ZbB q d p (r,acc)).2=acc ++ decV q d p r
 | 0,p,r,acc,_,_=>by simp[ZbB,decV]
 | d+1,p,r,acc,h0,h1=>by
  rw[ZbB,decV]
  unfold atQ
  by_cases h:q (p:Int)≥0
  ·rw[if_pos h,if_pos h]
   dsimp only
   rw[Int.tdiv_eq_ediv_of_nonneg h0,Int.tmod_eq_emod_of_nonneg h0,Z9 (i:=r / 2) (by omega) (by omega),Z9 (i:=r % 2 * 2) (by omega) (by omega),Z9 (by omega) (by omega),Zew q d (p+1) _ _ (by omega) (by omega),List.append_assoc]
   rfl
  ·rw[if_neg h,if_neg h,Zew q d (p+1) _ _ h0 h1,List.append_assoc]
   rfl
theorem Zfi (ns:List ZK):∀(d i:Nat) (r:Int),0≤r→Za2 ns i (decV (Zas ns) d (i+1) r)=true
 | 0,i,r,_=>by simp[decV,Za2]
 | d+1,i,r,h0=>by
  rw[decV]
  by_cases h:Zas ns ((i+1:Nat):Int)≥0
  ·rw[if_pos h,Za2,Zfi ns d (i+1) _ (by omega),Bool.and_true]
   unfold valAt
   have hr:r % 2=0∨r % 2=1:=by omega
   rcases hr with hr|hr
   ·rw[hr];rfl
   ·rw[hr,Ze (show 0≤Zas ns ((i+1:Nat):Int) from h)];rfl
  ·rw[if_neg h,Za2,Zfi ns d (i+1) _ h0];rfl
theorem decV_len (q:Int→Int):∀(d p:Nat) (r:Int),(decV q d p r).length=d
 | 0,_,_=>rfl
 | d+1,p,r=>by
  rw[decV]
  split <;> rw[List.length_cons,decV_len q d]
theorem ccW_eq (ns:List ZK) (p:Nat) {x:Nat} (h:x≤4000000000000000000):ccW ns (p:Int) (x:Int)=(((if Zas ns (p:Int)≥0 then 2 else 1) * x:Nat):Int):=by
 unfold ccW ccQ
 split
 ·rw[Z9 (by omega) (by omega)];omega
 ·omega
theorem count_eq {ns:List ZK} {ts:List PTie} {z:Int} (hs:Zat ns ts z=true) (hl:ts.length≤8):ZaT ns ts z=((Zbh ts (Zaa ts) * pwV (Zas ns) 3 1:Nat):Int)∧1≤Zbh ts (Zaa ts)∧Zbh ts (Zaa ts)≤25600000000∧1≤pwV (Zas ns) 3 1∧pwV (Zas ns) 3 1≤8:=by
 have ht:=ZbZ hs
 have hL:∀x∈Zaa ts,1≤facI ts x∧facI ts x≤20:=fun x hx=>Zev ht hx
 have hn:(Zaa ts).length≤8:=Nat.le_trans (Zdj ts) hl
 have e:=prodF_run ts (Zaa ts) 1 14 hL (by omega) (by decide)
 rw[Nat.one_mul,show((1:Nat):Int)=1 from rfl] at e
 have hp:=prodF_pos ts _ hL
 have h20:Zbh ts (Zaa ts)≤25600000000:=Nat.le_trans hp.2 (Nat.le_trans (Nat.pow_le_pow_right (by omega) hn) (by decide))
 have w1:=ccW_eq ns 1 (x:=Zbh ts (Zaa ts)) (by omega)
 have c1:(if Zas ns ((1:Nat):Int)≥0 then 2 else 1) * Zbh ts (Zaa ts)≤60000000000:=by split <;> omega
 have w2:=ccW_eq ns 2 (x:=(if Zas ns ((1:Nat):Int)≥0 then 2 else 1) * Zbh ts (Zaa ts)) (by omega)
 have c2:(if Zas ns ((2:Nat):Int)≥0 then 2 else 1) * ((if Zas ns ((1:Nat):Int)≥0 then 2 else 1) * Zbh ts (Zaa ts))≤120000000000:=by split <;> omega
 have w3:=ccW_eq ns 3 (x:=(if Zas ns ((2:Nat):Int)≥0 then 2 else 1) * ((if Zas ns ((1:Nat):Int)≥0 then 2 else 1) * Zbh ts (Zaa ts))) (by omega)
 refine⟨?_,hp.1,h20,?_,?_⟩
 ·unfold ZaT
  rw[if_pos hs,e]
  have e1:ccW ns 1 ((Zbh ts (Zaa ts):Nat):Int)=_:=w1
  rw[e1]
  have e2:ccW ns 2 (((if Zas ns ((1:Nat):Int)≥0 then 2 else 1) * Zbh ts (Zaa ts):Nat):Int)=_:=w2
  rw[e2]
  have e3:ccW ns 3 (((if Zas ns ((2:Nat):Int)≥0 then 2 else 1) * ((if Zas ns ((1:Nat):Int)≥0 then 2 else 1) * Zbh ts (Zaa ts)):Nat):Int)=_:=w3
  rw[e3]
  simp only[pwV]
  congr 1
  generalize Zbh ts (Zaa ts)=P
  split <;> split <;> split <;> omega
 ·simp only[pwV];split <;> split <;> split <;> omega
 ·simp only[pwV];split <;> split <;> split <;> omega
theorem Zd1 {ns:List ZK} {ts:List PTie} {z n:Int} (hs:Zat ns ts z=true) (hl:ts.length≤8) (h0:0≤n) (h1:n<ZaT ns ts z):ZaB ns ts z n=(decL ts (Zaa ts) n,decV (Zas ns) 3 1 (remL ts (Zaa ts) n),true):=by
 obtain⟨hc,p1,p2,q1,q2⟩:=count_eq hs hl
 have hF:∀x∈Zaa ts,FOk ts x:=fun x hx=>free_ok (ZbZ hs) hx
 have hb:Zbh ts (Zaa ts) * pwV (Zas ns) 3 1≤25600000000 * 8:=Nat.mul_le_mul p2 q2
 have hn:n≤204800000000:=by omega
 have hr:=remL_bd ts _ n hF h0
 unfold ZaB Zdl
 rw[if_pos ⟨h0,h1⟩,foldl_atS ts _ n [] hF h0 (by omega)]
 dsimp only
 rw[Zew _ _ _ _ _ hr.1 (by omega),List.nil_append,List.nil_append]
theorem Zdx {ns:List ZK} {ts:List PTie} {z n:Int} (hs:Zat ns ts z=true) (hl:ts.length≤8) (h0:0≤n) (h1:n<ZaT ns ts z):Zbk ns ts (ZaB ns ts z n).1 (ZaB ns ts z n).2.1=true:=by
 have hF:∀x∈Zaa ts,FOk ts x:=fun x hx=>free_ok (ZbZ hs) hx
 have hr:=remL_bd ts _ n hF h0
 rw[Zd1 hs hl h0 h1]
 unfold Zbk
 dsimp only
 rw[decL_len,Ze rfl,decV_len,Ze rfl,lens_dec ts _ _ hF h0,Zfi ns 3 0 _ hr.1];rfl
open YtoeimopgoaffcaaGreatDoorW.PrintLast YtoeimopgoaffcaaGreatDoorW.PrintMore
attribute [local go_sem] Zak Zai Zax Zaw Zac Zab Zaj Zah
def Zav.l0:Nat→List Int→Int→List Int→Int→Int→Option (Int)
 | 0,_,_,_,_,_=>none
 | k+1,x1,x5,x9,x10,x11=>if x11<x10 then(if 0≤x11 then(if x11<(x9.length:Int) then((ZaH.f (rd x9 x11)).bind fun t2=>(if 0≤(wrap64 (t2 - 1)) then(if (wrap64 (t2 - 1))<(x1.length:Int) then(if (rd x9 x11)<0 then(Zav.l0 k x1 (mn x5 (wrap64 (-(rd x1 (wrap64 (t2 - 1)))))) x9 x10 (wrap64 (x11+1))) else(Zav.l0 k x1 (mn x5 (rd x1 (wrap64 (t2 - 1)))) x9 x10 (wrap64 (x11+1)))) else(none)) else(none))) else(none)) else(none)) else(some x5)
def Zav.f (k:Nat) (l0:List Int) (l1:List Int):Option (Int):=Zav.l0 k l1 1 l0 (l0.length:Int) 0
theorem Zav.calls (k:Nat) (A0:Option Addr) (c0:Nat) (l0:List Int) (A1:Option Addr) (c1:Nat) (l1:List Int) (r:Int) (w:World) (hr0:Kd.C (Kd.int .i64) w A0 l0.length l0) (hc0:l0.length≤c0) (hr1:Kd.C (Kd.int .i64) w A1 l1.length l1) (hc1:l1.length≤c1) (h:Zav.f k l0 l1=some r) :
  Calls Tryz.prog 95 #[.slice A0 l0.length c0,.slice A1 l1.length c1] w fun e w'=>e=.returned (.int .i64 r)∧Below w.heap.size w w':=by
 have HR0:=Za hr0;have HC0:=Za hc0;clear hr0 hc0;have HR1:=Za hr1;have HC1:=Za hc1;clear hr1 hc1
 have HB:=Za (Below.refl w.heap.size w)
 have H:(Zav.l0 k l1 1 l0 (l0.length:Int) 0)=some r:=h
 clear h
 have H':=Za H
 clear H
 go_enter Tryz.func95,Tryz.ntmps95
 go_wp2
 go_loopg [5,11] k (fun kq v5 v11 w'=>∃(x5_1:Int) (x11_1:Int),v5=.int .i64 x5_1∧v11=.int .i64 x11_1∧Aside0 (Zav.l0 kq l1 x5_1 l0 (l0.length:Int) x11_1=some r)∧Aside0 (kq≤k)∧Aside0 (Below w.heap.size w w'))
 case atStart=>exact⟨(1),(0),(by first|rfl|(simp;done)|(simp[*];done)),(by first|rfl|(simp;done)|(simp[*];done)),H',⟨Nat.le_refl _⟩,⟨by repeat(first|(with_reducible first|exact HB.out|apply Zo|apply Zn|apply Zp)|exact HB.out)⟩⟩
 case round=>
  clear H'
  try clear c1
  try clear p2
  obtain⟨x5_1,x11_1,rfl,rfl,HA,HK1,HB⟩:=hrel
  cases gk with
  | zero=>exact absurd HA.out (by simp[Zav.l0])
  | succ k1=>
   have H:=HA.out
   clear HA
   simp only[Zav.l0] at H
   by_cases c3:x11_1<(l0.length:Int)
   ·rw[if_pos c3] at H
    have c3b0:decide (x11_1<(l0.length:Int))=true:=Ze c3
    clear c3
    by_cases c4:0≤x11_1
    ·rw[if_pos c4] at H
     have c4b0:decide (0≤x11_1)=true:=Ze c4
     clear c4
     by_cases c5:x11_1<(l0.length:Int)
     ·rw[if_pos c5] at H
      have c5b0:decide (x11_1<(l0.length:Int))=true:=Ze c5
      clear c5
      replace H:=Zh H
      obtain⟨t2,A60,H⟩:=H;have A6:=Za A60;clear A60
      obtain⟨ji7,hji7⟩:∃j_:Int,(wrap64 (t2 - 1))=j_:=⟨_,rfl⟩
      replace H:(if 0≤(ji7) then(if (ji7)<(l1.length:Int) then(if (rd l0 x11_1)<0 then(Zav.l0 k1 l1 (mn x5_1 (wrap64 (-(rd l1 (ji7))))) l0 (l0.length:Int) (wrap64 (x11_1+1))) else(Zav.l0 k1 l1 (mn x5_1 (rd l1 (ji7))) l0 (l0.length:Int) (wrap64 (x11_1+1)))) else(none)) else(none))=some r:=by first|(rw[hji7] at H;exact H)|(simp only[hji7] at H ⊢;exact H)
      (try rw[hji7] at A6)
      have hji7w:(IntKind.i64.wrap (t2 - 1))=ji7:=(i64_w _).trans hji7
      by_cases c8:0≤(ji7)
      ·rw[if_pos c8] at H
       have c8b0:decide (0≤(ji7))=true:=Ze c8
       clear c8
       by_cases c9:(ji7)<(l1.length:Int)
       ·rw[if_pos c9] at H
        have c9b0:decide ((ji7)<(l1.length:Int))=true:=Ze c9
        clear c9
        by_cases c10:(rd l0 x11_1)<0
        ·rw[if_pos c10] at H
         have c10b0:decide ((rd l0 x11_1)<0)=true:=Ze c10
         clear c10
         obtain⟨ji11,hji11⟩:∃j_:Int,(mn x5_1 (wrap64 (-(rd l1 (ji7)))))=j_:=⟨_,rfl⟩
         replace H:(Zav.l0 k1 l1 ji11 l0 (l0.length:Int) (wrap64 (x11_1+1)))=some r:=by first|(rw[hji11] at H;exact H)|(simp only[hji11] at H ⊢;exact H)
         (try rw[hji11] at A6)
         have hji11_:(if (wrap64 (-(rd l1 (ji7))))<x5_1 then(wrap64 (-(rd l1 (ji7)))) else x5_1)=ji11:=hji11
         have H':=Za H
         clear H
         have p1:0≤(x11_1:Int):=Zd (by first|(with_reducible assumption)|assumption)
         have q1:x11_1<(l0.length:Int):=Zd (by first|(with_reducible assumption)|assumption)
         obtain⟨ad1,e1,hx1_0⟩:=Kd.at_int HR0.out x11_1 p1 q1
         cases e1
         replace hx1_0:=(HB.out.cell (Zc w _ hx1_0)).trans hx1_0
         replace p1:=eq_true p1
         replace q1:=eq_true q1
         go_wp2_with (first|((with_reducible refine ZM (f:=98) rfl ?_);refine Z7 (some 17) rfl rfl Tryz.func98 (by kernel_rfl) rfl #[.int .i64 (rd l0 x11_1)] rfl (by(try simp only[List.map_toArray,List.map_cons,List.map_nil]);first|done|rfl|(simp only[Zk,Zj];rfl)) ?_;(with_reducible refine(ZaH.calls (rd l0 x11_1) t2 _ A6.out).mono ?_);rintro e w' ⟨rfl,⟨nd,rfl⟩⟩;refine⟨_,rfl,?_⟩;have p3:0≤((ji7):Int):=Zd (by first|(with_reducible assumption)|assumption);have q3:(ji7)<(l1.length:Int):=Zd (by first|(with_reducible assumption)|assumption);obtain⟨ad3,e3,hx3_0⟩:=Kd.at_int HR1.out (ji7) p3 q3;cases e3;replace hx3_0:=(HB.out.cell (Zc w _ hx3_0)).trans hx3_0;replace p3:=eq_true p3;replace q3:=eq_true q3))
         go_roundg k1
         case measure=>have:=HK1.out;omega
         case rel=>exact⟨(ji11),(wrap64 (x11_1+1)),(by first|rfl|(simp;done)|(simp only[← hji11] <;> (first|rfl|simp))|(simp[*];done)),(by first|rfl|(simp;done)|(simp[*];done)),H',⟨by have:=HK1.out;omega⟩,⟨by repeat(first|(with_reducible first|exact HB.out|apply Zo|apply Zn|apply Zp)|exact HB.out)⟩⟩
        ·rw[if_neg c10] at H
         have c10b0:decide ((rd l0 x11_1)<0)=false:=Zf c10
         clear c10
         obtain⟨ji12,hji12⟩:∃j_:Int,(mn x5_1 (rd l1 (ji7)))=j_:=⟨_,rfl⟩
         replace H:(Zav.l0 k1 l1 ji12 l0 (l0.length:Int) (wrap64 (x11_1+1)))=some r:=by first|(rw[hji12] at H;exact H)|(simp only[hji12] at H ⊢;exact H)
         (try rw[hji12] at A6)
         have hji12_:(if (rd l1 (ji7))<x5_1 then(rd l1 (ji7)) else x5_1)=ji12:=hji12
         have H':=Za H
         clear H
         have p1:0≤(x11_1:Int):=Zd (by first|(with_reducible assumption)|assumption)
         have q1:x11_1<(l0.length:Int):=Zd (by first|(with_reducible assumption)|assumption)
         obtain⟨ad1,e1,hx1_0⟩:=Kd.at_int HR0.out x11_1 p1 q1
         cases e1
         replace hx1_0:=(HB.out.cell (Zc w _ hx1_0)).trans hx1_0
         replace p1:=eq_true p1
         replace q1:=eq_true q1
         go_wp2_with (first|((with_reducible refine ZM (f:=98) rfl ?_);refine Z7 (some 17) rfl rfl Tryz.func98 (by kernel_rfl) rfl #[.int .i64 (rd l0 x11_1)] rfl (by(try simp only[List.map_toArray,List.map_cons,List.map_nil]);first|done|rfl|(simp only[Zk,Zj];rfl)) ?_;(with_reducible refine(ZaH.calls (rd l0 x11_1) t2 _ A6.out).mono ?_);rintro e w' ⟨rfl,⟨nd,rfl⟩⟩;refine⟨_,rfl,?_⟩;have p3:0≤((ji7):Int):=Zd (by first|(with_reducible assumption)|assumption);have q3:(ji7)<(l1.length:Int):=Zd (by first|(with_reducible assumption)|assumption);obtain⟨ad3,e3,hx3_0⟩:=Kd.at_int HR1.out (ji7) p3 q3;cases e3;replace hx3_0:=(HB.out.cell (Zc w _ hx3_0)).trans hx3_0;replace p3:=eq_true p3;replace q3:=eq_true q3))
         go_roundg k1
         case measure=>have:=HK1.out;omega
         case rel=>exact⟨(ji12),(wrap64 (x11_1+1)),(by first|rfl|(simp;done)|(simp only[← hji12] <;> (first|rfl|simp))|(simp[*];done)),(by first|rfl|(simp;done)|(simp[*];done)),H',⟨by have:=HK1.out;omega⟩,⟨by repeat(first|(with_reducible first|exact HB.out|apply Zo|apply Zn|apply Zp)|exact HB.out)⟩⟩
       ·rw[if_neg c9] at H
        exact absurd H (by simp)
      ·rw[if_neg c8] at H
       exact absurd H (by simp)
     ·rw[if_neg c5] at H
      exact absurd H (by simp)
    ·rw[if_neg c4] at H
     exact absurd H (by simp)
   ·rw[if_neg c3] at H
    have c3b0:decide (x11_1<(l0.length:Int))=false:=Zf c3
    clear c3
    obtain rfl:=Zg H
    go_wp2
    go_ret
    exact⟨by first|rfl|(simp[ZC,ZB] <;> rfl)|(simp[*,ZC,ZB] <;> rfl),by repeat(first|(with_reducible first|exact HB.out|apply Zo|apply Zn|apply Zp)|exact HB.out)⟩
theorem labFrom_all:∀(l:List Int) (p:Int),Zb8 p l=true→∀x∈l,ZbH x=true:=by
 intro l
 induction l with
 | nil=>intro p _ x hx;simp at hx
 | cons y t ih=>
  intro p h x hx
  simp only[Zb8,Bool.and_eq_true] at h
  rcases List.mem_cons.1 hx with rfl|hx
  ·exact h.1.1
  ·exact ih _ h.2 x hx
theorem labB_all {l:List Int} (h:labB l=true):∀x∈l,ZbH x=true:=labFrom_all l 0 h
theorem valsB_at {v:List Int} (h:ZcG v=true):v.length=3∧∀i,-1≤v.getD i 0∧v.getD i 0≤1:=by
 simp only[ZcG,Bool.and_eq_true,decide_eq_true_eq,List.all_eq_true] at h
 refine⟨h.1,fun i=>?_⟩
 by_cases hi:i<v.length
 ·exact h.2 _ (ZaJ hi 0)
 ·rw[List.getD_eq_getElem?_getD,List.getElem?_eq_none (by omega)];simp
theorem mn_min (a b:Int):mn a b=min a b:=by unfold mn;split <;> omega
theorem holds_f {x:Int} {v:List Int} (hx:ZbH x=true) (hv:ZcG v=true):impl_holds.f x v=some (if x<0 then -(v.getD (prp x - 1).toNat 0) else v.getD (prp x - 1).toNat 0):=by
 have hp:=Ze3 hx
 obtain⟨h3,hb⟩:=valsB_at hv
 have hb':=hb (prp x - 1).toNat
 unfold impl_holds.f
 rw[ZdT hx,Zi,Z9 (i:=prp x - 1) (by omega) (by omega),if_pos (by omega),if_pos (by omega)]
 have e:rd v (prp x - 1)=v.getD (prp x - 1).toNat 0:=rfl
 rw[e,Z9 (by omega) (by omega)]
 split <;> rfl
def labStB (l v:List Int):Int:=if labB l && ZcG v then stB l v else -1
theorem Zfa (l v:List Int) (hl:l.length≤9223372036854775807) (k:Nat) (hk:2 ^ 65≤k):ZY.f k l v=some (labStB l v):=by
 unfold ZY.f labStB
 obtain⟨m,rfl⟩:∃m,k=m+1:=⟨k - 1,by omega⟩
 rw[Zc7 l hl _ (by omega),Zi]
 cases h:labB l
 ·rfl
 ·rw[if_pos rfl]
  unfold Zco.f
  rw[Zi]
  cases h2:ZcG v
  ·rfl
  ·simp only[ZY.j0,Bool.not_true,Bool.false_eq_true,if_false]
   have key:=Zb7 l.length (fun k i=>∀a:Int,ZY.l0 k v a l l.length (i:Int)=some (stFrom v a (l.drop i))) 0
    (fun k _ a=>by simp[ZY.l0,stFrom])
    (fun k i _ hi ih a=>by
     simp only[ZY.l0]
     have hx:=labB_all h _ (ZaJ hi 0)
     rw[if_pos (by omega),if_pos (by omega),if_pos (by omega),ZaW,ZO hi (by omega),Zal hi 0,holds_f hx h2,Zi,ih,mn_min]
     rfl) 0 m (Nat.zero_le _) (by omega)
   have:=key 1
   rw[List.drop_zero] at this
   rw[show((0:Nat):Int)=0 from rfl] at this
   rw[this];rfl
theorem nodes_lab {ns:List ZK} (h:Z2 ns=true):∀n∈ns,labB n.f1=true:=by
 intro n hn
 obtain⟨j,hj,rfl⟩:=List.mem_iff_getElem.1 hn
 have:=Zd3 h j hj
 unfold Zdz nodeB at this
 rw[show ns.getD j z39=ns[j] by rw[List.getD_eq_getElem?_getD,Zl hj];rfl] at this
 simp only[Bool.and_eq_true] at this
 exact this.1.1.2
def hapB (ns:List ZK) (vs:List Int) (i:Int):Bool:=stB (ZJ ns i).f1 vs == 1
theorem Ze2 {ns:List ZK} {i:Int} (h0:0≤i) (h1:i<ns.length):ZJ ns i∈ns:=by
 obtain⟨m,rfl⟩:=Int.eq_ofNat_of_zero_le h0
 rw[show ZJ ns ((m:Nat):Int)=ns.getD m z39 from Zcm ns m]
 exact ZaJ (by omega) _
theorem Zf2 {ns:List ZK} {ts:List PTie} (z:Int) (ln vs:List Int) (i:Int) (hc:Zck ns ts) (hn:Z2 ns=true) (hv:ZcG vs=true) (h0:0≤i) (h1:i<ns.length) (k:Nat) (hk:2 ^ 65≤k):Za5.f k ns ts z ln vs i=some (hapB ns vs i):=by
 have hm:=Ze2 h0 h1
 have hs:=(hc.2.2 _ hm).2
 unfold Za5.f hapB
 rw[if_pos h0,if_pos h1,Zfa _ vs (by omega) k hk,Zi]
 unfold labStB
 rw[nodes_lab hn _ hm,hv];rfl
theorem choiceB_iff {ns:List ZK} {ts:List PTie} {z:Int} {ln vs:List Int} (h:ZcR ns ts z ln vs=true):Zat ns ts z=true∧Zbk ns ts ln vs=true:=by
 unfold ZcR at h
 rw[Bool.and_eq_true] at h
 exact h
def bs (l:List UInt8):ByteArray:=⟨l.toArray⟩
theorem bs_of (a:ByteArray):bs a.data.toList=a:=by unfold bs;simp
theorem bs_list (l:List UInt8):(bs l).data.toList=l:=by unfold bs;simp
theorem bs_size (l:List UInt8):(bs l).size=l.length:=by unfold bs;simp[ByteArray.size]
theorem ZcJ (n:Int) (h0 : -9223372036854775808≤n) (h1:n≤9223372036854775807):ZaI.f n=some (bs (Lib.itoa n)):=by
 unfold ZaI.f
 rw[if_pos ⟨h0,h1⟩];rfl
theorem dec_len:∀(d m:Nat),m<10 ^ (d+1)→(Lib.decDigits m).length≤d+1
 | d,m,hm=>by
  by_cases c:m<10
  ·rw[Lib.decDigits,dif_pos c];simp only[List.length_singleton];omega
  ·cases d with
   | zero=>simp at hm;omega
   | succ d=>
    have h:=dec_len d (m / 10) (by rw[Nat.pow_succ] at hm;omega)
    rw[Lib.decDigits,dif_neg c,List.length_append,List.length_singleton];omega
theorem itoa_len (n:Int) (h0 : -9223372036854775808≤n) (h1:n≤9223372036854775807):(Lib.itoa n).length≤20:=by
 by_cases c:n<0
 ·have:=dec_len 18 n.natAbs (by omega)
  rw[Lib.itoa,if_pos c,List.length_cons];omega
 ·rw[Lib.itoa,if_neg c]
  have:=dec_len 18 n.toNat (by omega)
  omega
abbrev bl (l:List ByteArray):List (List UInt8):=l.map (·.data.toList)
theorem impl_Join_f (l:List ByteArray) (sep:ByteArray) (hl:l.length≤1048576) (hb:(Lib.join (bl l) sep.data.toList).length≤140737488355328):ZbA.f l sep=some (bs (Lib.join (bl l) sep.data.toList)):=by
 unfold ZbA.f
 rw[if_pos ⟨hl,hb⟩];rfl
theorem ZdQ {ns:List ZK} {ts:List PTie}:∀(d i:Nat),ZbI ns ts i d=true→∀j,i≤j→j<i+d→Zdc ns ts j=true
 | 0,i,_,j,h1,h2=>by omega
 | d+1,i,h,j,h1,h2=>by
  rw[ZbI,Bool.and_eq_true] at h
  by_cases e:j=i
  ·rw[e];exact h.1
  ·exact ZdQ d (i+1) h.2 j (by omega) (by omega)
theorem tie_bd {ns:List ZK} {ts:List PTie} (h:ZaR ns ts=true) {j:Int} (h0:0≤j) (h1:j<ts.length) :
  (0≤(ZE ts j).f0∧(ZE ts j).f0<ns.length)∧(0≤(ZE ts j).f1∧(ZE ts j).f1<ns.length)∧(-20≤(ZE ts j).f2∧(ZE ts j).f2≤20)∧(-20≤(ZE ts j).f3∧(ZE ts j).f3≤20):=by
 obtain⟨m,rfl⟩:=Int.eq_ofNat_of_zero_le h0
 unfold ZaR at h
 rw[Bool.and_eq_true] at h
 have:=ZdQ _ _ h.1 m (Nat.zero_le _) (by omega)
 unfold Zdc ZbU at this
 simp only[Zc0,Zdt,Bool.and_eq_true,decide_eq_true_eq] at this
 obtain⟨⟨⟨⟨⟨⟨a,b⟩,_⟩,c⟩,d⟩,_⟩,_⟩:=this
 omega
theorem ZeB {ns:List ZK} {ts:List PTie} (h:ZaR ns ts=true):ts.length≤14:=by
 unfold ZaR at h
 rw[Bool.and_eq_true,decide_eq_true_eq] at h
 exact h.2
theorem Zc9 {ns:List ZK} (h:Z2 ns=true):ns.length≤7:=by
 unfold Z2 at h
 simp only[Bool.and_eq_true,decide_eq_true_eq] at h
 exact h.1.1.1.2
theorem Zeo {ns:List ZK} (h:Z2 ns=true) {j:Int} (h0:0≤j) (h1:j<ns.length):(ZJ ns j).f0.size≤8∧labB (ZJ ns j).f1=true∧0≤(ZJ ns j).f2∧(ZJ ns j).f2≤3:=by
 obtain⟨m,rfl⟩:=Int.eq_ofNat_of_zero_le h0
 have:=Zd3 h m (by omega)
 rw[Zcm]
 unfold Zdz nodeB nameB at this
 simp only[Bool.and_eq_true,decide_eq_true_eq] at this
 obtain⟨⟨⟨⟨_,_,a⟩,b⟩,c,d⟩,_⟩:=this
 exact⟨a,b,c,d⟩
def nmL (ns:List ZK) (i:Int):List UInt8:=(ZJ ns i).f0.data.toList
theorem nm_bs (ns:List ZK) (i:Int):(ZJ ns i).f0=bs (nmL ns i):=(bs_of _).symm
theorem nm_len {ns:List ZK} (h:Z2 ns=true) {j:Int} (h0:0≤j) (h1:j<ns.length):(nmL ns j).length≤8:=by
 have:=(Zeo h h0 h1).1
 rw[nm_bs,bs_size] at this
 exact this
def tieW (b:Bool):List UInt8:=if b=true then[102,114,101,101] else[116,105,101]
def tieT (ns:List ZK) (t:PTie):List UInt8:=tieW t.f4 ++ [32] ++ nmL ns t.f0 ++ [32] ++ nmL ns t.f1 ++ [32] ++ Lib.itoa t.f2 ++ [32] ++ Lib.itoa t.f3
theorem tieT_join (ns:List ZK) (t:PTie):Lib.join [tieW t.f4,nmL ns t.f0,nmL ns t.f1,Lib.itoa t.f2,Lib.itoa t.f3] [32]=tieT ns t:=by
 simp[Lib.join,Lib.joinTail,tieT]
theorem tieT_len {ns:List ZK} {ts:List PTie} (hn:Z2 ns=true) (h:ZaR ns ts=true) {j:Int} (h0:0≤j) (h1:j<ts.length):(tieT ns (ZE ts j)).length≤80:=by
 obtain⟨a,b,c,d⟩:=tie_bd h h0 h1
 have e1:=nm_len hn a.1 a.2
 have e2:=nm_len hn b.1 b.2
 have e3:=itoa_len _ (show -9223372036854775808≤(ZE ts j).f2 by omega) (by omega)
 have e4:=itoa_len _ (show -9223372036854775808≤(ZE ts j).f3 by omega) (by omega)
 have e5:(tieW (ZE ts j).f4).length≤4:=by unfold tieW;split <;> simp
 unfold tieT
 simp only[List.length_append,List.length_cons,List.length_nil]
 omega
theorem Zf1 {ns:List ZK} {ts:List PTie} (z:Int) (hn:Z2 ns=true) (h:ZaR ns ts=true) {j:Int} (h0:0≤j) (h1:j<ts.length):Zbn.f ns ts z j=some (bs (tieT ns (ZE ts j))):=by
 obtain⟨a,b,c,d⟩:=tie_bd h h0 h1
 have hl:=tieT_len hn h h0 h1
 unfold Zbn.f
 rw[if_pos h0,if_pos h1]
 have hj:∀w:ByteArray,w=bs (tieW (ZE ts j).f4)→ZbA.f [w,(ZJ ns (ZE ts j).f0).f0,(ZJ ns (ZE ts j).f1).f0,bs (Lib.itoa (ZE ts j).f2),bs (Lib.itoa (ZE ts j).f3)] ⟨#[32]⟩=some (bs (tieT ns (ZE ts j))):=by
  rintro w rfl
  rw[nm_bs,nm_bs,show(⟨#[32]⟩:ByteArray)=bs [32] from rfl]
  have e:bl [bs (tieW (ZE ts j).f4),bs (nmL ns (ZE ts j).f0),bs (nmL ns (ZE ts j).f1),bs (Lib.itoa (ZE ts j).f2),bs (Lib.itoa (ZE ts j).f3)]=[tieW (ZE ts j).f4,nmL ns (ZE ts j).f0,nmL ns (ZE ts j).f1,Lib.itoa (ZE ts j).f2,Lib.itoa (ZE ts j).f3]:=by simp only[bl,List.map_cons,List.map_nil,bs_list]
  rw[impl_Join_f _ _ (by simp) (by rw[e,bs_list,tieT_join];omega),e,bs_list,tieT_join]
 by_cases hb:(ZE ts j).f4=true
 ·rw[if_pos hb,if_pos a.1,if_pos a.2,if_pos b.1,if_pos b.2,ZcJ _ (by omega) (by omega),Zi,ZcJ _ (by omega) (by omega),Zi,hj _ (by unfold tieW;rw[if_pos hb];rfl),Zi]
 ·rw[if_neg hb,if_pos a.1,if_pos a.2,if_pos b.1,if_pos b.2,ZcJ _ (by omega) (by omega),Zi,ZcJ _ (by omega) (by omega),Zi,hj _ (by unfold tieW;rw[if_neg hb];rfl),Zi]
def cat {α:Type} (g:Nat→List α):Nat→Nat→List α
 | 0,_=>[]
 | d+1,i=>g i ++ cat g d (i+1)
theorem ZbP {α:Type} {g:Nat→List α} {m:Nat}:∀(d i:Nat),(∀j,i≤j→j<i+d→(g j).length≤m)→(cat g d i).length≤d * m
 | 0,_,_=>by simp[cat]
 | d+1,i,h=>by
  have h1:=h i (Nat.le_refl _) (by omega)
  have h2:=ZbP (g:=g) d (i+1) (fun j a b=>h j (by omega) (by omega))
  rw[cat,List.length_append,Nat.succ_mul]
  omega
theorem ZdK {α β:Type} {step:Nat→List α×List β→Option (List α×List β)} {g:Nat→List α} {h:Nat→List β} {n B:Nat}
  (hs:∀i x y,i<n→x.length+(g i).length≤B→y.length+(h i).length≤B→step i (x,y)=some (x ++ g i,y ++ h i)):∀(d i:Nat) (x:List α) (y:List β),i+d=n→x.length+(cat g d i).length≤B→y.length+(cat h d i).length≤B→run step d i (x,y)=some (x ++ cat g d i,y ++ cat h d i)
 | 0,i,x,y,_,_,_=>by simp[run,cat]
 | d+1,i,x,y,hi,hx,hy=>by
  rw[cat,List.length_append] at hx hy
  rw[run,hs i x y (by omega) (by omega) (by omega),Zi,ZdK hs d (i+1) _ _ (by omega) (by rw[List.length_append];omega) (by rw[List.length_append];omega),cat,cat,List.append_assoc,List.append_assoc]
abbrev PLk:=S112
def lkH (z:Int) (i:Nat):PLk:=⟨0,(i:Int),⟨0,z⟩⟩
def lenAt (ts:List PTie) (ln:List Int) (i:Nat):Int:=rd ln (Zbc (fun y=>decide ((i:Int)=y)) (Zaa ts))
def lkT (ts:List PTie) (ln:List Int) (i:Nat):PLk:=⟨(ZE ts (i:Int)).f0,(ZE ts (i:Int)).f1,if (ZE ts (i:Int)).f4=true then⟨lenAt ts ln i,lenAt ts ln i⟩ else⟨(ZE ts (i:Int)).f2,(ZE ts (i:Int)).f3⟩⟩
def lkW (ns:List ZK) (i:Nat) (x:Int):PLk:=⟨Zas ns (prp x),(i:Int),⟨1,1000000⟩⟩
def lbL (ns:List ZK) (i:Nat):List Int:=(ZJ ns (i:Int)).f1
def tieH (ns:List ZK) (ts:List PTie) (vs:List Int) (i:Nat):Bool:=hapB ns vs (ZE ts (i:Int)).f0 && hapB ns vs (ZE ts (i:Int)).f1
def gA (ns:List ZK) (vs:List Int) (z:Int) (i:Nat):List PLk:=if hapB ns vs (i:Int)=true then[lkH z i] else[]
def gB (ns:List ZK) (ts:List PTie) (ln vs:List Int) (i:Nat):List PLk:=if tieH ns ts vs i=true then[lkT ts ln i] else[]
def gC (ns:List ZK) (vs:List Int) (i:Nat):List PLk:=if hapB ns vs (i:Int)=true then[] else[lkH 0 i]
def gE (ns:List ZK) (vs:List Int) (i:Nat) (j:Nat):List PLk:=if hapB ns vs (i:Int)=true then[lkW ns i (rd (lbL ns i) (j:Int))] else[]
def gD (ns:List ZK) (vs:List Int) (i:Nat):List PLk:=cat (gE ns vs i) (lbL ns i).length 0
def hor (ns:List ZK) (i:Nat):ByteArray:=(⟨#[104,111,114,105,122,111,110,32]⟩:ByteArray) ++ (ZJ ns (i:Int)).f0
def rA (ns:List ZK) (vs:List Int) (i:Nat):List ByteArray:=if hapB ns vs (i:Int)=true then[hor ns i] else[]
def rB (ns:List ZK) (ts:List PTie) (vs:List Int) (i:Nat):List ByteArray:=if tieH ns ts vs i=true then[bs (tieT ns (ZE ts (i:Int)))] else[]
def rC (ns:List ZK) (vs:List Int) (t:Nat→ByteArray) (i:Nat):List ByteArray:=if hapB ns vs (i:Int)=true then[] else[t i]
def aft (ns:List ZK) (i:Nat) (x:Int):ByteArray:=Zw.after (ZJ ns (Zas ns (prp x))).f0 (ZJ ns (i:Int)).f0
def rE (ns:List ZK) (vs:List Int) (i:Nat) (j:Nat):List ByteArray:=if hapB ns vs (i:Int)=true then[aft ns i (rd (lbL ns i) (j:Int))] else[]
def rD (ns:List ZK) (vs:List Int) (i:Nat):List ByteArray:=cat (rE ns vs i) (lbL ns i).length 0
def Zb6 (ns:List ZK) (ts:List PTie) (z:Int) (ln vs:List Int):List PLk:=cat (gA ns vs z) ns.length 0 ++ cat (gB ns ts ln vs) ts.length 0 ++ cat (gC ns vs) ns.length 0 ++ cat (gD ns vs) ns.length 0
def projR (ns:List ZK) (ts:List PTie) (vs:List Int) (t:Nat→ByteArray):List ByteArray:=cat (rA ns vs) ns.length 0 ++ cat (rB ns ts vs) ts.length 0 ++ cat (rC ns vs t) ns.length 0 ++ cat (rD ns vs) ns.length 0
theorem ZdM {α:Type} (b:Bool) (x:α):(if b=true then[x] else[]).length≤1:=by cases b <;> simp
theorem ite_len' {α:Type} (b:Bool) (x:α):(if b=true then[] else[x]).length≤1:=by cases b <;> simp
theorem gA_len (ns:List ZK) (vs:List Int) (z:Int) (i:Nat):(gA ns vs z i).length≤1:=ZdM _ _
theorem gB_len (ns:List ZK) (ts:List PTie) (ln vs:List Int) (i:Nat):(gB ns ts ln vs i).length≤1:=ZdM _ _
theorem gC_len (ns:List ZK) (vs:List Int) (i:Nat):(gC ns vs i).length≤1:=ite_len' _ _
theorem gE_len (ns:List ZK) (vs:List Int) (i j:Nat):(gE ns vs i j).length≤1:=ZdM _ _
theorem rA_len (ns:List ZK) (vs:List Int) (i:Nat):(rA ns vs i).length≤1:=ZdM _ _
theorem rB_len (ns:List ZK) (ts:List PTie) (vs:List Int) (i:Nat):(rB ns ts vs i).length≤1:=ZdM _ _
theorem rC_len (ns:List ZK) (vs:List Int) (t:Nat→ByteArray) (i:Nat):(rC ns vs t i).length≤1:=ite_len' _ _
theorem rE_len (ns:List ZK) (vs:List Int) (i j:Nat):(rE ns vs i j).length≤1:=ZdM _ _
theorem Zfe:∀(l:List Int) (p:Int),0≤p→p≤3→Zb8 p l=true→(l.length:Int)+p≤3
 | [],p,_,h,_=>by simp;omega
 | x :: t,p,h0,h1,h=>by
  rw[Zb8,Bool.and_eq_true,Bool.and_eq_true,decide_eq_true_eq] at h
  have h3:=Ze3 h.1.1
  have:=Zfe t (prp x) (by omega) (by omega) h.2
  rw[List.length_cons];omega
theorem Zfl {l:List Int} (h:labB l=true):l.length≤3:=by
 have:=Zfe l 0 (by omega) (by omega) h
 omega
theorem lbL_ok {ns:List ZK} (h:Z2 ns=true) {i:Nat} (hi:i<ns.length):labB (lbL ns i)=true:=nodes_lab h _ (Ze2 (by omega) (by omega))
theorem gD_len {ns:List ZK} (h:Z2 ns=true) (vs:List Int) {i:Nat} (hi:i<ns.length):(gD ns vs i).length≤3:=by
 have h1:=ZbP (m:=1) (g:=gE ns vs i) (lbL ns i).length 0 (fun j _ _=>gE_len ns vs i j)
 have h2:=Zfl (lbL_ok h hi)
 unfold gD
 omega
theorem rD_len {ns:List ZK} (h:Z2 ns=true) (vs:List Int) {i:Nat} (hi:i<ns.length):(rD ns vs i).length≤3:=by
 have h1:=ZbP (m:=1) (g:=rE ns vs i) (lbL ns i).length 0 (fun j _ _=>rE_len ns vs i j)
 have h2:=Zfl (lbL_ok h hi)
 unfold rD
 omega
theorem watch_in {ns:List ZK} {ts:List PTie} {z:Int} (h:Zat ns ts z=true) {i:Nat} (hi:i<ns.length) {x:Int} (hx:x∈lbL ns i):0≤Zas ns (prp x)∧Zas ns (prp x)<ns.length:=by
 unfold Zat at h
 rw[Bool.and_eq_true] at h
 have h1:=List.all_eq_true.1 h.2 _ (Ze2 (ns:=ns) (i:=(i:Int)) (by omega) (by omega))
 unfold Zcz at h1
 rw[Bool.not_eq_true',List.any_eq_false] at h1
 have h2:=h1 x hx
 rw[Bool.not_eq_true',Bool.not_eq_false] at h2
 unfold ZcF Zfh at h2
 simp only[Bool.and_eq_true,decide_eq_true_eq] at h2
 exact⟨h2.1.1.1,(Zet _ ns).2⟩
theorem free_idx {ts:List PTie} {i:Nat} (hi:i<ts.length) (hf:(ZE ts (i:Int)).f4=true):0≤Zbc (fun y=>decide ((i:Int)=y)) (Zaa ts)∧Zbc (fun y=>decide ((i:Int)=y)) (Zaa ts)<(Zaa ts).length:=by
 refine⟨?_,(Zet _ _).2⟩
 have h:(Zaa ts).any (fun y=>decide ((i:Int)=y))=true:=by
  refine List.any_eq_true.2 ⟨(i:Int),?_,Ze rfl⟩
  unfold Zaa Zc4
  refine List.mem_map.2 ⟨i,List.mem_filter.2 ⟨List.mem_range.2 hi,?_⟩,rfl⟩
  rw[← Zeg]
  exact hf
 rw[← Zdg] at h
 exact Zd h
theorem ZdP {α:Type} {g:Nat→List α} {x:α}:∀(d i:Nat),x∈cat g d i→∃j,i≤j∧j<i+d∧x∈g j
 | 0,_,h=>by simp[cat] at h
 | d+1,i,h=>by
  rw[cat,List.mem_append] at h
  rcases h with h|h
  ·exact⟨i,Nat.le_refl _,by omega,h⟩
  ·obtain⟨j,h1,h2,h3⟩:=ZdP d (i+1) h
   exact⟨j,by omega,by omega,h3⟩
theorem idxOf_at {α:Type} (p:α→Bool) (l:List α) (d:α) (h:0≤Zbc p l):p (l.getD (Zbc p l).toNat d)=true:=by
 unfold Zbc at h ⊢
 cases hf:l.findIdx? p with
 | none=>rw[hf] at h;simp at h
 | some i=>
  obtain⟨hi,hp,_⟩:=List.findIdx?_eq_some_iff_getElem.1 hf
  simp only[Int.toNat_natCast]
  rw[List.getD_eq_getElem?_getD,Zl hi]
  exact hp
theorem lens_at {ts:List PTie}:∀(L l:List Int) (j:Nat),Zbm ts L l=true→L.length=l.length→j<L.length→(ZE ts (L.getD j 0)).f2≤l.getD j 0∧l.getD j 0≤(ZE ts (L.getD j 0)).f3
 | [],_,j,_,_,hj=>by simp at hj
 | k :: L,[],j,_,hl,_=>by simp at hl
 | k :: L,n :: l,0,h,_,_=>by
  rw[Zbm,Bool.and_eq_true,Bool.and_eq_true,decide_eq_true_eq,decide_eq_true_eq] at h
  exact h.1
 | k :: L,n :: l,j+1,h,hl,hj=>by
  rw[Zbm,Bool.and_eq_true] at h
  simp only[List.length_cons] at hl hj
  exact lens_at L l j h.2 (by omega) (by omega)
section
variable {ns:List ZK} {ts:List PTie} {z:Int} {ln vs:List Int}
theorem len_bd (ht:ZaR ns ts=true) (hc:Zbk ns ts ln vs=true) {i:Nat} (hi:i<ts.length) (hf:(ZE ts (i:Int)).f4=true):(ZE ts (i:Int)).f2≤lenAt ts ln i∧lenAt ts ln i≤(ZE ts (i:Int)).f3:=by
 have hx:=free_idx hi hf
 unfold Zbk at hc
 simp only[Bool.and_eq_true,decide_eq_true_eq] at hc
 have hat:=Zd (idxOf_at (fun y=>decide ((i:Int)=y)) (Zaa ts) 0 hx.1)
 unfold lenAt rd
 generalize Zbc (fun y=>decide ((i:Int)=y)) (Zaa ts)=q at hx hat
 have:=lens_at (Zaa ts) ln q.toNat hc.2.2.1 (by omega) (by omega)
 rw[← hat] at this
 exact this
theorem lk_ok {n a c lo hi:Int} (h1:0≤a∧a<n) (h2:0≤c∧c<n) (h3 : -1000000≤lo) (h4:lo≤hi) (h5:hi≤1000000) (h6:lo<1000000) (h7 : -1000000<hi):Zbr n ⟨a,c,⟨lo,hi⟩⟩=true:=by
 unfold Zbr inN ZdG
 simp only[Bool.and_eq_true,decide_eq_true_eq,Bool.not_eq_true',decide_eq_false_iff_not]
 omega
theorem hor_bd (h:Zat ns ts z=true):1≤z∧z≤10:=by
 unfold Zat at h
 simp only[Bool.and_eq_true,Bool.not_eq_true',decide_eq_false_iff_not] at h
 omega
theorem proj_links (hs:Zat ns ts z=true) (hc:Zbk ns ts ln vs=true):∀x∈Zb6 ns ts z ln vs,Zbr (ns.length:Int) x=true:=by
 have hn:=ZbL hs
 have ht:=ZbZ hs
 have hz:=hor_bd hs
 have n1:1≤ns.length:=by
  have:=hn
  unfold Z2 at this
  simp only[Bool.and_eq_true,decide_eq_true_eq] at this
  exact this.1.1.1.1
 intro x hx
 unfold Zb6 at hx
 simp only[List.mem_append] at hx
 rcases hx with ((hx|hx)|hx)|hx
 ·obtain⟨j,_,hj,hg⟩:=ZdP _ _ hx
  unfold gA at hg
  split at hg
  ·rw[List.mem_singleton] at hg;subst hg
   exact lk_ok ⟨by omega,by omega⟩ ⟨by omega,by omega⟩ (by omega) (by omega) (by omega) (by omega) (by omega)
  ·cases hg
 ·obtain⟨j,_,hj,hg⟩:=ZdP _ _ hx
  unfold gB at hg
  split at hg
  ·rw[List.mem_singleton] at hg;subst hg
   have hj':j<ts.length:=by omega
   obtain⟨a,b,c,d⟩:=tie_bd ht (show(0:Int)≤(j:Int) by omega) (by omega)
   have hl:=len_bd ht hc hj'
   have hlh:(ZE ts (j:Int)).f2≤(ZE ts (j:Int)).f3:=by
    have:=ZdQ _ _ (by unfold ZaR at ht;rw[Bool.and_eq_true] at ht;exact ht.1) j (Nat.zero_le _) (by omega)
    unfold Zdc ZbU at this
    simp only[Bool.and_eq_true,Bool.not_eq_true',decide_eq_false_iff_not] at this
    omega
   unfold lkT
   by_cases hf:(ZE ts (j:Int)).f4=true
   ·rw[if_pos hf]
    have:=hl hf
    exact lk_ok a b (by omega) (by omega) (by omega) (by omega) (by omega)
   ·rw[if_neg hf]
    exact lk_ok a b (by omega) hlh (by omega) (by omega) (by omega)
  ·cases hg
 ·obtain⟨j,_,hj,hg⟩:=ZdP _ _ hx
  unfold gC at hg
  split at hg
  ·cases hg
  ·rw[List.mem_singleton] at hg;subst hg
   exact lk_ok ⟨by omega,by omega⟩ ⟨by omega,by omega⟩ (by omega) (by omega) (by omega) (by omega) (by omega)
 ·obtain⟨j,_,hj,hg⟩:=ZdP _ _ hx
  unfold gD at hg
  obtain⟨q,_,hq,hg⟩:=ZdP _ _ hg
  unfold gE at hg
  split at hg
  ·rw[List.mem_singleton] at hg;subst hg
   have hm:rd (lbL ns j) (q:Int)∈lbL ns j:=by rw[ZaW];exact ZaJ (by omega) 0
   have hw:=watch_in hs (show j<ns.length by omega) hm
   exact lk_ok hw ⟨by omega,by omega⟩ (by omega) (by omega) (by omega) (by omega) (by omega)
  ·cases hg
theorem proj_few (hs:Zat ns ts z=true) (hl:∀n∈ns,n.f1.length≤1) (ht:ts.length≤8):(Zb6 ns ts z ln vs).length≤40:=by
 have h7:=Zc9 (ZbL hs)
 have a:=ZbP (g:=gA ns vs z) (m:=1) ns.length 0 (fun j _ _=>gA_len ns vs z j)
 have b:=ZbP (g:=gB ns ts ln vs) (m:=1) ts.length 0 (fun j _ _=>gB_len ns ts ln vs j)
 have c:=ZbP (g:=gC ns vs) (m:=1) ns.length 0 (fun j _ _=>gC_len ns vs j)
 have d:=ZbP (g:=gD ns vs) (m:=1) ns.length 0 (fun j _ hj=>by
  unfold gD
  have:=ZbP (g:=gE ns vs j) (m:=1) (lbL ns j).length 0 (fun i _ _=>gE_len ns vs j i)
  have h1:=hl _ (Ze2 (ns:=ns) (i:=(j:Int)) (by omega) (by omega))
  have h2:(lbL ns j).length≤1:=h1
  omega)
 unfold Zb6
 simp only[List.length_append]
 omega
theorem proj_simple (hs:Zat ns ts z=true) (hl:∀n∈ns,n.f1.length≤1) (ht:ts.length≤8) (hc:Zbk ns ts ln vs=true):ZaK (ns.length:Int) (Zb6 ns ts z ln vs)=true:=by
 have h7:=Zc9 (ZbL hs)
 have n1:1≤ns.length:=by
  have:=ZbL hs
  unfold Z2 at this
  simp only[Bool.and_eq_true,decide_eq_true_eq] at this
  exact this.1.1.1.1
 have h40:=proj_few (ln:=ln) (vs:=vs) hs hl ht
 have hx:(Zb6 ns ts z ln vs).any (fun x=>!Zbr (ns.length:Int) x)=false:=by
  rw[List.any_eq_false]
  intro x hx
  rw[proj_links hs hc x hx];simp
 unfold ZaK
 rw[hx,Zf (show ¬(ns.length:Int)<1 by omega),Zf (show ¬(8:Int)<ns.length by omega),Zf (show ¬40<(Zb6 ns ts z ln vs).length by omega)];rfl
end
theorem Zd7 {ns:List ZK} {ts:List PTie} {z:Int} (n:Int) (hc:Zck ns ts) (k:Nat) (hk:2 ^ 66≤k):Zbg.f k ns ts z n=some (ZaB ns ts z n):=by
 unfold Zbg.f ZaB
 by_cases h0:n<0
 ·rw[if_pos h0,if_neg (by omega)]
 rw[if_neg h0,ZcS (z:=z) (Zek hc) hc.2.1 k (by omega),Zi]
 by_cases h1:n≥ZaT ns ts z
 ·rw[if_pos h1,if_neg (by omega)]
 have ht:=ZfE (by omega) (show n<ZaT ns ts z by omega)
 rw[if_neg h1,if_pos (by omega)]
 unfold Zbf.f
 obtain⟨q,e1,e2,_⟩:=wq_of (wq_impl ns ts z)
 rw[Zdi ns ts z hc.2.1 k (by omega),Zi,if_pos (okF_free ht hc.2.1),e1,Zi,Zi]
 unfold Zdl
 rw[e2]
theorem addB {a:Zw.Acc} {x:PLk} {s:ByteArray} (h1:a.1.length<4398046511104) (h2:a.2.length<4398046511104) (h3:s.size≤9223372036854775807):Zw.add a x s=some (a.1 ++ [x],a.2 ++ [s]):=if_pos ⟨h1,h2,h3⟩
theorem hap_f {ns:List ZK} {ts:List PTie} {z:Int} {ln vs:List Int} (hc:Zck ns ts) (hs:Zat ns ts z=true) (hv:ZcG vs=true) (k:Nat) (hk:2 ^ 65≤k) (i:Int) (h0:0≤i) (h1:i<ns.length):Zw.hap k ns ts z ln vs i=some (hapB ns vs i):=
 Zf2 z ln vs i hc (ZbL hs) hv h0 h1 k hk
theorem ZeP {ns:List ZK} (h:Z2 ns=true) {i:Int} (h0:0≤i) (h1:i<ns.length):(ZJ ns i).f0.size≤8:=(Zeo h h0 h1).1
theorem stA_f {ns:List ZK} {ts:List PTie} {z:Int} {vs:List Int} {hp:Int→Option Bool} (hn:Z2 ns=true) (hh:∀i:Int,0≤i→i<ns.length→hp i=some (hapB ns vs i)) (i:Nat) (x:List PLk) (y:List ByteArray) (hi:i<ns.length) (hx:x.length+(gA ns vs z i).length≤4194304) (hy:y.length+(rA ns vs i).length≤4194304) :
  Zw.stA hp ns ts z i (x,y)=some (x ++ gA ns vs z i,y ++ rA ns vs i):=by
 unfold Zw.stA
 rw[hh i (by omega) (by omega),Zi]
 unfold gA at hx ⊢
 unfold rA at hy ⊢
 generalize hapB ns vs (i:Int)=b at hx hy ⊢
 cases b with
 | false=>simp only[Bool.false_eq_true,if_false,List.append_nil]
 | true=>
  simp only[if_true] at hx hy ⊢
  have:=ZeP hn (i:=(i:Int)) (by omega) (by omega)
  rw[addB (by show x.length<_;simp only[List.length_cons,List.length_nil] at hx;omega) (by show y.length<_;simp only[List.length_cons,List.length_nil] at hy;omega) (by rw[ByteArray.size_append];show 8+_≤_;omega)]
  rfl
theorem stC_f {ns:List ZK} {vs:List Int} {hp:Int→Option Bool} (hh:∀i:Int,0≤i→i<ns.length→hp i=some (hapB ns vs i)) (i:Nat) (x:List PLk) (y:List ByteArray) (hi:i<ns.length) (hx:x.length+(gC ns vs i).length≤4194304) (hy:y.length+(rC ns vs (fun _=>⟨#[]⟩) i).length≤4194304) :
  Zw.stC hp i (x,y)=some (x ++ gC ns vs i,y ++ rC ns vs (fun _=>⟨#[]⟩) i):=by
 unfold Zw.stC
 rw[hh i (by omega) (by omega),Zi]
 unfold gC at hx ⊢
 unfold rC at hy ⊢
 generalize hapB ns vs (i:Int)=b at hx hy ⊢
 cases b with
 | true=>simp only[if_true,List.append_nil]
 | false=>
  simp only[Bool.false_eq_true,if_false] at hx hy ⊢
  rw[addB (by show x.length<_;simp only[List.length_cons,List.length_nil] at hx;omega) (by show y.length<_;simp only[List.length_cons,List.length_nil] at hy;omega) (by show(0:Nat)≤_;omega)]
  rfl
theorem stE_f {ns:List ZK} {ts:List PTie} {z:Int} {vs:List Int} {hp:Int→Option Bool} (hs:Zat ns ts z=true) (hh:∀i:Int,0≤i→i<ns.length→hp i=some (hapB ns vs i)) (i:Nat) (hi:i<ns.length) (j:Nat) (x:List PLk) (y:List ByteArray) (hj:j<(lbL ns i).length) (hx:x.length+(gE ns vs i j).length≤4194304) (hy:y.length+(rE ns vs i j).length≤4194304) :
  Zw.stE hp ns ts z i (lbL ns i) j (x,y)=some (x ++ gE ns vs i j,y ++ rE ns vs i j):=by
 have hn:=ZbL hs
 have hm:rd (lbL ns i) (j:Int)∈lbL ns i:=by rw[ZaW];exact ZaJ hj 0
 have hlit:=labB_all (lbL_ok hn hi) _ hm
 have hw:=watch_in hs hi hm
 unfold Zw.stE
 rw[hh i (by omega) (by omega),Zi]
 unfold gE at hx ⊢
 unfold rE at hy ⊢
 generalize hapB ns vs (i:Int)=b at hx hy ⊢
 cases b with
 | false=>simp only[Bool.false_eq_true,if_false,List.append_nil]
 | true=>
  simp only[if_true] at hx hy ⊢
  rw[ZdT hlit,Zi,Za4.f,Zi,if_pos hw]
  have h1:=ZeP hn (i:=(i:Int)) (by omega) (by omega)
  have h2:=ZeP hn hw.1 hw.2
  rw[addB (by show x.length<_;simp only[List.length_cons,List.length_nil] at hx;omega) (by show y.length<_;simp only[List.length_cons,List.length_nil] at hy;omega) (by unfold Zw.after;rw[ByteArray.size_append,ByteArray.size_append,ByteArray.size_append];show 6+_+1+_≤_;omega)]
  rfl
theorem stD_f {ns:List ZK} {ts:List PTie} {z:Int} {vs:List Int} {hp:Int→Option Bool} (hs:Zat ns ts z=true) (hh:∀i:Int,0≤i→i<ns.length→hp i=some (hapB ns vs i)) (i:Nat) (x:List PLk) (y:List ByteArray) (hi:i<ns.length) (hx:x.length+(gD ns vs i).length≤4194304) (hy:y.length+(rD ns vs i).length≤4194304) :
  Zw.stD hp ns ts z i (x,y)=some (x ++ gD ns vs i,y ++ rD ns vs i):=by
 unfold gD at hx ⊢
 unfold rD at hy ⊢
 show run (Zw.stE hp ns ts z i (lbL ns i)) (lbL ns i).length 0 (x,y)=_
 exact ZdK (n:=(lbL ns i).length) (B:=4194304) (fun j x y hj h1 h2=>stE_f hs hh i hi j x y hj h1 h2) _ 0 x y (by omega) hx hy
theorem stB_f {ns:List ZK} {ts:List PTie} {z:Int} {ln vs:List Int} {hp:Int→Option Bool} (hs:Zat ns ts z=true) (hl:ln.length=(Zaa ts).length) (hh:∀i:Int,0≤i→i<ns.length→hp i=some (hapB ns vs i)) (i:Nat) (x:List PLk) (y:List ByteArray) (hi:i<ts.length) (hx:x.length+(gB ns ts ln vs i).length≤4194304) (hy:y.length+(rB ns ts vs i).length≤4194304) :
  Zw.stB hp ns ts z ln (Zaa ts) i (x,y)=some (x ++ gB ns ts ln vs i,y ++ rB ns ts vs i):=by
 have hn:=ZbL hs
 have ht:=ZbZ hs
 obtain⟨⟨f0,f1⟩,⟨g0,g1⟩,_⟩:=tie_bd ht (j:=(i:Int)) (by omega) (by omega)
 unfold Zw.stB
 rw[hh _ f0 f1,Zi]
 unfold gB tieH at hx ⊢
 unfold rB tieH at hy ⊢
 cases h1:hapB ns vs (ZE ts (i:Int)).f0 with
 | false=>simp only[Bool.false_and,Bool.false_eq_true,if_false,List.append_nil]
 | true=>
  rw[if_pos rfl,hh _ g0 g1,Zi]
  rw[h1,Bool.true_and] at hx hy
  rw[Bool.true_and]
  cases h2:hapB ns vs (ZE ts (i:Int)).f1 with
  | false=>simp only[Bool.false_eq_true,if_false,List.append_nil]
  | true=>
   rw[h2] at hx hy
   simp only[if_true] at hx hy ⊢
   have hspan:Zw.span (Zaa ts) ln i (ZE ts (i:Int))=some ((lkT ts ln i).f2.f0,(lkT ts ln i).f2.f1):=by
    unfold Zw.span lkT lenAt
    cases h4:(ZE ts (i:Int)).f4 with
    | false=>rfl
    | true=>
     have hq:=free_idx hi h4
     rw[if_pos rfl,if_pos ⟨hq.1,by rw[hl];exact hq.2⟩];rfl
   have hsz:=tieT_len hn ht (j:=(i:Int)) (by omega) (by omega)
   rw[hspan,Zi,Zf1 z hn ht (by omega) (by omega),Zi,addB (by show x.length<_;simp only[List.length_cons,List.length_nil] at hx;omega) (by show y.length<_;simp only[List.length_cons,List.length_nil] at hy;omega) (by rw[bs_size];omega)]
   unfold lkT
   rfl
theorem Zei {ns:List ZK} {ts:List PTie} {z:Int} {ln vs:List Int} (hc:Zck ns ts) (hs:Zat ns ts z=true) (hch:Zbk ns ts ln vs=true) (k:Nat) (hk:2 ^ 65≤k):Zw.f k ns ts z ln vs=some ((ns.length:Int),Zb6 ns ts z ln vs,projR ns ts vs (fun _=>⟨#[]⟩)):=by
 have hn:=ZbL hs
 have ht:=ZbZ hs
 have n7:=Zc9 hn
 have t14:=ZeB ht
 have hl:ln.length=(Zaa ts).length:=by
  unfold Zbk at hch
  simp only[Bool.and_eq_true,decide_eq_true_eq] at hch
  exact hch.1
 have hh:∀i:Int,0≤i→i<ns.length→Zw.hap k ns ts z ln vs i=some (hapB ns vs i):=fun i h0 h1=>hap_f hc hs (ZgA hch) k hk i h0 h1
 have a1:=ZbP (m:=1) (g:=gA ns vs z) ns.length 0 (fun j _ _=>gA_len ns vs z j)
 have a2:=ZbP (m:=1) (g:=rA ns vs) ns.length 0 (fun j _ _=>rA_len ns vs j)
 have b1:=ZbP (m:=1) (g:=gB ns ts ln vs) ts.length 0 (fun j _ _=>gB_len ns ts ln vs j)
 have b2:=ZbP (m:=1) (g:=rB ns ts vs) ts.length 0 (fun j _ _=>rB_len ns ts vs j)
 have c1:=ZbP (m:=1) (g:=gC ns vs) ns.length 0 (fun j _ _=>gC_len ns vs j)
 have c2:=ZbP (m:=1) (g:=rC ns vs (fun _=>⟨#[]⟩)) ns.length 0 (fun j _ _=>rC_len ns vs _ j)
 have d1:=ZbP (m:=3) (g:=gD ns vs) ns.length 0 (fun j _ h=>gD_len hn vs (by omega))
 have d2:=ZbP (m:=3) (g:=rD ns vs) ns.length 0 (fun j _ h=>rD_len hn vs (by omega))
 unfold Zw.f
 rw[ZdK (g:=gA ns vs z) (h:=rA ns vs) (n:=ns.length) (B:=4194304) (fun i x y hi h1 h2=>stA_f (ts:=ts) hn hh i x y hi h1 h2) _ 0 [] [] (by omega) (by simp only[List.length_nil];omega) (by simp only[List.length_nil];omega),Zi,List.nil_append,List.nil_append]
 unfold Zw.f1
 rw[Zdi ns ts z hc.2.1 k (by omega),Zi]
 rw[ZdK (g:=gB ns ts ln vs) (h:=rB ns ts vs) (n:=ts.length) (B:=4194304) (fun i x y hi h1 h2=>stB_f hs hl hh i x y hi h1 h2) _ 0 _ _ (by omega) (by omega) (by omega),Zi]
 unfold Zw.f2
 rw[ZdK (g:=gC ns vs) (h:=rC ns vs (fun _=>⟨#[]⟩)) (n:=ns.length) (B:=4194304) (fun i x y hi h1 h2=>stC_f hh i x y hi h1 h2) _ 0 _ _ (by omega) (by rw[List.length_append];omega) (by rw[List.length_append];omega),Zi]
 unfold Zw.f3
 rw[ZdK (g:=gD ns vs) (h:=rD ns vs) (n:=ns.length) (B:=4194304) (fun i x y hi h1 h2=>stD_f hs hh i x y hi h1 h2) _ 0 _ _ (by omega) (by simp only[List.length_append];omega) (by simp only[List.length_append];omega),Zi]
 rfl
abbrev PLink:=S112
theorem Zfu {n:Int} {L:List PLink} (h:ZaK n L=true):1≤n∧n≤8∧L.length≤40∧∀x∈L,Zbr n x=true:=by
 unfold ZaK at h
 simp only[Bool.and_eq_true,Bool.not_eq_true',decide_eq_false_iff_not] at h
 obtain⟨h1,h2,h3,h4⟩:=h
 refine⟨by omega,by omega,by omega,fun x hx=>?_⟩
 have:=List.any_eq_false.1 h4 x hx
 simpa using this
def ZcU.f (a0_0:Int) (a0_1:Int):Option (Bool):=if a0_0≥(-1000000) then(if a0_0≤a0_1 then(if a0_1≤1000000 then(if a0_0=1000000 then(some false) else(some (a0_1 != (-1000000)))) else(some false)) else(some false)) else(some false)
theorem ZcU.calls (a0_0:Int) (a0_1:Int) (r:Bool) (w:World) (h:ZcU.f a0_0 a0_1=some r) :
  Calls Tryz.prog 157 #[.agg #[.int .i64 a0_0,.int .i64 a0_1]] w fun e w'=>e=.returned (.bool r)∧Below w.heap.size w w':=by
 have hu110:=Tryz.underlying110
 have HB:=Za (Below.refl w.heap.size w)
 have H:(if a0_0≥(-1000000) then(if a0_0≤a0_1 then(if a0_1≤1000000 then(if a0_0=1000000 then(some false) else(some (a0_1 != (-1000000)))) else(some false)) else(some false)) else(some false))=some r:=h
 clear h
 by_cases c2:a0_0≥(-1000000)
 ·rw[if_pos c2] at H
  have c2b0:decide ((-1000000)≤a0_0)=true:=Ze c2
  clear c2
  by_cases c3:a0_0≤a0_1
  ·rw[if_pos c3] at H
   have c3b0:decide (a0_0≤a0_1)=true:=Ze c3
   clear c3
   by_cases c4:a0_1≤1000000
   ·rw[if_pos c4] at H
    have c4b0:decide (a0_1≤1000000)=true:=Ze c4
    clear c4
    by_cases c5:a0_0=1000000
    ·rw[if_pos c5] at H
     have c5b0:(a0_0 == 1000000)=true:=beq_iff_eq.mpr c5
     have c5b1:(a0_0 != 1000000)=false:=bne_eq_false_iff_eq.mpr c5
     clear c5
     obtain rfl:=Zg H
     go_enter Tryz.func157,Tryz.ntmps157
     go_wp2_with (first|((with_reducible refine ZF (N:=1) rfl ?_);refine ZG ?hg (N:=1) ?hd (cs:=#[.int .i64 a0_0,.int .i64 a0_1]) (t:=110) ?hr ?_;(case hd=>rfl);(case hg=>rfl);(case hr=>first|(go_simp;done)|(go_simp;rfl));intro gb1 hg w6 hbox hb;have BK1:=Za (hbox);have GW1:=Za ((by rw[hg];exact(Zv (by repeat(first|(with_reducible first|exact HB.out|apply Zo|apply Zn|apply Zp)|exact HB.out))):w.heap.size≤gb1));have GE1:=Za ((by rw[hg];exact(Zv (by repeat(first|(with_reducible first|exact HB.out|apply Zo|apply Zn|apply Zp)|exact HB.out))):w.heap.size≤gb1));replace HB:=Za (Zr (by repeat(first|(with_reducible first|exact HB.out|apply Zo|apply Zn|apply Zp)|exact HB.out)) hb);clear hb hbox hg;have hcz7_0:w6.cell? ⟨gb1,0,none⟩=some (.int .i64 a0_0):=(Zm BK1.out 0).trans rfl;have hcz7_1:w6.cell? ⟨gb1,1,none⟩=some (.int .i64 a0_1):=(Zm BK1.out 1).trans rfl))
     go_ret
     exact⟨by first|rfl|(simp[ZC,ZB] <;> rfl)|(simp[*,ZC,ZB] <;> rfl),by repeat(first|(with_reducible first|exact HB.out|apply Zo|apply Zn|apply Zp|refine Zt ?_ GE1.out)|exact HB.out)⟩
    ·rw[if_neg c5] at H
     have c5b0:(a0_0 == 1000000)=false:=beq_eq_false_iff_ne.mpr c5
     have c5b1:(a0_0 != 1000000)=true:=bne_iff_ne.mpr c5
     obtain rfl:=Zg H
     go_enter Tryz.func157,Tryz.ntmps157
     go_wp2_with (first|((with_reducible refine ZF (N:=1) rfl ?_);refine ZG ?hg (N:=1) ?hd (cs:=#[.int .i64 a0_0,.int .i64 a0_1]) (t:=110) ?hr ?_;(case hd=>rfl);(case hg=>rfl);(case hr=>first|(go_simp;done)|(go_simp;rfl));intro gb1 hg w8 hbox hb;have BK1:=Za (hbox);have GW1:=Za ((by rw[hg];exact(Zv (by repeat(first|(with_reducible first|exact HB.out|apply Zo|apply Zn|apply Zp)|exact HB.out))):w.heap.size≤gb1));have GE1:=Za ((by rw[hg];exact(Zv (by repeat(first|(with_reducible first|exact HB.out|apply Zo|apply Zn|apply Zp)|exact HB.out))):w.heap.size≤gb1));replace HB:=Za (Zr (by repeat(first|(with_reducible first|exact HB.out|apply Zo|apply Zn|apply Zp)|exact HB.out)) hb);clear hb hbox hg;have hcz9_0:w8.cell? ⟨gb1,0,none⟩=some (.int .i64 a0_0):=(Zm BK1.out 0).trans rfl;have hcz9_1:w8.cell? ⟨gb1,1,none⟩=some (.int .i64 a0_1):=(Zm BK1.out 1).trans rfl))
     go_ret
     exact⟨by first|rfl|(simp[ZC,ZB] <;> rfl)|(simp[*,ZC,ZB] <;> rfl),by repeat(first|(with_reducible first|exact HB.out|apply Zo|apply Zn|apply Zp|refine Zt ?_ GE1.out)|exact HB.out)⟩
   ·rw[if_neg c4] at H
    have c4b0:decide (a0_1≤1000000)=false:=Zf c4
    clear c4
    obtain rfl:=Zg H
    go_enter Tryz.func157,Tryz.ntmps157
    go_wp2_with (first|((with_reducible refine ZF (N:=1) rfl ?_);refine ZG ?hg (N:=1) ?hd (cs:=#[.int .i64 a0_0,.int .i64 a0_1]) (t:=110) ?hr ?_;(case hd=>rfl);(case hg=>rfl);(case hr=>first|(go_simp;done)|(go_simp;rfl));intro gb1 hg w10 hbox hb;have BK1:=Za (hbox);have GW1:=Za ((by rw[hg];exact(Zv (by repeat(first|(with_reducible first|exact HB.out|apply Zo|apply Zn|apply Zp)|exact HB.out))):w.heap.size≤gb1));have GE1:=Za ((by rw[hg];exact(Zv (by repeat(first|(with_reducible first|exact HB.out|apply Zo|apply Zn|apply Zp)|exact HB.out))):w.heap.size≤gb1));replace HB:=Za (Zr (by repeat(first|(with_reducible first|exact HB.out|apply Zo|apply Zn|apply Zp)|exact HB.out)) hb);clear hb hbox hg;have hcz11_0:w10.cell? ⟨gb1,0,none⟩=some (.int .i64 a0_0):=(Zm BK1.out 0).trans rfl;have hcz11_1:w10.cell? ⟨gb1,1,none⟩=some (.int .i64 a0_1):=(Zm BK1.out 1).trans rfl))
    go_ret
    exact⟨by first|rfl|(simp[ZC,ZB] <;> rfl)|(simp[*,ZC,ZB] <;> rfl),by repeat(first|(with_reducible first|exact HB.out|apply Zo|apply Zn|apply Zp|refine Zt ?_ GE1.out)|exact HB.out)⟩
  ·rw[if_neg c3] at H
   have c3b0:decide (a0_0≤a0_1)=false:=Zf c3
   clear c3
   obtain rfl:=Zg H
   go_enter Tryz.func157,Tryz.ntmps157
   go_wp2_with (first|((with_reducible refine ZF (N:=1) rfl ?_);refine ZG ?hg (N:=1) ?hd (cs:=#[.int .i64 a0_0,.int .i64 a0_1]) (t:=110) ?hr ?_;(case hd=>rfl);(case hg=>rfl);(case hr=>first|(go_simp;done)|(go_simp;rfl));intro gb1 hg w12 hbox hb;have BK1:=Za (hbox);have GW1:=Za ((by rw[hg];exact(Zv (by repeat(first|(with_reducible first|exact HB.out|apply Zo|apply Zn|apply Zp)|exact HB.out))):w.heap.size≤gb1));have GE1:=Za ((by rw[hg];exact(Zv (by repeat(first|(with_reducible first|exact HB.out|apply Zo|apply Zn|apply Zp)|exact HB.out))):w.heap.size≤gb1));replace HB:=Za (Zr (by repeat(first|(with_reducible first|exact HB.out|apply Zo|apply Zn|apply Zp)|exact HB.out)) hb);clear hb hbox hg;have hcz13_0:w12.cell? ⟨gb1,0,none⟩=some (.int .i64 a0_0):=(Zm BK1.out 0).trans rfl;have hcz13_1:w12.cell? ⟨gb1,1,none⟩=some (.int .i64 a0_1):=(Zm BK1.out 1).trans rfl))
   go_ret
   exact⟨by first|rfl|(simp[ZC,ZB] <;> rfl)|(simp[*,ZC,ZB] <;> rfl),by repeat(first|(with_reducible first|exact HB.out|apply Zo|apply Zn|apply Zp|refine Zt ?_ GE1.out)|exact HB.out)⟩
 ·rw[if_neg c2] at H
  have c2b0:decide ((-1000000)≤a0_0)=false:=Zf c2
  clear c2
  obtain rfl:=Zg H
  go_enter Tryz.func157,Tryz.ntmps157
  go_wp2_with (first|((with_reducible refine ZF (N:=1) rfl ?_);refine ZG ?hg (N:=1) ?hd (cs:=#[.int .i64 a0_0,.int .i64 a0_1]) (t:=110) ?hr ?_;(case hd=>rfl);(case hg=>rfl);(case hr=>first|(go_simp;done)|(go_simp;rfl));intro gb1 hg w14 hbox hb;have BK1:=Za (hbox);have GW1:=Za ((by rw[hg];exact(Zv (by repeat(first|(with_reducible first|exact HB.out|apply Zo|apply Zn|apply Zp)|exact HB.out))):w.heap.size≤gb1));have GE1:=Za ((by rw[hg];exact(Zv (by repeat(first|(with_reducible first|exact HB.out|apply Zo|apply Zn|apply Zp)|exact HB.out))):w.heap.size≤gb1));replace HB:=Za (Zr (by repeat(first|(with_reducible first|exact HB.out|apply Zo|apply Zn|apply Zp)|exact HB.out)) hb);clear hb hbox hg;have hcz15_0:w14.cell? ⟨gb1,0,none⟩=some (.int .i64 a0_0):=(Zm BK1.out 0).trans rfl;have hcz15_1:w14.cell? ⟨gb1,1,none⟩=some (.int .i64 a0_1):=(Zm BK1.out 1).trans rfl))
  go_ret
  exact⟨by first|rfl|(simp[ZC,ZB] <;> rfl)|(simp[*,ZC,ZB] <;> rfl),by repeat(first|(with_reducible first|exact HB.out|apply Zo|apply Zn|apply Zp|refine Zt ?_ GE1.out)|exact HB.out)⟩
theorem sivOk_f (lo hi:Int):ZcU.f lo hi=some (ZdG lo hi):=ivOk_f lo hi
theorem slink_ok {n:Int} (h0:1≤n) (h8:n≤8) (y:S112):(inR y.f0 0 (wrap64 (n - 1)) && (inR y.f1 0 (wrap64 (n - 1)) && ZdG y.f2.f0 y.f2.f1))=Zbr n y:=by
 rw[Z9 (by omega) (by omega)]
 unfold Zbr
 rw[show inR y.f0 0 (n - 1)=inN n y.f0 by unfold inR inN;rw[Bool.eq_iff_iff];simp only[Bool.and_eq_true,decide_eq_true_eq];omega,show inR y.f1 0 (n - 1)=inN n y.f1 by unfold inR inN;rw[Bool.eq_iff_iff];simp only[Bool.and_eq_true,decide_eq_true_eq];omega]
def Za1.f (_k:Nat) (a0_0:Int) (l0_1:List (S112)):Option Bool:=some (ZaK a0_0 l0_1)
theorem Za1.calls (k:Nat) (a0_0:Int) (A0_1:Option Addr) (c0_1:Nat) (l0_1:List (S112)) (r:Bool) (w:World) (hr0_1:Kd.C k112 w A0_1 l0_1.length l0_1) (hc0_1:l0_1.length≤c0_1) (h:Za1.f k a0_0 l0_1=some r) :
  Calls Tryz.prog 99 #[.agg #[.int .i64 a0_0,.slice A0_1 l0_1.length c0_1]] w fun e w'=>e=.returned (.bool r)∧Below w.heap.size w w':=by
 obtain rfl:=Zg h
 have HR0:=Za hr0_1
 have HN0:=Za (show l0_1.length≤9223372036854775807 from hr0_1.2.1)
 have HB0:=Za (Zo (Below.refl w.heap.size w) (.cells #[.int .i64 a0_0,.slice A0_1 l0_1.length c0_1] 54))
 have hu:=Tryz.underlying112
 have hu2:=Tryz.underlying110
 have hu3:=Tryz.underlying54
 clear hr0_1 hc0_1 h
 cases b1:inR a0_0 1 8 with
 | false=>
  have HE:=Za (show ZaK a0_0 l0_1=false by
   unfold inR at b1
   unfold ZaK
   by_cases h3:a0_0<1
   ·rw[Ze h3];rfl
   ·rw[Zf h3,Ze (show 8<a0_0 by
     rw[Ze (show 1≤a0_0 by omega),Bool.true_and] at b1
     have:=of_decide_eq_false b1;omega)];rfl)
  go_enter Tryz.func99,Tryz.ntmps99
  go_wp2_with (go_at_call 127;refine(ZdH _ _ _ _).mono ?_;rintro e w' ⟨rfl,nd,rfl⟩)
  go_ret
  exact⟨by rw[HE.out];rfl,by repeat(first|exact HB0.out|apply Zo|apply Zn|apply Zp)⟩
 | true=>
 have hN:1≤a0_0∧a0_0≤8:=by
  unfold inR at b1
  simpa using b1
 have HNN:=Za hN
 cases b2:decide ((40:Int)<(l0_1.length:Int)) with
 | true=>
  have HE:=Za (show ZaK a0_0 l0_1=false by
   unfold ZaK
   rw[Zf (show ¬a0_0<1 by omega),Zf (show ¬8<a0_0 by omega),Ze (show 40<l0_1.length by have:=Zd b2;omega)];rfl)
  clear hN
  go_enter Tryz.func99,Tryz.ntmps99
  go_wp2_with (go_at_call 127;refine(ZdH _ _ _ _).mono ?_;rintro e w' ⟨rfl,nd,rfl⟩)
  go_ret
  exact⟨by rw[HE.out];rfl,by repeat(first|exact HB0.out|apply Zo|apply Zn|apply Zp)⟩
 | false=>
 have HE0:=Za (show ZaK a0_0 l0_1=!((l0_1.drop 0).any fun x=>!Zbr a0_0 x) by
  unfold ZaK
  rw[Zf (show ¬a0_0<1 by omega),Zf (show ¬8<a0_0 by omega),Zf (show ¬40<l0_1.length by have:=of_decide_eq_false b2;omega)];rfl)
 clear hN
 go_enter Tryz.func99,Tryz.ntmps99
 go_wp2_with (go_at_call 127;refine(ZdH _ _ _ _).mono ?_;rintro e w' ⟨rfl,nd,rfl⟩)
 clear b1 b2
 go_loopg [18] l0_1.length (fun gg s18 wr=>∃kk:Nat,s18=.int .i64 (kk:Int)∧Aside0 (kk≤l0_1.length)∧Aside0 (l0_1.length - kk≤gg)∧Aside0 (Below w.heap.size w wr)∧Aside0 (wr.cell? ⟨w.heap.size,0,none⟩=some (.int .i64 a0_0))∧Aside0 (ZaK a0_0 l0_1=!((l0_1.drop kk).any fun x=>!Zbr a0_0 x)))
 case atStart=>exact⟨0,rfl,⟨Nat.zero_le _⟩,⟨by omega⟩,⟨by repeat(first|exact HB0.out|apply Zo|apply Zn|apply Zp)⟩,⟨by go_simp⟩,HE0⟩
 case round=>
 clear HE0
 obtain⟨kk,rfl,HK,HG,HBr,HX,HE⟩:=hrel
 have k0:=HX.out
 have hk0:=Zc wr _ k0
 by_cases hlt:kk<l0_1.length
 ·have hltz:(kk:Int)<(l0_1.length:Int):=by omega
  obtain⟨ad,e1,hx0,hx1,hx2,hx3⟩:=Ze7 (Zb HR0.out HBr.out) (kk:Int) (by omega) hltz
  cases e1
  have hrd:(Zcf l0_1 (kk:Int))=l0_1.getD kk z112:=by unfold Zcf;rw[Int.toNat_natCast]
  rw[hrd] at hx0 hx1 hx2 hx3
  rw[Int.toNat_natCast] at hx0 hx1 hx2 hx3
  have HD:=HE.out
  rw[Zal hlt z112,List.any_cons,← slink_ok HNN.out.1 HNN.out.2] at HD
  clear hrd HE
  generalize l0_1.getD kk z112=x at hx0 hx1 hx2 hx3 HD
  obtain⟨f0,f1,⟨f2,f3⟩⟩:=x
  dsimp only at hx0 hx1 hx2 hx3 HD
  have hlta:=Zc wr _ hx0
  have HDA:=Za HD;clear HD
  cases c1:inR f0 0 (wrap64 (a0_0 - 1)) with
  | false=>
   have HF:=Za (show ZaK a0_0 l0_1=false by rw[HDA.out,c1];rfl)
   clear HDA
   go_wp2_with (go_at_call 127;refine(ZdH _ _ _ _).mono ?_;rintro e w' ⟨rfl,nd,rfl⟩)
   go_ret
   exact⟨by rw[HF.out];rfl,by repeat(first|(with_reducible first|exact HBr.out|apply Zo|apply Zn|apply Zp)|exact HBr.out)⟩
  | true=>
  cases c2:inR f1 0 (wrap64 (a0_0 - 1)) with
  | false=>
   have HF:=Za (show ZaK a0_0 l0_1=false by rw[HDA.out,c1,c2];rfl)
   clear HDA
   go_wp2_with (go_at_call 127;refine(ZdH _ _ _ _).mono ?_;rintro e w' ⟨rfl,nd,rfl⟩)
   go_ret
   exact⟨by rw[HF.out];rfl,by repeat(first|(with_reducible first|exact HBr.out|apply Zo|apply Zn|apply Zp)|exact HBr.out)⟩
  | true=>
  rw[c1,c2] at HDA
  have HI:=Za fun (W:World)=>ZcU.calls f2 f3 _ W (sivOk_f f2 f3)
  generalize ZdG f2 f3=q at HI HDA
  cases q with
  | false=>
   have HF:=Za (show ZaK a0_0 l0_1=false by rw[HDA.out];rfl)
   clear HDA
   go_wp2_with (first|(go_at_call 127;refine(ZdH _ _ _ _).mono ?_;rintro e w' ⟨rfl,nd,rfl⟩)|(go_at_call 157;refine(HI.out _).mono ?_;rintro e w' ⟨rfl,hb⟩))
   go_ret
   exact⟨by rw[HF.out];rfl,Zr (by repeat(first|(with_reducible first|exact HBr.out|apply Zo|apply Zn|apply Zp)|exact HBr.out)) hb⟩
  | true=>
   have HF:=Za (show ZaK a0_0 l0_1=!((l0_1.drop (kk+1)).any fun x=>!Zbr a0_0 x) by rw[HDA.out];rfl)
   clear HDA
   go_wp2_with (first|(go_at_call 127;refine(ZdH _ _ _ _).mono ?_;rintro e w' ⟨rfl,nd,rfl⟩)|(go_at_call 157;refine(HI.out _).mono ?_;rintro e w' ⟨rfl,hb⟩))
   go_roundg (l0_1.length - (kk+1))
   case measure=>have:=HG.out;omega
   case rel=>exact⟨kk+1,by rw[ZO hlt HN0.out],⟨by omega⟩,⟨by omega⟩,⟨Zr (by repeat(first|(with_reducible first|exact HBr.out|apply Zo|apply Zn|apply Zp)|exact HBr.out)) hb⟩,⟨Zx hb (by go_simp)⟩,HF⟩
 ·obtain rfl:kk=l0_1.length:=by have:=HK.out;omega
  have HF:=Za (show ZaK a0_0 l0_1=true by rw[HE.out,List.drop_length];rfl)
  clear HE hlt
  go_wp2
  go_ret
  exact⟨by rw[HF.out];rfl,HBr.out⟩
def ZaZ.l0:Nat→Int→List Int→Int→Int→List Int→List Int→Option (Int)
 | 0,_,_,_,_,_,_=>none
 | k+1,x2,x10,x11,x12,x96003000,x96003001=>if x12<x11 then(if 0≤x12 then(if x12<(x10.length:Int) then(if (rd x10 x12)=x2 then(if x12<(x96003000.length:Int) then(some (rd x96003000 x12)) else(none)) else(ZaZ.l0 k x2 x10 x11 (wrap64 (x12+1)) x96003000 x96003001)) else(none)) else(none)) else(some 0)
def ZaZ.f (k:Nat) (l0_0:List (S39)) (l0_1:List (S82)) (a0_2:Int) (l1_0:List Int) (l1_1:List Int) (a2:Int):Option (Int):=(Zam.f k l0_0 l0_1 a0_2).bind fun t3=>(ZaZ.l0 k a2 t3 (t3.length:Int) 0 l1_0 l1_1)
theorem ZaZ.calls (k:Nat) (A0_0:Option Addr) (c0_0:Nat) (l0_0:List (S39)) (A0_1:Option Addr) (c0_1:Nat) (l0_1:List (S82)) (a0_2:Int) (A1_0:Option Addr) (c1_0:Nat) (l1_0:List Int) (A1_1:Option Addr) (c1_1:Nat) (l1_1:List Int) (a2:Int) (r:Int) (w:World) (hr0_0:Kd.C k39 w A0_0 l0_0.length l0_0) (hc0_0:l0_0.length≤c0_0) (hr0_1:Kd.C k82 w A0_1 l0_1.length l0_1) (hc0_1:l0_1.length≤c0_1) (hr1_0:Kd.C (Kd.int .i64) w A1_0 l1_0.length l1_0) (hc1_0:l1_0.length≤c1_0) (hr1_1:Kd.C (Kd.int .i64) w A1_1 l1_1.length l1_1) (hc1_1:l1_1.length≤c1_1) (h:ZaZ.f k l0_0 l0_1 a0_2 l1_0 l1_1 a2=some r) :
  Calls Tryz.prog 96 #[.agg #[.slice A0_0 l0_0.length c0_0,.slice A0_1 l0_1.length c0_1,.int .i64 a0_2],.agg #[.slice A1_0 l1_0.length c1_0,.slice A1_1 l1_1.length c1_1],.int .i64 a2] w fun e w'=>e=.returned (.int .i64 r)∧Below w.heap.size w w':=by
 have hu25:=Tryz.underlying25
 have hu58:=Tryz.underlying58
 have HR0_0:=Za hr0_0;have HC0_0:=Za hc0_0;clear hr0_0 hc0_0;have HR0_1:=Za hr0_1;have HC0_1:=Za hc0_1;clear hr0_1 hc0_1;have HR1_0:=Za hr1_0;have HC1_0:=Za hc1_0;clear hr1_0 hc1_0;have HR1_1:=Za hr1_1;have HC1_1:=Za hc1_1;clear hr1_1 hc1_1
 have HB:=Za (Below.refl w.heap.size w)
 have H:((Zam.f k l0_0 l0_1 a0_2).bind fun t3=>(ZaZ.l0 k a2 t3 (t3.length:Int) 0 l1_0 l1_1))=some r:=h
 clear h
 replace H:=Zh H
 obtain⟨t3,A40,H⟩:=H;have A4:=Za A40;clear A40
 have H':=Za H
 clear H
 go_enter Tryz.func96,Tryz.ntmps96
 go_wp2_with (first|((with_reducible refine ZF (N:=3) rfl ?_);refine ZG ?hg (N:=3) ?hd (cs:=#[.slice A0_0 l0_0.length c0_0,.slice A0_1 l0_1.length c0_1,.int .i64 a0_2]) (t:=25) ?hr ?_;(case hd=>rfl);(case hg=>rfl);(case hr=>first|(go_simp;done)|(go_simp;rfl));intro gb1 hg w5 hbox hb;have BK1:=Za (hbox);have GW1:=Za ((by rw[hg];exact(Zv (by exact HB.out)):w.heap.size≤gb1));have GE1:=Za ((by rw[hg];exact(Zv (by exact HB.out)):w.heap.size≤gb1));replace HB:=Za (Zr (by exact HB.out) hb);clear hb hbox hg)|((with_reducible refine ZF (N:=4) rfl ?_);refine ZG ?hg (N:=4) ?hd (cs:=#[.slice A1_0 l1_0.length c1_0,.slice A1_1 l1_1.length c1_1]) (t:=58) ?hr ?_;(case hd=>rfl);(case hg=>rfl);(case hr=>first|(go_simp;done)|(go_simp;rfl));intro gb2 hg w6 hbox hb;have BK2:=Za (hbox);have GW2:=Za ((by rw[hg];exact(Zv (by exact HB.out)):w.heap.size≤gb2));have GE2:=Za ((by rw[hg];exact(Zv (by exact HB.out)):w.heap.size≤gb2));have NB1_2:=Za ((by rw[hg];exact Nat.ne_of_lt (ZN (g:=gb1) (o:=.cells #[.slice A0_0 l0_0.length c0_0,.slice A0_1 l0_1.length c0_1,.int .i64 a0_2] 25 (0,0)) (by exact BK1.out)):gb1≠gb2));have NB2_1:=Za ((by rw[hg];exact Nat.ne_of_gt (ZN (g:=gb1) (o:=.cells #[.slice A0_0 l0_0.length c0_0,.slice A0_1 l0_1.length c0_1,.int .i64 a0_2] 25 (0,0)) (by exact BK1.out)):gb2≠gb1));replace BK1:=Za (Zs (g:=gb1) (o:=.cells #[.slice A0_0 l0_0.length c0_0,.slice A0_1 l0_1.length c0_1,.int .i64 a0_2] 25 (0,0)) (by exact BK1.out) hb);replace HB:=Za (Zr (by exact HB.out) hb);clear hb hbox hg;have hcz8_0:w6.cell? ⟨gb1,0,none⟩=some (.slice A0_0 l0_0.length c0_0):=(Zm BK1.out 0).trans rfl;have hcz8_1:w6.cell? ⟨gb1,1,none⟩=some (.slice A0_1 l0_1.length c0_1):=(Zm BK1.out 1).trans rfl;have hcz8_2:w6.cell? ⟨gb1,2,none⟩=some (.int .i64 a0_2):=(Zm BK1.out 2).trans rfl;have hfz8_0:=Zq BK1.out 0;have hfz8_1:=Zq BK1.out 1;have hfz8_2:=Zq BK1.out 2)|((with_reducible refine ZM (f:=156) rfl ?_);refine Z7 (some 10) rfl rfl Tryz.func156 (by kernel_rfl) rfl #[.agg #[.slice A0_0 l0_0.length c0_0,.slice A0_1 l0_1.length c0_1,.int .i64 a0_2]] rfl (by(try simp only[List.map_toArray,List.map_cons,List.map_nil]);first|done|rfl|(simp only[Zk,Zj];rfl)) ?_;(with_reducible refine(Zam.calls k _ _ l0_0 _ _ l0_1 a0_2 t3 _ ?side1 ?side2 ?side3 ?side4 A4.out).mono ?_);(case side1=>exact(Zb HR0_0.out HB.out));(case side2=>exact HC0_0.out);(case side3=>exact(Zb HR0_1.out HB.out));(case side4=>exact HC0_1.out);rintro e w9 ⟨v4,rfl,ho0,hb⟩;refine⟨_,rfl,?_⟩;have HO5:=Za (Kd.R_lower ho0 (Zv (by exact HB.out)));replace BK1:=Za (Zs (g:=gb1) (o:=.cells #[.slice A0_0 l0_0.length c0_0,.slice A0_1 l0_1.length c0_1,.int .i64 a0_2] 25 (0,0)) (by exact BK1.out) hb);replace BK2:=Za (Zs (g:=gb2) (o:=.cells #[.slice A1_0 l1_0.length c1_0,.slice A1_1 l1_1.length c1_1] 58 (0,0)) (by exact BK2.out) hb);replace HB:=Za (Zr (by exact HB.out) hb);(try clear hb);(try clear hb2);(try clear hk);(try clear hi);(try clear ho0);obtain⟨Ao10,co10,eo10⟩:=Kd.R_slice HO5.out;subst eo10))
 go_loopg [12] k (fun kq v12 w'=>∃(x12_1:Int),v12=.int .i64 x12_1∧Aside0 (ZaZ.l0 kq a2 t3 (t3.length:Int) x12_1 l1_0 l1_1=some r)∧Aside0 (kq≤k)∧Aside0 (Kd.R (Kd.int .i64) 3 w' w.heap.size (fun _=>True) (.slice Ao10 t3.length co10) t3)∧Aside0 (w'.heap[gb1]? = some (.cells #[(.slice A0_0 l0_0.length c0_0),(.slice A0_1 l0_1.length c0_1),.int .i64 a0_2] 25 (0,0)))∧Aside0 (w'.heap[gb2]? = some (.cells #[(.slice A1_0 l1_0.length c1_0),(.slice A1_1 l1_1.length c1_1)] 58 (0,0)))∧Aside0 (Below w.heap.size w w'))
 case atStart=>exact⟨(0),(by first|rfl|(simp;done)|(simp[*];done)),H',⟨Nat.le_refl _⟩,⟨by(with_reducible repeat(first|apply Kd.R_alloc|apply Kd.R_drewN|apply Kd.R_drew));exact HO5.out⟩,⟨by(with_reducible repeat(first|refine ZD ?_ _|refine Zz ?_|refine Zy ?_ _));exact BK1.out⟩,⟨by(with_reducible repeat(first|refine ZD ?_ _|refine Zz ?_|refine Zy ?_ _));exact BK2.out⟩,⟨by repeat(first|(with_reducible first|exact HB.out|apply Zo|apply Zn|apply Zp|refine Zt ?_ GE1.out|refine Zt ?_ GE2.out)|exact HB.out)⟩⟩
 case round=>
  clear H'
  try clear c1
  try clear p2
  try clear c7
  try clear c9
  try clear hcz8_0
  try clear hcz8_1
  try clear hcz8_2
  try clear hfz8_0
  try clear hfz8_1
  try clear hfz8_2
  obtain⟨x12_1,rfl,HA,HK1,HO_10,BK1,BK2,HB⟩:=hrel
  cases gk with
  | zero=>exact absurd HA.out (by simp[ZaZ.l0])
  | succ k1=>
   have H:=HA.out
   clear HA
   simp only[ZaZ.l0] at H
   by_cases c11:x12_1<(t3.length:Int)
   ·rw[if_pos c11] at H
    have c11b0:decide (x12_1<(t3.length:Int))=true:=Ze c11
    clear c11
    by_cases c12:0≤x12_1
    ·rw[if_pos c12] at H
     have c12b0:decide (0≤x12_1)=true:=Ze c12
     clear c12
     by_cases c13:x12_1<(t3.length:Int)
     ·rw[if_pos c13] at H
      have c13b0:decide (x12_1<(t3.length:Int))=true:=Ze c13
      clear c13
      by_cases c14:(rd t3 x12_1)=a2
      ·rw[if_pos c14] at H
       have c14b0:((rd t3 x12_1) == a2)=true:=beq_iff_eq.mpr c14
       clear c14
       by_cases c15:x12_1<(l1_0.length:Int)
       ·rw[if_pos c15] at H
        have c15b0:decide (x12_1<(l1_0.length:Int))=true:=Ze c15
        clear c15
        obtain rfl:=Zg H
        have p6:0≤(x12_1:Int):=Zd (by with_reducible assumption)
        have q6:x12_1<(t3.length:Int):=Zd (by with_reducible assumption)
        obtain⟨ad6,e6,hx6_0⟩:=Kd.at_int (Kd.R_reads' HO_10.out).2.2 x12_1 p6 q6
        cases e6
        replace p6:=eq_true p6
        replace q6:=eq_true q6
        have hcz17_0:wr.cell? ⟨gb2,0,none⟩=some (.slice A1_0 l1_0.length c1_0):=(Zm BK2.out 0).trans rfl
        have hcz17_1:wr.cell? ⟨gb2,1,none⟩=some (.slice A1_1 l1_1.length c1_1):=(Zm BK2.out 1).trans rfl
        have hfz17_0:=Zq BK2.out 0
        have hfz17_1:=Zq BK2.out 1
        have p7:0≤(x12_1:Int):=Zd (by with_reducible assumption)
        have q7:x12_1<(l1_0.length:Int):=Zd (by with_reducible assumption)
        obtain⟨ad7,e7,hx7_0⟩:=Kd.at_int HR1_0.out x12_1 p7 q7
        cases e7
        replace hx7_0:=(HB.out.cell (Zc w _ hx7_0)).trans hx7_0
        replace p7:=eq_true p7
        replace q7:=eq_true q7
        go_wp2
        go_ret
        exact⟨by first|rfl|(simp[ZC,ZB] <;> rfl)|(simp[*,ZC,ZB] <;> rfl),by repeat(first|(with_reducible first|exact HB.out|apply Zo|apply Zn|apply Zp|refine Zt ?_ GE1.out|refine Zt ?_ GE2.out)|exact HB.out)⟩
       ·rw[if_neg c15] at H
        exact absurd H (by simp)
      ·rw[if_neg c14] at H
       have c14b0:((rd t3 x12_1) == a2)=false:=beq_eq_false_iff_ne.mpr c14
       have H':=Za H
       clear H
       have p6:0≤(x12_1:Int):=Zd (by with_reducible assumption)
       have q6:x12_1<(t3.length:Int):=Zd (by with_reducible assumption)
       obtain⟨ad6,e6,hx6_0⟩:=Kd.at_int (Kd.R_reads' HO_10.out).2.2 x12_1 p6 q6
       cases e6
       replace p6:=eq_true p6
       replace q6:=eq_true q6
       go_wp2
       go_roundg k1
       case measure=>have:=HK1.out;omega
       case rel=>exact⟨(wrap64 (x12_1+1)),(by first|rfl|(simp;done)|(simp[*];done)),H',⟨by have:=HK1.out;omega⟩,⟨by(with_reducible repeat(first|apply Kd.R_alloc|apply Kd.R_drewN|apply Kd.R_drew));exact HO_10.out⟩,⟨by(with_reducible repeat(first|refine ZD ?_ _|refine Zz ?_|refine Zy ?_ _));exact BK1.out⟩,⟨by(with_reducible repeat(first|refine ZD ?_ _|refine Zz ?_|refine Zy ?_ _));exact BK2.out⟩,⟨by repeat(first|(with_reducible first|exact HB.out|apply Zo|apply Zn|apply Zp|refine Zt ?_ GE1.out|refine Zt ?_ GE2.out)|exact HB.out)⟩⟩
     ·rw[if_neg c13] at H
      exact absurd H (by simp)
    ·rw[if_neg c12] at H
     exact absurd H (by simp)
   ·rw[if_neg c11] at H
    have c11b0:decide (x12_1<(t3.length:Int))=false:=Zf c11
    clear c11
    obtain rfl:=Zg H
    go_wp2
    go_ret
    exact⟨by first|rfl|(simp[ZC,ZB] <;> rfl)|(simp[*,ZC,ZB] <;> rfl),by repeat(first|(with_reducible first|exact HB.out|apply Zo|apply Zn|apply Zp|refine Zt ?_ GE1.out|refine Zt ?_ GE2.out)|exact HB.out)⟩
end Go.Proofs.YtoeimopgoaffcaaGreatDoor.Pr
