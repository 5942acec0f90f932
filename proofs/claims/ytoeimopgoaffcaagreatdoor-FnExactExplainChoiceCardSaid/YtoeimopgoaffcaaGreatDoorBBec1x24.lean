/- By a program of this session. -/
import Derived.Test.YtoeimopgoaffcaaGreatDoorBBec1x1
set_option maxHeartbeats 8000000
set_option maxRecDepth 100000
namespace Go.Proofs.YtoeimopgoaffcaaGreatDoor.Pr
open RowKit YtoeimopgoaffcaaGreatDoorW.PrintWords YtoeimopgoaffcaaGreatDoorW.PrintLast YtoeimopgoaffcaaGreatDoorW.PrintMore
attribute [local go_sem] Zau Zas ZaL ZaK Zaf Zae Zat Zar
set_option linter.unusedVariables false
set_option linter.unusedSimpArgs false
def ZO.l0:Nat→List Int→Int→Int→Option (List Int)
 | 0,_,_,_=>none
 | k+1,x0,x2,x3=>if x2<x3 then(if 0≤x3 then(if x3<(x0.length:Int) then(if 0≤x2 then(if x2<(x0.length:Int) then(ZO.l0 k ((x0.set (x2:Int).toNat (rd x0 x3)).set (x3:Int).toNat (rd x0 x2)) (wrap64 (x2+1)) (wrap64 (x3 - 1))) else(none)) else(none)) else(none)) else(none)) else(some x0)
def ZO.f (k:Nat) (l0:List Int):Option (List Int):=ZO.l0 k l0 0 (wrap64 ((l0.length:Int) - 1))
def ZO.T3:Bool×List (List Nat×List Nat):=(true,[([],[]),([],[]),([],[]),([],[]),([],[]),([],[]),([4,5],[4,5]),([6],[6]),([],[]),([],[]),([8,9],[8,9]),([10],[10]),([0,1,0,1,4,5,6,7,11],[0,1]),([12,7,0,1,4,5,6,7,11],[7,12]),([2,3,0,1,2,3,4,5,6,7,8,9,10,11,12,13],[2,3]),([14,11,13,0,1,2,3,4,5,6,7,8,9,10,11,12,13],[11,14])])
def ZO.B3:List Nat:=[0,0,0,0,0,0,48,112,0,0,768,1792,4083,8179,16383,32767]
theorem ZO.tab3:rtab .any (opsOf Tryz.f205 3)=ZO.T3:=by kernel_rfl
theorem ZO.bits3:ZdL ZO.T3.2 ZO.B3=true:=by kernel_rfl
theorem ZO.calls (k:Nat) (P0_:Nat→Prop) (u9000_:Value) (l0:List Int) (r:List Int) (w0 w:World) (hB:Below w0.heap.size w0 w) (ho0:Kd.R (Kd.int .i64) 3 w w0.heap.size P0_ u9000_ l0) (h:ZO.f k l0=some r) :
  Calls Tryz.prog 205 #[u9000_] w fun e w'=>e=.returned (.tuple #[])∧Kd.R (Kd.int .i64) 3 w' w0.heap.size (fun k_=>(P0_ k_∨w.heap.size≤k_)) u9000_ r∧Below w0.heap.size w0 w'∧Kept w w' (fun k_=>P0_ k_):=by
 have HO0:=Za (show Kd.R (Kd.int .i64) 3 w w0.heap.size (fun k_=>(P0_ k_∨w.heap.size≤k_)) u9000_ l0 from Kd.R_mono ho0 (fun k_ hk=>(.inl hk)))
 have HK:=Za (Kept.refl w (fun k_=>P0_ k_))
 have HW0:=Za hB.size
 have HB:=Za hB;clear hB
 have H:(ZO.l0 k l0 0 (wrap64 ((l0.length:Int) - 1)))=some r:=h
 clear h
 have H':=Za H
 clear H
 obtain⟨Ao2,co2,eo2⟩:=Kd.R_slice HO0.out
 subst eo2
 go_enter Tryz.func205,Tryz.ntmps205
 go_wp2
 go_loopg [2,3] k (fun kq v2 v3 w'=>∃(x0_1:List Int) (x2_1:Int) (x3_1:Int),v2=.int .i64 x2_1∧v3=.int .i64 x3_1∧Aside0 (ZO.l0 kq x0_1 x2_1 x3_1=some r)∧Aside0 (kq≤k)∧Aside0 (Kd.R (Kd.int .i64) 3 w' w0.heap.size (fun k_=>(P0_ k_∨w.heap.size≤k_)) (.slice Ao2 l0.length co2) x0_1)∧Aside0 (Kept w w' (fun k_=>P0_ k_))∧Aside0 (Below w0.heap.size w0 w'))
 case atStart=>exact⟨(l0),(0),(wrap64 ((l0.length:Int) - 1)),(by first|rfl|(simp;done)|(simp[*];done)),(by first|rfl|(simp;done)|(simp[*];done)),H',⟨Nat.le_refl _⟩,⟨by(with_reducible repeat(first|apply Kd.R_alloc|apply Kd.R_drewN|apply Kd.R_drew));exact HO0.out⟩,⟨by repeat(first|(with_reducible first|exact HK.out|apply Kept.alloc|apply Kept.drewN|apply Kept.drew)|exact HK.out)⟩,⟨by repeat(first|(with_reducible first|exact HB.out|apply Zo|apply Zm|apply Zp)|exact HB.out)⟩⟩
 case round=>
  clear H'
  try clear c2
  try clear p2
  obtain⟨x0_1,x2_1,x3_1,rfl,rfl,HA,HK1,HO_0,HK,HB⟩:=hrel
  have hl0_1:=(Kd.R_reads' HO_0.out).1
  rw[hl0_1] at HO_0
  (try simp only[hl0_1])
  cases gk with
  | zero=>exact absurd HA.out (by simp[ZO.l0])
  | succ k1=>
   have H:=HA.out
   clear HA
   simp only[ZO.l0] at H
   by_cases c3:x2_1<x3_1
   ·rw[if_pos c3] at H
    have c3b0:decide (x2_1<x3_1)=true:=Ze c3
    clear c3
    by_cases c4:0≤x3_1
    ·rw[if_pos c4] at H
     have c4b0:decide (0≤x3_1)=true:=Ze c4
     clear c4
     by_cases c5:x3_1<(x0_1.length:Int)
     ·rw[if_pos c5] at H
      have c5b0:decide (x3_1<(x0_1.length:Int))=true:=Ze c5
      clear c5
      by_cases c6:0≤x2_1
      ·rw[if_pos c6] at H
       have c6b0:decide (0≤x2_1)=true:=Ze c6
       clear c6
       by_cases c7:x2_1<(x0_1.length:Int)
       ·rw[if_pos c7] at H
        have c7b0:decide (x2_1<(x0_1.length:Int))=true:=Ze c7
        clear c7
        obtain⟨y3,hy3⟩:∃y_:List Int,y_=(x0_1.set (x2_1:Int).toNat (rd x0_1 x3_1)):=⟨_,rfl⟩
        replace H:(ZO.l0 k1 (y3.set (x3_1:Int).toNat (rd x0_1 x2_1)) (wrap64 (x2_1+1)) (wrap64 (x3_1 - 1)))=some r:=by first|(rw[hy3];with_reducible exact H)|(have H2_:=(Zi _ _).symm.trans H;rw[hy3];with_reducible exact H2_)|(have H2_:=(Zi _ _).symm.trans H;with_reducible exact H2_)|with_reducible exact H|(rw[hy3];exact H)|exact H
        have Ny3:=Za hy3;clear hy3
        obtain⟨y4,hy4⟩:∃y_:List Int,y_=(y3.set (x3_1:Int).toNat (rd x0_1 x2_1)):=⟨_,rfl⟩
        replace H:(ZO.l0 k1 y4 (wrap64 (x2_1+1)) (wrap64 (x3_1 - 1)))=some r:=by first|(rw[hy4];with_reducible exact H)|(have H2_:=(Zi _ _).symm.trans H;rw[hy4];with_reducible exact H2_)|(have H2_:=(Zi _ _).symm.trans H;with_reducible exact H2_)|with_reducible exact H|(rw[hy4];exact H)|exact H
        have Ny4:=Za hy4;clear hy4
        have H':=Za H
        clear H
        try go_wp2
        replace HO_0:=Za (Kd.R_drew HO_0.out);replace HK:=Za (Kept.drew HK.out);replace HB:=Za (Zp HB.out)
        have p1:0≤(x3_1:Int):=Zd (by with_reducible assumption)
        have q1:x3_1<(x0_1.length:Int):=Zd (by with_reducible assumption)
        obtain⟨ad1,e1,hx1_0⟩:=Kd.at_int (Kd.R_reads' HO_0.out).2.2 x3_1 p1 q1
        cases e1
        replace p1:=eq_true p1
        replace q1:=eq_true q1
        have p205002:0≤(x2_1:Int):=Zd (by with_reducible assumption)
        have q2:x2_1<(x0_1.length:Int):=Zd (by with_reducible assumption)
        obtain⟨ad2,e2,hx2_0⟩:=Kd.at_int (Kd.R_reads' HO_0.out).2.2 x2_1 p205002 q2
        obtain rfl:ad1=ad2:=(by injection e2)
        replace p205002:=eq_true p205002
        replace q2:=eq_true q2
        have p8:0≤(x2_1:Int):=Zd (by with_reducible assumption)
        have q8:(x2_1:Int)<((x0_1.length:Int):Int):=Zd (by with_reducible assumption)
        obtain⟨go8,co8,eo8,gb8,gl8,cl8,HG8⟩:=Kd.R_form HO_0.out (by omega)
        (first|cases eo8|(injection eo8 with ea_ en_ ec_;(first|subst ea_|(injection ea_ with ea_;subst ea_));subst ec_;clear en_))
        have GB8:=Za gb8;have GG8:=Za HG8;clear gb8 gl8 HG8
        have HMgo8:=Za (show(P0_ go8∨w.heap.size≤go8) from(HO_0.out.1 _ rfl))
        (first|simp only[Zdi] at hx1_0|skip)
        (first|simp only[Zdi] at hx2_0|skip)
        obtain⟨hx8_0,hf8_0⟩:=Kd.R_celln 0 HO_0.out (x2_1:Int) p8 q8
        replace p8:=eq_true p8
        replace q8:=eq_true q8
        have HP11:=Kd.R_putn HO_0.out (x2_1:Int) (rd x0_1 x3_1)
        rw[← Ny3.out] at HP11
        have HQ11:=Za HP11;clear HP11
        have p9:0≤(x3_1:Int):=Zd (by with_reducible assumption)
        have q9:(x3_1:Int)<((x0_1.length:Int):Int):=Zd (by with_reducible assumption)
        obtain⟨hx9_0,hf9_0⟩:=Kd.R_celln 0 HQ11.out (x3_1:Int) p9 q9
        replace p9:=eq_true p9
        replace q9:=eq_true q9
        have HP12:=Kd.R_putn HQ11.out (x3_1:Int) (rd x0_1 x2_1)
        rw[← Ny4.out] at HP12
        have HQ12:=Za HP12;clear HP12
        refine ZbP (n:=16) (S:=fun w'=>w'.cell? ⟨go8,(x3_1).toNat,none⟩=some (.int .i64 (rd x0_1 x3_1))∧w'.cell? ⟨go8,(x2_1).toNat,none⟩=some (.int .i64 (rd x0_1 x2_1))) (ds:=[13,15]) #[false,false,false,false,false,false,false,false,false,false,false,false,false,false,false,false] (by kernel_rfl) rfl rfl ⟨hx1_0,hx2_0⟩ (fun hHeld=>?_);refine Zdd ZO.tab3 ZO.bits3 (fun HT_ HW_=>?_)
        generalize wr.drew=w10 at HO_0 HK HB GG8 HQ11 HQ12 hf8_0 hf9_0 hx1_0 hx2_0 hx8_0 hx9_0 hHeld ⊢
        refine pu (N:=some 14) 0 ?_
        refine pu (N:=some 15) 1 ?_
        refine pu (N:=some 16) 2 ?_
        refine pu (N:=some 17) 3 ?_
        refine pu (N:=some 18) 4 ?_
        refine pu (N:=some 19) 5 ?_
        refine pu (N:=some 20) 6 ?_
        refine pu (N:=some 22) 8 ?_
        refine pu (N:=some 23) 9 ?_
        refine pu (N:=some 24) 10 ?_
        refine tk (N:=some 21) 7 hHeld ?_
        refine tk (N:=some 25) 11 hHeld ?_
        refine pu (N:=some 26) 12 ?_
        refine last_ (i:=13) (N:=none) #[true,true,true,true,true,true,true,true,true,true,true,true,true,true,false,false] rfl rfl (one_of HT_.out (by kernel_rfl)) (by decide) (fun K hK=>?_)
        refine skip_ (w1:=?_) (by rfl) rfl ?_ ?_
        rotate_left
        ·go_simp
         rfl
        refine hK.out _ _ ?_
        clear hK K
        refine pu (N:=some 27) 14 ?_
        refine last_ (i:=15) (N:=none) #[true,true,true,true,true,true,true,true,true,true,true,true,true,true,true,true] rfl rfl (one_of HT_.out (by kernel_rfl)) (by decide) (fun K hK=>?_)
        refine skip_ (w1:=?_) (by rfl) rfl ?_ ?_
        rotate_left
        ·go_simp
         rfl
        refine hK.out _ _ ?_
        clear hK K
        refine Zcm (ZdQ HT_.out (by kernel_rfl)) ?_
        try go_wp2
        (try simp only[← hl0_1])
        go_roundg k1
        case measure=>have:=HK1.out;omega
        case rel=>exact⟨(y4),(wrap64 (x2_1+1)),(wrap64 (x3_1 - 1)),(by first|rfl|(simp;done)|(simp[*];done)),(by first|rfl|(simp;done)|(simp[*];done)),H',⟨by have:=HK1.out;omega⟩,⟨by(try simp only[hl0_1]);(with_reducible repeat(first|apply Kd.R_alloc|apply Kd.R_drewN|apply Kd.R_drew));exact HQ12.out⟩,⟨by repeat(first|(with_reducible first|exact HK.out|apply Kept.alloc|apply Kept.drewN|apply Kept.drew|refine Kept.setCell ?_ HMgo8.out _|refine Kept.setCell ?_ HMgo8.out _)|exact HK.out)⟩,⟨by repeat(first|(with_reducible first|exact HB.out|apply Zo|apply Zm|apply Zp|refine Zs ?_ GB8.out|refine Zs ?_ GB8.out)|exact HB.out)⟩⟩
       ·rw[if_neg c7] at H
        exact absurd H (by simp)
      ·rw[if_neg c6] at H
       exact absurd H (by simp)
     ·rw[if_neg c5] at H
      exact absurd H (by simp)
    ·rw[if_neg c4] at H
     exact absurd H (by simp)
   ·rw[if_neg c3] at H
    have c3b0:decide (x2_1<x3_1)=false:=Zf c3
    clear c3
    obtain rfl:=Zg H
    go_wp2
    first|go_end0|((try simp only[Exit.inBlock,Exit.then]);refine bodyPost_ret (results_none rfl _ _ _) rfl ?_)
    exact⟨by first|rfl|(simp[ZB,ZA] <;> rfl)|(simp[*,ZB,ZA] <;> rfl),(by first|exact(by exact HO_0.out)|(simp only[hl0_1];exact(by exact HO_0.out))),by repeat(first|(with_reducible first|exact HB.out|apply Zo|apply Zm|apply Zp)|exact HB.out),by repeat(first|(with_reducible first|exact HK.out|apply Kept.alloc|apply Kept.drewN|apply Kept.drew)|exact HK.out)⟩
open Ni
theorem rd_mid (pre:List Int) (x:Int) (post:List Int):rd (pre ++ x :: post) (pre.length:Int)=x:=by
 rw[ZaO,List.getD_eq_getElem?_getD,List.getElem?_append_right (Nat.le_refl _),Nat.sub_self];rfl
theorem rev_l:∀(n:Nat) (M pre post:List Int) (k:Nat),M.length=n→n<k→(pre ++ M ++ post).length≤4611686018427387904 →
  ZO.l0 k (pre ++ M ++ post) (pre.length:Int) ((pre.length:Int)+(M.length:Int) - 1)=some (pre ++ M.reverse ++ post):=by
 intro n
 induction n using Nat.strongRecOn with
 | ind n ih=>
  intro M pre post k hM hk hl
  obtain⟨k,rfl⟩:∃m,k=m+1:=⟨k - 1,by omega⟩
  simp only[ZO.l0]
  cases M with
  | nil=>rw[if_neg (by simp only[List.length_nil];omega)];rfl
  | cons a t=>
   rcases List.eq_nil_or_concat t with rfl|⟨u,b,rfl⟩
   ·rw[if_neg (by simp only[List.length_cons,List.length_nil];omega)];rfl
   ·rw[List.concat_eq_append] at *
    have e0:pre ++ a :: (u ++ [b]) ++ post=pre ++ a :: (u ++ b :: post):=by simp
    have e1:pre ++ a :: (u ++ b :: post)=(pre ++ a :: u) ++ b :: post:=by simp
    have x3:(pre.length:Int)+((a :: (u ++ [b])).length:Int) - 1=((pre ++ a :: u).length:Int):=by simp;omega
    have x4:(pre ++ a :: u).length=pre.length+u.length+1:=by simp;omega
    have x5:(pre ++ a :: (u ++ b :: post)).length=pre.length+u.length+2+post.length:=by simp;omega
    rw[e0] at hl ⊢
    rw[x5] at hl
    rw[x3,rd_mid,if_pos (by omega),if_pos (by omega),if_pos (by omega),if_pos (by omega),if_pos (by omega)]
    rw[show rd (pre ++ a :: (u ++ b :: post)) ((pre ++ a :: u).length:Int)=b by rw[e1,rd_mid]]
    rw[Int.toNat_natCast,Int.toNat_natCast,set_mid]
    rw[show pre ++ b :: (u ++ b :: post)=(pre ++ b :: u) ++ b :: post by simp,show(pre ++ a :: u).length=(pre ++ b :: u).length by simp,set_mid]
    have x6:(pre ++ b :: u).length=pre.length+u.length+1:=by simp;omega
    rw[show wrap64 ((pre.length:Int)+1)=((pre ++ [b]).length:Int) by rw[ZL (n:=pre.length+u.length+2+post.length) (by omega) (by omega)];simp]
    rw[show wrap64 (((pre ++ b :: u).length:Int) - 1)=((pre ++ [b]).length:Int)+(u.length:Int) - 1 by rw[x6,Zay (by omega) (by omega)];simp;omega]
    rw[show(pre ++ b :: u) ++ a :: post=(pre ++ [b]) ++ u ++ (a :: post) by simp]
    simp only[List.length_cons,List.length_append,List.length_nil] at hM
    rw[ih u.length (by omega) u (pre ++ [b]) (a :: post) k rfl (by omega) (by simp;omega)]
    simp
theorem rev_f (l:List Int) (k:Nat) (hl:l.length≤4611686018427387904) (hk:2 ^ 64≤k):ZO.f k l=some l.reverse:=by
 unfold ZO.f
 have:=rev_l l.length l [] [] k rfl (by omega) (by simpa using hl)
 rw[Zay (by omega) (by omega)]
 simpa using this
def Zdo.f (a0:Int) (a1:Int):Option (Int×Int):=some (IntKind.u64.wrap ((IntKind.u64.wrap ((IntKind.u64.wrap ((a0 / 4294967296) * (a1 / 4294967296)))+((IntKind.u64.wrap ((IntKind.u64.wrap ((a0 / 4294967296) * (Go.bits .and .u64 a1 4294967295)))+((IntKind.u64.wrap ((Go.bits .and .u64 a0 4294967295) * (Go.bits .and .u64 a1 4294967295))) / 4294967296))) / 4294967296)))+((IntKind.u64.wrap ((Go.bits .and .u64 (IntKind.u64.wrap ((IntKind.u64.wrap ((a0 / 4294967296) * (Go.bits .and .u64 a1 4294967295)))+((IntKind.u64.wrap ((Go.bits .and .u64 a0 4294967295) * (Go.bits .and .u64 a1 4294967295))) / 4294967296))) 4294967295)+(IntKind.u64.wrap ((Go.bits .and .u64 a0 4294967295) * (a1 / 4294967296))))) / 4294967296)),IntKind.u64.wrap (a0 * a1))
theorem Zdo.calls (a0:Int) (a1:Int) (r1:Int) (r2:Int) (w:World) (h:Zdo.f a0 a1=some (r1,r2)) :
  Calls Tryz.prog 242 #[.int .u64 a0,.int .u64 a1] w fun e w'=>e=.returned (.tuple #[.int .u64 r1,.int .u64 r2])∧ZF w w':=by
 have H:(some (IntKind.u64.wrap ((IntKind.u64.wrap ((IntKind.u64.wrap ((a0 / 4294967296) * (a1 / 4294967296)))+((IntKind.u64.wrap ((IntKind.u64.wrap ((a0 / 4294967296) * (Go.bits .and .u64 a1 4294967295)))+((IntKind.u64.wrap ((Go.bits .and .u64 a0 4294967295) * (Go.bits .and .u64 a1 4294967295))) / 4294967296))) / 4294967296)))+((IntKind.u64.wrap ((Go.bits .and .u64 (IntKind.u64.wrap ((IntKind.u64.wrap ((a0 / 4294967296) * (Go.bits .and .u64 a1 4294967295)))+((IntKind.u64.wrap ((Go.bits .and .u64 a0 4294967295) * (Go.bits .and .u64 a1 4294967295))) / 4294967296))) 4294967295)+(IntKind.u64.wrap ((Go.bits .and .u64 a0 4294967295) * (a1 / 4294967296))))) / 4294967296)),IntKind.u64.wrap (a0 * a1)))=some (r1,r2):=h
 clear h
 simp only[Option.some.injEq,Prod.mk.injEq] at H
 obtain⟨rfl,rfl⟩:=H
 go_enter Tryz.func242,Tryz.ntmps242
 go_wp2
 go_ret2
 exact⟨by first|rfl|(simp;done)|(simp[*];done),by repeat(first|exact ZF.refl _|apply ZF.step)⟩
def Zfz.f (a0:Int) (a1:Int):Option (Int×Int):=(Zdo.f a0 a1).bind fun bt1=>(some (bt1.1,bt1.2))
theorem Zfz.calls (a0:Int) (a1:Int) (r1:Int) (r2:Int) (w:World) (h:Zfz.f a0 a1=some (r1,r2)) :
  Calls Tryz.prog 222 #[.int .u64 a0,.int .u64 a1] w fun e w'=>e=.returned (.tuple #[.int .u64 r1,.int .u64 r2])∧ZF w w':=by
 have H:((Zdo.f a0 a1).bind fun bt1=>(some (bt1.1,bt1.2)))=some (r1,r2):=h
 clear h
 replace H:=Zh H
 obtain⟨⟨t1,t2⟩,A30,H⟩:=H
 replace H:(some (t1,t2))=some (r1,r2):=H
 have A3:=Za A30;clear A30
 simp only[Option.some.injEq,Prod.mk.injEq] at H
 obtain⟨rfl,rfl⟩:=H
 go_enter Tryz.func222,Tryz.ntmps222
 go_wp2_with (first|((with_reducible refine ZJ (f:=242) rfl ?_);refine ZY (some 25) rfl rfl Tryz.func242 (by kernel_rfl) rfl #[.int .u64 a0,.int .u64 a1] rfl (by(try simp only[List.map_toArray,List.map_cons,List.map_nil]);first|done|rfl|(simp only[Zk,Zj];rfl)) ?_;(with_reducible refine(Zdo.calls a0 a1 t1 t2 _ A3.out).mono ?_);rintro e w' ⟨rfl,⟨nd,rfl⟩⟩;refine⟨_,rfl,?_⟩))
 go_ret2
 exact⟨by first|rfl|(simp;done)|(simp[*];done),by repeat(first|exact ZF.refl _|apply ZF.step)⟩
end Go.Proofs.YtoeimopgoaffcaaGreatDoor.Pr
