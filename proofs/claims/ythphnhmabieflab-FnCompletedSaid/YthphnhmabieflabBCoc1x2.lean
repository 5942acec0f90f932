/- The texts of one claim, put together by a program of this session. -/
import Derived.Deep.LoopGhost
import Derived.Shelf.Abstract
import Derived.Test.YthphnhmabieflabBCoc1x1
namespace Go.Proofs.Ythphnhmabieflab.Pr
open Go.RowKit Go.Proofs.YthphnhmabieflabW.PrintWords Go.Proofs.YthphnhmabieflabW.PrintLast Go.Proofs.YthphnhmabieflabW.PrintMore
attribute [local go_sem] Zaj Zah Zaq Zap Zab Zaa Zai Zag
set_option linter.unusedVariables false
set_option linter.unusedSimpArgs false
open Go.Proofs.Ythphnhmabieflab.Ni
def Zak.l0:Nat→List Int→Int→Int→Option (List Int×Int×Int)
 | 0,_,_,_=>none
 | k+1,l,x3,x4=>if x4<(l.length:Int) then(if x4<4000 then(if 0≤x4 then Zak.l0 k l (Go.bits .and .i64 (wrap64 ((wrap64 ((wrap64 (x3 * 71))+(wrap64 (rd l x4))))+7)) 1073741823) (wrap64 (x4+1)) else none) else some (l,0,x3)) else some (l,0,x3)
def Zak.f (k:Nat) (l0:List Int):Option (List Int×Int×Int):=Zak.l0 k l0 (wrap64 (1974+(l0.length:Int))) 0
set_option maxHeartbeats 8000000 in
set_option maxRecDepth 100000 in
theorem Zak.newc (k:Nat) (A0:Option Addr) (c0:Nat) (l0:List Int) (r1:List Int) (r2:Int) (r3:Int) (w0 w:World) (hB:Below w0.heap.size w0 w) (hr0:Kd.C (Kd.int .u8) w0 A0 l0.length l0) (hc0:l0.length≤c0) (h:Zak.f k l0=some (r1,r2,r3)) :
  Calls Try.prog 43 #[.slice A0 l0.length c0] w fun e w'=>∃g_:Nat,e=.returned (.pointer (some ⟨g_,0,none⟩))∧Zt w0 w' g_ r1 r2 r3∧Below w0.heap.size w0 w'∧Below w.heap.size w w'∧w.heap.size≤g_:=by
 have hu:=Try.underlying115
 have HR0:=Za hr0;have HB0:=Za hB
 have H':=Za (show Zak.l0 k l0 (wrap64 (1974+(l0.length:Int))) 0=some (r1,r2,r3) from h)
 clear hr0 hc0 hB h
 go_enter Try.func43,Try.ntmps43
 go_wp2
 go_loopg [3,4] k (fun kq v3 v4 wr=>∃(x3 x4:Int),v3=.int .i64 x3∧v4=.int .i64 x4∧Aside0 (Zak.l0 kq l0 x3 x4=some (r1,r2,r3))∧Aside0 (kq≤k)∧Aside0 (Below w0.heap.size w0 wr)∧Aside0 (Below w.heap.size w wr))
 case atStart=>exact⟨_,_,rfl,rfl,H',⟨Nat.le_refl _⟩,HB0,⟨Below.refl _ _⟩⟩
 case round=>
  clear H'
  obtain⟨x3,x4,rfl,rfl,HA,HK1,HB,HW⟩:=hrel
  cases gk with
  | zero=>exact absurd HA.out (by simp[Zak.l0])
  | succ k1=>
   have H:=HA.out
   clear HA
   simp only[Zak.l0] at H
   by_cases c2:x4<(l0.length:Int)
   ·rw[if_pos c2] at H
    by_cases c3:x4<4000
    ·rw[if_pos c3] at H
     by_cases c4:0≤x4
     ·rw[if_pos c4,show wrap64 (x4+1)=x4+1 from Zal (by omega) (by omega)] at H
      have H':=Za H
      clear H
      obtain⟨ad,e1,hx⟩:=Kd.at_int HR0.out x4 c4 c2
      cases e1
      replace hx:=Zbr HB.out hx
      go_wp2
      go_roundg k1
      case measure=>have:=HK1.out;omega
      case rel=>exact⟨_,_,rfl,rfl,H',⟨by have:=HK1.out;omega⟩,⟨by repeat(first|exact HB.out|apply Zm|apply Zs)⟩,⟨by repeat(first|exact HW.out|apply Zm|apply Zs)⟩⟩
     ·rw[if_neg c4] at H;exact absurd H (by simp)
    ·rw[if_neg c3] at H
     simp only[Option.some.injEq,Prod.mk.injEq] at H
     obtain⟨rfl,rfl,rfl⟩:=H
     go_wp2
     go_ret
     exact⟨_,rfl,Zt.new w0 _ A0 c0 l0 0 x3 (by repeat(first|exact HB.out|apply Zm|apply Zs)) HR0.out,by repeat(first|exact HB.out|apply Zq|apply Zm|apply Zs),by repeat(first|exact HW.out|apply Zq|apply Zm|apply Zs),HW.out.size⟩
   ·rw[if_neg c2] at H
    simp only[Option.some.injEq,Prod.mk.injEq] at H
    obtain⟨rfl,rfl,rfl⟩:=H
    go_wp2
    go_ret
    exact⟨_,rfl,Zt.new w0 _ A0 c0 l0 0 x3 (by repeat(first|exact HB.out|apply Zm|apply Zs)) HR0.out,by repeat(first|exact HB.out|apply Zq|apply Zm|apply Zs),by repeat(first|exact HW.out|apply Zq|apply Zm|apply Zs),HW.out.size⟩
theorem Zak.calls (k:Nat) (A0:Option Addr) (c0:Nat) (l0:List Int) (r1:List Int) (r2:Int) (r3:Int) (w0 w:World) (hB:Below w0.heap.size w0 w) (hr0:Kd.C (Kd.int .u8) w0 A0 l0.length l0) (hc0:l0.length≤c0) (h:Zak.f k l0=some (r1,r2,r3)) :
  Calls Try.prog 43 #[.slice A0 l0.length c0] w fun e w'=>∃g_:Nat,e=.returned (.pointer (some ⟨g_,0,none⟩))∧Zt w0 w' g_ r1 r2 r3∧Below w0.heap.size w0 w'∧Below w.heap.size w w':=
 (Zak.newc k A0 c0 l0 r1 r2 r3 w0 w hB hr0 hc0 h).mono fun e w' ⟨g,h1,h2,h3,h4,_⟩=>⟨g,h1,h2,h3,h4⟩
end Go.Proofs.Ythphnhmabieflab.Pr
namespace Go.Proofs.Ythphnhmabieflab.Pr
open Go.RowKit Go.Proofs.YthphnhmabieflabW.PrintWords Go.Proofs.YthphnhmabieflabW.PrintLast Go.Proofs.YthphnhmabieflabW.PrintMore
attribute [local go_sem] Zaj Zah Zaq Zap Zab Zaa Zai Zag
set_option linter.unusedVariables false
set_option linter.unusedSimpArgs false
def ZaV.f (k:Nat) (l0:List Int):Option (Int×(List (S84))):=(Zak.f k l0).bind fun bt13002=>((ZO.f k bt13002.1 bt13002.2.1 bt13002.2.2).bind fun bt13006=>(some (bt13006.1,bt13006.2.1)))
set_option maxHeartbeats 8000000 in
set_option maxRecDepth 100000 in
theorem ZaV.calls (k:Nat) (A0:Option Addr) (c0:Nat) (l0:List Int) (r1:Int) (r2:List (S84)) (w:World) (hr0:Kd.C (Kd.int .u8) w A0 l0.length l0) (hc0:l0.length≤c0) (h:ZaV.f k l0=some (r1,r2)) :
  Calls Try.prog 13 #[.slice A0 l0.length c0] w fun e w'=>∃v1_:Value,e=.returned (.agg #[.int .i64 r1,v1_])∧Kd.R k84 84 w' w.heap.size (fun _=>True) v1_ r2∧Below w.heap.size w w':=by
 have hu31:=Try.underlying31
 have HR0:=Za hr0;have HC0:=Za hc0;clear hr0 hc0
 have HB:=Za (Below.refl w.heap.size w)
 have H:((Zak.f k l0).bind fun bt13002=>((ZO.f k bt13002.1 bt13002.2.1 bt13002.2.2).bind fun bt13006=>(some (bt13006.1,bt13006.2.1))))=some (r1,r2):=h
 clear h
 replace H:=Zh H
 obtain⟨⟨t13002,t13003,t13004⟩,A20,H⟩:=H
 replace H:((ZO.f k t13002 t13003 t13004).bind fun bt13006=>(some (bt13006.1,bt13006.2.1)))=some (r1,r2):=H
 have A2:=Za A20;clear A20
 replace H:=Zh H
 obtain⟨⟨t13006,t13007,t13010,t13011⟩,A30,H⟩:=H
 replace H:(some (t13006,t13007))=some (r1,r2):=H
 have A3:=Za A30;clear A30
 simp only[Option.some.injEq,Prod.mk.injEq] at H
 obtain⟨rfl,rfl⟩:=H
 go_enter Try.func13,Try.ntmps13
 go_wp2_with (first|((with_reducible refine ZM (N:=2) rfl ?_);refine ZK ?hg (N:=2) ?hd (cs:=#[.int .i64 0,.slice none 0 0]) (t:=31) ?hr ?_;(case hd=>rfl);(case hg=>rfl);(case hr=>first|(go_simp;done)|(go_simp;rfl));intro gb13001 hg w4 hbox hb;have BK13001:=Za (hbox);have GW13001:=Za ((by rw[hg];exact(Zw (by repeat(first|(with_reducible first|exact HB.out|apply Zq|apply Zm|apply Zs)|exact HB.out))):w.heap.size≤gb13001));have GE13001:=Za ((by rw[hg];exact(Zw (by repeat(first|(with_reducible first|exact HB.out|apply Zq|apply Zm|apply Zs)|exact HB.out))):w.heap.size≤gb13001));replace HB:=Za (Zx (by repeat(first|(with_reducible first|exact HB.out|apply Zq|apply Zm|apply Zs)|exact HB.out)) hb);clear hb hbox hg)|((with_reducible refine ZF (f:=43) rfl ?_);refine ZY (some 4) rfl rfl Try.func43 (by kernel_rfl) rfl #[.slice A0 l0.length c0] rfl (by(try simp only[List.map_toArray,List.map_cons,List.map_nil]);first|done|rfl|(simp only[Zk,Zj];rfl)) ?_;(with_reducible refine(Zak.calls k _ _ l0 t13002 t13003 t13004 w _ ?side1 ?side2 ?side3 A2.out).mono ?_);(case side1=>repeat(first|(with_reducible first|exact HB.out|apply Zq|apply Zm|apply Zs|refine Zp ?_ GE13001.out)|exact HB.out));(case side2=>exact HR0.out);(case side3=>exact HC0.out);rintro e w5 ⟨g13005,rfl,hi,hb,hb2⟩;refine⟨_,rfl,?_⟩;have HI13005:=Za (hi);have NB13005_13001:=Za (Zt.ne_blk hi (Zy (g:=gb13001) (o:=.cells #[.int .i64 0,.slice none 0 0] 31 (0,0)) (by(with_reducible repeat(first|refine Zo ?_ _|refine Zr ?_|refine Zn ?_ _));exact BK13001.out) hb2) (by decide));have NB13001_13005:=Za (Ne.symm (Zt.ne_blk hi (Zy (g:=gb13001) (o:=.cells #[.int .i64 0,.slice none 0 0] 31 (0,0)) (by(with_reducible repeat(first|refine Zo ?_ _|refine Zr ?_|refine Zn ?_ _));exact BK13001.out) hb2) (by decide)));replace BK13001:=Za (Zy (g:=gb13001) (o:=.cells #[.int .i64 0,.slice none 0 0] 31 (0,0)) (by(with_reducible repeat(first|refine Zo ?_ _|refine Zr ?_|refine Zn ?_ _));exact BK13001.out) hb2);replace HB:=Za (hb);(try clear hb);(try clear hb2);(try clear hk);(try clear hi))|((with_reducible refine ZF (f:=42) rfl ?_);refine ZY (some 5) rfl rfl Try.func42 (by kernel_rfl) rfl #[.pointer (some ⟨g13005,0,none⟩)] rfl (by(try simp only[List.map_toArray,List.map_cons,List.map_nil]);first|done|rfl|(simp only[Zk,Zj];rfl)) ?_;(with_reducible refine(ZO.calls k g13005 t13002 t13003 t13004 t13006 t13007 t13010 t13011 w _ ?side1 ?side2 A3.out).mono ?_);(case side1=>repeat(first|(with_reducible first|exact HI13005.out|apply Zt.alloc|apply Zt.drewN|apply Zt.drew|apply Zt.set_1|apply Zt.set_2|refine Zt.far ?_ NB13005_13001.out _)|exact HI13005.out));(case side2=>repeat(first|(with_reducible first|exact HB.out|apply Zq|apply Zm|apply Zs|refine Zp ?_ (Zt.ge HI13005.out)|refine Zp ?_ GE13001.out)|exact HB.out));rintro e w6 ⟨v13008,rfl,ho0,hi,hb,hk⟩;refine⟨_,rfl,?_⟩;have HO13009:=Za (Kd.R_lower ho0 (Zw (by repeat(first|(with_reducible first|exact HB.out|apply Zq|apply Zm|apply Zs|refine Zp ?_ (Zt.ge HI13005.out)|refine Zp ?_ GE13001.out)|exact HB.out))));replace BK13001:=Za (Zz.blk hk (g':=gb13001) (o:=.cells #[.int .i64 0,.slice none 0 0] 31 (0,0)) (by(with_reducible repeat(first|refine Zo ?_ _|refine Zr ?_|refine Zn ?_ _));exact BK13001.out) NB13001_13005.out (by simp));replace HB:=Za (hb);replace HI13005:=Za (hi);(try clear hb);(try clear hb2);(try clear hk);(try clear hi);(try clear ho0);have hnb7:=NB13001_13005.out;have hnc7:=NB13005_13001.out;have hcz8_0:w6.cell? ⟨gb13001,0,none⟩=some (.int .i64 0):=(Zv BK13001.out 0).trans rfl;have hcz8_1:w6.cell? ⟨gb13001,1,none⟩=some (.slice none 0 0):=(Zv BK13001.out 1).trans rfl;have hfz8_0:=Zu BK13001.out 0;have hfz8_1:=Zu BK13001.out 1;obtain⟨Ao9,co9,eo9⟩:=Kd.R_slice HO13009.out;subst eo9))
 refine bodyPost_ret (results_cell_row rfl _ _ gb13001 31 #[.int .i64 t13006,.slice Ao9 t13007.length co9] (0,0) _ rfl (by(with_reducible repeat(first|refine Zo ?_ _|refine Zr ?_|refine Zn ?_ _));refine ZL (cs:=#[.int .i64 t13006,.slice none 0 0]) ?_ 1 _ rfl;(with_reducible repeat(first|refine Zo ?_ _|refine Zr ?_|refine Zn ?_ _));refine ZL (cs:=#[.int .i64 0,.slice none 0 0]) ?_ 0 _ rfl;(with_reducible repeat(first|refine Zo ?_ _|refine Zr ?_|refine Zn ?_ _));exact BK13001.out) Try.underlying31 rfl (by kernel_rfl)) rfl ?_
 exact⟨_,by first|rfl|(simp[ZC,ZB] <;> rfl)|(simp[*,ZC,ZB] <;> rfl),by(with_reducible repeat(first|apply Kd.R_alloc|apply Kd.R_drewN|apply Kd.R_drew));exact Kd.R_mono (Kd.R_far (p:=⟨gb13001,1,none⟩) (Kd.R_far (p:=⟨gb13001,0,none⟩) (Kd.R_types HO13009.out BK13001.out (by decide)) (fun _ hk=>hk.2) (.int .i64 t13006)) (fun _ hk=>hk.2) (.slice Ao9 t13007.length co9)) (fun _ hk=>trivial),by repeat(first|(with_reducible first|exact HB.out|apply Zq|apply Zm|apply Zs|refine Zp ?_ (Zt.ge HI13005.out)|refine Zp ?_ GE13001.out)|exact HB.out)⟩
end Go.Proofs.Ythphnhmabieflab.Pr
namespace Go.Proofs.Ythphnhmabieflab.Pr
open Go.RowKit Go.Proofs.YthphnhmabieflabW.PrintWords Go.Proofs.YthphnhmabieflabW.PrintLast Go.Proofs.YthphnhmabieflabW.PrintMore
attribute [local go_sem] Zaj Zah Zaq Zap Zab Zaa Zai Zag
set_option linter.unusedVariables false
set_option linter.unusedSimpArgs false
open Go.Proofs.Ythphnhmabieflab.Ni
theorem ZdS {w0 w w':World} {g:Nat} (h0:Below w0.heap.size w0 w) (h1:Below w0.heap.size w0 w') (hk:Zz w w' g none) (hg:w.heap.size≤g):Below w.heap.size w w':=
 ⟨h1.os.trans h0.os.symm,h1.tape.trans h0.tape.symm,h1.output.trans h0.output.symm,hk.1,fun k hlt=>hk.2 k hlt (by omega) (by simp)⟩
theorem keepW {w w1 w2:World} {g:Nat} (h:Below w.heap.size w w1) (k:Zz w1 w2 g none) (hg:w.heap.size≤g):Zz w w2 g none:=
 ⟨Nat.le_trans h.size k.1,fun i hi hne hn=>(k.2 i (Nat.lt_of_lt_of_le hi h.size) hne hn).trans (h.block i hi)⟩
def ZaB.go:Nat→List Int→Int→Int→Option (List Int×Int×Int)
 | 0,b,i,h=>some (b,i,h)
 | m+1,b,i,h=>(ZX.f b i h).bind fun r=>ZaB.go m b r.2.1 r.2.2
def ZaB.f (k:Nat) (l0:List Int) (a1:Int):Option (List Int×Int×Int):=if a1≤1048576 then(Zak.f k l0).bind fun r=>ZaB.go a1.toNat r.1 r.2.1 r.2.2 else none
set_option maxHeartbeats 8000000 in
set_option maxRecDepth 100000 in
theorem ZaB.calls (k:Nat) (A0:Option Addr) (c0:Nat) (l0:List Int) (a1:Int) (r1:List Int) (r2:Int) (r3:Int) (w0 w:World) (hB:Below w0.heap.size w0 w) (hr0:Kd.C (Kd.int .u8) w0 A0 l0.length l0) (hc0:l0.length≤c0) (h:ZaB.f k l0 a1=some (r1,r2,r3)) :
  Calls Try.prog 44 #[.slice A0 l0.length c0,.int .i64 a1] w fun e w'=>∃g_:Nat,e=.returned (.pointer (some ⟨g_,0,none⟩))∧Zt w0 w' g_ r1 r2 r3∧Below w0.heap.size w0 w'∧Below w.heap.size w w':=by
 unfold ZaB.f at h
 by_cases ha:a1≤1048576
 case neg=>rw[if_neg ha] at h;exact absurd h (by simp)
 rw[if_pos ha] at h
 obtain⟨⟨b,i0,x0⟩,h1,h2⟩:=Option.bind_eq_some_iff.1 h
 dsimp only at h2
 have HN:=Za (Zak.newc k A0 c0 l0 b i0 x0 w0 w hB hr0 hc0 h1)
 have HH:=Za h2;have HA:=Za ha;have HB0:=Za hB;clear hr0 hc0 h h1 h2 hB ha
 go_enter Try.func44,Try.ntmps44
 go_wp2_with (go_at_call 43;refine HN.out.mono ?_;rintro e w1 ⟨g,rfl,hI,hB1,hb1,hg1⟩;have HGG:=Za hg1;have HB1:=Za hB1;have HI:=Za hI;have HB:=Za hB1;have HW:=Za hb1;clear hI hB1 hb1 hg1)
 go_loopg [6] a1.toNat (fun gg s6 wr=>∃(j:Int) (i h:Int),s6=.int .i64 j∧Aside0 (0≤j∧j≤1048576)∧Aside0 ((a1 - j).toNat≤gg)∧Aside0 (ZaB.go (a1 - j).toNat b i h=some (r1,r2,r3))∧Aside0 (Zt w0 wr g b i h)∧Aside0 (Below w0.heap.size w0 wr)∧Aside0 (Zz w1 wr g none))
 case atStart=>exact⟨0,i0,x0,rfl,⟨by omega⟩,⟨by simp⟩,⟨by simpa using HH.out⟩,HI,HB,⟨Zz.refl _ _ _⟩⟩
 case round=>
  obtain⟨j,i,x,rfl,HJ,HG2,HR,HIr,HBr,HKr⟩:=hrel
  by_cases hj:j<a1
  ·have HR2:=HR.out
   rw[show(a1 - j).toNat=(a1 - (j+1)).toNat+1 by have:=HJ.out;omega] at HR2
   obtain⟨⟨y1,y2,y3⟩,hy,hrest⟩:=Option.bind_eq_some_iff.1 HR2
   dsimp only at hrest
   have HY:=Za (ZX.calls g b i x y1 y2 y3 w0 wr HIr.out HBr.out hy)
   have HRR:=Za hrest
   have hw:wrap64 (j+1)=j+1:=by have:=HJ.out;have:=HA.out;unfold wrap64;omega
   clear HR2 hy hrest
   go_wp2_with (go_at_call 45;refine HY.out.mono ?_;rintro e w2 ⟨rfl,hI2,hB2,hK2⟩)
   go_roundg ((a1 - (j+1)).toNat)
   case measure=>have:=HG2.out;have:=HJ.out;omega
   case rel=>exact⟨j+1,y2,y3,by first|rw[hw]|rfl,⟨by have:=HJ.out;have:=HA.out;omega⟩,⟨by omega⟩,HRR,⟨hI2⟩,⟨hB2⟩,⟨HKr.out.trans hK2 (.inl rfl)⟩⟩
  ·have HR2:=HR.out
   rw[show(a1 - j).toNat=0 by omega] at HR2
   obtain⟨e1,e2⟩:=Prod.mk.inj (Zg HR2)
   obtain⟨e2,e3⟩:=Prod.mk.inj e2
   subst e1;subst e2;subst e3;clear HR2
   go_wp2
   go_ret
   exact⟨g,rfl,HIr.out,HBr.out,ZdS (HB0.out) HBr.out (keepW HW.out HKr.out HGG.out) HGG.out⟩
end Go.Proofs.Ythphnhmabieflab.Pr
namespace Go.Proofs.Ythphnhmabieflab.Pr
open Go.RowKit Go.Proofs.YthphnhmabieflabW.PrintWords Go.Proofs.YthphnhmabieflabW.PrintLast Go.Proofs.YthphnhmabieflabW.PrintMore
attribute [local go_sem] Zaj Zah Zaq Zap Zab Zaa Zai Zag
set_option linter.unusedVariables false
set_option linter.unusedSimpArgs false
def Za9.f (k:Nat) (l0:List Int) (a1:Int):Option (Int):=(ZaB.f k l0 a1).bind fun bt14001=>((ZX.f bt14001.1 bt14001.2.1 bt14001.2.2).bind fun bt14005=>((ZX.f bt14001.1 bt14005.2.1 bt14005.2.2).bind fun bt14008=>(some (wrap64 ((wrap64 (bt14005.1 * 256))+bt14008.1)))))
set_option maxHeartbeats 8000000 in
set_option maxRecDepth 100000 in
theorem Za9.calls (k:Nat) (A0:Option Addr) (c0:Nat) (l0:List Int) (a1:Int) (r:Int) (w:World) (hr0:Kd.C (Kd.int .u8) w A0 l0.length l0) (hc0:l0.length≤c0) (h:Za9.f k l0 a1=some r) :
  Calls Try.prog 14 #[.slice A0 l0.length c0,.int .i64 a1] w fun e w'=>e=.returned (.int .i64 r)∧Below w.heap.size w w':=by
 have HR0:=Za hr0;have HC0:=Za hc0;clear hr0 hc0
 have HB:=Za (Below.refl w.heap.size w)
 have H:((ZaB.f k l0 a1).bind fun bt14001=>((ZX.f bt14001.1 bt14001.2.1 bt14001.2.2).bind fun bt14005=>((ZX.f bt14001.1 bt14005.2.1 bt14005.2.2).bind fun bt14008=>(some (wrap64 ((wrap64 (bt14005.1 * 256))+bt14008.1))))))=some r:=h
 clear h
 replace H:=Zh H
 obtain⟨⟨t14001,t14002,t14003⟩,A30,H⟩:=H
 replace H:((ZX.f t14001 t14002 t14003).bind fun bt14005=>((ZX.f t14001 bt14005.2.1 bt14005.2.2).bind fun bt14008=>(some (wrap64 ((wrap64 (bt14005.1 * 256))+bt14008.1)))))=some r:=H
 have A3:=Za A30;clear A30
 replace H:=Zh H
 obtain⟨⟨t14005,t14006,t14007⟩,A40,H⟩:=H
 replace H:((ZX.f t14001 t14006 t14007).bind fun bt14008=>(some (wrap64 ((wrap64 (t14005 * 256))+bt14008.1))))=some r:=H
 have A4:=Za A40;clear A40
 replace H:=Zh H
 obtain⟨⟨t14008,t14009,t14010⟩,A50,H⟩:=H
 replace H:(some (wrap64 ((wrap64 (t14005 * 256))+t14008)))=some r:=H
 have A5:=Za A50;clear A50
 obtain rfl:=Zg H
 go_enter Try.func14,Try.ntmps14
 go_wp2_with (first|((with_reducible refine ZF (f:=44) rfl ?_);refine ZY (some 8) rfl rfl Try.func44 (by kernel_rfl) rfl #[.slice A0 l0.length c0,.int .i64 a1] rfl (by(try simp only[List.map_toArray,List.map_cons,List.map_nil]);first|done|rfl|(simp only[Zk,Zj];rfl)) ?_;(with_reducible refine(ZaB.calls k _ _ l0 a1 t14001 t14002 t14003 w _ ?side1 ?side2 ?side3 A3.out).mono ?_);(case side1=>repeat(first|(with_reducible first|exact HB.out|apply Zq|apply Zm|apply Zs)|exact HB.out));(case side2=>exact HR0.out);(case side3=>exact HC0.out);rintro e w6 ⟨g14004,rfl,hi,hb,hb2⟩;refine⟨_,rfl,?_⟩;have HI14004:=Za (hi);replace HB:=Za (hb);(try clear hb);(try clear hb2);(try clear hk);(try clear hi))|((with_reducible refine ZF (f:=45) rfl ?_);refine ZY (some 10) rfl rfl Try.func45 (by kernel_rfl) rfl #[.pointer (some ⟨g14004,0,none⟩)] rfl (by(try simp only[List.map_toArray,List.map_cons,List.map_nil]);first|done|rfl|(simp only[Zk,Zj];rfl)) ?_;(with_reducible refine(ZX.calls g14004 t14001 t14002 t14003 t14005 t14006 t14007 w _ ?side1 ?side2 A4.out).mono ?_);(case side1=>repeat(first|(with_reducible first|exact HI14004.out|apply Zt.alloc|apply Zt.drewN|apply Zt.drew|apply Zt.set_1|apply Zt.set_2)|exact HI14004.out));(case side2=>repeat(first|(with_reducible first|exact HB.out|apply Zq|apply Zm|apply Zs|refine Zp ?_ (Zt.ge HI14004.out))|exact HB.out));rintro e w7 ⟨rfl,hi,hb,hk⟩;refine⟨_,rfl,?_⟩;replace HB:=Za (hb);replace HI14004:=Za (hi);(try clear hb);(try clear hb2);(try clear hk);(try clear hi))|((with_reducible refine ZF (f:=45) rfl ?_);refine ZY (some 13) rfl rfl Try.func45 (by kernel_rfl) rfl #[.pointer (some ⟨g14004,0,none⟩)] rfl (by(try simp only[List.map_toArray,List.map_cons,List.map_nil]);first|done|rfl|(simp only[Zk,Zj];rfl)) ?_;(with_reducible refine(ZX.calls g14004 t14001 t14006 t14007 t14008 t14009 t14010 w _ ?side1 ?side2 A5.out).mono ?_);(case side1=>repeat(first|(with_reducible first|exact HI14004.out|apply Zt.alloc|apply Zt.drewN|apply Zt.drew|apply Zt.set_1|apply Zt.set_2)|exact HI14004.out));(case side2=>repeat(first|(with_reducible first|exact HB.out|apply Zq|apply Zm|apply Zs|refine Zp ?_ (Zt.ge HI14004.out))|exact HB.out));rintro e w8 ⟨rfl,hi,hb,hk⟩;refine⟨_,rfl,?_⟩;replace HB:=Za (hb);replace HI14004:=Za (hi);(try clear hb);(try clear hb2);(try clear hk);(try clear hi)))
 go_ret
 exact⟨by first|rfl|(simp[ZC,ZB] <;> rfl)|(simp[*,ZC,ZB] <;> rfl),by repeat(first|(with_reducible first|exact HB.out|apply Zq|apply Zm|apply Zs|refine Zp ?_ (Zt.ge HI14004.out))|exact HB.out)⟩
def Zaw.f (a0:Int) (a1:Int):Option (Bool):=if a1≥0 then(some (decide (a1<a0))) else(some false)
set_option maxHeartbeats 8000000 in
set_option maxRecDepth 100000 in
theorem Zaw.calls (a0:Int) (a1:Int) (r:Bool) (w:World) (h:Zaw.f a0 a1=some r) :
  Calls Try.prog 52 #[.int .i64 a0,.int .i64 a1] w fun e w'=>e=.returned (.bool r)∧Zam w w':=by
 have H:(if a1≥0 then(some (decide (a1<a0))) else(some false))=some r:=h
 clear h
 by_cases c3:a1≥0
 ·rw[if_pos c3] at H
  have c3b0:decide (0≤a1)=true:=Ze c3
  clear c3
  obtain rfl:=Zg H
  go_enter Try.func52,Try.ntmps52
  go_wp2
  go_ret
  exact⟨by first|rfl|(simp;done)|(simp[*];done),by repeat(first|exact Zam.refl _|apply Zam.step)⟩
 ·rw[if_neg c3] at H
  have c3b0:decide (0≤a1)=false:=Zf c3
  clear c3
  obtain rfl:=Zg H
  go_enter Try.func52,Try.ntmps52
  go_wp2
  go_ret
  exact⟨by first|rfl|(simp;done)|(simp[*];done),by repeat(first|exact Zam.refl _|apply Zam.step)⟩
end Go.Proofs.Ythphnhmabieflab.Pr
namespace Go.Proofs.Ythphnhmabieflab.Pr
open Go.RowKit Go.Proofs.YthphnhmabieflabW.PrintWords Go.Proofs.Ythphnhmabieflab.Ni
def inN (n x:Int):Bool:=decide (0≤x) && decide (x<n)
theorem inN_f (n x:Int):Zaw.f n x=some (inN n x):=by
 unfold Zaw.f inN
 by_cases h:x≥0
 ·rw[if_pos h,Ze (show(0:Int)≤x from h),Bool.true_and]
 ·rw[if_neg h,Zf (show ¬(0:Int)≤x from h),Bool.false_and]
theorem ZbA (n x:Int) (w:World):Calls Try.prog 52 #[.int .i64 n,.int .i64 x] w fun e w'=>e=.returned (.bool (inN n x))∧∃m,w'=w.drewN m:=
 (Zaw.calls n x _ w (inN_f n x)).mono fun _ _ ⟨he,hd⟩=>⟨he,hd.out⟩
theorem ZbR {n x:Int}:inN n x=true↔0≤x∧x<n:=by
 unfold inN;rw[Bool.and_eq_true,decide_eq_true_eq,decide_eq_true_eq]
end Go.Proofs.Ythphnhmabieflab.Pr
namespace Go.Proofs.Ythphnhmabieflab.Pr
open Go.RowKit Go.Proofs.YthphnhmabieflabW.PrintWords Go.Proofs.YthphnhmabieflabW.PrintLast Go.Proofs.YthphnhmabieflabW.PrintMore
attribute [local go_sem] Zaj Zah Zaq Zap Zab Zaa Zai Zag
set_option linter.unusedVariables false
set_option linter.unusedSimpArgs false
open Go.Proofs.Ythphnhmabieflab.Ni
set_option maxHeartbeats 4000000 in
theorem ZcL.any (p:S84→Bool) (g:Nat) (lb:Array Value) (eg:∀args w,(callFunc g args).run Try.prog w=.ok (.enter g args) w) (A0:Option Addr) (c0:Nat) (l0:List S84) (w:World) (hr0:Kd.C k84 w A0 l0.length l0)
  (hp:∀(W:World) (x:S84),x∈l0→Below w.heap.size w W→Calls Try.prog g (#[.agg #[.int .i64 x.f0,.int .i64 x.f1,.int .i64 x.f2.f0,.int .i64 x.f2.f1]] ++ lb) W fun e w'=>e=.returned (.bool (p x))∧Below W.heap.size W w') :
  Calls Try.prog 90 #[.slice A0 l0.length c0,.func (.func g) #[] lb] w fun e w'=>e=.returned (.int .i64 (Zbq p l0))∧Below w.heap.size w w':=by
 have HR0:=Za hr0;have HP:=Za hp;clear hr0 hp
 have HL:l0.length≤9223372036854775807:=HR0.out.2.1
 go_enter Try.func90,Try.ntmps90
 go_wp2
 go_loopg [5,8] l0.length (fun gg _ s8 wr=>∃kk:Nat,Aside0 (kk≤l0.length)∧Aside0 (l0.length - kk≤gg)∧s8=.int .i64 kk∧Aside0 (Below w.heap.size w wr)∧Aside0 (∀j y,j<kk→l0[j]? = some y→p y=false))
 case atStart=>exact⟨0,⟨Nat.zero_le _⟩,⟨by omega⟩,rfl,⟨Below.refl _ _⟩,⟨fun j y hj=>absurd hj (Nat.not_lt_zero _)⟩⟩
 case round=>
  obtain⟨kk,HK,HG,rfl,HB,HN⟩:=hrel
  by_cases hlt:kk<l0.length
  ·have hltz:(kk:Int)<(l0.length:Int):=by omega
   obtain⟨ad,e1,hx0,hx1,hx2,hx3⟩:=at_T84 HR0.out (kk:Int) (by omega) hltz
   cases e1
   replace hx0:=(HB.out.cell (Zc w _ hx0)).trans hx0
   rw[Int.toNat_natCast] at hx0
   replace hx1:=(HB.out.cell (Zc w _ hx1)).trans hx1
   rw[Int.toNat_natCast] at hx1
   replace hx2:=(HB.out.cell (Zc w _ hx2)).trans hx2
   rw[Int.toNat_natCast] at hx2
   replace hx3:=(HB.out.cell (Zc w _ hx3)).trans hx3
   rw[Int.toNat_natCast] at hx3
   have hxe:l0[kk]? = some (ZA l0 (kk:Int)):=by
    unfold ZA
    rw[Int.toNat_natCast,List.getD_eq_getElem?_getD,Zl hlt];rfl
   generalize ZA l0 (kk:Int)=y at hx0 hx1 hx2 hx3 hxe
   have HX:=Za hxe;clear hxe
   have hcall:=HP.out wr y (List.mem_of_getElem? HX.out) HB.out
   cases hq:p y with
   | true=>
    have HQ:=Za hq
    rw[hq] at hcall
    clear hq
    go_wp2_with (go_at_fn g;refine hcall.mono ?_;rintro e w' ⟨rfl,hb⟩)
    go_ret
    exact⟨by rw[ZcM p l0 kk y HX.out HQ.out HN.out];rfl,HB.out.trans (hb.mono HB.out.size)⟩
   | false=>
    have HQ:=Za hq
    rw[hq] at hcall
    clear hq
    go_wp2_with (go_at_fn g;refine hcall.mono ?_;rintro e w' ⟨rfl,hb⟩)
    go_roundg (l0.length - (kk+1))
    case measure=>have:=HG.out;omega
    case rel=>
     refine⟨kk+1,⟨by omega⟩,⟨by omega⟩,by go_num,⟨HB.out.trans (hb.mono HB.out.size)⟩,⟨fun j y' hj hy=>?_⟩⟩
     by_cases e:j=kk
     ·subst e
      rw[HX.out] at hy
      cases hy
      exact HQ.out
     ·exact HN.out j y' (by omega) hy
  ·have hltz:¬(kk:Int)<(l0.length:Int):=by omega
   have:kk=l0.length:=by have:=HK.out;omega
   subst this
   go_wp2
   go_ret
   exact⟨by rw[Zb2 p l0 HN.out];rfl,HB.out⟩
set_option maxHeartbeats 4000000 in
theorem impl_Link_50.any (p:S84→Bool) (g:Nat) (lb:Array Value) (eg:∀args w,(callFunc g args).run Try.prog w=.ok (.enter g args) w) (A0:Option Addr) (c0:Nat) (l0:List S84) (w:World) (hr0:Kd.C k84 w A0 l0.length l0)
  (hp:∀(W:World) (x:S84),x∈l0→Below w.heap.size w W→Calls Try.prog g (#[.agg #[.int .i64 x.f0,.int .i64 x.f1,.int .i64 x.f2.f0,.int .i64 x.f2.f1]] ++ lb) W fun e w'=>e=.returned (.bool (p x))∧Below W.heap.size W w') :
  Calls Try.prog 50 #[.slice A0 l0.length c0,.func (.func g) #[] lb] w fun e w'=>e=.returned (.bool (l0.any p))∧Below w.heap.size w w':=by
 have HI:=Za (ZcL.any p g lb eg A0 c0 l0 w hr0 hp)
 clear hr0 hp
 have HE:=Za (ZcN p l0)
 go_enter Try.func50,Try.ntmps50
 go_wp2_with (go_at_call 90;refine HI.out.mono ?_;rintro e w' ⟨rfl,hb⟩)
 go_ret
 exact⟨by rw[← HE.out];rfl,hb⟩
end Go.Proofs.Ythphnhmabieflab.Pr
namespace Go.Proofs.Ythphnhmabieflab.Pr
open Go.RowKit Go.Proofs.YthphnhmabieflabW.PrintWords Go.Proofs.YthphnhmabieflabW.PrintLast Go.Proofs.YthphnhmabieflabW.PrintMore
attribute [local go_sem] Zaj Zah Zaq Zap Zab Zaa Zai Zag
set_option linter.unusedVariables false
set_option linter.unusedSimpArgs false
def Zae.f (a0_0:Int) (a0_1:Int):Option (Bool):=if a0_0≥(-1000000) then(if a0_0≤a0_1 then(if a0_1≤1000000 then(if a0_0=1000000 then(some false) else(some (a0_1 != (-1000000)))) else(some false)) else(some false)) else(some false)
set_option maxHeartbeats 8000000 in
set_option maxRecDepth 100000 in
theorem Zae.calls (a0_0:Int) (a0_1:Int) (r:Bool) (w:World) (h:Zae.f a0_0 a0_1=some r) :
  Calls Try.prog 53 #[.agg #[.int .i64 a0_0,.int .i64 a0_1]] w fun e w'=>e=.returned (.bool r)∧Below w.heap.size w w':=by
 have hu35:=Try.underlying35
 have HB:=Za (Below.refl w.heap.size w)
 have H:(if a0_0≥(-1000000) then(if a0_0≤a0_1 then(if a0_1≤1000000 then(if a0_0=1000000 then(some false) else(some (a0_1 != (-1000000)))) else(some false)) else(some false)) else(some false))=some r:=h
 clear h
 by_cases c2:a0_0≥(-1000000)
 ·rw[if_pos c2] at H
  have c2b0:decide ((-1000000)≤a0_0)=true:=Ze c2
  clear c2
  by_cases c3:a0_0≤a0_1
  ·rw[if_pos c3] at H
   have c3b0:decide (a0_0≤a0_1)=true:=Ze c3
   clear c3
   by_cases c4:a0_1≤1000000
   ·rw[if_pos c4] at H
    have c4b0:decide (a0_1≤1000000)=true:=Ze c4
    clear c4
    by_cases c5:a0_0=1000000
    ·rw[if_pos c5] at H
     have c5b0:(a0_0 == 1000000)=true:=beq_iff_eq.mpr c5
     have c5b1:(a0_0 != 1000000)=false:=bne_eq_false_iff_eq.mpr c5
     clear c5
     obtain rfl:=Zg H
     go_enter Try.func53,Try.ntmps53
     go_wp2_with (first|((with_reducible refine ZM (N:=1) rfl ?_);refine ZK ?hg (N:=1) ?hd (cs:=#[.int .i64 a0_0,.int .i64 a0_1]) (t:=35) ?hr ?_;(case hd=>rfl);(case hg=>rfl);(case hr=>first|(go_simp;done)|(go_simp;rfl));intro gb53001 hg w6 hbox hb;have BK53001:=Za (hbox);have GW53001:=Za ((by rw[hg];exact(Zw (by repeat(first|(with_reducible first|exact HB.out|apply Zq|apply Zm|apply Zs)|exact HB.out))):w.heap.size≤gb53001));have GE53001:=Za ((by rw[hg];exact(Zw (by repeat(first|(with_reducible first|exact HB.out|apply Zq|apply Zm|apply Zs)|exact HB.out))):w.heap.size≤gb53001));replace HB:=Za (Zx (by repeat(first|(with_reducible first|exact HB.out|apply Zq|apply Zm|apply Zs)|exact HB.out)) hb);clear hb hbox hg;have hcz7_0:w6.cell? ⟨gb53001,0,none⟩=some (.int .i64 a0_0):=(Zv BK53001.out 0).trans rfl;have hcz7_1:w6.cell? ⟨gb53001,1,none⟩=some (.int .i64 a0_1):=(Zv BK53001.out 1).trans rfl;have hfz7_0:=Zu BK53001.out 0;have hfz7_1:=Zu BK53001.out 1))
     go_ret
     exact⟨by first|rfl|(simp[ZC,ZB] <;> rfl)|(simp[*,ZC,ZB] <;> rfl),by repeat(first|(with_reducible first|exact HB.out|apply Zq|apply Zm|apply Zs|refine Zp ?_ GE53001.out)|exact HB.out)⟩
    ·rw[if_neg c5] at H
     have c5b0:(a0_0 == 1000000)=false:=beq_eq_false_iff_ne.mpr c5
     have c5b1:(a0_0 != 1000000)=true:=bne_iff_ne.mpr c5
     obtain rfl:=Zg H
     go_enter Try.func53,Try.ntmps53
     go_wp2_with (first|((with_reducible refine ZM (N:=1) rfl ?_);refine ZK ?hg (N:=1) ?hd (cs:=#[.int .i64 a0_0,.int .i64 a0_1]) (t:=35) ?hr ?_;(case hd=>rfl);(case hg=>rfl);(case hr=>first|(go_simp;done)|(go_simp;rfl));intro gb53001 hg w8 hbox hb;have BK53001:=Za (hbox);have GW53001:=Za ((by rw[hg];exact(Zw (by repeat(first|(with_reducible first|exact HB.out|apply Zq|apply Zm|apply Zs)|exact HB.out))):w.heap.size≤gb53001));have GE53001:=Za ((by rw[hg];exact(Zw (by repeat(first|(with_reducible first|exact HB.out|apply Zq|apply Zm|apply Zs)|exact HB.out))):w.heap.size≤gb53001));replace HB:=Za (Zx (by repeat(first|(with_reducible first|exact HB.out|apply Zq|apply Zm|apply Zs)|exact HB.out)) hb);clear hb hbox hg;have hcz9_0:w8.cell? ⟨gb53001,0,none⟩=some (.int .i64 a0_0):=(Zv BK53001.out 0).trans rfl;have hcz9_1:w8.cell? ⟨gb53001,1,none⟩=some (.int .i64 a0_1):=(Zv BK53001.out 1).trans rfl;have hfz9_0:=Zu BK53001.out 0;have hfz9_1:=Zu BK53001.out 1))
     go_ret
     exact⟨by first|rfl|(simp[ZC,ZB] <;> rfl)|(simp[*,ZC,ZB] <;> rfl),by repeat(first|(with_reducible first|exact HB.out|apply Zq|apply Zm|apply Zs|refine Zp ?_ GE53001.out)|exact HB.out)⟩
   ·rw[if_neg c4] at H
    have c4b0:decide (a0_1≤1000000)=false:=Zf c4
    clear c4
    obtain rfl:=Zg H
    go_enter Try.func53,Try.ntmps53
    go_wp2_with (first|((with_reducible refine ZM (N:=1) rfl ?_);refine ZK ?hg (N:=1) ?hd (cs:=#[.int .i64 a0_0,.int .i64 a0_1]) (t:=35) ?hr ?_;(case hd=>rfl);(case hg=>rfl);(case hr=>first|(go_simp;done)|(go_simp;rfl));intro gb53001 hg w10 hbox hb;have BK53001:=Za (hbox);have GW53001:=Za ((by rw[hg];exact(Zw (by repeat(first|(with_reducible first|exact HB.out|apply Zq|apply Zm|apply Zs)|exact HB.out))):w.heap.size≤gb53001));have GE53001:=Za ((by rw[hg];exact(Zw (by repeat(first|(with_reducible first|exact HB.out|apply Zq|apply Zm|apply Zs)|exact HB.out))):w.heap.size≤gb53001));replace HB:=Za (Zx (by repeat(first|(with_reducible first|exact HB.out|apply Zq|apply Zm|apply Zs)|exact HB.out)) hb);clear hb hbox hg;have hcz11_0:w10.cell? ⟨gb53001,0,none⟩=some (.int .i64 a0_0):=(Zv BK53001.out 0).trans rfl;have hcz11_1:w10.cell? ⟨gb53001,1,none⟩=some (.int .i64 a0_1):=(Zv BK53001.out 1).trans rfl;have hfz11_0:=Zu BK53001.out 0;have hfz11_1:=Zu BK53001.out 1))
    go_ret
    exact⟨by first|rfl|(simp[ZC,ZB] <;> rfl)|(simp[*,ZC,ZB] <;> rfl),by repeat(first|(with_reducible first|exact HB.out|apply Zq|apply Zm|apply Zs|refine Zp ?_ GE53001.out)|exact HB.out)⟩
  ·rw[if_neg c3] at H
   have c3b0:decide (a0_0≤a0_1)=false:=Zf c3
   clear c3
   obtain rfl:=Zg H
   go_enter Try.func53,Try.ntmps53
   go_wp2_with (first|((with_reducible refine ZM (N:=1) rfl ?_);refine ZK ?hg (N:=1) ?hd (cs:=#[.int .i64 a0_0,.int .i64 a0_1]) (t:=35) ?hr ?_;(case hd=>rfl);(case hg=>rfl);(case hr=>first|(go_simp;done)|(go_simp;rfl));intro gb53001 hg w12 hbox hb;have BK53001:=Za (hbox);have GW53001:=Za ((by rw[hg];exact(Zw (by repeat(first|(with_reducible first|exact HB.out|apply Zq|apply Zm|apply Zs)|exact HB.out))):w.heap.size≤gb53001));have GE53001:=Za ((by rw[hg];exact(Zw (by repeat(first|(with_reducible first|exact HB.out|apply Zq|apply Zm|apply Zs)|exact HB.out))):w.heap.size≤gb53001));replace HB:=Za (Zx (by repeat(first|(with_reducible first|exact HB.out|apply Zq|apply Zm|apply Zs)|exact HB.out)) hb);clear hb hbox hg;have hcz13_0:w12.cell? ⟨gb53001,0,none⟩=some (.int .i64 a0_0):=(Zv BK53001.out 0).trans rfl;have hcz13_1:w12.cell? ⟨gb53001,1,none⟩=some (.int .i64 a0_1):=(Zv BK53001.out 1).trans rfl;have hfz13_0:=Zu BK53001.out 0;have hfz13_1:=Zu BK53001.out 1))
   go_ret
   exact⟨by first|rfl|(simp[ZC,ZB] <;> rfl)|(simp[*,ZC,ZB] <;> rfl),by repeat(first|(with_reducible first|exact HB.out|apply Zq|apply Zm|apply Zs|refine Zp ?_ GE53001.out)|exact HB.out)⟩
 ·rw[if_neg c2] at H
  have c2b0:decide ((-1000000)≤a0_0)=false:=Zf c2
  clear c2
  obtain rfl:=Zg H
  go_enter Try.func53,Try.ntmps53
  go_wp2_with (first|((with_reducible refine ZM (N:=1) rfl ?_);refine ZK ?hg (N:=1) ?hd (cs:=#[.int .i64 a0_0,.int .i64 a0_1]) (t:=35) ?hr ?_;(case hd=>rfl);(case hg=>rfl);(case hr=>first|(go_simp;done)|(go_simp;rfl));intro gb53001 hg w14 hbox hb;have BK53001:=Za (hbox);have GW53001:=Za ((by rw[hg];exact(Zw (by repeat(first|(with_reducible first|exact HB.out|apply Zq|apply Zm|apply Zs)|exact HB.out))):w.heap.size≤gb53001));have GE53001:=Za ((by rw[hg];exact(Zw (by repeat(first|(with_reducible first|exact HB.out|apply Zq|apply Zm|apply Zs)|exact HB.out))):w.heap.size≤gb53001));replace HB:=Za (Zx (by repeat(first|(with_reducible first|exact HB.out|apply Zq|apply Zm|apply Zs)|exact HB.out)) hb);clear hb hbox hg;have hcz15_0:w14.cell? ⟨gb53001,0,none⟩=some (.int .i64 a0_0):=(Zv BK53001.out 0).trans rfl;have hcz15_1:w14.cell? ⟨gb53001,1,none⟩=some (.int .i64 a0_1):=(Zv BK53001.out 1).trans rfl;have hfz15_0:=Zu BK53001.out 0;have hfz15_1:=Zu BK53001.out 1))
  go_ret
  exact⟨by first|rfl|(simp[ZC,ZB] <;> rfl)|(simp[*,ZC,ZB] <;> rfl),by repeat(first|(with_reducible first|exact HB.out|apply Zq|apply Zm|apply Zs|refine Zp ?_ GE53001.out)|exact HB.out)⟩
end Go.Proofs.Ythphnhmabieflab.Pr
namespace Go.Proofs.Ythphnhmabieflab.Pr
open Go.RowKit Go.Proofs.YthphnhmabieflabW.PrintWords Go.Proofs.YthphnhmabieflabW.PrintLast Go.Proofs.YthphnhmabieflabW.PrintMore
attribute [local go_sem] Zaj Zah Zaq Zap Zab Zaa Zai Zag
set_option linter.unusedVariables false
set_option linter.unusedSimpArgs false
open Go.Proofs.Ythphnhmabieflab.Ni
def ZbF (lo hi:Int):Bool:=decide (-1000000≤lo) && (decide (lo≤hi) && (decide (hi≤1000000) && (!(decide (lo=1000000)) && !(decide (hi=-1000000)))))
theorem ivOk_f (lo hi:Int):Zae.f lo hi=some (ZbF lo hi):=by
 unfold Zae.f ZbF
 by_cases h1:lo≥-1000000
 ·rw[if_pos h1,Ze (show(-1000000:Int)≤lo from h1),Bool.true_and]
  by_cases h2:lo≤hi
  ·rw[if_pos h2,Ze h2,Bool.true_and]
   by_cases h3:hi≤1000000
   ·rw[if_pos h3,Ze h3,Bool.true_and]
    by_cases h4:lo=1000000
    ·rw[if_pos h4,Ze h4];rfl
    ·rw[if_neg h4,Zf h4]
     congr 1
   ·rw[if_neg h3,Zf h3];rfl
  ·rw[if_neg h2,Zf h2];rfl
 ·rw[if_neg h1,Zf (show ¬(-1000000:Int)≤lo from h1)];rfl
def ZaS (n:Int) (x:S84):Bool:=inN n x.f0 && (inN n x.f1 && ZbF x.f2.f0 x.f2.f1)
def Zac (n:Int) (ls:List S84):Bool:=!(decide (n<1)) && (!(decide (8<n)) && (!(decide (40<ls.length)) && !(ls.any fun x=>!ZaS n x)))
def Z8.f (a0_0:Int) (l0_1:List (S84)):Option Bool:=some (Zac a0_0 l0_1)
set_option maxHeartbeats 4000000 in
theorem Zdg.clo (B:Nat) (n:Int) (W:World) (hB:W.cell? ⟨B,0,none⟩=some (.int .i64 n)) (x:S84) :
  Calls Try.prog 51 #[.agg #[.int .i64 x.f0,.int .i64 x.f1,.int .i64 x.f2.f0,.int .i64 x.f2.f1],.pointer (some ⟨B,0,none⟩)] W fun e w'=>e=.returned (.bool (!ZaS n x))∧Below W.heap.size W w':=by
 have hlt:B<W.heap.size:=Zc W _ hB
 have hu:=Try.underlying84
 have hu2:=Try.underlying35
 have hu3:=Try.underlying31
 obtain⟨f0,f1,⟨f2,f3⟩⟩:=x
 have HE:=Za (show ZaS n ⟨f0,f1,⟨f2,f3⟩⟩=(inN n f0 && (inN n f1 && ZbF f2 f3)) from rfl)
 have HI:=Za fun (w:World)=>Zae.calls f2 f3 _ w (ivOk_f f2 f3)
 cases b1:inN n f0 with
 | false=>
  have HF:=Za (show ZaS n ⟨f0,f1,⟨f2,f3⟩⟩=false by rw[HE.out,b1];rfl)
  clear HE
  go_enter Try.func51,Try.ntmps51
  go_wp2_with (go_at_call 52;refine(ZbA _ _ _).mono ?_;rintro e w' ⟨rfl,nd,rfl⟩)
  go_ret
  exact⟨by rw[HF.out];rfl,by repeat(first|exact Below.refl _ _|apply Zq|apply Zm|apply ZaN)⟩
 | true=>
 cases b2:inN n f1 with
 | false=>
  have HF:=Za (show ZaS n ⟨f0,f1,⟨f2,f3⟩⟩=false by rw[HE.out,b1,b2];rfl)
  clear HE
  go_enter Try.func51,Try.ntmps51
  go_wp2_with (go_at_call 52;refine(ZbA _ _ _).mono ?_;rintro e w' ⟨rfl,nd,rfl⟩)
  go_ret
  exact⟨by rw[HF.out];rfl,by repeat(first|exact Below.refl _ _|apply Zq|apply Zm|apply ZaN)⟩
 | true=>
 have HF:=Za (show ZaS n ⟨f0,f1,⟨f2,f3⟩⟩=ZbF f2 f3 by rw[HE.out,b1,b2];rfl)
 clear HE
 go_enter Try.func51,Try.ntmps51
 go_wp2_with (first|(go_at_call 52;refine(ZbA _ _ _).mono ?_;rintro e w' ⟨rfl,nd,rfl⟩)|(go_at_call 53;refine(HI.out _).mono ?_;rintro e w' ⟨rfl,hb⟩))
 go_ret
 exact⟨by rw[HF.out];rfl,Zx (by repeat(first|exact Below.refl _ _|apply Zq|apply Zm|apply ZaN)) hb⟩
set_option maxHeartbeats 4000000 in
set_option maxRecDepth 100000 in
theorem Z8.calls (a0_0:Int) (A0_1:Option Addr) (c0_1:Nat) (l0_1:List (S84)) (r:Bool) (w:World) (hr0_1:Kd.C k84 w A0_1 l0_1.length l0_1) (hc0_1:l0_1.length≤c0_1) (h:Z8.f a0_0 l0_1=some r) :
  Calls Try.prog 17 #[.agg #[.int .i64 a0_0,.slice A0_1 l0_1.length c0_1]] w fun e w'=>e=.returned (.bool r)∧Below w.heap.size w w':=by
 obtain rfl:=Zg h
 have hL:l0_1.length≤9223372036854775807:=hr0_1.2.1
 have HC:=Za fun (W:World) (B:Nat) (hb:Below w.heap.size w W) (hcell:W.cell? ⟨B,0,none⟩=some (.int .i64 a0_0))=>impl_Link_50.any (fun x=>!ZaS a0_0 x) 51 #[.pointer (some ⟨B,0,none⟩)] (enters_of Try.func51 (by kernel_rfl) rfl) A0_1 c0_1 l0_1 W (Zb hr0_1 hb)
    (fun W' x _ hb'=>Zdg.clo B a0_0 W' (Z2 hb' hcell) x)
 have hu:=Try.underlying31
 have HB:=Za (Zq (Below.refl w.heap.size w) (.cells #[.int .i64 a0_0,.slice A0_1 l0_1.length c0_1] 31))
 clear hr0_1 h
 cases b1:decide (a0_0<1) with
 | true=>
  have HF:=Za (show Zac a0_0 l0_1=false by unfold Zac;rw[b1];rfl)
  go_enter Try.func17,Try.ntmps17
  go_wp2
  go_ret
  exact⟨by rw[HF.out];rfl,HB.out⟩
 | false=>
 cases b2:decide (8<a0_0) with
 | true=>
  have HF:=Za (show Zac a0_0 l0_1=false by unfold Zac;rw[b1,b2];rfl)
  go_enter Try.func17,Try.ntmps17
  go_wp2
  go_ret
  exact⟨by rw[HF.out];rfl,HB.out⟩
 | false=>
 by_cases q3:40<l0_1.length
 ·have b3:decide (40<l0_1.length)=true:=Ze q3
  have z3:(40:Int)<(l0_1.length:Int):=by omega
  have HF:=Za (show Zac a0_0 l0_1=false by unfold Zac;rw[b1,b2,b3];rfl)
  clear b3 q3
  go_enter Try.func17,Try.ntmps17
  go_wp2
  go_ret
  exact⟨by rw[HF.out];rfl,HB.out⟩
 ·have b3:decide (40<l0_1.length)=false:=Zf q3
  have z3:¬(40:Int)<(l0_1.length:Int):=by omega
  have HF:=Za (show Zac a0_0 l0_1=!(l0_1.any fun x=>!ZaS a0_0 x) by unfold Zac;rw[b1,b2,b3];rfl)
  clear b3 q3
  generalize l0_1.any (fun x=>!ZaS a0_0 x)=q at HC HF
  go_enter Try.func17,Try.ntmps17
  go_wp2_with fail
  refine(HC.out _ _ HB.out (by go_simp)).mono ?_
  rintro e w' ⟨rfl,hb⟩
  go_wp2
  go_ret
  exact⟨by rw[HF.out];rfl,HB.out.trans (hb.mono HB.out.size)⟩
end Go.Proofs.Ythphnhmabieflab.Pr
namespace Go.Proofs.Ythphnhmabieflab.Pr
open Go.RowKit Go.Proofs.YthphnhmabieflabW.PrintWords Go.Proofs.YthphnhmabieflabW.PrintLast Go.Proofs.YthphnhmabieflabW.PrintMore
attribute [local go_sem] Zaj Zah Zaq Zap Zab Zaa Zai Zag
set_option linter.unusedVariables false
set_option linter.unusedSimpArgs false
def Z5.l0:Nat→List Int→List (S84)→Int→Int→Int→List (S123)→Option (Int×(List (S123))×List Int)
 | 0,_,_,_,_,_,_=>none
 | k+1,x5,x12,x13,x14,x84004000,x84004001=>if x14<x13 then(if 0≤x14 then(if x14<(x12.length:Int) then(if ((ZA x12 x14).f2.f1)=1000000 then(if ((ZA x12 x14).f2.f0)=(-1000000) then(Z5.l0 k x5 x12 x13 (wrap64 (x14+1)) x84004000 x84004001) else(if x84004001.length<5864062014805 then(if x5.length<17592186044416 then(Z5.l0 k (x5 ++ [x14]) x12 x13 (wrap64 (x14+1)) x84004000 (x84004001 ++ [(⟨(ZA x12 x14).f1,(ZA x12 x14).f0,wrap64 (-((ZA x12 x14).f2.f0))⟩:S123)])) else(none)) else(none))) else(if x84004001.length<5864062014805 then((some (x84004001 ++ [(⟨(ZA x12 x14).f0,(ZA x12 x14).f1,(ZA x12 x14).f2.f1⟩:S123)]:List (S123))).bind fun y84012=>(if x5.length<17592186044416 then((some (x5 ++ [x14]:List Int)).bind fun y84015=>(if ((ZA x12 x14).f2.f0)=(-1000000) then(Z5.l0 k y84015 x12 x13 (wrap64 (x14+1)) x84004000 y84012) else(if y84012.length<5864062014805 then(if y84015.length<17592186044416 then(Z5.l0 k (y84015 ++ [x14]) x12 x13 (wrap64 (x14+1)) x84004000 (y84012 ++ [(⟨(ZA x12 x14).f1,(ZA x12 x14).f0,wrap64 (-((ZA x12 x14).f2.f0))⟩:S123)])) else(none)) else(none)))) else(none))) else(none))) else(none)) else(none)) else(some (x84004000,x84004001,x5))
def Z5.f (k:Nat) (a0_0:Int) (l0_1:List (S84)):Option (Int×(List (S123))×List Int):=Z5.l0 k ([]:List Int) l0_1 (l0_1.length:Int) 0 a0_0 ([]:List (S123))
set_option maxHeartbeats 8000000 in
set_option maxRecDepth 100000 in
theorem Z5.calls (k:Nat) (a0_0:Int) (A0_1:Option Addr) (c0_1:Nat) (l0_1:List (S84)) (r1:Int) (r2:List (S123)) (r3:List Int) (w:World) (hr0_1:Kd.C k84 w A0_1 l0_1.length l0_1) (hc0_1:l0_1.length≤c0_1) (h:Z5.f k a0_0 l0_1=some (r1,r2,r3)) :
  Calls Try.prog 84 #[.agg #[.int .i64 a0_0,.slice A0_1 l0_1.length c0_1]] w fun e w'=>∃v1_ v2_:Value,e=.returned (.tuple #[.agg #[.int .i64 r1,v1_],v2_])∧Kd.R k123 123 w' w.heap.size (fun _=>True) v1_ r2∧Kd.R (Kd.int .i64) 3 w' w.heap.size (fun _=>True) v2_ r3∧Below w.heap.size w w':=by
 have hu31:=Try.underlying31
 have hu78:=Try.underlying78
 have hu84:=Try.underlying84
 have hu123:=Try.underlying123
 have HR0_1:=Za hr0_1;have HC0_1:=Za hc0_1;clear hr0_1 hc0_1
 have HB:=Za (Below.refl w.heap.size w)
 have H:(Z5.l0 k ([]:List Int) l0_1 (l0_1.length:Int) 0 a0_0 ([]:List (S123)))=some (r1,r2,r3):=h
 clear h
 have H':=Za H
 clear H
 go_enter Try.func84,Try.ntmps84
 go_wp2_with (first|((with_reducible refine ZM (N:=1) rfl ?_);refine ZK ?hg (N:=1) ?hd (cs:=#[.int .i64 a0_0,.slice A0_1 l0_1.length c0_1]) (t:=31) ?hr ?_;(case hd=>rfl);(case hg=>rfl);(case hr=>first|(go_simp;done)|(go_simp;rfl));intro gb84001 hg w2 hbox hb;have BK84001:=Za (hbox);have GW84001:=Za ((by rw[hg];exact(Zw (by repeat(first|(with_reducible first|exact HB.out|apply Zq|apply Zm|apply Zs)|exact HB.out))):w.heap.size≤gb84001));have GE84001:=Za ((by rw[hg];exact(Zw (by repeat(first|(with_reducible first|exact HB.out|apply Zq|apply Zm|apply Zs)|exact HB.out))):w.heap.size≤gb84001));replace HB:=Za (Zx (by repeat(first|(with_reducible first|exact HB.out|apply Zq|apply Zm|apply Zs)|exact HB.out)) hb);clear hb hbox hg)|((with_reducible refine ZM (N:=2) rfl ?_);refine ZK ?hg (N:=2) ?hd (cs:=#[.int .i64 0,.slice none 0 0]) (t:=78) ?hr ?_;(case hd=>rfl);(case hg=>rfl);(case hr=>first|(go_simp;done)|(go_simp;rfl));intro gb84002 hg w3 hbox hb;have BK84002:=Za (hbox);have GW84002:=Za ((by rw[hg];exact(Zw (by repeat(first|(with_reducible first|exact HB.out|apply Zq|apply Zm|apply Zs|refine Zp ?_ GE84001.out)|exact HB.out))):w.heap.size≤gb84002));have GE84002:=Za ((by rw[hg];exact(Zw (by repeat(first|(with_reducible first|exact HB.out|apply Zq|apply Zm|apply Zs|refine Zp ?_ GE84001.out)|exact HB.out))):w.heap.size≤gb84002));have NB84001_84002:=Za ((by rw[hg];exact Nat.ne_of_lt (ZH (g:=gb84001) (o:=.cells #[.int .i64 a0_0,.slice A0_1 l0_1.length c0_1] 31 (0,0)) (by(with_reducible repeat(first|refine Zo ?_ _|refine Zr ?_|refine Zn ?_ _));exact BK84001.out)):gb84001≠gb84002));have NB84002_84001:=Za ((by rw[hg];exact Nat.ne_of_gt (ZH (g:=gb84001) (o:=.cells #[.int .i64 a0_0,.slice A0_1 l0_1.length c0_1] 31 (0,0)) (by(with_reducible repeat(first|refine Zo ?_ _|refine Zr ?_|refine Zn ?_ _));exact BK84001.out)):gb84002≠gb84001));replace BK84001:=Za (Zy (g:=gb84001) (o:=.cells #[.int .i64 a0_0,.slice A0_1 l0_1.length c0_1] 31 (0,0)) (by(with_reducible repeat(first|refine Zo ?_ _|refine Zr ?_|refine Zn ?_ _));exact BK84001.out) hb);replace HB:=Za (Zx (by repeat(first|(with_reducible first|exact HB.out|apply Zq|apply Zm|apply Zs|refine Zp ?_ GE84001.out)|exact HB.out)) hb);clear hb hbox hg;have hnb4:=NB84001_84002.out;have hnc4:=NB84002_84001.out;have hcz5_0:w3.cell? ⟨gb84001,0,none⟩=some (.int .i64 a0_0):=(Zv BK84001.out 0).trans rfl;have hcz5_1:w3.cell? ⟨gb84001,1,none⟩=some (.slice A0_1 l0_1.length c0_1):=(Zv BK84001.out 1).trans rfl;have hfz5_0:=Zu BK84001.out 0;have hfz5_1:=Zu BK84001.out 1)|((with_reducible refine ZM (N:=4) rfl ?_);refine ZK ?hg (N:=4) ?hd (cs:=#[.int .i64 0,.slice none 0 0]) (t:=78) ?hr ?_;(case hd=>rfl);(case hg=>rfl);(case hr=>first|(go_simp;done)|(go_simp;rfl));intro gb84003 hg w6 hbox hb;have BK84003:=Za (hbox);have GW84003:=Za ((by rw[hg];exact(Zw (by repeat(first|(with_reducible first|exact HB.out|apply Zq|apply Zm|apply Zs|refine Zp ?_ GE84001.out|refine Zp ?_ GE84002.out)|exact HB.out))):w.heap.size≤gb84003));have GE84003:=Za ((by rw[hg];exact(Zw (by repeat(first|(with_reducible first|exact HB.out|apply Zq|apply Zm|apply Zs|refine Zp ?_ GE84001.out|refine Zp ?_ GE84002.out)|exact HB.out))):w.heap.size≤gb84003));have NB84001_84003:=Za ((by rw[hg];exact Nat.ne_of_lt (ZH (g:=gb84001) (o:=.cells #[.int .i64 a0_0,.slice A0_1 l0_1.length c0_1] 31 (0,0)) (by(with_reducible repeat(first|refine Zo ?_ _|refine Zr ?_|refine Zn ?_ _));exact BK84001.out)):gb84001≠gb84003));have NB84003_84001:=Za ((by rw[hg];exact Nat.ne_of_gt (ZH (g:=gb84001) (o:=.cells #[.int .i64 a0_0,.slice A0_1 l0_1.length c0_1] 31 (0,0)) (by(with_reducible repeat(first|refine Zo ?_ _|refine Zr ?_|refine Zn ?_ _));exact BK84001.out)):gb84003≠gb84001));have NB84002_84003:=Za ((by rw[hg];exact Nat.ne_of_lt (ZH (g:=gb84002) (o:=.cells #[.int .i64 0,.slice none 0 0] 78 (0,0)) (by(with_reducible repeat(first|refine Zo ?_ _|refine Zr ?_|refine Zn ?_ _));exact BK84002.out)):gb84002≠gb84003));have NB84003_84002:=Za ((by rw[hg];exact Nat.ne_of_gt (ZH (g:=gb84002) (o:=.cells #[.int .i64 0,.slice none 0 0] 78 (0,0)) (by(with_reducible repeat(first|refine Zo ?_ _|refine Zr ?_|refine Zn ?_ _));exact BK84002.out)):gb84003≠gb84002));replace BK84001:=Za (Zy (g:=gb84001) (o:=.cells #[.int .i64 a0_0,.slice A0_1 l0_1.length c0_1] 31 (0,0)) (by(with_reducible repeat(first|refine Zo ?_ _|refine Zr ?_|refine Zn ?_ _));exact BK84001.out) hb);replace BK84002:=Za (Zy (g:=gb84002) (o:=.cells #[.int .i64 0,.slice none 0 0] 78 (0,0)) (by(with_reducible repeat(first|refine Zo ?_ _|refine Zr ?_|refine Zn ?_ _));exact BK84002.out) hb);replace HB:=Za (Zx (by repeat(first|(with_reducible first|exact HB.out|apply Zq|apply Zm|apply Zs|refine Zp ?_ GE84001.out|refine Zp ?_ GE84002.out)|exact HB.out)) hb);clear hb hbox hg;have hnb7:=NB84003_84001.out;have hnc7:=NB84001_84003.out;have hnb8:=NB84003_84002.out;have hnc8:=NB84002_84003.out;have hcz9_0:w6.cell? ⟨gb84003,0,none⟩=some (.int .i64 0):=(Zv BK84003.out 0).trans rfl;have hcz9_1:w6.cell? ⟨gb84003,1,none⟩=some (.slice none 0 0):=(Zv BK84003.out 1).trans rfl;have hfz9_0:=Zu BK84003.out 0;have hfz9_1:=Zu BK84003.out 1;have hcz10_0:w6.cell? ⟨gb84001,0,none⟩=some (.int .i64 a0_0):=(Zv BK84001.out 0).trans rfl;have hcz10_1:w6.cell? ⟨gb84001,1,none⟩=some (.slice A0_1 l0_1.length c0_1):=(Zv BK84001.out 1).trans rfl;have hfz10_0:=Zu BK84001.out 0;have hfz10_1:=Zu BK84001.out 1))
 go_loopg [5,14] k (fun kq v5 v14 w'=>∃(x5_1:List Int) (x14_1:Int) (x84004001_1:List (S123)) (u84004001:Value),v14=.int .i64 x14_1∧Aside0 (Z5.l0 kq x5_1 l0_1 (l0_1.length:Int) x14_1 a0_0 x84004001_1=some (r1,r2,r3))∧Aside0 (kq≤k)∧Aside0 (Kd.R (Kd.int .i64) 3 w' w.heap.size (fun _=>True) v5 x5_1)∧Aside0 (Kd.R k123 123 w' w.heap.size (fun _=>True) u84004001 x84004001_1)∧Aside0 (w'.heap[gb84001]? = some (.cells #[.int .i64 a0_0,(.slice A0_1 l0_1.length c0_1)] 31 (0,0)))∧Aside0 (w'.heap[gb84002]? = some (.cells #[.int .i64 0,(.slice none 0 0)] 78 (0,0)))∧Aside0 (w'.heap[gb84003]? = some (.cells #[.int .i64 a0_0,u84004001] 78 (0,0)))∧Aside0 (Below w.heap.size w w'))
 case atStart=>exact⟨(([]:List Int)),(0),(([]:List (S123))),(.slice none 0 0),(by first|rfl|(simp;done)|(simp[*];done)),H',⟨Nat.le_refl _⟩,⟨by first|exact Kd.R_nil _ _ _ _ _|exact Kd.N_nil _ _ _ _ _|exact Kd.V_nil _ _ _ _ _|exact Kd.Q_nil _ _ _ _ _|exact Kd.S_nil _ _ _ _ _⟩,⟨by first|exact Kd.R_nil _ _ _ _ _|exact Kd.N_nil _ _ _ _ _|exact Kd.V_nil _ _ _ _ _|exact Kd.Q_nil _ _ _ _ _|exact Kd.S_nil _ _ _ _ _⟩,⟨by(with_reducible repeat(first|refine Zo ?_ _|refine Zr ?_|refine Zn ?_ _));refine ZD ?_ NB84001_84003.out _;(with_reducible repeat(first|refine Zo ?_ _|refine Zr ?_|refine Zn ?_ _));refine ZD ?_ NB84001_84003.out _;(with_reducible repeat(first|refine Zo ?_ _|refine Zr ?_|refine Zn ?_ _));exact BK84001.out⟩,⟨by(with_reducible repeat(first|refine Zo ?_ _|refine Zr ?_|refine Zn ?_ _));refine ZD ?_ NB84002_84003.out _;(with_reducible repeat(first|refine Zo ?_ _|refine Zr ?_|refine Zn ?_ _));refine ZD ?_ NB84002_84003.out _;(with_reducible repeat(first|refine Zo ?_ _|refine Zr ?_|refine Zn ?_ _));exact BK84002.out⟩,⟨by(with_reducible repeat(first|refine Zo ?_ _|refine Zr ?_|refine Zn ?_ _));refine ZL (cs:=#[.int .i64 a0_0,.slice none 0 0]) ?_ 1 _ rfl;(with_reducible repeat(first|refine Zo ?_ _|refine Zr ?_|refine Zn ?_ _));refine ZL (cs:=#[.int .i64 0,.slice none 0 0]) ?_ 0 _ rfl;(with_reducible repeat(first|refine Zo ?_ _|refine Zr ?_|refine Zn ?_ _));exact BK84003.out⟩,⟨by repeat(first|(with_reducible first|exact HB.out|apply Zq|apply Zm|apply Zs|refine Zp ?_ GE84001.out|refine Zp ?_ GE84002.out|refine Zp ?_ GE84003.out)|exact HB.out)⟩⟩
 case round=>
  clear H'
  try clear p2
  try clear c4
  try clear c7
  try clear c8
  try clear hcz10_0
  try clear hcz10_1
  try clear hcz5_0
  try clear hcz5_1
  try clear hcz9_0
  try clear hcz9_1
  try clear hfz10_0
  try clear hfz10_1
  try clear hfz5_0
  try clear hfz5_1
  try clear hfz9_0
  try clear hfz9_1
  obtain⟨x5_1,x14_1,x84004001_1,u84004001,rfl,HA,HK1,HO_5,HO_84004001,BK84001,BK84002,BK84003,HB⟩:=hrel
  cases gk with
  | zero=>exact absurd HA.out (by simp[Z5.l0])
  | succ k1=>
   have H:=HA.out
   clear HA
   simp only[Z5.l0] at H
   by_cases c11:x14_1<(l0_1.length:Int)
   ·rw[if_pos c11] at H
    have c11b0:decide (x14_1<(l0_1.length:Int))=true:=Ze c11
    clear c11
    by_cases c12:0≤x14_1
    ·rw[if_pos c12] at H
     have c12b0:decide (0≤x14_1)=true:=Ze c12
     clear c12
     by_cases c13:x14_1<(l0_1.length:Int)
     ·rw[if_pos c13] at H
      have c13b0:decide (x14_1<(l0_1.length:Int))=true:=Ze c13
      clear c13
      by_cases c14:((ZA l0_1 x14_1).f2.f1)=1000000
      ·rw[if_pos c14] at H
       have c14b0:(((ZA l0_1 x14_1).f2.f1) == 1000000)=true:=beq_iff_eq.mpr c14
       have c14b1:(((ZA l0_1 x14_1).f2.f1) != 1000000)=false:=bne_eq_false_iff_eq.mpr c14
       clear c14
       by_cases c15:((ZA l0_1 x14_1).f2.f0)=(-1000000)
       ·rw[if_pos c15] at H
        have c15b0:(((ZA l0_1 x14_1).f2.f0) == (-1000000))=true:=beq_iff_eq.mpr c15
        have c15b1:(((ZA l0_1 x14_1).f2.f0) != (-1000000))=false:=bne_eq_false_iff_eq.mpr c15
        clear c15
        have H':=Za H
        clear H
        have p84004:0≤(x14_1:Int):=Zd (by first|(with_reducible assumption)|assumption)
        have q84004:x14_1<(l0_1.length:Int):=Zd (by first|(with_reducible assumption)|assumption)
        obtain⟨ad84004,e84004,hx84004_0,hx84004_1,hx84004_2,hx84004_3⟩:=at_T84 HR0_1.out x14_1 p84004 q84004
        cases e84004
        replace hx84004_0:=(HB.out.cell (Zc w _ hx84004_0)).trans hx84004_0
        replace hx84004_1:=(HB.out.cell (Zc w _ hx84004_1)).trans hx84004_1
        replace hx84004_2:=(HB.out.cell (Zc w _ hx84004_2)).trans hx84004_2
        replace hx84004_3:=(HB.out.cell (Zc w _ hx84004_3)).trans hx84004_3
        replace p84004:=eq_true p84004
        replace q84004:=eq_true q84004
        go_wp2_with (first|((with_reducible refine ZM (N:=7) rfl ?_);refine ZK ?hg (N:=7) ?hd (cs:=#[.int .i64 0,.int .i64 0,.int .i64 0,.int .i64 0]) (t:=84) ?hr ?_;(case hd=>rfl);(case hg=>rfl);(case hr=>first|(go_simp;done)|(go_simp;rfl));intro gb84005 hg w16 hbox hb;have BK84005:=Za (hbox);have GW84005:=Za ((by rw[hg];exact(Zw (by repeat(first|(with_reducible first|exact HB.out|apply Zq|apply Zm|apply Zs|refine Zp ?_ GE84001.out|refine Zp ?_ GE84002.out|refine Zp ?_ GE84003.out)|exact HB.out))):w.heap.size≤gb84005));have GE84005:=Za ((by rw[hg];exact(Zw (by repeat(first|(with_reducible first|exact HB.out|apply Zq|apply Zm|apply Zs|refine Zp ?_ GE84001.out|refine Zp ?_ GE84002.out|refine Zp ?_ GE84003.out)|exact HB.out))):w.heap.size≤gb84005));have NB84001_84005:=Za ((by rw[hg];exact Nat.ne_of_lt (ZH (g:=gb84001) (o:=.cells #[.int .i64 a0_0,.slice (some ad84004) l0_1.length c0_1] 31 (0,0)) (by(with_reducible repeat(first|refine Zo ?_ _|refine Zr ?_|refine Zn ?_ _));exact BK84001.out)):gb84001≠gb84005));have NB84005_84001:=Za ((by rw[hg];exact Nat.ne_of_gt (ZH (g:=gb84001) (o:=.cells #[.int .i64 a0_0,.slice (some ad84004) l0_1.length c0_1] 31 (0,0)) (by(with_reducible repeat(first|refine Zo ?_ _|refine Zr ?_|refine Zn ?_ _));exact BK84001.out)):gb84005≠gb84001));have NB84002_84005:=Za ((by rw[hg];exact Nat.ne_of_lt (ZH (g:=gb84002) (o:=.cells #[.int .i64 0,.slice none 0 0] 78 (0,0)) (by(with_reducible repeat(first|refine Zo ?_ _|refine Zr ?_|refine Zn ?_ _));exact BK84002.out)):gb84002≠gb84005));have NB84005_84002:=Za ((by rw[hg];exact Nat.ne_of_gt (ZH (g:=gb84002) (o:=.cells #[.int .i64 0,.slice none 0 0] 78 (0,0)) (by(with_reducible repeat(first|refine Zo ?_ _|refine Zr ?_|refine Zn ?_ _));exact BK84002.out)):gb84005≠gb84002));have NB84003_84005:=Za ((by rw[hg];exact Nat.ne_of_lt (ZH (g:=gb84003) (o:=.cells #[.int .i64 a0_0,u84004001] 78 (0,0)) (by(with_reducible repeat(first|refine Zo ?_ _|refine Zr ?_|refine Zn ?_ _));exact BK84003.out)):gb84003≠gb84005));have NB84005_84003:=Za ((by rw[hg];exact Nat.ne_of_gt (ZH (g:=gb84003) (o:=.cells #[.int .i64 a0_0,u84004001] 78 (0,0)) (by(with_reducible repeat(first|refine Zo ?_ _|refine Zr ?_|refine Zn ?_ _));exact BK84003.out)):gb84005≠gb84003));replace HO_5:=Za (Kd.R_below (by(with_reducible repeat(first|apply Kd.R_alloc|apply Kd.R_drewN|apply Kd.R_drew));exact HO_5.out) hb);replace HO_84004001:=Za (Kd.R_below (by(with_reducible repeat(first|apply Kd.R_alloc|apply Kd.R_drewN|apply Kd.R_drew));exact HO_84004001.out) hb);replace BK84001:=Za (Zy (g:=gb84001) (o:=.cells #[.int .i64 a0_0,.slice (some ad84004) l0_1.length c0_1] 31 (0,0)) (by(with_reducible repeat(first|refine Zo ?_ _|refine Zr ?_|refine Zn ?_ _));exact BK84001.out) hb);replace BK84002:=Za (Zy (g:=gb84002) (o:=.cells #[.int .i64 0,.slice none 0 0] 78 (0,0)) (by(with_reducible repeat(first|refine Zo ?_ _|refine Zr ?_|refine Zn ?_ _));exact BK84002.out) hb);replace BK84003:=Za (Zy (g:=gb84003) (o:=.cells #[.int .i64 a0_0,u84004001] 78 (0,0)) (by(with_reducible repeat(first|refine Zo ?_ _|refine Zr ?_|refine Zn ?_ _));exact BK84003.out) hb);replace HB:=Za (Zx (by repeat(first|(with_reducible first|exact HB.out|apply Zq|apply Zm|apply Zs|refine Zp ?_ GE84001.out|refine Zp ?_ GE84002.out|refine Zp ?_ GE84003.out)|exact HB.out)) hb);clear hb hbox hg;have hnb17:=NB84005_84001.out;have hnc17:=NB84001_84005.out;have hnb18:=NB84005_84002.out;have hnc18:=NB84002_84005.out;have hnb19:=NB84005_84003.out;have hnc19:=NB84003_84005.out;have hcz20_0:w16.cell? ⟨gb84005,0,none⟩=some (.int .i64 0):=(Zv BK84005.out 0).trans rfl;have hcz20_1:w16.cell? ⟨gb84005,1,none⟩=some (.int .i64 0):=(Zv BK84005.out 1).trans rfl;have hcz20_2:w16.cell? ⟨gb84005,2,none⟩=some (.int .i64 0):=(Zv BK84005.out 2).trans rfl;have hcz20_3:w16.cell? ⟨gb84005,3,none⟩=some (.int .i64 0):=(Zv BK84005.out 3).trans rfl;have hfz20_0:=Zu BK84005.out 0;have hfz20_1:=Zu BK84005.out 1;have hfz20_2:=Zu BK84005.out 2;have hfz20_3:=Zu BK84005.out 3))
        go_roundg k1
        case measure=>have:=HK1.out;omega
        case rel=>exact⟨(x5_1),(wrap64 (x14_1+1)),(x84004001_1),(u84004001),(by first|rfl|(simp;done)|(simp[*];done)),H',⟨by have:=HK1.out;omega⟩,⟨by(with_reducible repeat(first|apply Kd.R_alloc|apply Kd.R_drewN|apply Kd.R_drew));exact Kd.R_mono (Kd.R_far (p:=⟨gb84005,3,none⟩) (Kd.R_far (p:=⟨gb84005,2,none⟩) (Kd.R_far (p:=⟨gb84005,1,none⟩) (Kd.R_far (p:=⟨gb84005,0,none⟩) (Kd.R_types HO_5.out BK84005.out (by decide)) (fun _ hk=>hk.2) (.int .i64 ((ZA l0_1 x14_1).f0))) (fun _ hk=>hk.2) (.int .i64 ((ZA l0_1 x14_1).f1))) (fun _ hk=>hk.2) (.int .i64 ((ZA l0_1 x14_1).f2.f0))) (fun _ hk=>hk.2) (.int .i64 ((ZA l0_1 x14_1).f2.f1))) (fun _ hk=>trivial)⟩,⟨by(with_reducible repeat(first|apply Kd.R_alloc|apply Kd.R_drewN|apply Kd.R_drew));exact Kd.R_mono (Kd.R_far (p:=⟨gb84005,3,none⟩) (Kd.R_far (p:=⟨gb84005,2,none⟩) (Kd.R_far (p:=⟨gb84005,1,none⟩) (Kd.R_far (p:=⟨gb84005,0,none⟩) (Kd.R_types HO_84004001.out BK84005.out (by decide)) (fun _ hk=>hk.2) (.int .i64 ((ZA l0_1 x14_1).f0))) (fun _ hk=>hk.2) (.int .i64 ((ZA l0_1 x14_1).f1))) (fun _ hk=>hk.2) (.int .i64 ((ZA l0_1 x14_1).f2.f0))) (fun _ hk=>hk.2) (.int .i64 ((ZA l0_1 x14_1).f2.f1))) (fun _ hk=>trivial)⟩,⟨by(with_reducible repeat(first|refine Zo ?_ _|refine Zr ?_|refine Zn ?_ _));refine ZD ?_ NB84001_84005.out _;(with_reducible repeat(first|refine Zo ?_ _|refine Zr ?_|refine Zn ?_ _));refine ZD ?_ NB84001_84005.out _;(with_reducible repeat(first|refine Zo ?_ _|refine Zr ?_|refine Zn ?_ _));refine ZD ?_ NB84001_84005.out _;(with_reducible repeat(first|refine Zo ?_ _|refine Zr ?_|refine Zn ?_ _));refine ZD ?_ NB84001_84005.out _;(with_reducible repeat(first|refine Zo ?_ _|refine Zr ?_|refine Zn ?_ _));exact BK84001.out⟩,⟨by(with_reducible repeat(first|refine Zo ?_ _|refine Zr ?_|refine Zn ?_ _));refine ZD ?_ NB84002_84005.out _;(with_reducible repeat(first|refine Zo ?_ _|refine Zr ?_|refine Zn ?_ _));refine ZD ?_ NB84002_84005.out _;(with_reducible repeat(first|refine Zo ?_ _|refine Zr ?_|refine Zn ?_ _));refine ZD ?_ NB84002_84005.out _;(with_reducible repeat(first|refine Zo ?_ _|refine Zr ?_|refine Zn ?_ _));refine ZD ?_ NB84002_84005.out _;(with_reducible repeat(first|refine Zo ?_ _|refine Zr ?_|refine Zn ?_ _));exact BK84002.out⟩,⟨by(with_reducible repeat(first|refine Zo ?_ _|refine Zr ?_|refine Zn ?_ _));refine ZD ?_ NB84003_84005.out _;(with_reducible repeat(first|refine Zo ?_ _|refine Zr ?_|refine Zn ?_ _));refine ZD ?_ NB84003_84005.out _;(with_reducible repeat(first|refine Zo ?_ _|refine Zr ?_|refine Zn ?_ _));refine ZD ?_ NB84003_84005.out _;(with_reducible repeat(first|refine Zo ?_ _|refine Zr ?_|refine Zn ?_ _));refine ZD ?_ NB84003_84005.out _;(with_reducible repeat(first|refine Zo ?_ _|refine Zr ?_|refine Zn ?_ _));exact BK84003.out⟩,⟨by repeat(first|(with_reducible first|exact HB.out|apply Zq|apply Zm|apply Zs|refine Zp ?_ GE84001.out|refine Zp ?_ GE84002.out|refine Zp ?_ GE84003.out|refine Zp ?_ GE84005.out)|exact HB.out)⟩⟩
       ·rw[if_neg c15] at H
        have c15b0:(((ZA l0_1 x14_1).f2.f0) == (-1000000))=false:=beq_eq_false_iff_ne.mpr c15
        have c15b1:(((ZA l0_1 x14_1).f2.f0) != (-1000000))=true:=bne_iff_ne.mpr c15
        by_cases c21:x84004001_1.length<5864062014805
        ·rw[if_pos c21] at H
         have LMc21:=Za c21;clear c21
         obtain⟨y84006,hy84006⟩:∃y_:List (S123),y_=(x84004001_1 ++ [(⟨(ZA l0_1 x14_1).f1,(ZA l0_1 x14_1).f0,wrap64 (-((ZA l0_1 x14_1).f2.f0))⟩:S123)]):=⟨_,rfl⟩
         replace H:(if x5_1.length<17592186044416 then(Z5.l0 k1 (x5_1 ++ [x14_1]) l0_1 (l0_1.length:Int) (wrap64 (x14_1+1)) a0_0 y84006) else(none))=some (r1,r2,r3):=by first|(rw[hy84006];with_reducible exact H)|(have H2_:=(Zi _ _).symm.trans H;rw[hy84006];with_reducible exact H2_)|(have H2_:=(Zi _ _).symm.trans H;with_reducible exact H2_)|with_reducible exact H|(rw[hy84006];exact H)|exact H
         have Ny84006:=Za hy84006;clear hy84006
         by_cases c22:x5_1.length<17592186044416
         ·rw[if_pos c22] at H
          have LMc22:=Za c22;clear c22
          obtain⟨y84009,hy84009⟩:∃y_:List Int,y_=(x5_1 ++ [x14_1]):=⟨_,rfl⟩
          replace H:(Z5.l0 k1 y84009 l0_1 (l0_1.length:Int) (wrap64 (x14_1+1)) a0_0 y84006)=some (r1,r2,r3):=by first|(rw[hy84009];with_reducible exact H)|(have H2_:=(Zi _ _).symm.trans H;rw[hy84009];with_reducible exact H2_)|(have H2_:=(Zi _ _).symm.trans H;with_reducible exact H2_)|with_reducible exact H|(rw[hy84009];exact H)|exact H
          have Ny84009:=Za hy84009;clear hy84009
          have H':=Za H
          clear H
          have p84004:0≤(x14_1:Int):=Zd (by first|(with_reducible assumption)|assumption)
          have q84004:x14_1<(l0_1.length:Int):=Zd (by first|(with_reducible assumption)|assumption)
          obtain⟨ad84004,e84004,hx84004_0,hx84004_1,hx84004_2,hx84004_3⟩:=at_T84 HR0_1.out x14_1 p84004 q84004
          cases e84004
          replace hx84004_0:=(HB.out.cell (Zc w _ hx84004_0)).trans hx84004_0
          replace hx84004_1:=(HB.out.cell (Zc w _ hx84004_1)).trans hx84004_1
          replace hx84004_2:=(HB.out.cell (Zc w _ hx84004_2)).trans hx84004_2
          replace hx84004_3:=(HB.out.cell (Zc w _ hx84004_3)).trans hx84004_3
          replace p84004:=eq_true p84004
          replace q84004:=eq_true q84004
          go_wp2_with (first|((with_reducible refine ZM (N:=7) rfl ?_);refine ZK ?hg (N:=7) ?hd (cs:=#[.int .i64 0,.int .i64 0,.int .i64 0,.int .i64 0]) (t:=84) ?hr ?_;(case hd=>rfl);(case hg=>rfl);(case hr=>first|(go_simp;done)|(go_simp;rfl));intro gb84005 hg w23 hbox hb;have BK84005:=Za (hbox);have GW84005:=Za ((by rw[hg];exact(Zw (by repeat(first|(with_reducible first|exact HB.out|apply Zq|apply Zm|apply Zs|refine Zp ?_ GE84001.out|refine Zp ?_ GE84002.out|refine Zp ?_ GE84003.out)|exact HB.out))):w.heap.size≤gb84005));have GE84005:=Za ((by rw[hg];exact(Zw (by repeat(first|(with_reducible first|exact HB.out|apply Zq|apply Zm|apply Zs|refine Zp ?_ GE84001.out|refine Zp ?_ GE84002.out|refine Zp ?_ GE84003.out)|exact HB.out))):w.heap.size≤gb84005));have NB84001_84005:=Za ((by rw[hg];exact Nat.ne_of_lt (ZH (g:=gb84001) (o:=.cells #[.int .i64 a0_0,.slice (some ad84004) l0_1.length c0_1] 31 (0,0)) (by(with_reducible repeat(first|refine Zo ?_ _|refine Zr ?_|refine Zn ?_ _));exact BK84001.out)):gb84001≠gb84005));have NB84005_84001:=Za ((by rw[hg];exact Nat.ne_of_gt (ZH (g:=gb84001) (o:=.cells #[.int .i64 a0_0,.slice (some ad84004) l0_1.length c0_1] 31 (0,0)) (by(with_reducible repeat(first|refine Zo ?_ _|refine Zr ?_|refine Zn ?_ _));exact BK84001.out)):gb84005≠gb84001));have NB84002_84005:=Za ((by rw[hg];exact Nat.ne_of_lt (ZH (g:=gb84002) (o:=.cells #[.int .i64 0,.slice none 0 0] 78 (0,0)) (by(with_reducible repeat(first|refine Zo ?_ _|refine Zr ?_|refine Zn ?_ _));exact BK84002.out)):gb84002≠gb84005));have NB84005_84002:=Za ((by rw[hg];exact Nat.ne_of_gt (ZH (g:=gb84002) (o:=.cells #[.int .i64 0,.slice none 0 0] 78 (0,0)) (by(with_reducible repeat(first|refine Zo ?_ _|refine Zr ?_|refine Zn ?_ _));exact BK84002.out)):gb84005≠gb84002));have NB84003_84005:=Za ((by rw[hg];exact Nat.ne_of_lt (ZH (g:=gb84003) (o:=.cells #[.int .i64 a0_0,u84004001] 78 (0,0)) (by(with_reducible repeat(first|refine Zo ?_ _|refine Zr ?_|refine Zn ?_ _));exact BK84003.out)):gb84003≠gb84005));have NB84005_84003:=Za ((by rw[hg];exact Nat.ne_of_gt (ZH (g:=gb84003) (o:=.cells #[.int .i64 a0_0,u84004001] 78 (0,0)) (by(with_reducible repeat(first|refine Zo ?_ _|refine Zr ?_|refine Zn ?_ _));exact BK84003.out)):gb84005≠gb84003));replace HO_5:=Za (Kd.R_below (by(with_reducible repeat(first|apply Kd.R_alloc|apply Kd.R_drewN|apply Kd.R_drew));exact HO_5.out) hb);replace HO_84004001:=Za (Kd.R_below (by(with_reducible repeat(first|apply Kd.R_alloc|apply Kd.R_drewN|apply Kd.R_drew));exact HO_84004001.out) hb);replace BK84001:=Za (Zy (g:=gb84001) (o:=.cells #[.int .i64 a0_0,.slice (some ad84004) l0_1.length c0_1] 31 (0,0)) (by(with_reducible repeat(first|refine Zo ?_ _|refine Zr ?_|refine Zn ?_ _));exact BK84001.out) hb);replace BK84002:=Za (Zy (g:=gb84002) (o:=.cells #[.int .i64 0,.slice none 0 0] 78 (0,0)) (by(with_reducible repeat(first|refine Zo ?_ _|refine Zr ?_|refine Zn ?_ _));exact BK84002.out) hb);replace BK84003:=Za (Zy (g:=gb84003) (o:=.cells #[.int .i64 a0_0,u84004001] 78 (0,0)) (by(with_reducible repeat(first|refine Zo ?_ _|refine Zr ?_|refine Zn ?_ _));exact BK84003.out) hb);replace HB:=Za (Zx (by repeat(first|(with_reducible first|exact HB.out|apply Zq|apply Zm|apply Zs|refine Zp ?_ GE84001.out|refine Zp ?_ GE84002.out|refine Zp ?_ GE84003.out)|exact HB.out)) hb);clear hb hbox hg;have hnb24:=NB84005_84001.out;have hnc24:=NB84001_84005.out;have hnb25:=NB84005_84002.out;have hnc25:=NB84002_84005.out;have hnb26:=NB84005_84003.out;have hnc26:=NB84003_84005.out;have hcz27_0:w23.cell? ⟨gb84005,0,none⟩=some (.int .i64 0):=(Zv BK84005.out 0).trans rfl;have hcz27_1:w23.cell? ⟨gb84005,1,none⟩=some (.int .i64 0):=(Zv BK84005.out 1).trans rfl;have hcz27_2:w23.cell? ⟨gb84005,2,none⟩=some (.int .i64 0):=(Zv BK84005.out 2).trans rfl;have hcz27_3:w23.cell? ⟨gb84005,3,none⟩=some (.int .i64 0):=(Zv BK84005.out 3).trans rfl;have hfz27_0:=Zu BK84005.out 0;have hfz27_1:=Zu BK84005.out 1;have hfz27_2:=Zu BK84005.out 2;have hfz27_3:=Zu BK84005.out 3;have hnb28:=NB84003_84001.out;have hnc28:=NB84001_84003.out;have hnb29:=NB84003_84002.out;have hnc29:=NB84002_84003.out;have hcz30_0:w23.cell? ⟨gb84003,0,none⟩=some (.int .i64 a0_0):=(Zv BK84003.out 0).trans rfl;have hcz30_1:w23.cell? ⟨gb84003,1,none⟩=some (u84004001):=(Zv BK84003.out 1).trans rfl;have hfz30_0:=Zu BK84003.out 0;have hfz30_1:=Zu BK84003.out 1)|((with_reducible refine ZaG (b:=.append) (xs:=#[.tmp 45,.tmp 55]) rfl ?_);at_builtin;refine Kd.R_append k123 (w0:=w) w.heap.size rfl (.tmp 45) (.tmp 55) 76 123 (.agg #[(.int .i64 0),(.int .i64 0),(.int .i64 0)]) 24 rfl Try.underlying76 ZcV rfl (by decide) (by omega) u84004001 x84004001_1 (⟨(ZA l0_1 x14_1).f1,(ZA l0_1 x14_1).f0,wrap64 (-((ZA l0_1 x14_1).f2.f0))⟩:S123) [.int .i64 ((ZA l0_1 x14_1).f1),.int .i64 ((ZA l0_1 x14_1).f0),.int .i64 (wrap64 (-((ZA l0_1 x14_1).f2.f0)))] (fun _=>True) (fun _=>False) rfl (by first|(go_simp;done)|(go_simp;rfl)) ?aP (fun _ hk=>hk.elim) ?aF ?aO ?aB ?aS ?aL ?_;(case aP=>exact Zcs _ _ _ (⟨(ZA l0_1 x14_1).f1,(ZA l0_1 x14_1).f0,wrap64 (-((ZA l0_1 x14_1).f2.f0))⟩:S123));(case aB=>exact(by repeat(first|(with_reducible first|exact HB.out|apply Zq|apply Zm|apply Zs|refine Zp ?_ GE84001.out|refine Zp ?_ GE84002.out|refine Zp ?_ GE84003.out|refine Zp ?_ GE84005.out)|exact HB.out)));(case aF=>exact(fun _ _=>trivial));(case aO=>exact(by(with_reducible repeat(first|apply Kd.R_alloc|apply Kd.R_drewN|apply Kd.R_drew));exact Kd.R_mono (Kd.R_far (p:=⟨gb84005,3,none⟩) (Kd.R_far (p:=⟨gb84005,2,none⟩) (Kd.R_far (p:=⟨gb84005,1,none⟩) (Kd.R_far (p:=⟨gb84005,0,none⟩) (Kd.R_types HO_84004001.out BK84005.out (by decide)) (fun _ hk=>hk.2) (.int .i64 ((ZA l0_1 x14_1).f0))) (fun _ hk=>hk.2) (.int .i64 ((ZA l0_1 x14_1).f1))) (fun _ hk=>hk.2) (.int .i64 ((ZA l0_1 x14_1).f2.f0))) (fun _ hk=>hk.2) (.int .i64 ((ZA l0_1 x14_1).f2.f1))) (fun _ hk=>trivial)));(case aS=>exact(Zw (by repeat(first|(with_reducible first|exact HB.out|apply Zq|apply Zm|apply Zs|refine Zp ?_ GE84001.out|refine Zp ?_ GE84002.out|refine Zp ?_ GE84003.out|refine Zp ?_ GE84005.out)|exact HB.out))));(case aL=>have:=LMc21.out;omega);intro v84007 w31 ho hb hg hat;rw[← Ny84006.out] at ho;have HO84008:=Za (ho);replace HO_5:=Za (Kd.R_over' (by(with_reducible repeat(first|apply Kd.R_alloc|apply Kd.R_drewN|apply Kd.R_drew));exact(Kd.R_mono (Kd.R_far (p:=⟨gb84005,3,none⟩) (Kd.R_far (p:=⟨gb84005,2,none⟩) (Kd.R_far (p:=⟨gb84005,1,none⟩) (Kd.R_far (p:=⟨gb84005,0,none⟩) (Kd.R_types HO_5.out BK84005.out (by decide)) (fun _ hk=>hk.2) (.int .i64 ((ZA l0_1 x14_1).f0))) (fun _ hk=>hk.2) (.int .i64 ((ZA l0_1 x14_1).f1))) (fun _ hk=>hk.2) (.int .i64 ((ZA l0_1 x14_1).f2.f0))) (fun _ hk=>hk.2) (.int .i64 ((ZA l0_1 x14_1).f2.f1))) (fun _ h_=>h_.1))) (Kd.R_typed (by(with_reducible repeat(first|apply Kd.R_alloc|apply Kd.R_drewN|apply Kd.R_drew));exact(Kd.R_mono (Kd.R_far (p:=⟨gb84005,3,none⟩) (Kd.R_far (p:=⟨gb84005,2,none⟩) (Kd.R_far (p:=⟨gb84005,1,none⟩) (Kd.R_far (p:=⟨gb84005,0,none⟩) (Kd.R_types HO_84004001.out BK84005.out (by decide)) (fun _ hk=>hk.2) (.int .i64 ((ZA l0_1 x14_1).f0))) (fun _ hk=>hk.2) (.int .i64 ((ZA l0_1 x14_1).f1))) (fun _ hk=>hk.2) (.int .i64 ((ZA l0_1 x14_1).f2.f0))) (fun _ hk=>hk.2) (.int .i64 ((ZA l0_1 x14_1).f2.f1))) (fun _ h_=>h_.1)))) (by decide) hg);replace BK84001:=Za (Z0 (g:=gb84001) (o:=.cells #[.int .i64 a0_0,.slice (some ad84004) l0_1.length c0_1] 31 (0,0)) (by(with_reducible repeat(first|refine Zo ?_ _|refine Zr ?_|refine Zn ?_ _));refine ZD ?_ NB84001_84005.out _;(with_reducible repeat(first|refine Zo ?_ _|refine Zr ?_|refine Zn ?_ _));refine ZD ?_ NB84001_84005.out _;(with_reducible repeat(first|refine Zo ?_ _|refine Zr ?_|refine Zn ?_ _));refine ZD ?_ NB84001_84005.out _;(with_reducible repeat(first|refine Zo ?_ _|refine Zr ?_|refine Zn ?_ _));refine ZD ?_ NB84001_84005.out _;(with_reducible repeat(first|refine Zo ?_ _|refine Zr ?_|refine Zn ?_ _));exact BK84001.out) hg (Kd.R_ne HO_84004001.out BK84001.out (by decide)));replace BK84002:=Za (Z0 (g:=gb84002) (o:=.cells #[.int .i64 0,.slice none 0 0] 78 (0,0)) (by(with_reducible repeat(first|refine Zo ?_ _|refine Zr ?_|refine Zn ?_ _));refine ZD ?_ NB84002_84005.out _;(with_reducible repeat(first|refine Zo ?_ _|refine Zr ?_|refine Zn ?_ _));refine ZD ?_ NB84002_84005.out _;(with_reducible repeat(first|refine Zo ?_ _|refine Zr ?_|refine Zn ?_ _));refine ZD ?_ NB84002_84005.out _;(with_reducible repeat(first|refine Zo ?_ _|refine Zr ?_|refine Zn ?_ _));refine ZD ?_ NB84002_84005.out _;(with_reducible repeat(first|refine Zo ?_ _|refine Zr ?_|refine Zn ?_ _));exact BK84002.out) hg (Kd.R_ne HO_84004001.out BK84002.out (by decide)));replace BK84003:=Za (Z0 (g:=gb84003) (o:=.cells #[.int .i64 a0_0,u84004001] 78 (0,0)) (by(with_reducible repeat(first|refine Zo ?_ _|refine Zr ?_|refine Zn ?_ _));refine ZD ?_ NB84003_84005.out _;(with_reducible repeat(first|refine Zo ?_ _|refine Zr ?_|refine Zn ?_ _));refine ZD ?_ NB84003_84005.out _;(with_reducible repeat(first|refine Zo ?_ _|refine Zr ?_|refine Zn ?_ _));refine ZD ?_ NB84003_84005.out _;(with_reducible repeat(first|refine Zo ?_ _|refine Zr ?_|refine Zn ?_ _));refine ZD ?_ NB84003_84005.out _;(with_reducible repeat(first|refine Zo ?_ _|refine Zr ?_|refine Zn ?_ _));exact BK84003.out) hg (Kd.R_ne HO_84004001.out BK84003.out (by decide)));replace BK84005:=Za (Z0 (g:=gb84005) (o:=.cells #[.int .i64 ((ZA l0_1 x14_1).f0),.int .i64 ((ZA l0_1 x14_1).f1),.int .i64 ((ZA l0_1 x14_1).f2.f0),.int .i64 ((ZA l0_1 x14_1).f2.f1)] 84 (0,0)) (by(with_reducible repeat(first|refine Zo ?_ _|refine Zr ?_|refine Zn ?_ _));refine ZL (cs:=#[.int .i64 ((ZA l0_1 x14_1).f0),.int .i64 ((ZA l0_1 x14_1).f1),.int .i64 ((ZA l0_1 x14_1).f2.f0),.int .i64 0]) ?_ 3 _ rfl;(with_reducible repeat(first|refine Zo ?_ _|refine Zr ?_|refine Zn ?_ _));refine ZL (cs:=#[.int .i64 ((ZA l0_1 x14_1).f0),.int .i64 ((ZA l0_1 x14_1).f1),.int .i64 0,.int .i64 0]) ?_ 2 _ rfl;(with_reducible repeat(first|refine Zo ?_ _|refine Zr ?_|refine Zn ?_ _));refine ZL (cs:=#[.int .i64 ((ZA l0_1 x14_1).f0),.int .i64 0,.int .i64 0,.int .i64 0]) ?_ 1 _ rfl;(with_reducible repeat(first|refine Zo ?_ _|refine Zr ?_|refine Zn ?_ _));refine ZL (cs:=#[.int .i64 0,.int .i64 0,.int .i64 0,.int .i64 0]) ?_ 0 _ rfl;(with_reducible repeat(first|refine Zo ?_ _|refine Zr ?_|refine Zn ?_ _));exact BK84005.out) hg (Kd.R_ne HO_84004001.out BK84005.out (by decide)));replace HB:=Za (hb);clear HO_84004001;clear ho hb hg hat)|((with_reducible refine ZaG (b:=.append) (xs:=#[.tmp 57,.tmp 59]) rfl ?_);at_builtin;refine Kd.R_append (Kd.int .i64) (w0:=w) w.heap.size rfl (.tmp 57) (.tmp 59) 22 3 (.int .i64 0) 8 rfl Try.underlying22 Zbg rfl (by decide) (by omega) u5 x5_1 x14_1 [.int .i64 x14_1] (fun _=>True) (fun _=>False) rfl rfl ?aP (fun _ hk=>hk.elim) ?aF ?aO ?aB ?aS ?aL ?_;(case aP=>exact rfl);(case aB=>exact(by repeat(first|(with_reducible first|exact HB.out|apply Zq|apply Zm|apply Zs|refine Zp ?_ GE84001.out|refine Zp ?_ GE84002.out|refine Zp ?_ GE84003.out|refine Zp ?_ GE84005.out)|exact HB.out)));(case aF=>exact(fun _ _=>trivial));(case aO=>exact(by(with_reducible repeat(first|apply Kd.R_alloc|apply Kd.R_drewN|apply Kd.R_drew));exact HO_5.out));(case aS=>exact(Zw (by repeat(first|(with_reducible first|exact HB.out|apply Zq|apply Zm|apply Zs|refine Zp ?_ GE84001.out|refine Zp ?_ GE84002.out|refine Zp ?_ GE84003.out|refine Zp ?_ GE84005.out)|exact HB.out))));(case aL=>have:=LMc22.out;omega);intro v84010 w32 ho hb hg hat;rw[← Ny84009.out] at ho;have HO84011:=Za (ho);replace BK84001:=Za (Z0 (g:=gb84001) (o:=.cells #[.int .i64 a0_0,.slice (some ad84004) l0_1.length c0_1] 31 (0,0)) (by(with_reducible repeat(first|refine Zo ?_ _|refine Zr ?_|refine Zn ?_ _));exact BK84001.out) hg (Kd.R_ne HO_5.out BK84001.out (by decide)));replace BK84002:=Za (Z0 (g:=gb84002) (o:=.cells #[.int .i64 0,.slice none 0 0] 78 (0,0)) (by(with_reducible repeat(first|refine Zo ?_ _|refine Zr ?_|refine Zn ?_ _));exact BK84002.out) hg (Kd.R_ne HO_5.out BK84002.out (by decide)));replace BK84003:=Za (Z0 (g:=gb84003) (o:=.cells #[.int .i64 a0_0,u84004001] 78 (0,0)) (by(with_reducible repeat(first|refine Zo ?_ _|refine Zr ?_|refine Zn ?_ _));exact BK84003.out) hg (Kd.R_ne HO_5.out BK84003.out (by decide)));replace BK84005:=Za (Z0 (g:=gb84005) (o:=.cells #[.int .i64 ((ZA l0_1 x14_1).f0),.int .i64 ((ZA l0_1 x14_1).f1),.int .i64 ((ZA l0_1 x14_1).f2.f0),.int .i64 ((ZA l0_1 x14_1).f2.f1)] 84 (0,0)) (by(with_reducible repeat(first|refine Zo ?_ _|refine Zr ?_|refine Zn ?_ _));exact BK84005.out) hg (Kd.R_ne HO_5.out BK84005.out (by decide)));replace HO84008:=Za (Kd.R_over' (by(with_reducible repeat(first|apply Kd.R_alloc|apply Kd.R_drewN|apply Kd.R_drew));exact HO84008.out) (Kd.R_typed (by(with_reducible repeat(first|apply Kd.R_alloc|apply Kd.R_drewN|apply Kd.R_drew));exact HO_5.out)) (by decide) hg);replace HB:=Za (hb);clear HO_5;clear ho hb hg hat;obtain⟨Ao33,co33,eo33⟩:=Kd.R_slice HO84008.out;subst eo33;have hcz34_0:w32.cell? ⟨gb84003,0,none⟩=some (.int .i64 a0_0):=(Zv BK84003.out 0).trans rfl;have hcz34_1:w32.cell? ⟨gb84003,1,none⟩=some (u84004001):=(Zv BK84003.out 1).trans rfl;have hfz34_0:=Zu BK84003.out 0;have hfz34_1:=Zu BK84003.out 1))
          go_roundg k1
          case measure=>have:=HK1.out;omega
          case rel=>exact⟨(y84009),(wrap64 (x14_1+1)),(y84006),(.slice Ao33 y84006.length co33),(by first|rfl|(simp;done)|(simp[*];done)),H',⟨by have:=HK1.out;omega⟩,⟨by(with_reducible repeat(first|apply Kd.R_alloc|apply Kd.R_drewN|apply Kd.R_drew));exact Kd.R_mono (Kd.R_far (p:=⟨gb84003,1,none⟩) (Kd.R_types HO84011.out BK84003.out (by decide)) (fun _ hk=>hk.2) (.slice Ao33 y84006.length co33)) (fun _ hk=>trivial)⟩,⟨by(with_reducible repeat(first|apply Kd.R_alloc|apply Kd.R_drewN|apply Kd.R_drew));exact Kd.R_mono (Kd.R_far (p:=⟨gb84003,1,none⟩) (Kd.R_types HO84008.out BK84003.out (by decide)) (fun _ hk=>hk.2) (.slice Ao33 y84006.length co33)) (fun _ hk=>trivial)⟩,⟨by(with_reducible repeat(first|refine Zo ?_ _|refine Zr ?_|refine Zn ?_ _));refine ZD ?_ NB84001_84003.out _;(with_reducible repeat(first|refine Zo ?_ _|refine Zr ?_|refine Zn ?_ _));exact BK84001.out⟩,⟨by(with_reducible repeat(first|refine Zo ?_ _|refine Zr ?_|refine Zn ?_ _));refine ZD ?_ NB84002_84003.out _;(with_reducible repeat(first|refine Zo ?_ _|refine Zr ?_|refine Zn ?_ _));exact BK84002.out⟩,⟨by(with_reducible repeat(first|refine Zo ?_ _|refine Zr ?_|refine Zn ?_ _));refine ZL (cs:=#[.int .i64 a0_0,u84004001]) ?_ 1 _ rfl;(with_reducible repeat(first|refine Zo ?_ _|refine Zr ?_|refine Zn ?_ _));exact BK84003.out⟩,⟨by repeat(first|(with_reducible first|exact HB.out|apply Zq|apply Zm|apply Zs|refine Zp ?_ GE84001.out|refine Zp ?_ GE84002.out|refine Zp ?_ GE84003.out|refine Zp ?_ GE84005.out)|exact HB.out)⟩⟩
         ·rw[if_neg c22] at H
          exact absurd H (by simp)
        ·rw[if_neg c21] at H
         exact absurd H (by simp)
      ·rw[if_neg c14] at H
       have c14b0:(((ZA l0_1 x14_1).f2.f1) == 1000000)=false:=beq_eq_false_iff_ne.mpr c14
       have c14b1:(((ZA l0_1 x14_1).f2.f1) != 1000000)=true:=bne_iff_ne.mpr c14
       by_cases c35:x84004001_1.length<5864062014805
       ·rw[if_pos c35] at H
        have LMc35:=Za c35;clear c35
        obtain⟨y84012,hy84012⟩:∃y_:List (S123),y_=(x84004001_1 ++ [(⟨(ZA l0_1 x14_1).f0,(ZA l0_1 x14_1).f1,(ZA l0_1 x14_1).f2.f1⟩:S123)]):=⟨_,rfl⟩
        replace H:(if x5_1.length<17592186044416 then((some (x5_1 ++ [x14_1]:List Int)).bind fun y84015=>(if ((ZA l0_1 x14_1).f2.f0)=(-1000000) then(Z5.l0 k1 y84015 l0_1 (l0_1.length:Int) (wrap64 (x14_1+1)) a0_0 y84012) else(if y84012.length<5864062014805 then(if y84015.length<17592186044416 then(Z5.l0 k1 (y84015 ++ [x14_1]) l0_1 (l0_1.length:Int) (wrap64 (x14_1+1)) a0_0 (y84012 ++ [(⟨(ZA l0_1 x14_1).f1,(ZA l0_1 x14_1).f0,wrap64 (-((ZA l0_1 x14_1).f2.f0))⟩:S123)])) else(none)) else(none)))) else(none))=some (r1,r2,r3):=by first|(rw[hy84012];with_reducible exact H)|(have H2_:=(Zi _ _).symm.trans H;rw[hy84012];with_reducible exact H2_)|(have H2_:=(Zi _ _).symm.trans H;with_reducible exact H2_)|with_reducible exact H|(rw[hy84012];exact H)|exact H
        have Ny84012:=Za hy84012;clear hy84012
        by_cases c36:x5_1.length<17592186044416
        ·rw[if_pos c36] at H
         have LMc36:=Za c36;clear c36
         obtain⟨y84015,hy84015⟩:∃y_:List Int,y_=(x5_1 ++ [x14_1]):=⟨_,rfl⟩
         replace H:(if ((ZA l0_1 x14_1).f2.f0)=(-1000000) then(Z5.l0 k1 y84015 l0_1 (l0_1.length:Int) (wrap64 (x14_1+1)) a0_0 y84012) else(if y84012.length<5864062014805 then(if y84015.length<17592186044416 then(Z5.l0 k1 (y84015 ++ [x14_1]) l0_1 (l0_1.length:Int) (wrap64 (x14_1+1)) a0_0 (y84012 ++ [(⟨(ZA l0_1 x14_1).f1,(ZA l0_1 x14_1).f0,wrap64 (-((ZA l0_1 x14_1).f2.f0))⟩:S123)])) else(none)) else(none)))=some (r1,r2,r3):=by first|(rw[hy84015];with_reducible exact H)|(have H2_:=(Zi _ _).symm.trans H;rw[hy84015];with_reducible exact H2_)|(have H2_:=(Zi _ _).symm.trans H;with_reducible exact H2_)|with_reducible exact H|(rw[hy84015];exact H)|exact H
         have Ny84015:=Za hy84015;clear hy84015
         by_cases c37:((ZA l0_1 x14_1).f2.f0)=(-1000000)
         ·rw[if_pos c37] at H
          have c37b0:(((ZA l0_1 x14_1).f2.f0) == (-1000000))=true:=beq_iff_eq.mpr c37
          have c37b1:(((ZA l0_1 x14_1).f2.f0) != (-1000000))=false:=bne_eq_false_iff_eq.mpr c37
          clear c37
          have H':=Za H
          clear H
          have p84004:0≤(x14_1:Int):=Zd (by first|(with_reducible assumption)|assumption)
          have q84004:x14_1<(l0_1.length:Int):=Zd (by first|(with_reducible assumption)|assumption)
          obtain⟨ad84004,e84004,hx84004_0,hx84004_1,hx84004_2,hx84004_3⟩:=at_T84 HR0_1.out x14_1 p84004 q84004
          cases e84004
          replace hx84004_0:=(HB.out.cell (Zc w _ hx84004_0)).trans hx84004_0
          replace hx84004_1:=(HB.out.cell (Zc w _ hx84004_1)).trans hx84004_1
          replace hx84004_2:=(HB.out.cell (Zc w _ hx84004_2)).trans hx84004_2
          replace hx84004_3:=(HB.out.cell (Zc w _ hx84004_3)).trans hx84004_3
          replace p84004:=eq_true p84004
          replace q84004:=eq_true q84004
          go_wp2_with (first|((with_reducible refine ZM (N:=7) rfl ?_);refine ZK ?hg (N:=7) ?hd (cs:=#[.int .i64 0,.int .i64 0,.int .i64 0,.int .i64 0]) (t:=84) ?hr ?_;(case hd=>rfl);(case hg=>rfl);(case hr=>first|(go_simp;done)|(go_simp;rfl));intro gb84005 hg w38 hbox hb;have BK84005:=Za (hbox);have GW84005:=Za ((by rw[hg];exact(Zw (by repeat(first|(with_reducible first|exact HB.out|apply Zq|apply Zm|apply Zs|refine Zp ?_ GE84001.out|refine Zp ?_ GE84002.out|refine Zp ?_ GE84003.out)|exact HB.out))):w.heap.size≤gb84005));have GE84005:=Za ((by rw[hg];exact(Zw (by repeat(first|(with_reducible first|exact HB.out|apply Zq|apply Zm|apply Zs|refine Zp ?_ GE84001.out|refine Zp ?_ GE84002.out|refine Zp ?_ GE84003.out)|exact HB.out))):w.heap.size≤gb84005));have NB84001_84005:=Za ((by rw[hg];exact Nat.ne_of_lt (ZH (g:=gb84001) (o:=.cells #[.int .i64 a0_0,.slice (some ad84004) l0_1.length c0_1] 31 (0,0)) (by(with_reducible repeat(first|refine Zo ?_ _|refine Zr ?_|refine Zn ?_ _));exact BK84001.out)):gb84001≠gb84005));have NB84005_84001:=Za ((by rw[hg];exact Nat.ne_of_gt (ZH (g:=gb84001) (o:=.cells #[.int .i64 a0_0,.slice (some ad84004) l0_1.length c0_1] 31 (0,0)) (by(with_reducible repeat(first|refine Zo ?_ _|refine Zr ?_|refine Zn ?_ _));exact BK84001.out)):gb84005≠gb84001));have NB84002_84005:=Za ((by rw[hg];exact Nat.ne_of_lt (ZH (g:=gb84002) (o:=.cells #[.int .i64 0,.slice none 0 0] 78 (0,0)) (by(with_reducible repeat(first|refine Zo ?_ _|refine Zr ?_|refine Zn ?_ _));exact BK84002.out)):gb84002≠gb84005));have NB84005_84002:=Za ((by rw[hg];exact Nat.ne_of_gt (ZH (g:=gb84002) (o:=.cells #[.int .i64 0,.slice none 0 0] 78 (0,0)) (by(with_reducible repeat(first|refine Zo ?_ _|refine Zr ?_|refine Zn ?_ _));exact BK84002.out)):gb84005≠gb84002));have NB84003_84005:=Za ((by rw[hg];exact Nat.ne_of_lt (ZH (g:=gb84003) (o:=.cells #[.int .i64 a0_0,u84004001] 78 (0,0)) (by(with_reducible repeat(first|refine Zo ?_ _|refine Zr ?_|refine Zn ?_ _));exact BK84003.out)):gb84003≠gb84005));have NB84005_84003:=Za ((by rw[hg];exact Nat.ne_of_gt (ZH (g:=gb84003) (o:=.cells #[.int .i64 a0_0,u84004001] 78 (0,0)) (by(with_reducible repeat(first|refine Zo ?_ _|refine Zr ?_|refine Zn ?_ _));exact BK84003.out)):gb84005≠gb84003));replace HO_5:=Za (Kd.R_below (by(with_reducible repeat(first|apply Kd.R_alloc|apply Kd.R_drewN|apply Kd.R_drew));exact HO_5.out) hb);replace HO_84004001:=Za (Kd.R_below (by(with_reducible repeat(first|apply Kd.R_alloc|apply Kd.R_drewN|apply Kd.R_drew));exact HO_84004001.out) hb);replace BK84001:=Za (Zy (g:=gb84001) (o:=.cells #[.int .i64 a0_0,.slice (some ad84004) l0_1.length c0_1] 31 (0,0)) (by(with_reducible repeat(first|refine Zo ?_ _|refine Zr ?_|refine Zn ?_ _));exact BK84001.out) hb);replace BK84002:=Za (Zy (g:=gb84002) (o:=.cells #[.int .i64 0,.slice none 0 0] 78 (0,0)) (by(with_reducible repeat(first|refine Zo ?_ _|refine Zr ?_|refine Zn ?_ _));exact BK84002.out) hb);replace BK84003:=Za (Zy (g:=gb84003) (o:=.cells #[.int .i64 a0_0,u84004001] 78 (0,0)) (by(with_reducible repeat(first|refine Zo ?_ _|refine Zr ?_|refine Zn ?_ _));exact BK84003.out) hb);replace HB:=Za (Zx (by repeat(first|(with_reducible first|exact HB.out|apply Zq|apply Zm|apply Zs|refine Zp ?_ GE84001.out|refine Zp ?_ GE84002.out|refine Zp ?_ GE84003.out)|exact HB.out)) hb);clear hb hbox hg;have hnb39:=NB84005_84001.out;have hnc39:=NB84001_84005.out;have hnb40:=NB84005_84002.out;have hnc40:=NB84002_84005.out;have hnb41:=NB84005_84003.out;have hnc41:=NB84003_84005.out;have hcz42_0:w38.cell? ⟨gb84005,0,none⟩=some (.int .i64 0):=(Zv BK84005.out 0).trans rfl;have hcz42_1:w38.cell? ⟨gb84005,1,none⟩=some (.int .i64 0):=(Zv BK84005.out 1).trans rfl;have hcz42_2:w38.cell? ⟨gb84005,2,none⟩=some (.int .i64 0):=(Zv BK84005.out 2).trans rfl;have hcz42_3:w38.cell? ⟨gb84005,3,none⟩=some (.int .i64 0):=(Zv BK84005.out 3).trans rfl;have hfz42_0:=Zu BK84005.out 0;have hfz42_1:=Zu BK84005.out 1;have hfz42_2:=Zu BK84005.out 2;have hfz42_3:=Zu BK84005.out 3;have hnb43:=NB84003_84001.out;have hnc43:=NB84001_84003.out;have hnb44:=NB84003_84002.out;have hnc44:=NB84002_84003.out;have hcz45_0:w38.cell? ⟨gb84003,0,none⟩=some (.int .i64 a0_0):=(Zv BK84003.out 0).trans rfl;have hcz45_1:w38.cell? ⟨gb84003,1,none⟩=some (u84004001):=(Zv BK84003.out 1).trans rfl;have hfz45_0:=Zu BK84003.out 0;have hfz45_1:=Zu BK84003.out 1)|((with_reducible refine ZaG (b:=.append) (xs:=#[.tmp 24,.tmp 33]) rfl ?_);at_builtin;refine Kd.R_append k123 (w0:=w) w.heap.size rfl (.tmp 24) (.tmp 33) 76 123 (.agg #[(.int .i64 0),(.int .i64 0),(.int .i64 0)]) 24 rfl Try.underlying76 ZcV rfl (by decide) (by omega) u84004001 x84004001_1 (⟨(ZA l0_1 x14_1).f0,(ZA l0_1 x14_1).f1,(ZA l0_1 x14_1).f2.f1⟩:S123) [.int .i64 ((ZA l0_1 x14_1).f0),.int .i64 ((ZA l0_1 x14_1).f1),.int .i64 ((ZA l0_1 x14_1).f2.f1)] (fun _=>True) (fun _=>False) rfl (by first|(go_simp;done)|(go_simp;rfl)) ?aP (fun _ hk=>hk.elim) ?aF ?aO ?aB ?aS ?aL ?_;(case aP=>exact Zcs _ _ _ (⟨(ZA l0_1 x14_1).f0,(ZA l0_1 x14_1).f1,(ZA l0_1 x14_1).f2.f1⟩:S123));(case aB=>exact(by repeat(first|(with_reducible first|exact HB.out|apply Zq|apply Zm|apply Zs|refine Zp ?_ GE84001.out|refine Zp ?_ GE84002.out|refine Zp ?_ GE84003.out|refine Zp ?_ GE84005.out)|exact HB.out)));(case aF=>exact(fun _ _=>trivial));(case aO=>exact(by(with_reducible repeat(first|apply Kd.R_alloc|apply Kd.R_drewN|apply Kd.R_drew));exact Kd.R_mono (Kd.R_far (p:=⟨gb84005,3,none⟩) (Kd.R_far (p:=⟨gb84005,2,none⟩) (Kd.R_far (p:=⟨gb84005,1,none⟩) (Kd.R_far (p:=⟨gb84005,0,none⟩) (Kd.R_types HO_84004001.out BK84005.out (by decide)) (fun _ hk=>hk.2) (.int .i64 ((ZA l0_1 x14_1).f0))) (fun _ hk=>hk.2) (.int .i64 ((ZA l0_1 x14_1).f1))) (fun _ hk=>hk.2) (.int .i64 ((ZA l0_1 x14_1).f2.f0))) (fun _ hk=>hk.2) (.int .i64 ((ZA l0_1 x14_1).f2.f1))) (fun _ hk=>trivial)));(case aS=>exact(Zw (by repeat(first|(with_reducible first|exact HB.out|apply Zq|apply Zm|apply Zs|refine Zp ?_ GE84001.out|refine Zp ?_ GE84002.out|refine Zp ?_ GE84003.out|refine Zp ?_ GE84005.out)|exact HB.out))));(case aL=>have:=LMc35.out;omega);intro v84013 w46 ho hb hg hat;rw[← Ny84012.out] at ho;have HO84014:=Za (ho);replace HO_5:=Za (Kd.R_over' (by(with_reducible repeat(first|apply Kd.R_alloc|apply Kd.R_drewN|apply Kd.R_drew));exact(Kd.R_mono (Kd.R_far (p:=⟨gb84005,3,none⟩) (Kd.R_far (p:=⟨gb84005,2,none⟩) (Kd.R_far (p:=⟨gb84005,1,none⟩) (Kd.R_far (p:=⟨gb84005,0,none⟩) (Kd.R_types HO_5.out BK84005.out (by decide)) (fun _ hk=>hk.2) (.int .i64 ((ZA l0_1 x14_1).f0))) (fun _ hk=>hk.2) (.int .i64 ((ZA l0_1 x14_1).f1))) (fun _ hk=>hk.2) (.int .i64 ((ZA l0_1 x14_1).f2.f0))) (fun _ hk=>hk.2) (.int .i64 ((ZA l0_1 x14_1).f2.f1))) (fun _ h_=>h_.1))) (Kd.R_typed (by(with_reducible repeat(first|apply Kd.R_alloc|apply Kd.R_drewN|apply Kd.R_drew));exact(Kd.R_mono (Kd.R_far (p:=⟨gb84005,3,none⟩) (Kd.R_far (p:=⟨gb84005,2,none⟩) (Kd.R_far (p:=⟨gb84005,1,none⟩) (Kd.R_far (p:=⟨gb84005,0,none⟩) (Kd.R_types HO_84004001.out BK84005.out (by decide)) (fun _ hk=>hk.2) (.int .i64 ((ZA l0_1 x14_1).f0))) (fun _ hk=>hk.2) (.int .i64 ((ZA l0_1 x14_1).f1))) (fun _ hk=>hk.2) (.int .i64 ((ZA l0_1 x14_1).f2.f0))) (fun _ hk=>hk.2) (.int .i64 ((ZA l0_1 x14_1).f2.f1))) (fun _ h_=>h_.1)))) (by decide) hg);replace BK84001:=Za (Z0 (g:=gb84001) (o:=.cells #[.int .i64 a0_0,.slice (some ad84004) l0_1.length c0_1] 31 (0,0)) (by(with_reducible repeat(first|refine Zo ?_ _|refine Zr ?_|refine Zn ?_ _));refine ZD ?_ NB84001_84005.out _;(with_reducible repeat(first|refine Zo ?_ _|refine Zr ?_|refine Zn ?_ _));refine ZD ?_ NB84001_84005.out _;(with_reducible repeat(first|refine Zo ?_ _|refine Zr ?_|refine Zn ?_ _));refine ZD ?_ NB84001_84005.out _;(with_reducible repeat(first|refine Zo ?_ _|refine Zr ?_|refine Zn ?_ _));refine ZD ?_ NB84001_84005.out _;(with_reducible repeat(first|refine Zo ?_ _|refine Zr ?_|refine Zn ?_ _));exact BK84001.out) hg (Kd.R_ne HO_84004001.out BK84001.out (by decide)));replace BK84002:=Za (Z0 (g:=gb84002) (o:=.cells #[.int .i64 0,.slice none 0 0] 78 (0,0)) (by(with_reducible repeat(first|refine Zo ?_ _|refine Zr ?_|refine Zn ?_ _));refine ZD ?_ NB84002_84005.out _;(with_reducible repeat(first|refine Zo ?_ _|refine Zr ?_|refine Zn ?_ _));refine ZD ?_ NB84002_84005.out _;(with_reducible repeat(first|refine Zo ?_ _|refine Zr ?_|refine Zn ?_ _));refine ZD ?_ NB84002_84005.out _;(with_reducible repeat(first|refine Zo ?_ _|refine Zr ?_|refine Zn ?_ _));refine ZD ?_ NB84002_84005.out _;(with_reducible repeat(first|refine Zo ?_ _|refine Zr ?_|refine Zn ?_ _));exact BK84002.out) hg (Kd.R_ne HO_84004001.out BK84002.out (by decide)));replace BK84003:=Za (Z0 (g:=gb84003) (o:=.cells #[.int .i64 a0_0,u84004001] 78 (0,0)) (by(with_reducible repeat(first|refine Zo ?_ _|refine Zr ?_|refine Zn ?_ _));refine ZD ?_ NB84003_84005.out _;(with_reducible repeat(first|refine Zo ?_ _|refine Zr ?_|refine Zn ?_ _));refine ZD ?_ NB84003_84005.out _;(with_reducible repeat(first|refine Zo ?_ _|refine Zr ?_|refine Zn ?_ _));refine ZD ?_ NB84003_84005.out _;(with_reducible repeat(first|refine Zo ?_ _|refine Zr ?_|refine Zn ?_ _));refine ZD ?_ NB84003_84005.out _;(with_reducible repeat(first|refine Zo ?_ _|refine Zr ?_|refine Zn ?_ _));exact BK84003.out) hg (Kd.R_ne HO_84004001.out BK84003.out (by decide)));replace BK84005:=Za (Z0 (g:=gb84005) (o:=.cells #[.int .i64 ((ZA l0_1 x14_1).f0),.int .i64 ((ZA l0_1 x14_1).f1),.int .i64 ((ZA l0_1 x14_1).f2.f0),.int .i64 ((ZA l0_1 x14_1).f2.f1)] 84 (0,0)) (by(with_reducible repeat(first|refine Zo ?_ _|refine Zr ?_|refine Zn ?_ _));refine ZL (cs:=#[.int .i64 ((ZA l0_1 x14_1).f0),.int .i64 ((ZA l0_1 x14_1).f1),.int .i64 ((ZA l0_1 x14_1).f2.f0),.int .i64 0]) ?_ 3 _ rfl;(with_reducible repeat(first|refine Zo ?_ _|refine Zr ?_|refine Zn ?_ _));refine ZL (cs:=#[.int .i64 ((ZA l0_1 x14_1).f0),.int .i64 ((ZA l0_1 x14_1).f1),.int .i64 0,.int .i64 0]) ?_ 2 _ rfl;(with_reducible repeat(first|refine Zo ?_ _|refine Zr ?_|refine Zn ?_ _));refine ZL (cs:=#[.int .i64 ((ZA l0_1 x14_1).f0),.int .i64 0,.int .i64 0,.int .i64 0]) ?_ 1 _ rfl;(with_reducible repeat(first|refine Zo ?_ _|refine Zr ?_|refine Zn ?_ _));refine ZL (cs:=#[.int .i64 0,.int .i64 0,.int .i64 0,.int .i64 0]) ?_ 0 _ rfl;(with_reducible repeat(first|refine Zo ?_ _|refine Zr ?_|refine Zn ?_ _));exact BK84005.out) hg (Kd.R_ne HO_84004001.out BK84005.out (by decide)));replace HB:=Za (hb);clear HO_84004001;clear ho hb hg hat)|((with_reducible refine ZaG (b:=.append) (xs:=#[.tmp 35,.tmp 37]) rfl ?_);at_builtin;refine Kd.R_append (Kd.int .i64) (w0:=w) w.heap.size rfl (.tmp 35) (.tmp 37) 22 3 (.int .i64 0) 8 rfl Try.underlying22 Zbg rfl (by decide) (by omega) u5 x5_1 x14_1 [.int .i64 x14_1] (fun _=>True) (fun _=>False) rfl rfl ?aP (fun _ hk=>hk.elim) ?aF ?aO ?aB ?aS ?aL ?_;(case aP=>exact rfl);(case aB=>exact(by repeat(first|(with_reducible first|exact HB.out|apply Zq|apply Zm|apply Zs|refine Zp ?_ GE84001.out|refine Zp ?_ GE84002.out|refine Zp ?_ GE84003.out|refine Zp ?_ GE84005.out)|exact HB.out)));(case aF=>exact(fun _ _=>trivial));(case aO=>exact(by(with_reducible repeat(first|apply Kd.R_alloc|apply Kd.R_drewN|apply Kd.R_drew));exact HO_5.out));(case aS=>exact(Zw (by repeat(first|(with_reducible first|exact HB.out|apply Zq|apply Zm|apply Zs|refine Zp ?_ GE84001.out|refine Zp ?_ GE84002.out|refine Zp ?_ GE84003.out|refine Zp ?_ GE84005.out)|exact HB.out))));(case aL=>have:=LMc36.out;omega);intro v84016 w47 ho hb hg hat;rw[← Ny84015.out] at ho;have HO84017:=Za (ho);replace BK84001:=Za (Z0 (g:=gb84001) (o:=.cells #[.int .i64 a0_0,.slice (some ad84004) l0_1.length c0_1] 31 (0,0)) (by(with_reducible repeat(first|refine Zo ?_ _|refine Zr ?_|refine Zn ?_ _));exact BK84001.out) hg (Kd.R_ne HO_5.out BK84001.out (by decide)));replace BK84002:=Za (Z0 (g:=gb84002) (o:=.cells #[.int .i64 0,.slice none 0 0] 78 (0,0)) (by(with_reducible repeat(first|refine Zo ?_ _|refine Zr ?_|refine Zn ?_ _));exact BK84002.out) hg (Kd.R_ne HO_5.out BK84002.out (by decide)));replace BK84003:=Za (Z0 (g:=gb84003) (o:=.cells #[.int .i64 a0_0,u84004001] 78 (0,0)) (by(with_reducible repeat(first|refine Zo ?_ _|refine Zr ?_|refine Zn ?_ _));exact BK84003.out) hg (Kd.R_ne HO_5.out BK84003.out (by decide)));replace BK84005:=Za (Z0 (g:=gb84005) (o:=.cells #[.int .i64 ((ZA l0_1 x14_1).f0),.int .i64 ((ZA l0_1 x14_1).f1),.int .i64 ((ZA l0_1 x14_1).f2.f0),.int .i64 ((ZA l0_1 x14_1).f2.f1)] 84 (0,0)) (by(with_reducible repeat(first|refine Zo ?_ _|refine Zr ?_|refine Zn ?_ _));exact BK84005.out) hg (Kd.R_ne HO_5.out BK84005.out (by decide)));replace HO84014:=Za (Kd.R_over' (by(with_reducible repeat(first|apply Kd.R_alloc|apply Kd.R_drewN|apply Kd.R_drew));exact HO84014.out) (Kd.R_typed (by(with_reducible repeat(first|apply Kd.R_alloc|apply Kd.R_drewN|apply Kd.R_drew));exact HO_5.out)) (by decide) hg);replace HB:=Za (hb);clear HO_5;clear ho hb hg hat;obtain⟨Ao48,co48,eo48⟩:=Kd.R_slice HO84014.out;subst eo48;have hcz49_0:w47.cell? ⟨gb84003,0,none⟩=some (.int .i64 a0_0):=(Zv BK84003.out 0).trans rfl;have hcz49_1:w47.cell? ⟨gb84003,1,none⟩=some (u84004001):=(Zv BK84003.out 1).trans rfl;have hfz49_0:=Zu BK84003.out 0;have hfz49_1:=Zu BK84003.out 1;have hcz50_0:w47.cell? ⟨gb84005,0,none⟩=some (.int .i64 ((ZA l0_1 x14_1).f0)):=(Zv BK84005.out 0).trans rfl;have hcz50_1:w47.cell? ⟨gb84005,1,none⟩=some (.int .i64 ((ZA l0_1 x14_1).f1)):=(Zv BK84005.out 1).trans rfl;have hcz50_2:w47.cell? ⟨gb84005,2,none⟩=some (.int .i64 ((ZA l0_1 x14_1).f2.f0)):=(Zv BK84005.out 2).trans rfl;have hcz50_3:w47.cell? ⟨gb84005,3,none⟩=some (.int .i64 ((ZA l0_1 x14_1).f2.f1)):=(Zv BK84005.out 3).trans rfl;have hfz50_0:=Zu BK84005.out 0;have hfz50_1:=Zu BK84005.out 1;have hfz50_2:=Zu BK84005.out 2;have hfz50_3:=Zu BK84005.out 3))
          go_roundg k1
          case measure=>have:=HK1.out;omega
          case rel=>exact⟨(y84015),(wrap64 (x14_1+1)),(y84012),(.slice Ao48 y84012.length co48),(by first|rfl|(simp;done)|(simp[*];done)),H',⟨by have:=HK1.out;omega⟩,⟨by(with_reducible repeat(first|apply Kd.R_alloc|apply Kd.R_drewN|apply Kd.R_drew));exact Kd.R_mono (Kd.R_far (p:=⟨gb84003,1,none⟩) (Kd.R_types HO84017.out BK84003.out (by decide)) (fun _ hk=>hk.2) (.slice Ao48 y84012.length co48)) (fun _ hk=>trivial)⟩,⟨by(with_reducible repeat(first|apply Kd.R_alloc|apply Kd.R_drewN|apply Kd.R_drew));exact Kd.R_mono (Kd.R_far (p:=⟨gb84003,1,none⟩) (Kd.R_types HO84014.out BK84003.out (by decide)) (fun _ hk=>hk.2) (.slice Ao48 y84012.length co48)) (fun _ hk=>trivial)⟩,⟨by(with_reducible repeat(first|refine Zo ?_ _|refine Zr ?_|refine Zn ?_ _));refine ZD ?_ NB84001_84003.out _;(with_reducible repeat(first|refine Zo ?_ _|refine Zr ?_|refine Zn ?_ _));exact BK84001.out⟩,⟨by(with_reducible repeat(first|refine Zo ?_ _|refine Zr ?_|refine Zn ?_ _));refine ZD ?_ NB84002_84003.out _;(with_reducible repeat(first|refine Zo ?_ _|refine Zr ?_|refine Zn ?_ _));exact BK84002.out⟩,⟨by(with_reducible repeat(first|refine Zo ?_ _|refine Zr ?_|refine Zn ?_ _));refine ZL (cs:=#[.int .i64 a0_0,u84004001]) ?_ 1 _ rfl;(with_reducible repeat(first|refine Zo ?_ _|refine Zr ?_|refine Zn ?_ _));exact BK84003.out⟩,⟨by repeat(first|(with_reducible first|exact HB.out|apply Zq|apply Zm|apply Zs|refine Zp ?_ GE84001.out|refine Zp ?_ GE84002.out|refine Zp ?_ GE84003.out|refine Zp ?_ GE84005.out)|exact HB.out)⟩⟩
         ·rw[if_neg c37] at H
          have c37b0:(((ZA l0_1 x14_1).f2.f0) == (-1000000))=false:=beq_eq_false_iff_ne.mpr c37
          have c37b1:(((ZA l0_1 x14_1).f2.f0) != (-1000000))=true:=bne_iff_ne.mpr c37
          by_cases c51:y84012.length<5864062014805
          ·rw[if_pos c51] at H
           have LMc51:=Za c51;clear c51
           obtain⟨y84018,hy84018⟩:∃y_:List (S123),y_=(y84012 ++ [(⟨(ZA l0_1 x14_1).f1,(ZA l0_1 x14_1).f0,wrap64 (-((ZA l0_1 x14_1).f2.f0))⟩:S123)]):=⟨_,rfl⟩
           replace H:(if y84015.length<17592186044416 then(Z5.l0 k1 (y84015 ++ [x14_1]) l0_1 (l0_1.length:Int) (wrap64 (x14_1+1)) a0_0 y84018) else(none))=some (r1,r2,r3):=by first|(rw[hy84018];with_reducible exact H)|(have H2_:=(Zi _ _).symm.trans H;rw[hy84018];with_reducible exact H2_)|(have H2_:=(Zi _ _).symm.trans H;with_reducible exact H2_)|with_reducible exact H|(rw[hy84018];exact H)|exact H
           have Ny84018:=Za hy84018;clear hy84018
           by_cases c52:y84015.length<17592186044416
           ·rw[if_pos c52] at H
            have LMc52:=Za c52;clear c52
            obtain⟨y84021,hy84021⟩:∃y_:List Int,y_=(y84015 ++ [x14_1]):=⟨_,rfl⟩
            replace H:(Z5.l0 k1 y84021 l0_1 (l0_1.length:Int) (wrap64 (x14_1+1)) a0_0 y84018)=some (r1,r2,r3):=by first|(rw[hy84021];with_reducible exact H)|(have H2_:=(Zi _ _).symm.trans H;rw[hy84021];with_reducible exact H2_)|(have H2_:=(Zi _ _).symm.trans H;with_reducible exact H2_)|with_reducible exact H|(rw[hy84021];exact H)|exact H
            have Ny84021:=Za hy84021;clear hy84021
            have H':=Za H
            clear H
            have p84004:0≤(x14_1:Int):=Zd (by first|(with_reducible assumption)|assumption)
            have q84004:x14_1<(l0_1.length:Int):=Zd (by first|(with_reducible assumption)|assumption)
            obtain⟨ad84004,e84004,hx84004_0,hx84004_1,hx84004_2,hx84004_3⟩:=at_T84 HR0_1.out x14_1 p84004 q84004
            cases e84004
            replace hx84004_0:=(HB.out.cell (Zc w _ hx84004_0)).trans hx84004_0
            replace hx84004_1:=(HB.out.cell (Zc w _ hx84004_1)).trans hx84004_1
            replace hx84004_2:=(HB.out.cell (Zc w _ hx84004_2)).trans hx84004_2
            replace hx84004_3:=(HB.out.cell (Zc w _ hx84004_3)).trans hx84004_3
            replace p84004:=eq_true p84004
            replace q84004:=eq_true q84004
            go_wp2_with (first|((with_reducible refine ZM (N:=7) rfl ?_);refine ZK ?hg (N:=7) ?hd (cs:=#[.int .i64 0,.int .i64 0,.int .i64 0,.int .i64 0]) (t:=84) ?hr ?_;(case hd=>rfl);(case hg=>rfl);(case hr=>first|(go_simp;done)|(go_simp;rfl));intro gb84005 hg w53 hbox hb;have BK84005:=Za (hbox);have GW84005:=Za ((by rw[hg];exact(Zw (by repeat(first|(with_reducible first|exact HB.out|apply Zq|apply Zm|apply Zs|refine Zp ?_ GE84001.out|refine Zp ?_ GE84002.out|refine Zp ?_ GE84003.out)|exact HB.out))):w.heap.size≤gb84005));have GE84005:=Za ((by rw[hg];exact(Zw (by repeat(first|(with_reducible first|exact HB.out|apply Zq|apply Zm|apply Zs|refine Zp ?_ GE84001.out|refine Zp ?_ GE84002.out|refine Zp ?_ GE84003.out)|exact HB.out))):w.heap.size≤gb84005));have NB84001_84005:=Za ((by rw[hg];exact Nat.ne_of_lt (ZH (g:=gb84001) (o:=.cells #[.int .i64 a0_0,.slice (some ad84004) l0_1.length c0_1] 31 (0,0)) (by(with_reducible repeat(first|refine Zo ?_ _|refine Zr ?_|refine Zn ?_ _));exact BK84001.out)):gb84001≠gb84005));have NB84005_84001:=Za ((by rw[hg];exact Nat.ne_of_gt (ZH (g:=gb84001) (o:=.cells #[.int .i64 a0_0,.slice (some ad84004) l0_1.length c0_1] 31 (0,0)) (by(with_reducible repeat(first|refine Zo ?_ _|refine Zr ?_|refine Zn ?_ _));exact BK84001.out)):gb84005≠gb84001));have NB84002_84005:=Za ((by rw[hg];exact Nat.ne_of_lt (ZH (g:=gb84002) (o:=.cells #[.int .i64 0,.slice none 0 0] 78 (0,0)) (by(with_reducible repeat(first|refine Zo ?_ _|refine Zr ?_|refine Zn ?_ _));exact BK84002.out)):gb84002≠gb84005));have NB84005_84002:=Za ((by rw[hg];exact Nat.ne_of_gt (ZH (g:=gb84002) (o:=.cells #[.int .i64 0,.slice none 0 0] 78 (0,0)) (by(with_reducible repeat(first|refine Zo ?_ _|refine Zr ?_|refine Zn ?_ _));exact BK84002.out)):gb84005≠gb84002));have NB84003_84005:=Za ((by rw[hg];exact Nat.ne_of_lt (ZH (g:=gb84003) (o:=.cells #[.int .i64 a0_0,u84004001] 78 (0,0)) (by(with_reducible repeat(first|refine Zo ?_ _|refine Zr ?_|refine Zn ?_ _));exact BK84003.out)):gb84003≠gb84005));have NB84005_84003:=Za ((by rw[hg];exact Nat.ne_of_gt (ZH (g:=gb84003) (o:=.cells #[.int .i64 a0_0,u84004001] 78 (0,0)) (by(with_reducible repeat(first|refine Zo ?_ _|refine Zr ?_|refine Zn ?_ _));exact BK84003.out)):gb84005≠gb84003));replace HO_5:=Za (Kd.R_below (by(with_reducible repeat(first|apply Kd.R_alloc|apply Kd.R_drewN|apply Kd.R_drew));exact HO_5.out) hb);replace HO_84004001:=Za (Kd.R_below (by(with_reducible repeat(first|apply Kd.R_alloc|apply Kd.R_drewN|apply Kd.R_drew));exact HO_84004001.out) hb);replace BK84001:=Za (Zy (g:=gb84001) (o:=.cells #[.int .i64 a0_0,.slice (some ad84004) l0_1.length c0_1] 31 (0,0)) (by(with_reducible repeat(first|refine Zo ?_ _|refine Zr ?_|refine Zn ?_ _));exact BK84001.out) hb);replace BK84002:=Za (Zy (g:=gb84002) (o:=.cells #[.int .i64 0,.slice none 0 0] 78 (0,0)) (by(with_reducible repeat(first|refine Zo ?_ _|refine Zr ?_|refine Zn ?_ _));exact BK84002.out) hb);replace BK84003:=Za (Zy (g:=gb84003) (o:=.cells #[.int .i64 a0_0,u84004001] 78 (0,0)) (by(with_reducible repeat(first|refine Zo ?_ _|refine Zr ?_|refine Zn ?_ _));exact BK84003.out) hb);replace HB:=Za (Zx (by repeat(first|(with_reducible first|exact HB.out|apply Zq|apply Zm|apply Zs|refine Zp ?_ GE84001.out|refine Zp ?_ GE84002.out|refine Zp ?_ GE84003.out)|exact HB.out)) hb);clear hb hbox hg;have hnb54:=NB84005_84001.out;have hnc54:=NB84001_84005.out;have hnb55:=NB84005_84002.out;have hnc55:=NB84002_84005.out;have hnb56:=NB84005_84003.out;have hnc56:=NB84003_84005.out;have hcz57_0:w53.cell? ⟨gb84005,0,none⟩=some (.int .i64 0):=(Zv BK84005.out 0).trans rfl;have hcz57_1:w53.cell? ⟨gb84005,1,none⟩=some (.int .i64 0):=(Zv BK84005.out 1).trans rfl;have hcz57_2:w53.cell? ⟨gb84005,2,none⟩=some (.int .i64 0):=(Zv BK84005.out 2).trans rfl;have hcz57_3:w53.cell? ⟨gb84005,3,none⟩=some (.int .i64 0):=(Zv BK84005.out 3).trans rfl;have hfz57_0:=Zu BK84005.out 0;have hfz57_1:=Zu BK84005.out 1;have hfz57_2:=Zu BK84005.out 2;have hfz57_3:=Zu BK84005.out 3;have hnb58:=NB84003_84001.out;have hnc58:=NB84001_84003.out;have hnb59:=NB84003_84002.out;have hnc59:=NB84002_84003.out;have hcz60_0:w53.cell? ⟨gb84003,0,none⟩=some (.int .i64 a0_0):=(Zv BK84003.out 0).trans rfl;have hcz60_1:w53.cell? ⟨gb84003,1,none⟩=some (u84004001):=(Zv BK84003.out 1).trans rfl;have hfz60_0:=Zu BK84003.out 0;have hfz60_1:=Zu BK84003.out 1)|((with_reducible refine ZaG (b:=.append) (xs:=#[.tmp 24,.tmp 33]) rfl ?_);at_builtin;refine Kd.R_append k123 (w0:=w) w.heap.size rfl (.tmp 24) (.tmp 33) 76 123 (.agg #[(.int .i64 0),(.int .i64 0),(.int .i64 0)]) 24 rfl Try.underlying76 ZcV rfl (by decide) (by omega) u84004001 x84004001_1 (⟨(ZA l0_1 x14_1).f0,(ZA l0_1 x14_1).f1,(ZA l0_1 x14_1).f2.f1⟩:S123) [.int .i64 ((ZA l0_1 x14_1).f0),.int .i64 ((ZA l0_1 x14_1).f1),.int .i64 ((ZA l0_1 x14_1).f2.f1)] (fun _=>True) (fun _=>False) rfl (by first|(go_simp;done)|(go_simp;rfl)) ?aP (fun _ hk=>hk.elim) ?aF ?aO ?aB ?aS ?aL ?_;(case aP=>exact Zcs _ _ _ (⟨(ZA l0_1 x14_1).f0,(ZA l0_1 x14_1).f1,(ZA l0_1 x14_1).f2.f1⟩:S123));(case aB=>exact(by repeat(first|(with_reducible first|exact HB.out|apply Zq|apply Zm|apply Zs|refine Zp ?_ GE84001.out|refine Zp ?_ GE84002.out|refine Zp ?_ GE84003.out|refine Zp ?_ GE84005.out)|exact HB.out)));(case aF=>exact(fun _ _=>trivial));(case aO=>exact(by(with_reducible repeat(first|apply Kd.R_alloc|apply Kd.R_drewN|apply Kd.R_drew));exact Kd.R_mono (Kd.R_far (p:=⟨gb84005,3,none⟩) (Kd.R_far (p:=⟨gb84005,2,none⟩) (Kd.R_far (p:=⟨gb84005,1,none⟩) (Kd.R_far (p:=⟨gb84005,0,none⟩) (Kd.R_types HO_84004001.out BK84005.out (by decide)) (fun _ hk=>hk.2) (.int .i64 ((ZA l0_1 x14_1).f0))) (fun _ hk=>hk.2) (.int .i64 ((ZA l0_1 x14_1).f1))) (fun _ hk=>hk.2) (.int .i64 ((ZA l0_1 x14_1).f2.f0))) (fun _ hk=>hk.2) (.int .i64 ((ZA l0_1 x14_1).f2.f1))) (fun _ hk=>trivial)));(case aS=>exact(Zw (by repeat(first|(with_reducible first|exact HB.out|apply Zq|apply Zm|apply Zs|refine Zp ?_ GE84001.out|refine Zp ?_ GE84002.out|refine Zp ?_ GE84003.out|refine Zp ?_ GE84005.out)|exact HB.out))));(case aL=>have:=LMc35.out;omega);intro v84013 w61 ho hb hg hat;rw[← Ny84012.out] at ho;have HO84014:=Za (ho);replace HO_5:=Za (Kd.R_over' (by(with_reducible repeat(first|apply Kd.R_alloc|apply Kd.R_drewN|apply Kd.R_drew));exact(Kd.R_mono (Kd.R_far (p:=⟨gb84005,3,none⟩) (Kd.R_far (p:=⟨gb84005,2,none⟩) (Kd.R_far (p:=⟨gb84005,1,none⟩) (Kd.R_far (p:=⟨gb84005,0,none⟩) (Kd.R_types HO_5.out BK84005.out (by decide)) (fun _ hk=>hk.2) (.int .i64 ((ZA l0_1 x14_1).f0))) (fun _ hk=>hk.2) (.int .i64 ((ZA l0_1 x14_1).f1))) (fun _ hk=>hk.2) (.int .i64 ((ZA l0_1 x14_1).f2.f0))) (fun _ hk=>hk.2) (.int .i64 ((ZA l0_1 x14_1).f2.f1))) (fun _ h_=>h_.1))) (Kd.R_typed (by(with_reducible repeat(first|apply Kd.R_alloc|apply Kd.R_drewN|apply Kd.R_drew));exact(Kd.R_mono (Kd.R_far (p:=⟨gb84005,3,none⟩) (Kd.R_far (p:=⟨gb84005,2,none⟩) (Kd.R_far (p:=⟨gb84005,1,none⟩) (Kd.R_far (p:=⟨gb84005,0,none⟩) (Kd.R_types HO_84004001.out BK84005.out (by decide)) (fun _ hk=>hk.2) (.int .i64 ((ZA l0_1 x14_1).f0))) (fun _ hk=>hk.2) (.int .i64 ((ZA l0_1 x14_1).f1))) (fun _ hk=>hk.2) (.int .i64 ((ZA l0_1 x14_1).f2.f0))) (fun _ hk=>hk.2) (.int .i64 ((ZA l0_1 x14_1).f2.f1))) (fun _ h_=>h_.1)))) (by decide) hg);replace BK84001:=Za (Z0 (g:=gb84001) (o:=.cells #[.int .i64 a0_0,.slice (some ad84004) l0_1.length c0_1] 31 (0,0)) (by(with_reducible repeat(first|refine Zo ?_ _|refine Zr ?_|refine Zn ?_ _));refine ZD ?_ NB84001_84005.out _;(with_reducible repeat(first|refine Zo ?_ _|refine Zr ?_|refine Zn ?_ _));refine ZD ?_ NB84001_84005.out _;(with_reducible repeat(first|refine Zo ?_ _|refine Zr ?_|refine Zn ?_ _));refine ZD ?_ NB84001_84005.out _;(with_reducible repeat(first|refine Zo ?_ _|refine Zr ?_|refine Zn ?_ _));refine ZD ?_ NB84001_84005.out _;(with_reducible repeat(first|refine Zo ?_ _|refine Zr ?_|refine Zn ?_ _));exact BK84001.out) hg (Kd.R_ne HO_84004001.out BK84001.out (by decide)));replace BK84002:=Za (Z0 (g:=gb84002) (o:=.cells #[.int .i64 0,.slice none 0 0] 78 (0,0)) (by(with_reducible repeat(first|refine Zo ?_ _|refine Zr ?_|refine Zn ?_ _));refine ZD ?_ NB84002_84005.out _;(with_reducible repeat(first|refine Zo ?_ _|refine Zr ?_|refine Zn ?_ _));refine ZD ?_ NB84002_84005.out _;(with_reducible repeat(first|refine Zo ?_ _|refine Zr ?_|refine Zn ?_ _));refine ZD ?_ NB84002_84005.out _;(with_reducible repeat(first|refine Zo ?_ _|refine Zr ?_|refine Zn ?_ _));refine ZD ?_ NB84002_84005.out _;(with_reducible repeat(first|refine Zo ?_ _|refine Zr ?_|refine Zn ?_ _));exact BK84002.out) hg (Kd.R_ne HO_84004001.out BK84002.out (by decide)));replace BK84003:=Za (Z0 (g:=gb84003) (o:=.cells #[.int .i64 a0_0,u84004001] 78 (0,0)) (by(with_reducible repeat(first|refine Zo ?_ _|refine Zr ?_|refine Zn ?_ _));refine ZD ?_ NB84003_84005.out _;(with_reducible repeat(first|refine Zo ?_ _|refine Zr ?_|refine Zn ?_ _));refine ZD ?_ NB84003_84005.out _;(with_reducible repeat(first|refine Zo ?_ _|refine Zr ?_|refine Zn ?_ _));refine ZD ?_ NB84003_84005.out _;(with_reducible repeat(first|refine Zo ?_ _|refine Zr ?_|refine Zn ?_ _));refine ZD ?_ NB84003_84005.out _;(with_reducible repeat(first|refine Zo ?_ _|refine Zr ?_|refine Zn ?_ _));exact BK84003.out) hg (Kd.R_ne HO_84004001.out BK84003.out (by decide)));replace BK84005:=Za (Z0 (g:=gb84005) (o:=.cells #[.int .i64 ((ZA l0_1 x14_1).f0),.int .i64 ((ZA l0_1 x14_1).f1),.int .i64 ((ZA l0_1 x14_1).f2.f0),.int .i64 ((ZA l0_1 x14_1).f2.f1)] 84 (0,0)) (by(with_reducible repeat(first|refine Zo ?_ _|refine Zr ?_|refine Zn ?_ _));refine ZL (cs:=#[.int .i64 ((ZA l0_1 x14_1).f0),.int .i64 ((ZA l0_1 x14_1).f1),.int .i64 ((ZA l0_1 x14_1).f2.f0),.int .i64 0]) ?_ 3 _ rfl;(with_reducible repeat(first|refine Zo ?_ _|refine Zr ?_|refine Zn ?_ _));refine ZL (cs:=#[.int .i64 ((ZA l0_1 x14_1).f0),.int .i64 ((ZA l0_1 x14_1).f1),.int .i64 0,.int .i64 0]) ?_ 2 _ rfl;(with_reducible repeat(first|refine Zo ?_ _|refine Zr ?_|refine Zn ?_ _));refine ZL (cs:=#[.int .i64 ((ZA l0_1 x14_1).f0),.int .i64 0,.int .i64 0,.int .i64 0]) ?_ 1 _ rfl;(with_reducible repeat(first|refine Zo ?_ _|refine Zr ?_|refine Zn ?_ _));refine ZL (cs:=#[.int .i64 0,.int .i64 0,.int .i64 0,.int .i64 0]) ?_ 0 _ rfl;(with_reducible repeat(first|refine Zo ?_ _|refine Zr ?_|refine Zn ?_ _));exact BK84005.out) hg (Kd.R_ne HO_84004001.out BK84005.out (by decide)));replace HB:=Za (hb);clear HO_84004001;clear ho hb hg hat)|((with_reducible refine ZaG (b:=.append) (xs:=#[.tmp 35,.tmp 37]) rfl ?_);at_builtin;refine Kd.R_append (Kd.int .i64) (w0:=w) w.heap.size rfl (.tmp 35) (.tmp 37) 22 3 (.int .i64 0) 8 rfl Try.underlying22 Zbg rfl (by decide) (by omega) u5 x5_1 x14_1 [.int .i64 x14_1] (fun _=>True) (fun _=>False) rfl rfl ?aP (fun _ hk=>hk.elim) ?aF ?aO ?aB ?aS ?aL ?_;(case aP=>exact rfl);(case aB=>exact(by repeat(first|(with_reducible first|exact HB.out|apply Zq|apply Zm|apply Zs|refine Zp ?_ GE84001.out|refine Zp ?_ GE84002.out|refine Zp ?_ GE84003.out|refine Zp ?_ GE84005.out)|exact HB.out)));(case aF=>exact(fun _ _=>trivial));(case aO=>exact(by(with_reducible repeat(first|apply Kd.R_alloc|apply Kd.R_drewN|apply Kd.R_drew));exact HO_5.out));(case aS=>exact(Zw (by repeat(first|(with_reducible first|exact HB.out|apply Zq|apply Zm|apply Zs|refine Zp ?_ GE84001.out|refine Zp ?_ GE84002.out|refine Zp ?_ GE84003.out|refine Zp ?_ GE84005.out)|exact HB.out))));(case aL=>have:=LMc36.out;omega);intro v84016 w62 ho hb hg hat;rw[← Ny84015.out] at ho;have HO84017:=Za (ho);replace BK84001:=Za (Z0 (g:=gb84001) (o:=.cells #[.int .i64 a0_0,.slice (some ad84004) l0_1.length c0_1] 31 (0,0)) (by(with_reducible repeat(first|refine Zo ?_ _|refine Zr ?_|refine Zn ?_ _));exact BK84001.out) hg (Kd.R_ne HO_5.out BK84001.out (by decide)));replace BK84002:=Za (Z0 (g:=gb84002) (o:=.cells #[.int .i64 0,.slice none 0 0] 78 (0,0)) (by(with_reducible repeat(first|refine Zo ?_ _|refine Zr ?_|refine Zn ?_ _));exact BK84002.out) hg (Kd.R_ne HO_5.out BK84002.out (by decide)));replace BK84003:=Za (Z0 (g:=gb84003) (o:=.cells #[.int .i64 a0_0,u84004001] 78 (0,0)) (by(with_reducible repeat(first|refine Zo ?_ _|refine Zr ?_|refine Zn ?_ _));exact BK84003.out) hg (Kd.R_ne HO_5.out BK84003.out (by decide)));replace BK84005:=Za (Z0 (g:=gb84005) (o:=.cells #[.int .i64 ((ZA l0_1 x14_1).f0),.int .i64 ((ZA l0_1 x14_1).f1),.int .i64 ((ZA l0_1 x14_1).f2.f0),.int .i64 ((ZA l0_1 x14_1).f2.f1)] 84 (0,0)) (by(with_reducible repeat(first|refine Zo ?_ _|refine Zr ?_|refine Zn ?_ _));exact BK84005.out) hg (Kd.R_ne HO_5.out BK84005.out (by decide)));replace HO84014:=Za (Kd.R_over' (by(with_reducible repeat(first|apply Kd.R_alloc|apply Kd.R_drewN|apply Kd.R_drew));exact HO84014.out) (Kd.R_typed (by(with_reducible repeat(first|apply Kd.R_alloc|apply Kd.R_drewN|apply Kd.R_drew));exact HO_5.out)) (by decide) hg);replace HB:=Za (hb);clear HO_5;clear ho hb hg hat;obtain⟨Ao63,co63,eo63⟩:=Kd.R_slice HO84014.out;subst eo63;have hcz64_0:w62.cell? ⟨gb84003,0,none⟩=some (.int .i64 a0_0):=(Zv BK84003.out 0).trans rfl;have hcz64_1:w62.cell? ⟨gb84003,1,none⟩=some (u84004001):=(Zv BK84003.out 1).trans rfl;have hfz64_0:=Zu BK84003.out 0;have hfz64_1:=Zu BK84003.out 1;have hcz65_0:w62.cell? ⟨gb84005,0,none⟩=some (.int .i64 ((ZA l0_1 x14_1).f0)):=(Zv BK84005.out 0).trans rfl;have hcz65_1:w62.cell? ⟨gb84005,1,none⟩=some (.int .i64 ((ZA l0_1 x14_1).f1)):=(Zv BK84005.out 1).trans rfl;have hcz65_2:w62.cell? ⟨gb84005,2,none⟩=some (.int .i64 ((ZA l0_1 x14_1).f2.f0)):=(Zv BK84005.out 2).trans rfl;have hcz65_3:w62.cell? ⟨gb84005,3,none⟩=some (.int .i64 ((ZA l0_1 x14_1).f2.f1)):=(Zv BK84005.out 3).trans rfl;have hfz65_0:=Zu BK84005.out 0;have hfz65_1:=Zu BK84005.out 1;have hfz65_2:=Zu BK84005.out 2;have hfz65_3:=Zu BK84005.out 3)|((with_reducible refine ZaG (b:=.append) (xs:=#[.tmp 45,.tmp 55]) rfl ?_);at_builtin;refine Kd.R_append k123 (w0:=w) w.heap.size rfl (.tmp 45) (.tmp 55) 76 123 (.agg #[(.int .i64 0),(.int .i64 0),(.int .i64 0)]) 24 rfl Try.underlying76 ZcV rfl (by decide) (by omega) (.slice Ao63 y84012.length co63) y84012 (⟨(ZA l0_1 x14_1).f1,(ZA l0_1 x14_1).f0,wrap64 (-((ZA l0_1 x14_1).f2.f0))⟩:S123) [.int .i64 ((ZA l0_1 x14_1).f1),.int .i64 ((ZA l0_1 x14_1).f0),.int .i64 (wrap64 (-((ZA l0_1 x14_1).f2.f0)))] (fun _=>True) (fun _=>False) rfl (by first|(go_simp;done)|(go_simp;rfl)) ?aP (fun _ hk=>hk.elim) ?aF ?aO ?aB ?aS ?aL ?_;(case aP=>exact Zcs _ _ _ (⟨(ZA l0_1 x14_1).f1,(ZA l0_1 x14_1).f0,wrap64 (-((ZA l0_1 x14_1).f2.f0))⟩:S123));(case aB=>exact(by repeat(first|(with_reducible first|exact HB.out|apply Zq|apply Zm|apply Zs|refine Zp ?_ GE84001.out|refine Zp ?_ GE84002.out|refine Zp ?_ GE84003.out|refine Zp ?_ GE84005.out)|exact HB.out)));(case aF=>exact(fun _ _=>trivial));(case aO=>exact(by(with_reducible repeat(first|apply Kd.R_alloc|apply Kd.R_drewN|apply Kd.R_drew));exact Kd.R_mono (Kd.R_far (p:=⟨gb84003,1,none⟩) (Kd.R_types HO84014.out BK84003.out (by decide)) (fun _ hk=>hk.2) (.slice Ao63 y84012.length co63)) (fun _ hk=>trivial)));(case aS=>exact(Zw (by repeat(first|(with_reducible first|exact HB.out|apply Zq|apply Zm|apply Zs|refine Zp ?_ GE84001.out|refine Zp ?_ GE84002.out|refine Zp ?_ GE84003.out|refine Zp ?_ GE84005.out)|exact HB.out))));(case aL=>have:=LMc51.out;omega);intro v84019 w66 ho hb hg hat;rw[← Ny84018.out] at ho;have HO84020:=Za (ho);replace BK84001:=Za (Z0 (g:=gb84001) (o:=.cells #[.int .i64 a0_0,.slice (some ad84004) l0_1.length c0_1] 31 (0,0)) (by(with_reducible repeat(first|refine Zo ?_ _|refine Zr ?_|refine Zn ?_ _));refine ZD ?_ NB84001_84003.out _;(with_reducible repeat(first|refine Zo ?_ _|refine Zr ?_|refine Zn ?_ _));exact BK84001.out) hg (Kd.R_ne HO84014.out BK84001.out (by decide)));replace BK84002:=Za (Z0 (g:=gb84002) (o:=.cells #[.int .i64 0,.slice none 0 0] 78 (0,0)) (by(with_reducible repeat(first|refine Zo ?_ _|refine Zr ?_|refine Zn ?_ _));refine ZD ?_ NB84002_84003.out _;(with_reducible repeat(first|refine Zo ?_ _|refine Zr ?_|refine Zn ?_ _));exact BK84002.out) hg (Kd.R_ne HO84014.out BK84002.out (by decide)));replace BK84005:=Za (Z0 (g:=gb84005) (o:=.cells #[.int .i64 ((ZA l0_1 x14_1).f0),.int .i64 ((ZA l0_1 x14_1).f1),.int .i64 ((ZA l0_1 x14_1).f2.f0),.int .i64 ((ZA l0_1 x14_1).f2.f1)] 84 (0,0)) (by(with_reducible repeat(first|refine Zo ?_ _|refine Zr ?_|refine Zn ?_ _));refine ZD ?_ NB84005_84003.out _;(with_reducible repeat(first|refine Zo ?_ _|refine Zr ?_|refine Zn ?_ _));exact BK84005.out) hg (Kd.R_ne HO84014.out BK84005.out (by decide)));replace HO84017:=Za (Kd.R_over' (by(with_reducible repeat(first|apply Kd.R_alloc|apply Kd.R_drewN|apply Kd.R_drew));exact(Kd.R_mono (Kd.R_far (p:=⟨gb84003,1,none⟩) (Kd.R_types HO84017.out BK84003.out (by decide)) (fun _ hk=>hk.2) (.slice Ao63 y84012.length co63)) (fun _ h_=>h_.1))) (Kd.R_typed (by(with_reducible repeat(first|apply Kd.R_alloc|apply Kd.R_drewN|apply Kd.R_drew));exact(Kd.R_mono (Kd.R_far (p:=⟨gb84003,1,none⟩) (Kd.R_types HO84014.out BK84003.out (by decide)) (fun _ hk=>hk.2) (.slice Ao63 y84012.length co63)) (fun _ h_=>h_.1)))) (by decide) hg);replace BK84003:=Za (Z0 (g:=gb84003) (o:=.cells #[.int .i64 a0_0,.slice Ao63 y84012.length co63] 78 (0,0)) (by(with_reducible repeat(first|refine Zo ?_ _|refine Zr ?_|refine Zn ?_ _));refine ZL (cs:=#[.int .i64 a0_0,u84004001]) ?_ 1 _ rfl;(with_reducible repeat(first|refine Zo ?_ _|refine Zr ?_|refine Zn ?_ _));exact BK84003.out) hg (Kd.R_ne HO84014.out BK84003.out (by decide)));replace HB:=Za (hb);clear HO84014;clear ho hb hg hat)|((with_reducible refine ZaG (b:=.append) (xs:=#[.tmp 57,.tmp 59]) rfl ?_);at_builtin;refine Kd.R_append (Kd.int .i64) (w0:=w) w.heap.size rfl (.tmp 57) (.tmp 59) 22 3 (.int .i64 0) 8 rfl Try.underlying22 Zbg rfl (by decide) (by omega) v84016 y84015 x14_1 [.int .i64 x14_1] (fun _=>True) (fun _=>False) rfl rfl ?aP (fun _ hk=>hk.elim) ?aF ?aO ?aB ?aS ?aL ?_;(case aP=>exact rfl);(case aB=>exact(by repeat(first|(with_reducible first|exact HB.out|apply Zq|apply Zm|apply Zs|refine Zp ?_ GE84001.out|refine Zp ?_ GE84002.out|refine Zp ?_ GE84003.out|refine Zp ?_ GE84005.out)|exact HB.out)));(case aF=>exact(fun _ _=>trivial));(case aO=>exact(by(with_reducible repeat(first|apply Kd.R_alloc|apply Kd.R_drewN|apply Kd.R_drew));exact HO84017.out));(case aS=>exact(Zw (by repeat(first|(with_reducible first|exact HB.out|apply Zq|apply Zm|apply Zs|refine Zp ?_ GE84001.out|refine Zp ?_ GE84002.out|refine Zp ?_ GE84003.out|refine Zp ?_ GE84005.out)|exact HB.out))));(case aL=>have:=LMc52.out;omega);intro v84022 w67 ho hb hg hat;rw[← Ny84021.out] at ho;have HO84023:=Za (ho);replace BK84001:=Za (Z0 (g:=gb84001) (o:=.cells #[.int .i64 a0_0,.slice (some ad84004) l0_1.length c0_1] 31 (0,0)) (by(with_reducible repeat(first|refine Zo ?_ _|refine Zr ?_|refine Zn ?_ _));exact BK84001.out) hg (Kd.R_ne HO84017.out BK84001.out (by decide)));replace BK84002:=Za (Z0 (g:=gb84002) (o:=.cells #[.int .i64 0,.slice none 0 0] 78 (0,0)) (by(with_reducible repeat(first|refine Zo ?_ _|refine Zr ?_|refine Zn ?_ _));exact BK84002.out) hg (Kd.R_ne HO84017.out BK84002.out (by decide)));replace BK84003:=Za (Z0 (g:=gb84003) (o:=.cells #[.int .i64 a0_0,.slice Ao63 y84012.length co63] 78 (0,0)) (by(with_reducible repeat(first|refine Zo ?_ _|refine Zr ?_|refine Zn ?_ _));exact BK84003.out) hg (Kd.R_ne HO84017.out BK84003.out (by decide)));replace BK84005:=Za (Z0 (g:=gb84005) (o:=.cells #[.int .i64 ((ZA l0_1 x14_1).f0),.int .i64 ((ZA l0_1 x14_1).f1),.int .i64 ((ZA l0_1 x14_1).f2.f0),.int .i64 ((ZA l0_1 x14_1).f2.f1)] 84 (0,0)) (by(with_reducible repeat(first|refine Zo ?_ _|refine Zr ?_|refine Zn ?_ _));exact BK84005.out) hg (Kd.R_ne HO84017.out BK84005.out (by decide)));replace HO84020:=Za (Kd.R_over' (by(with_reducible repeat(first|apply Kd.R_alloc|apply Kd.R_drewN|apply Kd.R_drew));exact HO84020.out) (Kd.R_typed (by(with_reducible repeat(first|apply Kd.R_alloc|apply Kd.R_drewN|apply Kd.R_drew));exact HO84017.out)) (by decide) hg);replace HB:=Za (hb);clear HO84017;clear ho hb hg hat;obtain⟨Ao68,co68,eo68⟩:=Kd.R_slice HO84020.out;subst eo68;have hcz69_0:w67.cell? ⟨gb84003,0,none⟩=some (.int .i64 a0_0):=(Zv BK84003.out 0).trans rfl;have hcz69_1:w67.cell? ⟨gb84003,1,none⟩=some (.slice Ao63 y84012.length co63):=(Zv BK84003.out 1).trans rfl;have hfz69_0:=Zu BK84003.out 0;have hfz69_1:=Zu BK84003.out 1))
            go_roundg k1
            case measure=>have:=HK1.out;omega
            case rel=>exact⟨(y84021),(wrap64 (x14_1+1)),(y84018),(.slice Ao68 y84018.length co68),(by first|rfl|(simp;done)|(simp[*];done)),H',⟨by have:=HK1.out;omega⟩,⟨by(with_reducible repeat(first|apply Kd.R_alloc|apply Kd.R_drewN|apply Kd.R_drew));exact Kd.R_mono (Kd.R_far (p:=⟨gb84003,1,none⟩) (Kd.R_types HO84023.out BK84003.out (by decide)) (fun _ hk=>hk.2) (.slice Ao68 y84018.length co68)) (fun _ hk=>trivial)⟩,⟨by(with_reducible repeat(first|apply Kd.R_alloc|apply Kd.R_drewN|apply Kd.R_drew));exact Kd.R_mono (Kd.R_far (p:=⟨gb84003,1,none⟩) (Kd.R_types HO84020.out BK84003.out (by decide)) (fun _ hk=>hk.2) (.slice Ao68 y84018.length co68)) (fun _ hk=>trivial)⟩,⟨by(with_reducible repeat(first|refine Zo ?_ _|refine Zr ?_|refine Zn ?_ _));refine ZD ?_ NB84001_84003.out _;(with_reducible repeat(first|refine Zo ?_ _|refine Zr ?_|refine Zn ?_ _));exact BK84001.out⟩,⟨by(with_reducible repeat(first|refine Zo ?_ _|refine Zr ?_|refine Zn ?_ _));refine ZD ?_ NB84002_84003.out _;(with_reducible repeat(first|refine Zo ?_ _|refine Zr ?_|refine Zn ?_ _));exact BK84002.out⟩,⟨by(with_reducible repeat(first|refine Zo ?_ _|refine Zr ?_|refine Zn ?_ _));refine ZL (cs:=#[.int .i64 a0_0,.slice Ao63 y84012.length co63]) ?_ 1 _ rfl;(with_reducible repeat(first|refine Zo ?_ _|refine Zr ?_|refine Zn ?_ _));exact BK84003.out⟩,⟨by repeat(first|(with_reducible first|exact HB.out|apply Zq|apply Zm|apply Zs|refine Zp ?_ GE84001.out|refine Zp ?_ GE84002.out|refine Zp ?_ GE84003.out|refine Zp ?_ GE84005.out)|exact HB.out)⟩⟩
           ·rw[if_neg c52] at H
            exact absurd H (by simp)
          ·rw[if_neg c51] at H
           exact absurd H (by simp)
        ·rw[if_neg c36] at H
         exact absurd H (by simp)
       ·rw[if_neg c35] at H
        exact absurd H (by simp)
     ·rw[if_neg c13] at H
      exact absurd H (by simp)
    ·rw[if_neg c12] at H
     exact absurd H (by simp)
   ·rw[if_neg c11] at H
    have c11b0:decide (x14_1<(l0_1.length:Int))=false:=Zf c11
    clear c11
    simp only[Option.some.injEq,Prod.mk.injEq] at H
    obtain⟨rfl,rfl,rfl⟩:=H
    have hnb70:=NB84003_84001.out
    have hnc70:=NB84001_84003.out
    have hnb71:=NB84003_84002.out
    have hnc71:=NB84002_84003.out
    have hcz72_0:wr.cell? ⟨gb84003,0,none⟩=some (.int .i64 a0_0):=(Zv BK84003.out 0).trans rfl
    have hcz72_1:wr.cell? ⟨gb84003,1,none⟩=some (u84004001):=(Zv BK84003.out 1).trans rfl
    have hfz72_0:=Zu BK84003.out 0
    have hfz72_1:=Zu BK84003.out 1
    have hnb73:=NB84002_84001.out
    have hnc73:=NB84001_84002.out
    have hcz74_0:wr.cell? ⟨gb84002,0,none⟩=some (.int .i64 0):=(Zv BK84002.out 0).trans rfl
    have hcz74_1:wr.cell? ⟨gb84002,1,none⟩=some (.slice none 0 0):=(Zv BK84002.out 1).trans rfl
    have hfz74_0:=Zu BK84002.out 0
    have hfz74_1:=Zu BK84002.out 1
    obtain⟨Ao75,co75,eo75⟩:=Kd.R_slice HO_84004001.out
    subst eo75
    go_wp2
    refine bodyPost_ret (Zay rfl _ _ gb84002 78 #[.int .i64 a0_0,.slice Ao75 x84004001_1.length co75] (0,0) _ rfl (by(with_reducible repeat(first|refine Zo ?_ _|refine Zr ?_|refine Zn ?_ _));refine ZL (cs:=#[.int .i64 a0_0,.slice none 0 0]) ?_ 1 _ rfl;(with_reducible repeat(first|refine Zo ?_ _|refine Zr ?_|refine Zn ?_ _));refine ZL (cs:=#[.int .i64 0,.slice none 0 0]) ?_ 0 _ rfl;(with_reducible repeat(first|refine Zo ?_ _|refine Zr ?_|refine Zn ?_ _));exact BK84002.out) Try.underlying78 rfl (by kernel_rfl)) rfl ?_
    exact⟨_,_,by first|rfl|(simp[ZC,ZB] <;> rfl)|(simp[*,ZC,ZB] <;> rfl),by(with_reducible repeat(first|apply Kd.R_alloc|apply Kd.R_drewN|apply Kd.R_drew));exact Kd.R_mono (Kd.R_far (p:=⟨gb84002,1,none⟩) (Kd.R_far (p:=⟨gb84002,0,none⟩) (Kd.R_types HO_84004001.out BK84002.out (by decide)) (fun _ hk=>hk.2) (.int .i64 a0_0)) (fun _ hk=>hk.2) (.slice Ao75 x84004001_1.length co75)) (fun _ hk=>trivial),by(with_reducible repeat(first|apply Kd.R_alloc|apply Kd.R_drewN|apply Kd.R_drew));exact Kd.R_mono (Kd.R_far (p:=⟨gb84002,1,none⟩) (Kd.R_far (p:=⟨gb84002,0,none⟩) (Kd.R_types HO_5.out BK84002.out (by decide)) (fun _ hk=>hk.2) (.int .i64 a0_0)) (fun _ hk=>hk.2) (.slice Ao75 x84004001_1.length co75)) (fun _ hk=>trivial),by repeat(first|(with_reducible first|exact HB.out|apply Zq|apply Zm|apply Zs|refine Zp ?_ GE84001.out|refine Zp ?_ GE84002.out|refine Zp ?_ GE84003.out)|exact HB.out)⟩
def ZaP.f (k:Nat) (a0_0:Int) (l0_1:List (S84)):Option (Int×(List (S123))):=(Z8.f a0_0 l0_1).bind fun t47003=>(if t47003=true then((Z5.f k a0_0 l0_1).bind fun bt47004=>(some (bt47004.1,bt47004.2.1))) else(some (0,([]:List (S123)))))
set_option maxHeartbeats 8000000 in
set_option maxRecDepth 100000 in
theorem ZaP.calls (k:Nat) (a0_0:Int) (A0_1:Option Addr) (c0_1:Nat) (l0_1:List (S84)) (r1:Int) (r2:List (S123)) (w:World) (hr0_1:Kd.C k84 w A0_1 l0_1.length l0_1) (hc0_1:l0_1.length≤c0_1) (h:ZaP.f k a0_0 l0_1=some (r1,r2)) :
  Calls Try.prog 47 #[.agg #[.int .i64 a0_0,.slice A0_1 l0_1.length c0_1]] w fun e w'=>∃v1_:Value,e=.returned (.agg #[.int .i64 r1,v1_])∧Kd.R k123 123 w' w.heap.size (fun _=>True) v1_ r2∧Below w.heap.size w w':=by
 have hu31:=Try.underlying31
 have hu78:=Try.underlying78
 have HR0_1:=Za hr0_1;have HC0_1:=Za hc0_1;clear hr0_1 hc0_1
 have HB:=Za (Below.refl w.heap.size w)
 have H:((Z8.f a0_0 l0_1).bind fun t47003=>(if t47003=true then((Z5.f k a0_0 l0_1).bind fun bt47004=>(some (bt47004.1,bt47004.2.1))) else(some (0,([]:List (S123))))))=some (r1,r2):=h
 clear h
 replace H:=Zh H
 obtain⟨t47003,A20,H⟩:=H
 replace H:(if t47003=true then((Z5.f k a0_0 l0_1).bind fun bt47004=>(some (bt47004.1,bt47004.2.1))) else(some (0,([]:List (S123)))))=some (r1,r2):=H
 have A2:=Za A20;clear A20
 by_cases c3:t47003=true
 ·subst c3
  have H1:((Z5.f k a0_0 l0_1).bind fun bt47004=>(some (bt47004.1,bt47004.2.1)))=some (r1,r2):=by rw[if_pos rfl] at H;exact H
  clear H
  have H:=H1
  clear H1
  replace H:=Zh H
  obtain⟨⟨t47004,t47005,t47008⟩,A40,H⟩:=H
  replace H:(some (t47004,t47005))=some (r1,r2):=H
  have A4:=Za A40;clear A40
  simp only[Option.some.injEq,Prod.mk.injEq] at H
  obtain⟨rfl,rfl⟩:=H
  go_enter Try.func47,Try.ntmps47
  go_wp2_with (first|((with_reducible refine ZM (N:=1) rfl ?_);refine ZK ?hg (N:=1) ?hd (cs:=#[.int .i64 a0_0,.slice A0_1 l0_1.length c0_1]) (t:=31) ?hr ?_;(case hd=>rfl);(case hg=>rfl);(case hr=>first|(go_simp;done)|(go_simp;rfl));intro gb47001 hg w5 hbox hb;have BK47001:=Za (hbox);have GW47001:=Za ((by rw[hg];exact(Zw (by repeat(first|(with_reducible first|exact HB.out|apply Zq|apply Zm|apply Zs)|exact HB.out))):w.heap.size≤gb47001));have GE47001:=Za ((by rw[hg];exact(Zw (by repeat(first|(with_reducible first|exact HB.out|apply Zq|apply Zm|apply Zs)|exact HB.out))):w.heap.size≤gb47001));replace HB:=Za (Zx (by repeat(first|(with_reducible first|exact HB.out|apply Zq|apply Zm|apply Zs)|exact HB.out)) hb);clear hb hbox hg)|((with_reducible refine ZM (N:=2) rfl ?_);refine ZK ?hg (N:=2) ?hd (cs:=#[.int .i64 0,.slice none 0 0]) (t:=78) ?hr ?_;(case hd=>rfl);(case hg=>rfl);(case hr=>first|(go_simp;done)|(go_simp;rfl));intro gb47002 hg w6 hbox hb;have BK47002:=Za (hbox);have GW47002:=Za ((by rw[hg];exact(Zw (by repeat(first|(with_reducible first|exact HB.out|apply Zq|apply Zm|apply Zs|refine Zp ?_ GE47001.out)|exact HB.out))):w.heap.size≤gb47002));have GE47002:=Za ((by rw[hg];exact(Zw (by repeat(first|(with_reducible first|exact HB.out|apply Zq|apply Zm|apply Zs|refine Zp ?_ GE47001.out)|exact HB.out))):w.heap.size≤gb47002));have NB47001_47002:=Za ((by rw[hg];exact Nat.ne_of_lt (ZH (g:=gb47001) (o:=.cells #[.int .i64 a0_0,.slice A0_1 l0_1.length c0_1] 31 (0,0)) (by(with_reducible repeat(first|refine Zo ?_ _|refine Zr ?_|refine Zn ?_ _));exact BK47001.out)):gb47001≠gb47002));have NB47002_47001:=Za ((by rw[hg];exact Nat.ne_of_gt (ZH (g:=gb47001) (o:=.cells #[.int .i64 a0_0,.slice A0_1 l0_1.length c0_1] 31 (0,0)) (by(with_reducible repeat(first|refine Zo ?_ _|refine Zr ?_|refine Zn ?_ _));exact BK47001.out)):gb47002≠gb47001));replace BK47001:=Za (Zy (g:=gb47001) (o:=.cells #[.int .i64 a0_0,.slice A0_1 l0_1.length c0_1] 31 (0,0)) (by(with_reducible repeat(first|refine Zo ?_ _|refine Zr ?_|refine Zn ?_ _));exact BK47001.out) hb);replace HB:=Za (Zx (by repeat(first|(with_reducible first|exact HB.out|apply Zq|apply Zm|apply Zs|refine Zp ?_ GE47001.out)|exact HB.out)) hb);clear hb hbox hg;have hnb7:=NB47001_47002.out;have hnc7:=NB47002_47001.out;have hcz8_0:w6.cell? ⟨gb47001,0,none⟩=some (.int .i64 a0_0):=(Zv BK47001.out 0).trans rfl;have hcz8_1:w6.cell? ⟨gb47001,1,none⟩=some (.slice A0_1 l0_1.length c0_1):=(Zv BK47001.out 1).trans rfl;have hfz8_0:=Zu BK47001.out 0;have hfz8_1:=Zu BK47001.out 1)|((with_reducible refine ZF (f:=17) rfl ?_);refine ZY (some 6) rfl rfl Try.func17 (by kernel_rfl) rfl #[.agg #[.int .i64 a0_0,.slice A0_1 l0_1.length c0_1]] rfl (by(try simp only[List.map_toArray,List.map_cons,List.map_nil]);first|done|rfl|(simp only[Zk,Zj];rfl)) ?_;(with_reducible refine(Z8.calls a0_0 _ _ l0_1 true _ ?side1 ?side2 A2.out).mono ?_);(case side1=>repeat(first|exact(Zb HR0_1.out HB.out)|(with_reducible refine Kd.C_alloc ?_ _)|(with_reducible refine Kd.C_drewN ?_ _)|(with_reducible refine Kd.C_drew ?_)));(case side2=>exact HC0_1.out);rintro e w9 ⟨rfl,hb⟩;refine⟨_,rfl,?_⟩;replace BK47001:=Za (Zy (g:=gb47001) (o:=.cells #[.int .i64 a0_0,.slice A0_1 l0_1.length c0_1] 31 (0,0)) (by(with_reducible repeat(first|refine Zo ?_ _|refine Zr ?_|refine Zn ?_ _));exact BK47001.out) hb);replace BK47002:=Za (Zy (g:=gb47002) (o:=.cells #[.int .i64 0,.slice none 0 0] 78 (0,0)) (by(with_reducible repeat(first|refine Zo ?_ _|refine Zr ?_|refine Zn ?_ _));exact BK47002.out) hb);replace HB:=Za (Zx (by repeat(first|(with_reducible first|exact HB.out|apply Zq|apply Zm|apply Zs|refine Zp ?_ GE47001.out|refine Zp ?_ GE47002.out)|exact HB.out)) hb);(try clear hb);(try clear hb2);(try clear hk);(try clear hi);have hcz10_0:w9.cell? ⟨gb47001,0,none⟩=some (.int .i64 a0_0):=(Zv BK47001.out 0).trans rfl;have hcz10_1:w9.cell? ⟨gb47001,1,none⟩=some (.slice A0_1 l0_1.length c0_1):=(Zv BK47001.out 1).trans rfl;have hfz10_0:=Zu BK47001.out 0;have hfz10_1:=Zu BK47001.out 1)|((with_reducible refine ZF (f:=84) rfl ?_);refine ZY (some 11) rfl rfl Try.func84 (by kernel_rfl) rfl #[.agg #[.int .i64 a0_0,.slice A0_1 l0_1.length c0_1]] rfl (by(try simp only[List.map_toArray,List.map_cons,List.map_nil]);first|done|rfl|(simp only[Zk,Zj];rfl)) ?_;(with_reducible refine(Z5.calls k a0_0 _ _ l0_1 t47004 t47005 t47008 _ ?side1 ?side2 A4.out).mono ?_);(case side1=>repeat(first|exact(Zb HR0_1.out HB.out)|(with_reducible refine Kd.C_alloc ?_ _)|(with_reducible refine Kd.C_drewN ?_ _)|(with_reducible refine Kd.C_drew ?_)));(case side2=>exact HC0_1.out);rintro e w11 ⟨v47006,v47009,rfl,ho0,ho1,hb⟩;refine⟨_,rfl,?_⟩;have HO47007:=Za (Kd.R_lower ho0 (Zw (by repeat(first|(with_reducible first|exact HB.out|apply Zq|apply Zm|apply Zs|refine Zp ?_ GE47001.out|refine Zp ?_ GE47002.out)|exact HB.out))));have HO47010:=Za (Kd.R_lower ho1 (Zw (by repeat(first|(with_reducible first|exact HB.out|apply Zq|apply Zm|apply Zs|refine Zp ?_ GE47001.out|refine Zp ?_ GE47002.out)|exact HB.out))));replace BK47001:=Za (Zy (g:=gb47001) (o:=.cells #[.int .i64 a0_0,.slice A0_1 l0_1.length c0_1] 31 (0,0)) (by(with_reducible repeat(first|refine Zo ?_ _|refine Zr ?_|refine Zn ?_ _));exact BK47001.out) hb);replace BK47002:=Za (Zy (g:=gb47002) (o:=.cells #[.int .i64 0,.slice none 0 0] 78 (0,0)) (by(with_reducible repeat(first|refine Zo ?_ _|refine Zr ?_|refine Zn ?_ _));exact BK47002.out) hb);replace HB:=Za (Zx (by repeat(first|(with_reducible first|exact HB.out|apply Zq|apply Zm|apply Zs|refine Zp ?_ GE47001.out|refine Zp ?_ GE47002.out)|exact HB.out)) hb);(try clear hb);(try clear hb2);(try clear hk);(try clear hi);(try clear ho0);(try clear ho1))|((with_reducible refine ZM (N:=3) rfl ?_);refine ZK ?hg (N:=3) ?hd (cs:=#[.int .i64 0,.slice none 0 0]) (t:=78) ?hr ?_;(case hd=>rfl);(case hg=>rfl);(case hr=>first|(go_simp;done)|(go_simp;rfl));intro gb47011 hg w12 hbox hb;have BK47011:=Za (hbox);have GW47011:=Za ((by rw[hg];exact(Zw (by repeat(first|(with_reducible first|exact HB.out|apply Zq|apply Zm|apply Zs|refine Zp ?_ GE47001.out|refine Zp ?_ GE47002.out)|exact HB.out))):w.heap.size≤gb47011));have GE47011:=Za ((by rw[hg];exact(Zw (by repeat(first|(with_reducible first|exact HB.out|apply Zq|apply Zm|apply Zs|refine Zp ?_ GE47001.out|refine Zp ?_ GE47002.out)|exact HB.out))):w.heap.size≤gb47011));have NB47001_47011:=Za ((by rw[hg];exact Nat.ne_of_lt (ZH (g:=gb47001) (o:=.cells #[.int .i64 a0_0,.slice A0_1 l0_1.length c0_1] 31 (0,0)) (by(with_reducible repeat(first|refine Zo ?_ _|refine Zr ?_|refine Zn ?_ _));exact BK47001.out)):gb47001≠gb47011));have NB47011_47001:=Za ((by rw[hg];exact Nat.ne_of_gt (ZH (g:=gb47001) (o:=.cells #[.int .i64 a0_0,.slice A0_1 l0_1.length c0_1] 31 (0,0)) (by(with_reducible repeat(first|refine Zo ?_ _|refine Zr ?_|refine Zn ?_ _));exact BK47001.out)):gb47011≠gb47001));have NB47002_47011:=Za ((by rw[hg];exact Nat.ne_of_lt (ZH (g:=gb47002) (o:=.cells #[.int .i64 0,.slice none 0 0] 78 (0,0)) (by(with_reducible repeat(first|refine Zo ?_ _|refine Zr ?_|refine Zn ?_ _));exact BK47002.out)):gb47002≠gb47011));have NB47011_47002:=Za ((by rw[hg];exact Nat.ne_of_gt (ZH (g:=gb47002) (o:=.cells #[.int .i64 0,.slice none 0 0] 78 (0,0)) (by(with_reducible repeat(first|refine Zo ?_ _|refine Zr ?_|refine Zn ?_ _));exact BK47002.out)):gb47011≠gb47002));replace HO47007:=Za (Kd.R_below (by(with_reducible repeat(first|apply Kd.R_alloc|apply Kd.R_drewN|apply Kd.R_drew));exact HO47007.out) hb);replace HO47010:=Za (Kd.R_below (by(with_reducible repeat(first|apply Kd.R_alloc|apply Kd.R_drewN|apply Kd.R_drew));exact HO47010.out) hb);replace BK47001:=Za (Zy (g:=gb47001) (o:=.cells #[.int .i64 a0_0,.slice A0_1 l0_1.length c0_1] 31 (0,0)) (by(with_reducible repeat(first|refine Zo ?_ _|refine Zr ?_|refine Zn ?_ _));exact BK47001.out) hb);replace BK47002:=Za (Zy (g:=gb47002) (o:=.cells #[.int .i64 0,.slice none 0 0] 78 (0,0)) (by(with_reducible repeat(first|refine Zo ?_ _|refine Zr ?_|refine Zn ?_ _));exact BK47002.out) hb);replace HB:=Za (Zx (by repeat(first|(with_reducible first|exact HB.out|apply Zq|apply Zm|apply Zs|refine Zp ?_ GE47001.out|refine Zp ?_ GE47002.out)|exact HB.out)) hb);clear hb hbox hg;have hnb13:=NB47011_47001.out;have hnc13:=NB47001_47011.out;have hnb14:=NB47011_47002.out;have hnc14:=NB47002_47011.out;have hcz15_0:w12.cell? ⟨gb47011,0,none⟩=some (.int .i64 0):=(Zv BK47011.out 0).trans rfl;have hcz15_1:w12.cell? ⟨gb47011,1,none⟩=some (.slice none 0 0):=(Zv BK47011.out 1).trans rfl;have hfz15_0:=Zu BK47011.out 0;have hfz15_1:=Zu BK47011.out 1;obtain⟨Ao16,co16,eo16⟩:=Kd.R_slice HO47007.out;subst eo16;have hcz17_0:w12.cell? ⟨gb47002,0,none⟩=some (.int .i64 0):=(Zv BK47002.out 0).trans rfl;have hcz17_1:w12.cell? ⟨gb47002,1,none⟩=some (.slice none 0 0):=(Zv BK47002.out 1).trans rfl;have hfz17_0:=Zu BK47002.out 0;have hfz17_1:=Zu BK47002.out 1))
  refine bodyPost_ret (results_cell_row rfl _ _ gb47002 78 #[.int .i64 t47004,.slice Ao16 t47005.length co16] (0,0) _ rfl (by(with_reducible repeat(first|refine Zo ?_ _|refine Zr ?_|refine Zn ?_ _));refine ZL (cs:=#[.int .i64 t47004,.slice none 0 0]) ?_ 1 _ rfl;(with_reducible repeat(first|refine Zo ?_ _|refine Zr ?_|refine Zn ?_ _));refine ZL (cs:=#[.int .i64 0,.slice none 0 0]) ?_ 0 _ rfl;(with_reducible repeat(first|refine Zo ?_ _|refine Zr ?_|refine Zn ?_ _));refine ZD ?_ NB47002_47011.out _;(with_reducible repeat(first|refine Zo ?_ _|refine Zr ?_|refine Zn ?_ _));refine ZD ?_ NB47002_47011.out _;(with_reducible repeat(first|refine Zo ?_ _|refine Zr ?_|refine Zn ?_ _));exact BK47002.out) Try.underlying78 rfl (by kernel_rfl)) rfl ?_
  exact⟨_,by first|rfl|(simp[ZC,ZB] <;> rfl)|(simp[*,ZC,ZB] <;> rfl),by(with_reducible repeat(first|apply Kd.R_alloc|apply Kd.R_drewN|apply Kd.R_drew));exact Kd.R_mono (Kd.R_far (p:=⟨gb47002,1,none⟩) (Kd.R_far (p:=⟨gb47002,0,none⟩) (Kd.R_far (p:=⟨gb47011,1,none⟩) (Kd.R_far (p:=⟨gb47011,0,none⟩) (Kd.R_types (Kd.R_types HO47007.out BK47011.out (by decide)) BK47002.out (by decide)) (fun _ hk=>hk.1.2) (.int .i64 t47004)) (fun _ hk=>hk.1.2) (.slice Ao16 t47005.length co16)) (fun _ hk=>hk.2) (.int .i64 t47004)) (fun _ hk=>hk.2) (.slice Ao16 t47005.length co16)) (fun _ hk=>trivial),by repeat(first|(with_reducible first|exact HB.out|apply Zq|apply Zm|apply Zs|refine Zp ?_ GE47001.out|refine Zp ?_ GE47002.out|refine Zp ?_ GE47011.out)|exact HB.out)⟩
 ·replace c3:=Bool.eq_false_iff.mpr c3
  subst c3
  have H1:(some (0,([]:List (S123))))=some (r1,r2):=by rw[if_neg (show ¬(false=true) by decide)] at H;exact H
  clear H
  have H:=H1
  clear H1
  simp only[Option.some.injEq,Prod.mk.injEq] at H
  obtain⟨rfl,rfl⟩:=H
  go_enter Try.func47,Try.ntmps47
  go_wp2_with (first|((with_reducible refine ZM (N:=1) rfl ?_);refine ZK ?hg (N:=1) ?hd (cs:=#[.int .i64 a0_0,.slice A0_1 l0_1.length c0_1]) (t:=31) ?hr ?_;(case hd=>rfl);(case hg=>rfl);(case hr=>first|(go_simp;done)|(go_simp;rfl));intro gb47001 hg w18 hbox hb;have BK47001:=Za (hbox);have GW47001:=Za ((by rw[hg];exact(Zw (by repeat(first|(with_reducible first|exact HB.out|apply Zq|apply Zm|apply Zs)|exact HB.out))):w.heap.size≤gb47001));have GE47001:=Za ((by rw[hg];exact(Zw (by repeat(first|(with_reducible first|exact HB.out|apply Zq|apply Zm|apply Zs)|exact HB.out))):w.heap.size≤gb47001));replace HB:=Za (Zx (by repeat(first|(with_reducible first|exact HB.out|apply Zq|apply Zm|apply Zs)|exact HB.out)) hb);clear hb hbox hg)|((with_reducible refine ZM (N:=2) rfl ?_);refine ZK ?hg (N:=2) ?hd (cs:=#[.int .i64 0,.slice none 0 0]) (t:=78) ?hr ?_;(case hd=>rfl);(case hg=>rfl);(case hr=>first|(go_simp;done)|(go_simp;rfl));intro gb47002 hg w19 hbox hb;have BK47002:=Za (hbox);have GW47002:=Za ((by rw[hg];exact(Zw (by repeat(first|(with_reducible first|exact HB.out|apply Zq|apply Zm|apply Zs|refine Zp ?_ GE47001.out)|exact HB.out))):w.heap.size≤gb47002));have GE47002:=Za ((by rw[hg];exact(Zw (by repeat(first|(with_reducible first|exact HB.out|apply Zq|apply Zm|apply Zs|refine Zp ?_ GE47001.out)|exact HB.out))):w.heap.size≤gb47002));have NB47001_47002:=Za ((by rw[hg];exact Nat.ne_of_lt (ZH (g:=gb47001) (o:=.cells #[.int .i64 a0_0,.slice A0_1 l0_1.length c0_1] 31 (0,0)) (by(with_reducible repeat(first|refine Zo ?_ _|refine Zr ?_|refine Zn ?_ _));exact BK47001.out)):gb47001≠gb47002));have NB47002_47001:=Za ((by rw[hg];exact Nat.ne_of_gt (ZH (g:=gb47001) (o:=.cells #[.int .i64 a0_0,.slice A0_1 l0_1.length c0_1] 31 (0,0)) (by(with_reducible repeat(first|refine Zo ?_ _|refine Zr ?_|refine Zn ?_ _));exact BK47001.out)):gb47002≠gb47001));replace BK47001:=Za (Zy (g:=gb47001) (o:=.cells #[.int .i64 a0_0,.slice A0_1 l0_1.length c0_1] 31 (0,0)) (by(with_reducible repeat(first|refine Zo ?_ _|refine Zr ?_|refine Zn ?_ _));exact BK47001.out) hb);replace HB:=Za (Zx (by repeat(first|(with_reducible first|exact HB.out|apply Zq|apply Zm|apply Zs|refine Zp ?_ GE47001.out)|exact HB.out)) hb);clear hb hbox hg;have hnb20:=NB47001_47002.out;have hnc20:=NB47002_47001.out;have hcz21_0:w19.cell? ⟨gb47001,0,none⟩=some (.int .i64 a0_0):=(Zv BK47001.out 0).trans rfl;have hcz21_1:w19.cell? ⟨gb47001,1,none⟩=some (.slice A0_1 l0_1.length c0_1):=(Zv BK47001.out 1).trans rfl;have hfz21_0:=Zu BK47001.out 0;have hfz21_1:=Zu BK47001.out 1)|((with_reducible refine ZF (f:=17) rfl ?_);refine ZY (some 6) rfl rfl Try.func17 (by kernel_rfl) rfl #[.agg #[.int .i64 a0_0,.slice A0_1 l0_1.length c0_1]] rfl (by(try simp only[List.map_toArray,List.map_cons,List.map_nil]);first|done|rfl|(simp only[Zk,Zj];rfl)) ?_;(with_reducible refine(Z8.calls a0_0 _ _ l0_1 false _ ?side1 ?side2 A2.out).mono ?_);(case side1=>repeat(first|exact(Zb HR0_1.out HB.out)|(with_reducible refine Kd.C_alloc ?_ _)|(with_reducible refine Kd.C_drewN ?_ _)|(with_reducible refine Kd.C_drew ?_)));(case side2=>exact HC0_1.out);rintro e w22 ⟨rfl,hb⟩;refine⟨_,rfl,?_⟩;replace BK47001:=Za (Zy (g:=gb47001) (o:=.cells #[.int .i64 a0_0,.slice A0_1 l0_1.length c0_1] 31 (0,0)) (by(with_reducible repeat(first|refine Zo ?_ _|refine Zr ?_|refine Zn ?_ _));exact BK47001.out) hb);replace BK47002:=Za (Zy (g:=gb47002) (o:=.cells #[.int .i64 0,.slice none 0 0] 78 (0,0)) (by(with_reducible repeat(first|refine Zo ?_ _|refine Zr ?_|refine Zn ?_ _));exact BK47002.out) hb);replace HB:=Za (Zx (by repeat(first|(with_reducible first|exact HB.out|apply Zq|apply Zm|apply Zs|refine Zp ?_ GE47001.out|refine Zp ?_ GE47002.out)|exact HB.out)) hb);(try clear hb);(try clear hb2);(try clear hk);(try clear hi);have hcz23_0:w22.cell? ⟨gb47002,0,none⟩=some (.int .i64 0):=(Zv BK47002.out 0).trans rfl;have hcz23_1:w22.cell? ⟨gb47002,1,none⟩=some (.slice none 0 0):=(Zv BK47002.out 1).trans rfl;have hfz23_0:=Zu BK47002.out 0;have hfz23_1:=Zu BK47002.out 1))
  refine bodyPost_ret (results_cell_row rfl _ _ gb47002 78 #[.int .i64 0,.slice none 0 0] (0,0) _ rfl (by(with_reducible repeat(first|refine Zo ?_ _|refine Zr ?_|refine Zn ?_ _));refine ZL (cs:=#[.int .i64 0,.slice none 0 0]) ?_ 1 _ rfl;(with_reducible repeat(first|refine Zo ?_ _|refine Zr ?_|refine Zn ?_ _));refine ZL (cs:=#[.int .i64 0,.slice none 0 0]) ?_ 0 _ rfl;(with_reducible repeat(first|refine Zo ?_ _|refine Zr ?_|refine Zn ?_ _));exact BK47002.out) Try.underlying78 rfl (by kernel_rfl)) rfl ?_
  exact⟨_,by first|rfl|(simp[ZC,ZB] <;> rfl)|(simp[*,ZC,ZB] <;> rfl),by first|exact Kd.R_nil _ _ _ _ _|exact Kd.N_nil _ _ _ _ _|exact Kd.V_nil _ _ _ _ _|exact Kd.Q_nil _ _ _ _ _|exact Kd.S_nil _ _ _ _ _,by repeat(first|(with_reducible first|exact HB.out|apply Zq|apply Zm|apply Zs|refine Zp ?_ GE47001.out|refine Zp ?_ GE47002.out)|exact HB.out)⟩
end Go.Proofs.Ythphnhmabieflab.Pr
