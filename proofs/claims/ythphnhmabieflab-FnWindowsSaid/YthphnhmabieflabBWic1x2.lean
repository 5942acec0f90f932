/- The texts of one claim, put together by a program of this session. -/
import Derived.Deep.LoopGhost
import Derived.Shelf.Abstract
import Derived.Test.YthphnhmabieflabBWic1x1
namespace Go.Proofs.Ythphnhmabieflab.Pr
open Go.RowKit Go.Proofs.YthphnhmabieflabW.PrintWords Go.Proofs.YthphnhmabieflabW.PrintLast Go.Proofs.YthphnhmabieflabW.PrintMore
attribute [local go_sem] Zap Zan Zax Zaw Zai Zah Zao Zam
set_option linter.unusedVariables false
set_option linter.unusedSimpArgs false
open Go.Proofs.Ythphnhmabieflab.Ni
def Zac.l0:Nat→List Int→Int→Int→Option (List Int×Int×Int)
 | 0,_,_,_=>none
 | k+1,l,x3,x4=>if x4<(l.length:Int) then(if x4<4000 then(if 0≤x4 then Zac.l0 k l (Go.bits .and .i64 (wrap64 ((wrap64 ((wrap64 (x3 * 71))+(wrap64 (rd l x4))))+7)) 1073741823) (wrap64 (x4+1)) else none) else some (l,0,x3)) else some (l,0,x3)
def Zac.f (k:Nat) (l0:List Int):Option (List Int×Int×Int):=Zac.l0 k l0 (wrap64 (1974+(l0.length:Int))) 0
set_option maxHeartbeats 8000000 in
set_option maxRecDepth 100000 in
theorem Zac.newc (k:Nat) (A0:Option Addr) (c0:Nat) (l0:List Int) (r1:List Int) (r2:Int) (r3:Int) (w0 w:World) (hB:Below w0.heap.size w0 w) (hr0:Kd.C (Kd.int .u8) w0 A0 l0.length l0) (hc0:l0.length≤c0) (h:Zac.f k l0=some (r1,r2,r3)) :
  Calls Try.prog 43 #[.slice A0 l0.length c0] w fun e w'=>∃g_:Nat,e=.returned (.pointer (some ⟨g_,0,none⟩))∧Zs w0 w' g_ r1 r2 r3∧Below w0.heap.size w0 w'∧Below w.heap.size w w'∧w.heap.size≤g_:=by
 have hu:=Try.underlying115
 have HR0:=Za hr0;have HB0:=Za hB
 have H':=Za (show Zac.l0 k l0 (wrap64 (1974+(l0.length:Int))) 0=some (r1,r2,r3) from h)
 clear hr0 hc0 hB h
 go_enter Try.func43,Try.ntmps43
 go_wp2
 go_loopg [3,4] k (fun kq v3 v4 wr=>∃(x3 x4:Int),v3=.int .i64 x3∧v4=.int .i64 x4∧Aside0 (Zac.l0 kq l0 x3 x4=some (r1,r2,r3))∧Aside0 (kq≤k)∧Aside0 (Below w0.heap.size w0 wr)∧Aside0 (Below w.heap.size w wr))
 case atStart=>exact⟨_,_,rfl,rfl,H',⟨Nat.le_refl _⟩,HB0,⟨Below.refl _ _⟩⟩
 case round=>
  clear H'
  obtain⟨x3,x4,rfl,rfl,HA,HK1,HB,HW⟩:=hrel
  cases gk with
  | zero=>exact absurd HA.out (by simp[Zac.l0])
  | succ k1=>
   have H:=HA.out
   clear HA
   simp only[Zac.l0] at H
   by_cases c2:x4<(l0.length:Int)
   ·rw[if_pos c2] at H
    by_cases c3:x4<4000
    ·rw[if_pos c3] at H
     by_cases c4:0≤x4
     ·rw[if_pos c4,show wrap64 (x4+1)=x4+1 from Zaf (by omega) (by omega)] at H
      have H':=Za H
      clear H
      obtain⟨ad,e1,hx⟩:=Kd.at_int HR0.out x4 c4 c2
      cases e1
      replace hx:=Zbf HB.out hx
      go_wp2
      go_roundg k1
      case measure=>have:=HK1.out;omega
      case rel=>exact⟨_,_,rfl,rfl,H',⟨by have:=HK1.out;omega⟩,⟨by repeat(first|exact HB.out|apply Zl|apply Zr)⟩,⟨by repeat(first|exact HW.out|apply Zl|apply Zr)⟩⟩
     ·rw[if_neg c4] at H;exact absurd H (by simp)
    ·rw[if_neg c3] at H
     simp only[Option.some.injEq,Prod.mk.injEq] at H
     obtain⟨rfl,rfl,rfl⟩:=H
     go_wp2
     go_ret
     exact⟨_,rfl,Zs.new w0 _ A0 c0 l0 0 x3 (by repeat(first|exact HB.out|apply Zl|apply Zr)) HR0.out,by repeat(first|exact HB.out|apply Zq|apply Zl|apply Zr),by repeat(first|exact HW.out|apply Zq|apply Zl|apply Zr),HW.out.size⟩
   ·rw[if_neg c2] at H
    simp only[Option.some.injEq,Prod.mk.injEq] at H
    obtain⟨rfl,rfl,rfl⟩:=H
    go_wp2
    go_ret
    exact⟨_,rfl,Zs.new w0 _ A0 c0 l0 0 x3 (by repeat(first|exact HB.out|apply Zl|apply Zr)) HR0.out,by repeat(first|exact HB.out|apply Zq|apply Zl|apply Zr),by repeat(first|exact HW.out|apply Zq|apply Zl|apply Zr),HW.out.size⟩
theorem Zac.calls (k:Nat) (A0:Option Addr) (c0:Nat) (l0:List Int) (r1:List Int) (r2:Int) (r3:Int) (w0 w:World) (hB:Below w0.heap.size w0 w) (hr0:Kd.C (Kd.int .u8) w0 A0 l0.length l0) (hc0:l0.length≤c0) (h:Zac.f k l0=some (r1,r2,r3)) :
  Calls Try.prog 43 #[.slice A0 l0.length c0] w fun e w'=>∃g_:Nat,e=.returned (.pointer (some ⟨g_,0,none⟩))∧Zs w0 w' g_ r1 r2 r3∧Below w0.heap.size w0 w'∧Below w.heap.size w w':=
 (Zac.newc k A0 c0 l0 r1 r2 r3 w0 w hB hr0 hc0 h).mono fun e w' ⟨g,h1,h2,h3,h4,_⟩=>⟨g,h1,h2,h3,h4⟩
end Go.Proofs.Ythphnhmabieflab.Pr
namespace Go.Proofs.Ythphnhmabieflab.Pr
open Go.RowKit Go.Proofs.YthphnhmabieflabW.PrintWords Go.Proofs.YthphnhmabieflabW.PrintLast Go.Proofs.YthphnhmabieflabW.PrintMore
attribute [local go_sem] Zap Zan Zax Zaw Zai Zah Zao Zam
set_option linter.unusedVariables false
set_option linter.unusedSimpArgs false
def ZaM.f (k:Nat) (l0:List Int):Option (Int×(List (S84))):=(Zac.f k l0).bind fun bt13002=>((ZN.f k bt13002.1 bt13002.2.1 bt13002.2.2).bind fun bt13006=>(some (bt13006.1,bt13006.2.1)))
set_option maxHeartbeats 8000000 in
set_option maxRecDepth 100000 in
theorem ZaM.calls (k:Nat) (A0:Option Addr) (c0:Nat) (l0:List Int) (r1:Int) (r2:List (S84)) (w:World) (hr0:Kd.C (Kd.int .u8) w A0 l0.length l0) (hc0:l0.length≤c0) (h:ZaM.f k l0=some (r1,r2)) :
  Calls Try.prog 13 #[.slice A0 l0.length c0] w fun e w'=>∃v1_:Value,e=.returned (.agg #[.int .i64 r1,v1_])∧Kd.R k84 84 w' w.heap.size (fun _=>True) v1_ r2∧Below w.heap.size w w':=by
 have hu31:=Try.underlying31
 have HR0:=Za hr0;have HC0:=Za hc0;clear hr0 hc0
 have HB:=Za (Below.refl w.heap.size w)
 have H:((Zac.f k l0).bind fun bt13002=>((ZN.f k bt13002.1 bt13002.2.1 bt13002.2.2).bind fun bt13006=>(some (bt13006.1,bt13006.2.1))))=some (r1,r2):=h
 clear h
 replace H:=Zg H
 obtain⟨⟨t13002,t13003,t13004⟩,A20,H⟩:=H
 replace H:((ZN.f k t13002 t13003 t13004).bind fun bt13006=>(some (bt13006.1,bt13006.2.1)))=some (r1,r2):=H
 have A2:=Za A20;clear A20
 replace H:=Zg H
 obtain⟨⟨t13006,t13007,t13010,t13011⟩,A30,H⟩:=H
 replace H:(some (t13006,t13007))=some (r1,r2):=H
 have A3:=Za A30;clear A30
 simp only[Option.some.injEq,Prod.mk.injEq] at H
 obtain⟨rfl,rfl⟩:=H
 go_enter Try.func13,Try.ntmps13
 go_wp2_with (first|((with_reducible refine ZP (N:=2) rfl ?_);refine ZM ?hg (N:=2) ?hd (cs:=#[.int .i64 0,.slice none 0 0]) (t:=31) ?hr ?_;(case hd=>rfl);(case hg=>rfl);(case hr=>first|(go_simp;done)|(go_simp;rfl));intro gb13001 hg w4 hbox hb;have BK13001:=Za (hbox);have GW13001:=Za ((by rw[hg];exact(Zv (by repeat(first|(with_reducible first|exact HB.out|apply Zq|apply Zl|apply Zr)|exact HB.out))):w.heap.size≤gb13001));have GE13001:=Za ((by rw[hg];exact(Zv (by repeat(first|(with_reducible first|exact HB.out|apply Zq|apply Zl|apply Zr)|exact HB.out))):w.heap.size≤gb13001));replace HB:=Za (Zw (by repeat(first|(with_reducible first|exact HB.out|apply Zq|apply Zl|apply Zr)|exact HB.out)) hb);clear hb hbox hg)|((with_reducible refine ZO (f:=43) rfl ?_);refine Z6 (some 4) rfl rfl Try.func43 (by kernel_rfl) rfl #[.slice A0 l0.length c0] rfl (by(try simp only[List.map_toArray,List.map_cons,List.map_nil]);first|done|rfl|(simp only[Zj,Zi];rfl)) ?_;(with_reducible refine(Zac.calls k _ _ l0 t13002 t13003 t13004 w _ ?side1 ?side2 ?side3 A2.out).mono ?_);(case side1=>repeat(first|(with_reducible first|exact HB.out|apply Zq|apply Zl|apply Zr|refine Zo ?_ GE13001.out)|exact HB.out));(case side2=>exact HR0.out);(case side3=>exact HC0.out);rintro e w5 ⟨g13005,rfl,hi,hb,hb2⟩;refine⟨_,rfl,?_⟩;have HI13005:=Za (hi);have NB13005_13001:=Za (Zs.ne_blk hi (Zx (g:=gb13001) (o:=.cells #[.int .i64 0,.slice none 0 0] 31 (0,0)) (by(with_reducible repeat(first|refine Zn ?_ _|refine Zp ?_|refine Zm ?_ _));exact BK13001.out) hb2) (by decide));have NB13001_13005:=Za (Ne.symm (Zs.ne_blk hi (Zx (g:=gb13001) (o:=.cells #[.int .i64 0,.slice none 0 0] 31 (0,0)) (by(with_reducible repeat(first|refine Zn ?_ _|refine Zp ?_|refine Zm ?_ _));exact BK13001.out) hb2) (by decide)));replace BK13001:=Za (Zx (g:=gb13001) (o:=.cells #[.int .i64 0,.slice none 0 0] 31 (0,0)) (by(with_reducible repeat(first|refine Zn ?_ _|refine Zp ?_|refine Zm ?_ _));exact BK13001.out) hb2);replace HB:=Za (hb);(try clear hb);(try clear hb2);(try clear hk);(try clear hi))|((with_reducible refine ZO (f:=42) rfl ?_);refine Z6 (some 5) rfl rfl Try.func42 (by kernel_rfl) rfl #[.pointer (some ⟨g13005,0,none⟩)] rfl (by(try simp only[List.map_toArray,List.map_cons,List.map_nil]);first|done|rfl|(simp only[Zj,Zi];rfl)) ?_;(with_reducible refine(ZN.calls k g13005 t13002 t13003 t13004 t13006 t13007 t13010 t13011 w _ ?side1 ?side2 A3.out).mono ?_);(case side1=>repeat(first|(with_reducible first|exact HI13005.out|apply Zs.alloc|apply Zs.drewN|apply Zs.drew|apply Zs.set_1|apply Zs.set_2|refine Zs.far ?_ NB13005_13001.out _)|exact HI13005.out));(case side2=>repeat(first|(with_reducible first|exact HB.out|apply Zq|apply Zl|apply Zr|refine Zo ?_ (Zs.ge HI13005.out)|refine Zo ?_ GE13001.out)|exact HB.out));rintro e w6 ⟨v13008,rfl,ho0,hi,hb,hk⟩;refine⟨_,rfl,?_⟩;have HO13009:=Za (Kd.R_lower ho0 (Zv (by repeat(first|(with_reducible first|exact HB.out|apply Zq|apply Zl|apply Zr|refine Zo ?_ (Zs.ge HI13005.out)|refine Zo ?_ GE13001.out)|exact HB.out))));replace BK13001:=Za (Zy.blk hk (g':=gb13001) (o:=.cells #[.int .i64 0,.slice none 0 0] 31 (0,0)) (by(with_reducible repeat(first|refine Zn ?_ _|refine Zp ?_|refine Zm ?_ _));exact BK13001.out) NB13001_13005.out (by simp));replace HB:=Za (hb);replace HI13005:=Za (hi);(try clear hb);(try clear hb2);(try clear hk);(try clear hi);(try clear ho0);have hnb7:=NB13001_13005.out;have hnc7:=NB13005_13001.out;have hcz8_0:w6.cell? ⟨gb13001,0,none⟩=some (.int .i64 0):=(Zt BK13001.out 0).trans rfl;have hcz8_1:w6.cell? ⟨gb13001,1,none⟩=some (.slice none 0 0):=(Zt BK13001.out 1).trans rfl;have hfz8_0:=Zu BK13001.out 0;have hfz8_1:=Zu BK13001.out 1;obtain⟨Ao9,co9,eo9⟩:=Kd.R_slice HO13009.out;subst eo9))
 refine bodyPost_ret (results_cell_row rfl _ _ gb13001 31 #[.int .i64 t13006,.slice Ao9 t13007.length co9] (0,0) _ rfl (by(with_reducible repeat(first|refine Zn ?_ _|refine Zp ?_|refine Zm ?_ _));refine ZJ (cs:=#[.int .i64 t13006,.slice none 0 0]) ?_ 1 _ rfl;(with_reducible repeat(first|refine Zn ?_ _|refine Zp ?_|refine Zm ?_ _));refine ZJ (cs:=#[.int .i64 0,.slice none 0 0]) ?_ 0 _ rfl;(with_reducible repeat(first|refine Zn ?_ _|refine Zp ?_|refine Zm ?_ _));exact BK13001.out) Try.underlying31 rfl (by kernel_rfl)) rfl ?_
 exact⟨_,by first|rfl|(simp[ZB,ZA] <;> rfl)|(simp[*,ZB,ZA] <;> rfl),by(with_reducible repeat(first|apply Kd.R_alloc|apply Kd.R_drewN|apply Kd.R_drew));exact Kd.R_mono (Kd.R_far (p:=⟨gb13001,1,none⟩) (Kd.R_far (p:=⟨gb13001,0,none⟩) (Kd.R_types HO13009.out BK13001.out (by decide)) (fun _ hk=>hk.2) (.int .i64 t13006)) (fun _ hk=>hk.2) (.slice Ao9 t13007.length co9)) (fun _ hk=>trivial),by repeat(first|(with_reducible first|exact HB.out|apply Zq|apply Zl|apply Zr|refine Zo ?_ (Zs.ge HI13005.out)|refine Zo ?_ GE13001.out)|exact HB.out)⟩
end Go.Proofs.Ythphnhmabieflab.Pr
namespace Go.Proofs.Ythphnhmabieflab.Pr
open Go.RowKit Go.Proofs.YthphnhmabieflabW.PrintWords Go.Proofs.YthphnhmabieflabW.PrintLast Go.Proofs.YthphnhmabieflabW.PrintMore
attribute [local go_sem] Zap Zan Zax Zaw Zai Zah Zao Zam
set_option linter.unusedVariables false
set_option linter.unusedSimpArgs false
open Go.Proofs.Ythphnhmabieflab.Ni
theorem ZdB {w0 w w':World} {g:Nat} (h0:Below w0.heap.size w0 w) (h1:Below w0.heap.size w0 w') (hk:Zy w w' g none) (hg:w.heap.size≤g):Below w.heap.size w w':=
 ⟨h1.os.trans h0.os.symm,h1.tape.trans h0.tape.symm,h1.output.trans h0.output.symm,hk.1,fun k hlt=>hk.2 k hlt (by omega) (by simp)⟩
theorem keepW {w w1 w2:World} {g:Nat} (h:Below w.heap.size w w1) (k:Zy w1 w2 g none) (hg:w.heap.size≤g):Zy w w2 g none:=
 ⟨Nat.le_trans h.size k.1,fun i hi hne hn=>(k.2 i (Nat.lt_of_lt_of_le hi h.size) hne hn).trans (h.block i hi)⟩
def ZaE.go:Nat→List Int→Int→Int→Option (List Int×Int×Int)
 | 0,b,i,h=>some (b,i,h)
 | m+1,b,i,h=>(ZY.f b i h).bind fun r=>ZaE.go m b r.2.1 r.2.2
def ZaE.f (k:Nat) (l0:List Int) (a1:Int):Option (List Int×Int×Int):=if a1≤1048576 then(Zac.f k l0).bind fun r=>ZaE.go a1.toNat r.1 r.2.1 r.2.2 else none
set_option maxHeartbeats 8000000 in
set_option maxRecDepth 100000 in
theorem ZaE.calls (k:Nat) (A0:Option Addr) (c0:Nat) (l0:List Int) (a1:Int) (r1:List Int) (r2:Int) (r3:Int) (w0 w:World) (hB:Below w0.heap.size w0 w) (hr0:Kd.C (Kd.int .u8) w0 A0 l0.length l0) (hc0:l0.length≤c0) (h:ZaE.f k l0 a1=some (r1,r2,r3)) :
  Calls Try.prog 44 #[.slice A0 l0.length c0,.int .i64 a1] w fun e w'=>∃g_:Nat,e=.returned (.pointer (some ⟨g_,0,none⟩))∧Zs w0 w' g_ r1 r2 r3∧Below w0.heap.size w0 w'∧Below w.heap.size w w':=by
 unfold ZaE.f at h
 by_cases ha:a1≤1048576
 case neg=>rw[if_neg ha] at h;exact absurd h (by simp)
 rw[if_pos ha] at h
 obtain⟨⟨b,i0,x0⟩,h1,h2⟩:=Option.bind_eq_some_iff.1 h
 dsimp only at h2
 have HN:=Za (Zac.newc k A0 c0 l0 b i0 x0 w0 w hB hr0 hc0 h1)
 have HH:=Za h2;have HA:=Za ha;have HB0:=Za hB;clear hr0 hc0 h h1 h2 hB ha
 go_enter Try.func44,Try.ntmps44
 go_wp2_with (go_at_call 43;refine HN.out.mono ?_;rintro e w1 ⟨g,rfl,hI,hB1,hb1,hg1⟩;have HGG:=Za hg1;have HB1:=Za hB1;have HI:=Za hI;have HB:=Za hB1;have HW:=Za hb1;clear hI hB1 hb1 hg1)
 go_loopg [6] a1.toNat (fun gg s6 wr=>∃(j:Int) (i h:Int),s6=.int .i64 j∧Aside0 (0≤j∧j≤1048576)∧Aside0 ((a1 - j).toNat≤gg)∧Aside0 (ZaE.go (a1 - j).toNat b i h=some (r1,r2,r3))∧Aside0 (Zs w0 wr g b i h)∧Aside0 (Below w0.heap.size w0 wr)∧Aside0 (Zy w1 wr g none))
 case atStart=>exact⟨0,i0,x0,rfl,⟨by omega⟩,⟨by simp⟩,⟨by simpa using HH.out⟩,HI,HB,⟨Zy.refl _ _ _⟩⟩
 case round=>
  obtain⟨j,i,x,rfl,HJ,HG2,HR,HIr,HBr,HKr⟩:=hrel
  by_cases hj:j<a1
  ·have HR2:=HR.out
   rw[show(a1 - j).toNat=(a1 - (j+1)).toNat+1 by have:=HJ.out;omega] at HR2
   obtain⟨⟨y1,y2,y3⟩,hy,hrest⟩:=Option.bind_eq_some_iff.1 HR2
   dsimp only at hrest
   have HY:=Za (ZY.calls g b i x y1 y2 y3 w0 wr HIr.out HBr.out hy)
   have HRR:=Za hrest
   have hw:wrap64 (j+1)=j+1:=by have:=HJ.out;have:=HA.out;unfold wrap64;omega
   clear HR2 hy hrest
   go_wp2_with (go_at_call 45;refine HY.out.mono ?_;rintro e w2 ⟨rfl,hI2,hB2,hK2⟩)
   go_roundg ((a1 - (j+1)).toNat)
   case measure=>have:=HG2.out;have:=HJ.out;omega
   case rel=>exact⟨j+1,y2,y3,by first|rw[hw]|rfl,⟨by have:=HJ.out;have:=HA.out;omega⟩,⟨by omega⟩,HRR,⟨hI2⟩,⟨hB2⟩,⟨HKr.out.trans hK2 (.inl rfl)⟩⟩
  ·have HR2:=HR.out
   rw[show(a1 - j).toNat=0 by omega] at HR2
   obtain⟨e1,e2⟩:=Prod.mk.inj (Zf HR2)
   obtain⟨e2,e3⟩:=Prod.mk.inj e2
   subst e1;subst e2;subst e3;clear HR2
   go_wp2
   go_ret
   exact⟨g,rfl,HIr.out,HBr.out,ZdB (HB0.out) HBr.out (keepW HW.out HKr.out HGG.out) HGG.out⟩
end Go.Proofs.Ythphnhmabieflab.Pr
namespace Go.Proofs.Ythphnhmabieflab.Pr
open Go.RowKit Go.Proofs.YthphnhmabieflabW.PrintWords Go.Proofs.YthphnhmabieflabW.PrintLast Go.Proofs.YthphnhmabieflabW.PrintMore
attribute [local go_sem] Zap Zan Zax Zaw Zai Zah Zao Zam
set_option linter.unusedVariables false
set_option linter.unusedSimpArgs false
def ZaP.f (k:Nat) (l0:List Int) (a1:Int):Option (Int):=(ZaE.f k l0 a1).bind fun bt14001=>((ZY.f bt14001.1 bt14001.2.1 bt14001.2.2).bind fun bt14005=>((ZY.f bt14001.1 bt14005.2.1 bt14005.2.2).bind fun bt14008=>(some (wrap64 ((wrap64 (bt14005.1 * 256))+bt14008.1)))))
set_option maxHeartbeats 8000000 in
set_option maxRecDepth 100000 in
theorem ZaP.calls (k:Nat) (A0:Option Addr) (c0:Nat) (l0:List Int) (a1:Int) (r:Int) (w:World) (hr0:Kd.C (Kd.int .u8) w A0 l0.length l0) (hc0:l0.length≤c0) (h:ZaP.f k l0 a1=some r) :
  Calls Try.prog 14 #[.slice A0 l0.length c0,.int .i64 a1] w fun e w'=>e=.returned (.int .i64 r)∧Below w.heap.size w w':=by
 have HR0:=Za hr0;have HC0:=Za hc0;clear hr0 hc0
 have HB:=Za (Below.refl w.heap.size w)
 have H:((ZaE.f k l0 a1).bind fun bt14001=>((ZY.f bt14001.1 bt14001.2.1 bt14001.2.2).bind fun bt14005=>((ZY.f bt14001.1 bt14005.2.1 bt14005.2.2).bind fun bt14008=>(some (wrap64 ((wrap64 (bt14005.1 * 256))+bt14008.1))))))=some r:=h
 clear h
 replace H:=Zg H
 obtain⟨⟨t14001,t14002,t14003⟩,A30,H⟩:=H
 replace H:((ZY.f t14001 t14002 t14003).bind fun bt14005=>((ZY.f t14001 bt14005.2.1 bt14005.2.2).bind fun bt14008=>(some (wrap64 ((wrap64 (bt14005.1 * 256))+bt14008.1)))))=some r:=H
 have A3:=Za A30;clear A30
 replace H:=Zg H
 obtain⟨⟨t14005,t14006,t14007⟩,A40,H⟩:=H
 replace H:((ZY.f t14001 t14006 t14007).bind fun bt14008=>(some (wrap64 ((wrap64 (t14005 * 256))+bt14008.1))))=some r:=H
 have A4:=Za A40;clear A40
 replace H:=Zg H
 obtain⟨⟨t14008,t14009,t14010⟩,A50,H⟩:=H
 replace H:(some (wrap64 ((wrap64 (t14005 * 256))+t14008)))=some r:=H
 have A5:=Za A50;clear A50
 obtain rfl:=Zf H
 go_enter Try.func14,Try.ntmps14
 go_wp2_with (first|((with_reducible refine ZO (f:=44) rfl ?_);refine Z6 (some 8) rfl rfl Try.func44 (by kernel_rfl) rfl #[.slice A0 l0.length c0,.int .i64 a1] rfl (by(try simp only[List.map_toArray,List.map_cons,List.map_nil]);first|done|rfl|(simp only[Zj,Zi];rfl)) ?_;(with_reducible refine(ZaE.calls k _ _ l0 a1 t14001 t14002 t14003 w _ ?side1 ?side2 ?side3 A3.out).mono ?_);(case side1=>repeat(first|(with_reducible first|exact HB.out|apply Zq|apply Zl|apply Zr)|exact HB.out));(case side2=>exact HR0.out);(case side3=>exact HC0.out);rintro e w6 ⟨g14004,rfl,hi,hb,hb2⟩;refine⟨_,rfl,?_⟩;have HI14004:=Za (hi);replace HB:=Za (hb);(try clear hb);(try clear hb2);(try clear hk);(try clear hi))|((with_reducible refine ZO (f:=45) rfl ?_);refine Z6 (some 10) rfl rfl Try.func45 (by kernel_rfl) rfl #[.pointer (some ⟨g14004,0,none⟩)] rfl (by(try simp only[List.map_toArray,List.map_cons,List.map_nil]);first|done|rfl|(simp only[Zj,Zi];rfl)) ?_;(with_reducible refine(ZY.calls g14004 t14001 t14002 t14003 t14005 t14006 t14007 w _ ?side1 ?side2 A4.out).mono ?_);(case side1=>repeat(first|(with_reducible first|exact HI14004.out|apply Zs.alloc|apply Zs.drewN|apply Zs.drew|apply Zs.set_1|apply Zs.set_2)|exact HI14004.out));(case side2=>repeat(first|(with_reducible first|exact HB.out|apply Zq|apply Zl|apply Zr|refine Zo ?_ (Zs.ge HI14004.out))|exact HB.out));rintro e w7 ⟨rfl,hi,hb,hk⟩;refine⟨_,rfl,?_⟩;replace HB:=Za (hb);replace HI14004:=Za (hi);(try clear hb);(try clear hb2);(try clear hk);(try clear hi))|((with_reducible refine ZO (f:=45) rfl ?_);refine Z6 (some 13) rfl rfl Try.func45 (by kernel_rfl) rfl #[.pointer (some ⟨g14004,0,none⟩)] rfl (by(try simp only[List.map_toArray,List.map_cons,List.map_nil]);first|done|rfl|(simp only[Zj,Zi];rfl)) ?_;(with_reducible refine(ZY.calls g14004 t14001 t14006 t14007 t14008 t14009 t14010 w _ ?side1 ?side2 A5.out).mono ?_);(case side1=>repeat(first|(with_reducible first|exact HI14004.out|apply Zs.alloc|apply Zs.drewN|apply Zs.drew|apply Zs.set_1|apply Zs.set_2)|exact HI14004.out));(case side2=>repeat(first|(with_reducible first|exact HB.out|apply Zq|apply Zl|apply Zr|refine Zo ?_ (Zs.ge HI14004.out))|exact HB.out));rintro e w8 ⟨rfl,hi,hb,hk⟩;refine⟨_,rfl,?_⟩;replace HB:=Za (hb);replace HI14004:=Za (hi);(try clear hb);(try clear hb2);(try clear hk);(try clear hi)))
 go_ret
 exact⟨by first|rfl|(simp[ZB,ZA] <;> rfl)|(simp[*,ZB,ZA] <;> rfl),by repeat(first|(with_reducible first|exact HB.out|apply Zq|apply Zl|apply Zr|refine Zo ?_ (Zs.ge HI14004.out))|exact HB.out)⟩
def Zal.f (a0:Int) (a1:Int):Option (Bool):=if a1≥0 then(some (decide (a1<a0))) else(some false)
set_option maxHeartbeats 8000000 in
set_option maxRecDepth 100000 in
theorem Zal.calls (a0:Int) (a1:Int) (r:Bool) (w:World) (h:Zal.f a0 a1=some r) :
  Calls Try.prog 52 #[.int .i64 a0,.int .i64 a1] w fun e w'=>e=.returned (.bool r)∧Zab w w':=by
 have H:(if a1≥0 then(some (decide (a1<a0))) else(some false))=some r:=h
 clear h
 by_cases c3:a1≥0
 ·rw[if_pos c3] at H
  have c3b0:decide (0≤a1)=true:=Zd c3
  clear c3
  obtain rfl:=Zf H
  go_enter Try.func52,Try.ntmps52
  go_wp2
  go_ret
  exact⟨by first|rfl|(simp;done)|(simp[*];done),by repeat(first|exact Zab.refl _|apply Zab.step)⟩
 ·rw[if_neg c3] at H
  have c3b0:decide (0≤a1)=false:=Ze c3
  clear c3
  obtain rfl:=Zf H
  go_enter Try.func52,Try.ntmps52
  go_wp2
  go_ret
  exact⟨by first|rfl|(simp;done)|(simp[*];done),by repeat(first|exact Zab.refl _|apply Zab.step)⟩
end Go.Proofs.Ythphnhmabieflab.Pr
namespace Go.Proofs.Ythphnhmabieflab.Pr
open Go.RowKit Go.Proofs.YthphnhmabieflabW.PrintWords Go.Proofs.Ythphnhmabieflab.Ni
def inN (n x:Int):Bool:=decide (0≤x) && decide (x<n)
theorem inN_f (n x:Int):Zal.f n x=some (inN n x):=by
 unfold Zal.f inN
 by_cases h:x≥0
 ·rw[if_pos h,Zd (show(0:Int)≤x from h),Bool.true_and]
 ·rw[if_neg h,Ze (show ¬(0:Int)≤x from h),Bool.false_and]
theorem Zbn (n x:Int) (w:World):Calls Try.prog 52 #[.int .i64 n,.int .i64 x] w fun e w'=>e=.returned (.bool (inN n x))∧∃m,w'=w.drewN m:=
 (Zal.calls n x _ w (inN_f n x)).mono fun _ _ ⟨he,hd⟩=>⟨he,hd.out⟩
theorem ZbF {n x:Int}:inN n x=true↔0≤x∧x<n:=by
 unfold inN;rw[Bool.and_eq_true,decide_eq_true_eq,decide_eq_true_eq]
end Go.Proofs.Ythphnhmabieflab.Pr
namespace Go.Proofs.Ythphnhmabieflab.Pr
open Go.RowKit Go.Proofs.YthphnhmabieflabW.PrintWords Go.Proofs.YthphnhmabieflabW.PrintLast Go.Proofs.YthphnhmabieflabW.PrintMore
attribute [local go_sem] Zap Zan Zax Zaw Zai Zah Zao Zam
set_option linter.unusedVariables false
set_option linter.unusedSimpArgs false
open Go.Proofs.Ythphnhmabieflab.Ni
set_option maxHeartbeats 4000000 in
theorem impl_Link_90.any (p:S84→Bool) (g:Nat) (lb:Array Value) (eg:∀args w,(callFunc g args).run Try.prog w=.ok (.enter g args) w) (A0:Option Addr) (c0:Nat) (l0:List S84) (w:World) (hr0:Kd.C k84 w A0 l0.length l0)
  (hp:∀(W:World) (x:S84),x∈l0→Below w.heap.size w W→Calls Try.prog g (#[.agg #[.int .i64 x.f0,.int .i64 x.f1,.int .i64 x.f2.f0,.int .i64 x.f2.f1]] ++ lb) W fun e w'=>e=.returned (.bool (p x))∧Below W.heap.size W w') :
  Calls Try.prog 90 #[.slice A0 l0.length c0,.func (.func g) #[] lb] w fun e w'=>e=.returned (.int .i64 (Zbu p l0))∧Below w.heap.size w w':=by
 have HR0:=Za hr0;have HP:=Za hp;clear hr0 hp
 have HL:l0.length≤9223372036854775807:=HR0.out.2.1
 go_enter Try.func90,Try.ntmps90
 go_wp2
 go_loopg [5,8] l0.length (fun gg _ s8 wr=>∃kk:Nat,Aside0 (kk≤l0.length)∧Aside0 (l0.length - kk≤gg)∧s8=.int .i64 kk∧Aside0 (Below w.heap.size w wr)∧Aside0 (∀j y,j<kk→l0[j]? = some y→p y=false))
 case atStart=>exact⟨0,⟨Nat.zero_le _⟩,⟨by omega⟩,rfl,⟨Below.refl _ _⟩,⟨fun j y hj=>absurd hj (Nat.not_lt_zero _)⟩⟩
 case round=>
  obtain⟨kk,HK,HG,rfl,HB,HN⟩:=hrel
  by_cases hlt:kk<l0.length
  ·have hltz:(kk:Int)<(l0.length:Int):=by omega
   obtain⟨ad,e1,hx0,hx1,hx2,hx3⟩:=at_T84 HR0.out (kk:Int) (by omega) hltz
   cases e1
   replace hx0:=(HB.out.cell (Zb w _ hx0)).trans hx0
   rw[Int.toNat_natCast] at hx0
   replace hx1:=(HB.out.cell (Zb w _ hx1)).trans hx1
   rw[Int.toNat_natCast] at hx1
   replace hx2:=(HB.out.cell (Zb w _ hx2)).trans hx2
   rw[Int.toNat_natCast] at hx2
   replace hx3:=(HB.out.cell (Zb w _ hx3)).trans hx3
   rw[Int.toNat_natCast] at hx3
   have hxe:l0[kk]? = some (Zz l0 (kk:Int)):=by
    unfold Zz
    rw[Int.toNat_natCast,List.getD_eq_getElem?_getD,Zk hlt];rfl
   generalize Zz l0 (kk:Int)=y at hx0 hx1 hx2 hx3 hxe
   have HX:=Za hxe;clear hxe
   have hcall:=HP.out wr y (List.mem_of_getElem? HX.out) HB.out
   cases hq:p y with
   | true=>
    have HQ:=Za hq
    rw[hq] at hcall
    clear hq
    go_wp2_with (go_at_fn g;refine hcall.mono ?_;rintro e w' ⟨rfl,hb⟩)
    go_ret
    exact⟨by rw[Zcv p l0 kk y HX.out HQ.out HN.out];rfl,HB.out.trans (hb.mono HB.out.size)⟩
   | false=>
    have HQ:=Za hq
    rw[hq] at hcall
    clear hq
    go_wp2_with (go_at_fn g;refine hcall.mono ?_;rintro e w' ⟨rfl,hb⟩)
    go_roundg (l0.length - (kk+1))
    case measure=>have:=HG.out;omega
    case rel=>
     refine⟨kk+1,⟨by omega⟩,⟨by omega⟩,by go_num,⟨HB.out.trans (hb.mono HB.out.size)⟩,⟨fun j y' hj hy=>?_⟩⟩
     by_cases e:j=kk
     ·subst e
      rw[HX.out] at hy
      cases hy
      exact HQ.out
     ·exact HN.out j y' (by omega) hy
  ·have hltz:¬(kk:Int)<(l0.length:Int):=by omega
   have:kk=l0.length:=by have:=HK.out;omega
   subst this
   go_wp2
   go_ret
   exact⟨by rw[Zcf p l0 HN.out];rfl,HB.out⟩
set_option maxHeartbeats 4000000 in
theorem impl_Link_50.any (p:S84→Bool) (g:Nat) (lb:Array Value) (eg:∀args w,(callFunc g args).run Try.prog w=.ok (.enter g args) w) (A0:Option Addr) (c0:Nat) (l0:List S84) (w:World) (hr0:Kd.C k84 w A0 l0.length l0)
  (hp:∀(W:World) (x:S84),x∈l0→Below w.heap.size w W→Calls Try.prog g (#[.agg #[.int .i64 x.f0,.int .i64 x.f1,.int .i64 x.f2.f0,.int .i64 x.f2.f1]] ++ lb) W fun e w'=>e=.returned (.bool (p x))∧Below W.heap.size W w') :
  Calls Try.prog 50 #[.slice A0 l0.length c0,.func (.func g) #[] lb] w fun e w'=>e=.returned (.bool (l0.any p))∧Below w.heap.size w w':=by
 have HI:=Za (impl_Link_90.any p g lb eg A0 c0 l0 w hr0 hp)
 clear hr0 hp
 have HE:=Za (Zcw p l0)
 go_enter Try.func50,Try.ntmps50
 go_wp2_with (go_at_call 90;refine HI.out.mono ?_;rintro e w' ⟨rfl,hb⟩)
 go_ret
 exact⟨by rw[← HE.out];rfl,hb⟩
end Go.Proofs.Ythphnhmabieflab.Pr
namespace Go.Proofs.Ythphnhmabieflab.Pr
open Go.RowKit Go.Proofs.YthphnhmabieflabW.PrintWords Go.Proofs.YthphnhmabieflabW.PrintLast Go.Proofs.YthphnhmabieflabW.PrintMore
attribute [local go_sem] Zap Zan Zax Zaw Zai Zah Zao Zam
set_option linter.unusedVariables false
set_option linter.unusedSimpArgs false
def Z9.f (a0_0:Int) (a0_1:Int):Option (Bool):=if a0_0≥(-1000000) then(if a0_0≤a0_1 then(if a0_1≤1000000 then(if a0_0=1000000 then(some false) else(some (a0_1 != (-1000000)))) else(some false)) else(some false)) else(some false)
set_option maxHeartbeats 8000000 in
set_option maxRecDepth 100000 in
theorem Z9.calls (a0_0:Int) (a0_1:Int) (r:Bool) (w:World) (h:Z9.f a0_0 a0_1=some r) :
  Calls Try.prog 53 #[.agg #[.int .i64 a0_0,.int .i64 a0_1]] w fun e w'=>e=.returned (.bool r)∧Below w.heap.size w w':=by
 have hu35:=Try.underlying35
 have HB:=Za (Below.refl w.heap.size w)
 have H:(if a0_0≥(-1000000) then(if a0_0≤a0_1 then(if a0_1≤1000000 then(if a0_0=1000000 then(some false) else(some (a0_1 != (-1000000)))) else(some false)) else(some false)) else(some false))=some r:=h
 clear h
 by_cases c2:a0_0≥(-1000000)
 ·rw[if_pos c2] at H
  have c2b0:decide ((-1000000)≤a0_0)=true:=Zd c2
  clear c2
  by_cases c3:a0_0≤a0_1
  ·rw[if_pos c3] at H
   have c3b0:decide (a0_0≤a0_1)=true:=Zd c3
   clear c3
   by_cases c4:a0_1≤1000000
   ·rw[if_pos c4] at H
    have c4b0:decide (a0_1≤1000000)=true:=Zd c4
    clear c4
    by_cases c5:a0_0=1000000
    ·rw[if_pos c5] at H
     have c5b0:(a0_0 == 1000000)=true:=beq_iff_eq.mpr c5
     have c5b1:(a0_0 != 1000000)=false:=bne_eq_false_iff_eq.mpr c5
     clear c5
     obtain rfl:=Zf H
     go_enter Try.func53,Try.ntmps53
     go_wp2_with (first|((with_reducible refine ZP (N:=1) rfl ?_);refine ZM ?hg (N:=1) ?hd (cs:=#[.int .i64 a0_0,.int .i64 a0_1]) (t:=35) ?hr ?_;(case hd=>rfl);(case hg=>rfl);(case hr=>first|(go_simp;done)|(go_simp;rfl));intro gb53001 hg w6 hbox hb;have BK53001:=Za (hbox);have GW53001:=Za ((by rw[hg];exact(Zv (by repeat(first|(with_reducible first|exact HB.out|apply Zq|apply Zl|apply Zr)|exact HB.out))):w.heap.size≤gb53001));have GE53001:=Za ((by rw[hg];exact(Zv (by repeat(first|(with_reducible first|exact HB.out|apply Zq|apply Zl|apply Zr)|exact HB.out))):w.heap.size≤gb53001));replace HB:=Za (Zw (by repeat(first|(with_reducible first|exact HB.out|apply Zq|apply Zl|apply Zr)|exact HB.out)) hb);clear hb hbox hg;have hcz7_0:w6.cell? ⟨gb53001,0,none⟩=some (.int .i64 a0_0):=(Zt BK53001.out 0).trans rfl;have hcz7_1:w6.cell? ⟨gb53001,1,none⟩=some (.int .i64 a0_1):=(Zt BK53001.out 1).trans rfl;have hfz7_0:=Zu BK53001.out 0;have hfz7_1:=Zu BK53001.out 1))
     go_ret
     exact⟨by first|rfl|(simp[ZB,ZA] <;> rfl)|(simp[*,ZB,ZA] <;> rfl),by repeat(first|(with_reducible first|exact HB.out|apply Zq|apply Zl|apply Zr|refine Zo ?_ GE53001.out)|exact HB.out)⟩
    ·rw[if_neg c5] at H
     have c5b0:(a0_0 == 1000000)=false:=beq_eq_false_iff_ne.mpr c5
     have c5b1:(a0_0 != 1000000)=true:=bne_iff_ne.mpr c5
     obtain rfl:=Zf H
     go_enter Try.func53,Try.ntmps53
     go_wp2_with (first|((with_reducible refine ZP (N:=1) rfl ?_);refine ZM ?hg (N:=1) ?hd (cs:=#[.int .i64 a0_0,.int .i64 a0_1]) (t:=35) ?hr ?_;(case hd=>rfl);(case hg=>rfl);(case hr=>first|(go_simp;done)|(go_simp;rfl));intro gb53001 hg w8 hbox hb;have BK53001:=Za (hbox);have GW53001:=Za ((by rw[hg];exact(Zv (by repeat(first|(with_reducible first|exact HB.out|apply Zq|apply Zl|apply Zr)|exact HB.out))):w.heap.size≤gb53001));have GE53001:=Za ((by rw[hg];exact(Zv (by repeat(first|(with_reducible first|exact HB.out|apply Zq|apply Zl|apply Zr)|exact HB.out))):w.heap.size≤gb53001));replace HB:=Za (Zw (by repeat(first|(with_reducible first|exact HB.out|apply Zq|apply Zl|apply Zr)|exact HB.out)) hb);clear hb hbox hg;have hcz9_0:w8.cell? ⟨gb53001,0,none⟩=some (.int .i64 a0_0):=(Zt BK53001.out 0).trans rfl;have hcz9_1:w8.cell? ⟨gb53001,1,none⟩=some (.int .i64 a0_1):=(Zt BK53001.out 1).trans rfl;have hfz9_0:=Zu BK53001.out 0;have hfz9_1:=Zu BK53001.out 1))
     go_ret
     exact⟨by first|rfl|(simp[ZB,ZA] <;> rfl)|(simp[*,ZB,ZA] <;> rfl),by repeat(first|(with_reducible first|exact HB.out|apply Zq|apply Zl|apply Zr|refine Zo ?_ GE53001.out)|exact HB.out)⟩
   ·rw[if_neg c4] at H
    have c4b0:decide (a0_1≤1000000)=false:=Ze c4
    clear c4
    obtain rfl:=Zf H
    go_enter Try.func53,Try.ntmps53
    go_wp2_with (first|((with_reducible refine ZP (N:=1) rfl ?_);refine ZM ?hg (N:=1) ?hd (cs:=#[.int .i64 a0_0,.int .i64 a0_1]) (t:=35) ?hr ?_;(case hd=>rfl);(case hg=>rfl);(case hr=>first|(go_simp;done)|(go_simp;rfl));intro gb53001 hg w10 hbox hb;have BK53001:=Za (hbox);have GW53001:=Za ((by rw[hg];exact(Zv (by repeat(first|(with_reducible first|exact HB.out|apply Zq|apply Zl|apply Zr)|exact HB.out))):w.heap.size≤gb53001));have GE53001:=Za ((by rw[hg];exact(Zv (by repeat(first|(with_reducible first|exact HB.out|apply Zq|apply Zl|apply Zr)|exact HB.out))):w.heap.size≤gb53001));replace HB:=Za (Zw (by repeat(first|(with_reducible first|exact HB.out|apply Zq|apply Zl|apply Zr)|exact HB.out)) hb);clear hb hbox hg;have hcz11_0:w10.cell? ⟨gb53001,0,none⟩=some (.int .i64 a0_0):=(Zt BK53001.out 0).trans rfl;have hcz11_1:w10.cell? ⟨gb53001,1,none⟩=some (.int .i64 a0_1):=(Zt BK53001.out 1).trans rfl;have hfz11_0:=Zu BK53001.out 0;have hfz11_1:=Zu BK53001.out 1))
    go_ret
    exact⟨by first|rfl|(simp[ZB,ZA] <;> rfl)|(simp[*,ZB,ZA] <;> rfl),by repeat(first|(with_reducible first|exact HB.out|apply Zq|apply Zl|apply Zr|refine Zo ?_ GE53001.out)|exact HB.out)⟩
  ·rw[if_neg c3] at H
   have c3b0:decide (a0_0≤a0_1)=false:=Ze c3
   clear c3
   obtain rfl:=Zf H
   go_enter Try.func53,Try.ntmps53
   go_wp2_with (first|((with_reducible refine ZP (N:=1) rfl ?_);refine ZM ?hg (N:=1) ?hd (cs:=#[.int .i64 a0_0,.int .i64 a0_1]) (t:=35) ?hr ?_;(case hd=>rfl);(case hg=>rfl);(case hr=>first|(go_simp;done)|(go_simp;rfl));intro gb53001 hg w12 hbox hb;have BK53001:=Za (hbox);have GW53001:=Za ((by rw[hg];exact(Zv (by repeat(first|(with_reducible first|exact HB.out|apply Zq|apply Zl|apply Zr)|exact HB.out))):w.heap.size≤gb53001));have GE53001:=Za ((by rw[hg];exact(Zv (by repeat(first|(with_reducible first|exact HB.out|apply Zq|apply Zl|apply Zr)|exact HB.out))):w.heap.size≤gb53001));replace HB:=Za (Zw (by repeat(first|(with_reducible first|exact HB.out|apply Zq|apply Zl|apply Zr)|exact HB.out)) hb);clear hb hbox hg;have hcz13_0:w12.cell? ⟨gb53001,0,none⟩=some (.int .i64 a0_0):=(Zt BK53001.out 0).trans rfl;have hcz13_1:w12.cell? ⟨gb53001,1,none⟩=some (.int .i64 a0_1):=(Zt BK53001.out 1).trans rfl;have hfz13_0:=Zu BK53001.out 0;have hfz13_1:=Zu BK53001.out 1))
   go_ret
   exact⟨by first|rfl|(simp[ZB,ZA] <;> rfl)|(simp[*,ZB,ZA] <;> rfl),by repeat(first|(with_reducible first|exact HB.out|apply Zq|apply Zl|apply Zr|refine Zo ?_ GE53001.out)|exact HB.out)⟩
 ·rw[if_neg c2] at H
  have c2b0:decide ((-1000000)≤a0_0)=false:=Ze c2
  clear c2
  obtain rfl:=Zf H
  go_enter Try.func53,Try.ntmps53
  go_wp2_with (first|((with_reducible refine ZP (N:=1) rfl ?_);refine ZM ?hg (N:=1) ?hd (cs:=#[.int .i64 a0_0,.int .i64 a0_1]) (t:=35) ?hr ?_;(case hd=>rfl);(case hg=>rfl);(case hr=>first|(go_simp;done)|(go_simp;rfl));intro gb53001 hg w14 hbox hb;have BK53001:=Za (hbox);have GW53001:=Za ((by rw[hg];exact(Zv (by repeat(first|(with_reducible first|exact HB.out|apply Zq|apply Zl|apply Zr)|exact HB.out))):w.heap.size≤gb53001));have GE53001:=Za ((by rw[hg];exact(Zv (by repeat(first|(with_reducible first|exact HB.out|apply Zq|apply Zl|apply Zr)|exact HB.out))):w.heap.size≤gb53001));replace HB:=Za (Zw (by repeat(first|(with_reducible first|exact HB.out|apply Zq|apply Zl|apply Zr)|exact HB.out)) hb);clear hb hbox hg;have hcz15_0:w14.cell? ⟨gb53001,0,none⟩=some (.int .i64 a0_0):=(Zt BK53001.out 0).trans rfl;have hcz15_1:w14.cell? ⟨gb53001,1,none⟩=some (.int .i64 a0_1):=(Zt BK53001.out 1).trans rfl;have hfz15_0:=Zu BK53001.out 0;have hfz15_1:=Zu BK53001.out 1))
  go_ret
  exact⟨by first|rfl|(simp[ZB,ZA] <;> rfl)|(simp[*,ZB,ZA] <;> rfl),by repeat(first|(with_reducible first|exact HB.out|apply Zq|apply Zl|apply Zr|refine Zo ?_ GE53001.out)|exact HB.out)⟩
end Go.Proofs.Ythphnhmabieflab.Pr
namespace Go.Proofs.Ythphnhmabieflab.Pr
open Go.RowKit Go.Proofs.YthphnhmabieflabW.PrintWords Go.Proofs.YthphnhmabieflabW.PrintLast Go.Proofs.YthphnhmabieflabW.PrintMore
attribute [local go_sem] Zap Zan Zax Zaw Zai Zah Zao Zam
set_option linter.unusedVariables false
set_option linter.unusedSimpArgs false
open Go.Proofs.Ythphnhmabieflab.Ni
def Zbq (lo hi:Int):Bool:=decide (-1000000≤lo) && (decide (lo≤hi) && (decide (hi≤1000000) && (!(decide (lo=1000000)) && !(decide (hi=-1000000)))))
theorem ivOk_f (lo hi:Int):Z9.f lo hi=some (Zbq lo hi):=by
 unfold Z9.f Zbq
 by_cases h1:lo≥-1000000
 ·rw[if_pos h1,Zd (show(-1000000:Int)≤lo from h1),Bool.true_and]
  by_cases h2:lo≤hi
  ·rw[if_pos h2,Zd h2,Bool.true_and]
   by_cases h3:hi≤1000000
   ·rw[if_pos h3,Zd h3,Bool.true_and]
    by_cases h4:lo=1000000
    ·rw[if_pos h4,Zd h4];rfl
    ·rw[if_neg h4,Ze h4]
     congr 1
   ·rw[if_neg h3,Ze h3];rfl
  ·rw[if_neg h2,Ze h2];rfl
 ·rw[if_neg h1,Ze (show ¬(-1000000:Int)≤lo from h1)];rfl
def ZaO (n:Int) (x:S84):Bool:=inN n x.f0 && (inN n x.f1 && Zbq x.f2.f0 x.f2.f1)
def Zad (n:Int) (ls:List S84):Bool:=!(decide (n<1)) && (!(decide (8<n)) && (!(decide (40<ls.length)) && !(ls.any fun x=>!ZaO n x)))
def Z0.f (a0_0:Int) (l0_1:List (S84)):Option Bool:=some (Zad a0_0 l0_1)
set_option maxHeartbeats 4000000 in
theorem Zc1.clo (B:Nat) (n:Int) (W:World) (hB:W.cell? ⟨B,0,none⟩=some (.int .i64 n)) (x:S84) :
  Calls Try.prog 51 #[.agg #[.int .i64 x.f0,.int .i64 x.f1,.int .i64 x.f2.f0,.int .i64 x.f2.f1],.pointer (some ⟨B,0,none⟩)] W fun e w'=>e=.returned (.bool (!ZaO n x))∧Below W.heap.size W w':=by
 have hlt:B<W.heap.size:=Zb W _ hB
 have hu:=Try.underlying84
 have hu2:=Try.underlying35
 have hu3:=Try.underlying31
 obtain⟨f0,f1,⟨f2,f3⟩⟩:=x
 have HE:=Za (show ZaO n ⟨f0,f1,⟨f2,f3⟩⟩=(inN n f0 && (inN n f1 && Zbq f2 f3)) from rfl)
 have HI:=Za fun (w:World)=>Z9.calls f2 f3 _ w (ivOk_f f2 f3)
 cases b1:inN n f0 with
 | false=>
  have HF:=Za (show ZaO n ⟨f0,f1,⟨f2,f3⟩⟩=false by rw[HE.out,b1];rfl)
  clear HE
  go_enter Try.func51,Try.ntmps51
  go_wp2_with (go_at_call 52;refine(Zbn _ _ _).mono ?_;rintro e w' ⟨rfl,nd,rfl⟩)
  go_ret
  exact⟨by rw[HF.out];rfl,by repeat(first|exact Below.refl _ _|apply Zq|apply Zl|apply ZaU)⟩
 | true=>
 cases b2:inN n f1 with
 | false=>
  have HF:=Za (show ZaO n ⟨f0,f1,⟨f2,f3⟩⟩=false by rw[HE.out,b1,b2];rfl)
  clear HE
  go_enter Try.func51,Try.ntmps51
  go_wp2_with (go_at_call 52;refine(Zbn _ _ _).mono ?_;rintro e w' ⟨rfl,nd,rfl⟩)
  go_ret
  exact⟨by rw[HF.out];rfl,by repeat(first|exact Below.refl _ _|apply Zq|apply Zl|apply ZaU)⟩
 | true=>
 have HF:=Za (show ZaO n ⟨f0,f1,⟨f2,f3⟩⟩=Zbq f2 f3 by rw[HE.out,b1,b2];rfl)
 clear HE
 go_enter Try.func51,Try.ntmps51
 go_wp2_with (first|(go_at_call 52;refine(Zbn _ _ _).mono ?_;rintro e w' ⟨rfl,nd,rfl⟩)|(go_at_call 53;refine(HI.out _).mono ?_;rintro e w' ⟨rfl,hb⟩))
 go_ret
 exact⟨by rw[HF.out];rfl,Zw (by repeat(first|exact Below.refl _ _|apply Zq|apply Zl|apply ZaU)) hb⟩
set_option maxHeartbeats 4000000 in
set_option maxRecDepth 100000 in
theorem Z0.calls (a0_0:Int) (A0_1:Option Addr) (c0_1:Nat) (l0_1:List (S84)) (r:Bool) (w:World) (hr0_1:Kd.C k84 w A0_1 l0_1.length l0_1) (hc0_1:l0_1.length≤c0_1) (h:Z0.f a0_0 l0_1=some r) :
  Calls Try.prog 17 #[.agg #[.int .i64 a0_0,.slice A0_1 l0_1.length c0_1]] w fun e w'=>e=.returned (.bool r)∧Below w.heap.size w w':=by
 obtain rfl:=Zf h
 have hL:l0_1.length≤9223372036854775807:=hr0_1.2.1
 have HC:=Za fun (W:World) (B:Nat) (hb:Below w.heap.size w W) (hcell:W.cell? ⟨B,0,none⟩=some (.int .i64 a0_0))=>impl_Link_50.any (fun x=>!ZaO a0_0 x) 51 #[.pointer (some ⟨B,0,none⟩)] (enters_of Try.func51 (by kernel_rfl) rfl) A0_1 c0_1 l0_1 W (Kd.C_below hr0_1 hb)
    (fun W' x _ hb'=>Zc1.clo B a0_0 W' (Z7 hb' hcell) x)
 have hu:=Try.underlying31
 have HB:=Za (Zq (Below.refl w.heap.size w) (.cells #[.int .i64 a0_0,.slice A0_1 l0_1.length c0_1] 31))
 clear hr0_1 h
 cases b1:decide (a0_0<1) with
 | true=>
  have HF:=Za (show Zad a0_0 l0_1=false by unfold Zad;rw[b1];rfl)
  go_enter Try.func17,Try.ntmps17
  go_wp2
  go_ret
  exact⟨by rw[HF.out];rfl,HB.out⟩
 | false=>
 cases b2:decide (8<a0_0) with
 | true=>
  have HF:=Za (show Zad a0_0 l0_1=false by unfold Zad;rw[b1,b2];rfl)
  go_enter Try.func17,Try.ntmps17
  go_wp2
  go_ret
  exact⟨by rw[HF.out];rfl,HB.out⟩
 | false=>
 by_cases q3:40<l0_1.length
 ·have b3:decide (40<l0_1.length)=true:=Zd q3
  have z3:(40:Int)<(l0_1.length:Int):=by omega
  have HF:=Za (show Zad a0_0 l0_1=false by unfold Zad;rw[b1,b2,b3];rfl)
  clear b3 q3
  go_enter Try.func17,Try.ntmps17
  go_wp2
  go_ret
  exact⟨by rw[HF.out];rfl,HB.out⟩
 ·have b3:decide (40<l0_1.length)=false:=Ze q3
  have z3:¬(40:Int)<(l0_1.length:Int):=by omega
  have HF:=Za (show Zad a0_0 l0_1=!(l0_1.any fun x=>!ZaO a0_0 x) by unfold Zad;rw[b1,b2,b3];rfl)
  clear b3 q3
  generalize l0_1.any (fun x=>!ZaO a0_0 x)=q at HC HF
  go_enter Try.func17,Try.ntmps17
  go_wp2_with fail
  refine(HC.out _ _ HB.out (by go_simp)).mono ?_
  rintro e w' ⟨rfl,hb⟩
  go_wp2
  go_ret
  exact⟨by rw[HF.out];rfl,HB.out.trans (hb.mono HB.out.size)⟩
set_option maxHeartbeats 4000000 in
theorem Zdz.any (p:S123→Bool) (g:Nat) (lb:Array Value) (eg:∀args w,(callFunc g args).run Try.prog w=.ok (.enter g args) w) (A0:Option Addr) (c0:Nat) (l0:List S123) (w:World) (hr0:Kd.C k123 w A0 l0.length l0)
  (hp:∀(W:World) (x:S123),x∈l0→Below w.heap.size w W→Calls Try.prog g (#[.agg #[.int .i64 x.f0,.int .i64 x.f1,.int .i64 x.f2]] ++ lb) W fun e w'=>e=.returned (.bool (p x))∧Below W.heap.size W w') :
  Calls Try.prog 137 #[.slice A0 l0.length c0,.func (.func g) #[] lb] w fun e w'=>e=.returned (.int .i64 (Zbu p l0))∧Below w.heap.size w w':=by
 have HR0:=Za hr0;have HP:=Za hp;clear hr0 hp
 have HL:l0.length≤9223372036854775807:=HR0.out.2.1
 go_enter Try.func137,Try.ntmps137
 go_wp2
 go_loopg [5,8] l0.length (fun gg _ s8 wr=>∃kk:Nat,Aside0 (kk≤l0.length)∧Aside0 (l0.length - kk≤gg)∧s8=.int .i64 kk∧Aside0 (Below w.heap.size w wr)∧Aside0 (∀j y,j<kk→l0[j]? = some y→p y=false))
 case atStart=>exact⟨0,⟨Nat.zero_le _⟩,⟨by omega⟩,rfl,⟨Below.refl _ _⟩,⟨fun j y hj=>absurd hj (Nat.not_lt_zero _)⟩⟩
 case round=>
  obtain⟨kk,HK,HG,rfl,HB,HN⟩:=hrel
  by_cases hlt:kk<l0.length
  ·have hltz:(kk:Int)<(l0.length:Int):=by omega
   obtain⟨ad,e1,hx0,hx1,hx2⟩:=ZbS HR0.out (kk:Int) (by omega) hltz
   cases e1
   replace hx0:=(HB.out.cell (Zb w _ hx0)).trans hx0
   rw[Int.toNat_natCast] at hx0
   replace hx1:=(HB.out.cell (Zb w _ hx1)).trans hx1
   rw[Int.toNat_natCast] at hx1
   replace hx2:=(HB.out.cell (Zb w _ hx2)).trans hx2
   rw[Int.toNat_natCast] at hx2
   have hxe:l0[kk]? = some (ZaZ l0 (kk:Int)):=by
    unfold ZaZ
    rw[Int.toNat_natCast,List.getD_eq_getElem?_getD,Zk hlt];rfl
   generalize ZaZ l0 (kk:Int)=y at hx0 hx1 hx2 hxe
   have HX:=Za hxe;clear hxe
   have hcall:=HP.out wr y (List.mem_of_getElem? HX.out) HB.out
   cases hq:p y with
   | true=>
    have HQ:=Za hq
    rw[hq] at hcall
    clear hq
    go_wp2_with (go_at_fn g;refine hcall.mono ?_;rintro e w' ⟨rfl,hb⟩)
    go_ret
    exact⟨by rw[Zcv p l0 kk y HX.out HQ.out HN.out];rfl,HB.out.trans (hb.mono HB.out.size)⟩
   | false=>
    have HQ:=Za hq
    rw[hq] at hcall
    clear hq
    go_wp2_with (go_at_fn g;refine hcall.mono ?_;rintro e w' ⟨rfl,hb⟩)
    go_roundg (l0.length - (kk+1))
    case measure=>have:=HG.out;omega
    case rel=>
     refine⟨kk+1,⟨by omega⟩,⟨by omega⟩,by go_num,⟨HB.out.trans (hb.mono HB.out.size)⟩,⟨fun j y' hj hy=>?_⟩⟩
     by_cases e:j=kk
     ·subst e
      rw[HX.out] at hy
      cases hy
      exact HQ.out
     ·exact HN.out j y' (by omega) hy
  ·have hltz:¬(kk:Int)<(l0.length:Int):=by omega
   have:kk=l0.length:=by have:=HK.out;omega
   subst this
   go_wp2
   go_ret
   exact⟨by rw[Zcf p l0 HN.out];rfl,HB.out⟩
set_option maxHeartbeats 4000000 in
theorem ZdA.any (p:S123→Bool) (g:Nat) (lb:Array Value) (eg:∀args w,(callFunc g args).run Try.prog w=.ok (.enter g args) w) (A0:Option Addr) (c0:Nat) (l0:List S123) (w:World) (hr0:Kd.C k123 w A0 l0.length l0)
  (hp:∀(W:World) (x:S123),x∈l0→Below w.heap.size w W→Calls Try.prog g (#[.agg #[.int .i64 x.f0,.int .i64 x.f1,.int .i64 x.f2]] ++ lb) W fun e w'=>e=.returned (.bool (p x))∧Below W.heap.size W w') :
  Calls Try.prog 119 #[.slice A0 l0.length c0,.func (.func g) #[] lb] w fun e w'=>e=.returned (.bool (l0.any p))∧Below w.heap.size w w':=by
 have HI:=Za (Zdz.any p g lb eg A0 c0 l0 w hr0 hp)
 clear hr0 hp
 have HE:=Za (Zcw p l0)
 go_enter Try.func119,Try.ntmps119
 go_wp2_with (go_at_call 137;refine HI.out.mono ?_;rintro e w' ⟨rfl,hb⟩)
 go_ret
 exact⟨by rw[← HE.out];rfl,hb⟩
end Go.Proofs.Ythphnhmabieflab.Pr
namespace Go.Proofs.Ythphnhmabieflab.Pr
open Go.RowKit Go.Proofs.YthphnhmabieflabW.PrintWords Go.Proofs.YthphnhmabieflabW.PrintLast Go.Proofs.YthphnhmabieflabW.PrintMore
attribute [local go_sem] Zap Zan Zax Zaw Zai Zah Zao Zam
set_option linter.unusedVariables false
set_option linter.unusedSimpArgs false
def Zbg.f (a0:Int):Option (Bool):=if a0 > (-1000000) then(some (decide (a0<1000000))) else(some false)
set_option maxHeartbeats 8000000 in
set_option maxRecDepth 100000 in
theorem Zbg.calls (a0:Int) (r:Bool) (w:World) (h:Zbg.f a0=some r) :
  Calls Try.prog 121 #[.int .i64 a0] w fun e w'=>e=.returned (.bool r)∧Zab w w':=by
 have H:(if a0 > (-1000000) then(some (decide (a0<1000000))) else(some false))=some r:=h
 clear h
 by_cases c2:a0 > (-1000000)
 ·rw[if_pos c2] at H
  have c2b0:decide ((-1000000)<a0)=true:=Zd c2
  clear c2
  obtain rfl:=Zf H
  go_enter Try.func121,Try.ntmps121
  go_wp2
  go_ret
  exact⟨by first|rfl|(simp;done)|(simp[*];done),by repeat(first|exact Zab.refl _|apply Zab.step)⟩
 ·rw[if_neg c2] at H
  have c2b0:decide ((-1000000)<a0)=false:=Ze c2
  clear c2
  obtain rfl:=Zf H
  go_enter Try.func121,Try.ntmps121
  go_wp2
  go_ret
  exact⟨by first|rfl|(simp;done)|(simp[*];done),by repeat(first|exact Zab.refl _|apply Zab.step)⟩
end Go.Proofs.Ythphnhmabieflab.Pr
namespace Go.Proofs.Ythphnhmabieflab.Pr
open Go.RowKit Go.Proofs.YthphnhmabieflabW.PrintWords Go.Proofs.YthphnhmabieflabW.PrintLast Go.Proofs.YthphnhmabieflabW.PrintMore
attribute [local go_sem] Zap Zan Zax Zaw Zai Zah Zao Zam
set_option linter.unusedVariables false
set_option linter.unusedSimpArgs false
open Go.Proofs.Ythphnhmabieflab.Ni
def wgtB (x:Int):Bool:=decide (-1000000<x) && decide (x<1000000)
theorem wgt_f (x:Int):Zbg.f x=some (wgtB x):=by
 unfold Zbg.f wgtB
 by_cases h:x > -1000000
 ·rw[if_pos h,Zd (show(-1000000:Int)<x from h),Bool.true_and]
 ·rw[if_neg h,Ze (show ¬(-1000000:Int)<x from h),Bool.false_and]
theorem isWeight_q (x:Int) (w:World):Calls Try.prog 121 #[.int .i64 x] w fun e w'=>e=.returned (.bool (wgtB x))∧∃m,w'=w.drewN m:=
 (Zbg.calls x _ w (wgt_f x)).mono fun _ _ ⟨he,hd⟩=>⟨he,hd.out⟩
def Za6 (n:Int) (x:S123):Bool:=inN n x.f0 && (inN n x.f1 && wgtB x.f2)
def ZaS (n:Int) (ls:List S123):Bool:=!(decide (n<0)) && (!(decide (8<n)) && (!(decide (80<ls.length)) && !(ls.any fun x=>!Za6 n x)))
def ZaN.f (a0_0:Int) (l0_1:List (S123)):Option Bool:=some (ZaS a0_0 l0_1)
set_option maxHeartbeats 4000000 in
theorem Zdm.clo (B:Nat) (n:Int) (W:World) (hB:W.cell? ⟨B,0,none⟩=some (.int .i64 n)) (x:S123) :
  Calls Try.prog 120 #[.agg #[.int .i64 x.f0,.int .i64 x.f1,.int .i64 x.f2],.pointer (some ⟨B,0,none⟩)] W fun e w'=>e=.returned (.bool (!Za6 n x))∧Below W.heap.size W w':=by
 have hlt:B<W.heap.size:=Zb W _ hB
 have hu:=Try.underlying123
 have hu3:=Try.underlying78
 obtain⟨f0,f1,f2⟩:=x
 have HE:=Za (show Za6 n ⟨f0,f1,f2⟩=(inN n f0 && (inN n f1 && wgtB f2)) from rfl)
 cases b1:inN n f0 with
 | false=>
  have HF:=Za (show Za6 n ⟨f0,f1,f2⟩=false by rw[HE.out,b1];rfl)
  clear HE
  go_enter Try.func120,Try.ntmps120
  go_wp2_with (go_at_call 52;refine(Zbn _ _ _).mono ?_;rintro e w' ⟨rfl,nd,rfl⟩)
  go_ret
  exact⟨by rw[HF.out];rfl,by repeat(first|exact Below.refl _ _|apply Zq|apply Zl|apply ZaU)⟩
 | true=>
 cases b2:inN n f1 with
 | false=>
  have HF:=Za (show Za6 n ⟨f0,f1,f2⟩=false by rw[HE.out,b1,b2];rfl)
  clear HE
  go_enter Try.func120,Try.ntmps120
  go_wp2_with (go_at_call 52;refine(Zbn _ _ _).mono ?_;rintro e w' ⟨rfl,nd,rfl⟩)
  go_ret
  exact⟨by rw[HF.out];rfl,by repeat(first|exact Below.refl _ _|apply Zq|apply Zl|apply ZaU)⟩
 | true=>
 have HF:=Za (show Za6 n ⟨f0,f1,f2⟩=wgtB f2 by rw[HE.out,b1,b2];rfl)
 clear HE
 go_enter Try.func120,Try.ntmps120
 go_wp2_with (first|(go_at_call 52;refine(Zbn _ _ _).mono ?_;rintro e w' ⟨rfl,nd,rfl⟩)|(go_at_call 121;refine(isWeight_q _ _).mono ?_;rintro e w' ⟨rfl,nd,rfl⟩))
 go_ret
 exact⟨by rw[HF.out];rfl,by repeat(first|exact Below.refl _ _|apply Zq|apply Zl|apply ZaU)⟩
set_option maxHeartbeats 4000000 in
set_option maxRecDepth 100000 in
theorem ZaN.calls (a0_0:Int) (A0_1:Option Addr) (c0_1:Nat) (l0_1:List (S123)) (r:Bool) (w:World) (hr0_1:Kd.C k123 w A0_1 l0_1.length l0_1) (hc0_1:l0_1.length≤c0_1) (h:ZaN.f a0_0 l0_1=some r) :
  Calls Try.prog 81 #[.agg #[.int .i64 a0_0,.slice A0_1 l0_1.length c0_1]] w fun e w'=>e=.returned (.bool r)∧Below w.heap.size w w':=by
 obtain rfl:=Zf h
 have hL:l0_1.length≤9223372036854775807:=hr0_1.2.1
 have HC:=Za fun (W:World) (B:Nat) (hb:Below w.heap.size w W) (hcell:W.cell? ⟨B,0,none⟩=some (.int .i64 a0_0))=>ZdA.any (fun x=>!Za6 a0_0 x) 120 #[.pointer (some ⟨B,0,none⟩)] (enters_of Try.func120 (by kernel_rfl) rfl) A0_1 c0_1 l0_1 W (Kd.C_below hr0_1 hb)
    (fun W' x _ hb'=>Zdm.clo B a0_0 W' (Z7 hb' hcell) x)
 have hu:=Try.underlying78
 have HB:=Za (Zq (Below.refl w.heap.size w) (.cells #[.int .i64 a0_0,.slice A0_1 l0_1.length c0_1] 78))
 clear hr0_1 h
 cases b1:decide (a0_0<0) with
 | true=>
  have HF:=Za (show ZaS a0_0 l0_1=false by unfold ZaS;rw[b1];rfl)
  go_enter Try.func81,Try.ntmps81
  go_wp2
  go_ret
  exact⟨by rw[HF.out];rfl,HB.out⟩
 | false=>
 cases b2:decide (8<a0_0) with
 | true=>
  have HF:=Za (show ZaS a0_0 l0_1=false by unfold ZaS;rw[b1,b2];rfl)
  go_enter Try.func81,Try.ntmps81
  go_wp2
  go_ret
  exact⟨by rw[HF.out];rfl,HB.out⟩
 | false=>
 by_cases q3:80<l0_1.length
 ·have b3:decide (80<l0_1.length)=true:=Zd q3
  have z3:(80:Int)<(l0_1.length:Int):=by omega
  have HF:=Za (show ZaS a0_0 l0_1=false by unfold ZaS;rw[b1,b2,b3];rfl)
  clear b3 q3
  go_enter Try.func81,Try.ntmps81
  go_wp2
  go_ret
  exact⟨by rw[HF.out];rfl,HB.out⟩
 ·have b3:decide (80<l0_1.length)=false:=Ze q3
  have z3:¬(80:Int)<(l0_1.length:Int):=by omega
  have HF:=Za (show ZaS a0_0 l0_1=!(l0_1.any fun x=>!Za6 a0_0 x) by unfold ZaS;rw[b1,b2,b3];rfl)
  clear b3 q3
  generalize l0_1.any (fun x=>!Za6 a0_0 x)=q at HC HF
  go_enter Try.func81,Try.ntmps81
  go_wp2_with fail
  refine(HC.out _ _ HB.out (by go_simp)).mono ?_
  rintro e w' ⟨rfl,hb⟩
  go_wp2
  go_ret
  exact⟨by rw[HF.out];rfl,HB.out.trans (hb.mono HB.out.size)⟩
end Go.Proofs.Ythphnhmabieflab.Pr
namespace Go.Proofs.Ythphnhmabieflab.Pr
open Go.RowKit Go.Proofs.YthphnhmabieflabW.PrintWords Go.Proofs.Ythphnhmabieflab.Ni
abbrev ZU:=S123
abbrev zE:ZU:=z123
theorem pigN:∀(n:Nat) (l:List Nat),l.Nodup→(∀x∈l,x<n)→l.length≤n
 | 0,l,_,h=>by
  cases l with
  | nil=>exact Nat.le_refl _
  | cons x l=>have:=h x (by simp);omega
 | n+1,l,hn,h=>by
  have h1:=pigN n (l.erase n) (hn.sublist (List.erase_sublist ..)) (fun x hx=>by
   have:=(hn.mem_erase_iff).1 hx
   have h2:=h x this.2
   omega)
  rw[List.length_erase] at h1
  split at h1 <;> omega
theorem pigF (n:Nat) (f:Nat→Nat) (h:∀i,i≤n→f i<n):∃i j,i<j∧j≤n∧f i=f j:=by
 apply Classical.byContradiction
 intro hc
 have hd:((List.range (n+1)).map f).Nodup:=by
  unfold List.Nodup
  rw[List.pairwise_map]
  refine List.pairwise_lt_range.imp_of_mem ?_
  intro a b _ hb hab e
  have:=List.mem_range.1 hb
  exact hc ⟨a,b,hab,by omega,e⟩
 have:=pigN n _ hd (fun x hx=>by
  obtain⟨i,hi,rfl⟩:=List.mem_map.1 hx
  have:=List.mem_range.1 hi
  exact h i (by omega))
 simp at this
 omega
abbrev BSt:=List Int×List Int×Int
def relax (s:BSt) (i:Nat) (e:ZU):BSt:=
 if wrap64 (rd s.1 e.f0+e.f2)<rd s.1 e.f1 then(s.1.set e.f1.toNat (wrap64 (rd s.1 e.f0+e.f2)),s.2.1.set e.f1.toNat (i:Int),(i:Int)) else s
def rnd:List ZU→Nat→BSt→BSt
 | [],_,s=>s
 | e :: t,i,s=>rnd t (i+1) (relax s i e)
def rounds (E:List ZU):Nat→BSt→BSt
 | 0,s=>s
 | n+1,s=>rounds E n (rnd E 0 (s.1,s.2.1,-1))
def Zar (E:List ZU) (N:Nat):Prop:=∀e∈E,0≤e.f0∧e.f0<N∧0≤e.f1∧e.f1<N
structure BInv (E:List ZU) (N k i:Nat) (s:BSt) (rk:Nat→Nat):Prop where
 ld:s.1.length=N
 ll:s.2.1.length=N
 k1:1≤k
 R:∀v,rk v≤k
 A:∀j e,E[j]? = some e→rk e.f0.toNat<(if j<i then k else k - 1)→rd s.1 e.f1≤wrap64 (rd s.1 e.f0+e.f2)
 B:∀v,v<N→(s.2.1.getD v 0=-1∧rk v=0)∨∃j e,E[j]? = some e∧s.2.1.getD v 0=((j:Nat):Int)∧e.f1.toNat=v∧1≤rk v∧rk v≤rk e.f0.toNat+1
 C:s.2.2=-1∨∃j e,E[j]? = some e∧s.2.2=((j:Nat):Int)∧rk e.f1.toNat=k
theorem getD_set_ne {l:List Int} {i j:Nat} (h:i≠j) (x d:Int):(l.set i x).getD j d=l.getD j d:=by
 rw[List.getD_eq_getElem?_getD,List.getD_eq_getElem?_getD,List.getElem?_set_ne h]
theorem getD_set_eq {l:List Int} {i:Nat} (h:i<l.length) (x d:Int):(l.set i x).getD i d=x:=by
 rw[List.getD_eq_getElem?_getD,List.getElem?_set_self h];rfl
theorem BInv.step {E:List ZU} {N k i:Nat} {s:BSt} {rk:Nat→Nat} (hE:Zar E N) (h:BInv E N k i s rk) {e:ZU} (he:E[i]? = some e):∃rk',BInv E N k (i+1) (relax s i e) rk':=by
 obtain⟨d,l,ch⟩:=s
 obtain⟨ld,ll,k1,R,A,B,C⟩:=h
 dsimp only at ld ll A B C
 have hin:=hE e (List.mem_of_getElem? he)
 unfold relax
 dsimp only
 by_cases c:wrap64 (rd d e.f0+e.f2)<rd d e.f1
 ·rw[if_pos c]
  refine⟨fun x=>if x=e.f1.toNat then k else rk x,?_,?_,k1,?_,?_,?_,?_⟩
  ·simpa using ld
  ·simpa using ll
  ·intro v;show(if v=e.f1.toNat then k else rk v)≤k;split
   ·exact Nat.le_refl _
   ·exact R v
  ·intro j e' hj hlt
   simp only at hlt ⊢
   have hin':=hE e' (List.mem_of_getElem? hj)
   by_cases c0:e'.f0.toNat=e.f1.toNat
   ·rw[if_pos c0] at hlt;split at hlt <;> omega
   ·rw[if_neg c0] at hlt
    have e0:rd (d.set e.f1.toNat (wrap64 (rd d e.f0+e.f2))) e'.f0=rd d e'.f0:=getD_set_ne (Ne.symm c0) _ _
    rw[e0]
    by_cases hji:j=i
    ·subst hji
     rw[he] at hj
     cases hj
     have e1:rd (d.set e.f1.toNat (wrap64 (rd d e.f0+e.f2))) e.f1=wrap64 (rd d e.f0+e.f2):=getD_set_eq (by omega) _ _
     rw[e1];exact Int.le_refl _
    ·have hA:=A j e' hj (by split at hlt <;> split <;> omega)
     by_cases c1:e'.f1.toNat=e.f1.toNat
     ·have e1:rd (d.set e.f1.toNat (wrap64 (rd d e.f0+e.f2))) e'.f1=wrap64 (rd d e.f0+e.f2):=by unfold rd;rw[c1];exact getD_set_eq (by omega) _ _
      have e2:rd d e'.f1=rd d e.f1:=by unfold rd;rw[c1]
      rw[e1];omega
     ·have e1:rd (d.set e.f1.toNat (wrap64 (rd d e.f0+e.f2))) e'.f1=rd d e'.f1:=getD_set_ne (Ne.symm c1) _ _
      rw[e1];exact hA
  ·intro v hv
   simp only
   by_cases cv:v=e.f1.toNat
   ·right
    refine⟨i,e,he,?_,cv.symm,?_,?_⟩
    ·rw[cv];exact getD_set_eq (by omega) _ _
    ·rw[if_pos cv];exact k1
    ·rw[if_pos cv]
     split
     ·omega
     ·by_cases c2:rk e.f0.toNat<k - 1
      ·have:=A i e he (by rw[if_neg (by omega)];exact c2);omega
      ·omega
   ·rw[if_neg cv,getD_set_ne (Ne.symm cv)]
    rcases B v hv with hb|⟨j,e',h1,h2,h3,h4,h5⟩
    ·exact Or.inl hb
    ·right
     refine⟨j,e',h1,h2,h3,h4,?_⟩
     split
     ·have:=R v;omega
     ·exact h5
  ·right
   exact⟨i,e,he,rfl,by simp only;rw[if_pos trivial]⟩
 ·rw[if_neg c]
  refine⟨rk,ld,ll,k1,R,?_,B,C⟩
  intro j e' hj hlt
  by_cases hji:j=i
  ·subst hji
   rw[he] at hj
   cases hj
   simp only;omega
  ·exact A j e' hj (by split at hlt <;> split <;> omega)
theorem BInv.rnd {E:List ZU} {N k:Nat} (hE:Zar E N):∀(n i:Nat) (s:BSt) (rk:Nat→Nat),i+n=E.length→BInv E N k i s rk→∃rk',BInv E N k E.length (rnd (E.drop i) i s) rk':=by
 intro n
 induction n with
 | zero=>
  intro i s rk hn h
  obtain rfl:i=E.length:=by omega
  rw[List.drop_length];exact⟨rk,h⟩
 | succ n ih=>
  intro i s rk hn h
  have hi:i<E.length:=by omega
  rw[List.drop_eq_getElem_cons hi]
  obtain⟨rk',h'⟩:=h.step hE (Zk hi)
  exact ih (i+1) _ _ (by omega) h'
theorem BInv.next {E:List ZU} {N k:Nat} {s:BSt} {rk:Nat→Nat} (h:BInv E N k E.length s rk):BInv E N (k+1) 0 (s.1,s.2.1,-1) rk:=by
 refine⟨h.ld,h.ll,by omega,fun v=>by have:=h.R v;omega,?_,h.B,Or.inl rfl⟩
 intro j e hj hlt
 have hjl:=(List.getElem?_eq_some_iff.1 hj).1
 rw[if_neg (by omega)] at hlt
 exact h.A j e hj (by rw[if_pos hjl];omega)
theorem BInv.rnds {E:List ZU} {N:Nat} (hE:Zar E N):∀(n k:Nat) (s:BSt) (rk:Nat→Nat),BInv E N k E.length s rk→∃rk',BInv E N (k+n) E.length (rounds E n s) rk':=by
 intro n
 induction n with
 | zero=>intro k s rk h;exact⟨rk,h⟩
 | succ n ih=>
  intro k s rk h
  obtain⟨rk',h'⟩:=BInv.rnd hE E.length 0 _ rk (by omega) h.next
  obtain⟨rk2,h2⟩:=ih (k+1) _ _ h'
  refine⟨rk2,?_⟩
  rw[show k+(n+1)=k+1+n by omega]
  exact h2
def bst0 (N:Nat):BSt:=(List.replicate N 0,List.replicate N (-1),-1)
theorem BInv.start {E:List ZU} {N:Nat}:BInv E N 1 0 (bst0 N) (fun _=>0):=by
 refine⟨by simp[bst0],by simp[bst0],Nat.le_refl _,fun _=>by omega,?_,?_,Or.inl rfl⟩
 ·intro j e _ hlt;rw[if_neg (by omega)] at hlt;omega
 ·intro v hv;left
  refine⟨?_,rfl⟩
  simp[bst0,List.getD_eq_getElem?_getD,hv]
theorem BInv.all {E:List ZU} {N:Nat} (hE:Zar E N) (hN:1≤N):∃rk,BInv E N N E.length (rounds E N (bst0 N)) rk:=by
 obtain⟨m,rfl⟩:∃m,N=m+1:=⟨N - 1,by omega⟩
 obtain⟨rk',h'⟩:=BInv.rnd hE E.length 0 _ _ (by omega) (BInv.start (E:=E) (N:=m+1))
 obtain⟨rk2,h2⟩:=BInv.rnds hE m 1 _ _ h'
 refine⟨rk2,?_⟩
 rw[Nat.add_comm 1 m] at h2
 exact h2
def Good (E:List ZU) (N:Nat) (l:List Int) (v:Nat):Prop:=v<N∧∃j e,E[j]? = some e∧l.getD v 0=((j:Nat):Int)∧e.f1.toNat=v
def bnxt (E:List ZU) (l:List Int) (v:Nat):Nat:=(E.getD (l.getD v 0).toNat zE).f0.toNat
def bit (E:List ZU) (l:List Int):Nat→Nat→Nat
 | 0,v=>v
 | n+1,v=>bnxt E l (bit E l n v)
theorem bit_succ' (E:List ZU) (l:List Int):∀n v,bit E l (n+1) v=bit E l n (bnxt E l v)
 | 0,v=>rfl
 | n+1,v=>by show bnxt E l (bit E l (n+1) v)=bnxt E l (bit E l n (bnxt E l v));rw[bit_succ' E l n v]
theorem Zbs (E:List ZU) (l:List Int) (m:Nat):∀n v,bit E l (n+m) v=bit E l n (bit E l m v)
 | 0,v=>by rw[Nat.zero_add];rfl
 | n+1,v=>by rw[show n+1+m=(n+m)+1 by omega];show bnxt E l _=bnxt E l _;rw[Zbs E l m n v]
theorem bnxt_at {E:List ZU} {l:List Int} {v j:Nat} {e:ZU} (hj:E[j]? = some e) (hl:l.getD v 0=((j:Nat):Int)):bnxt E l v=e.f0.toNat:=by
 unfold bnxt
 rw[hl,Int.toNat_natCast,List.getD_eq_getElem?_getD,hj];rfl
theorem bf_circle {E:List ZU} {N:Nat} (hE:Zar E N) (hN:1≤N) (hc:(rounds E N (bst0 N)).2.2≠-1) :
  let l:=(rounds E N (bst0 N)).2.1
  ∃c e,E[c]? = some e∧(rounds E N (bst0 N)).2.2=((c:Nat):Int)∧(∀i,i≤N→bit E l i e.f1.toNat<N)∧(∀i,i<N→Good E N l (bit E l i e.f1.toNat)) ∧
   (∀m,Good E N l (bit E l m (bit E l N e.f1.toNat)))∧∃q,1≤q∧q≤N∧bit E l q (bit E l N e.f1.toNat)=bit E l N e.f1.toNat:=by
 obtain⟨rk,h⟩:=BInv.all hE hN
 revert hc h
 generalize rounds E N (bst0 N)=s
 obtain⟨d,l,ch⟩:=s
 intro hc h
 dsimp only at hc ⊢
 obtain⟨c,e,he,hce,hk⟩:∃j e,E[j]? = some e∧ch=((j:Nat):Int)∧rk e.f1.toNat=N:=by
  rcases h.C with h0|h0
  ·exact absurd h0 hc
  ·exact h0
 have hin:=hE e (List.mem_of_getElem? he)
 have key:∀i,i≤N→bit E l i e.f1.toNat<N∧N≤rk (bit E l i e.f1.toNat)+i:=by
  intro i
  induction i with
  | zero=>intro _;exact⟨by simp only[bit];omega,by simp only[bit];omega⟩
  | succ i ih=>
   intro hi
   obtain⟨h1,h2⟩:=ih (by omega)
   rcases h.B _ h1 with ⟨_,h3⟩|⟨j,e',hj,hl,_,_,h5⟩
   ·omega
   ·have hin':=hE e' (List.mem_of_getElem? hj)
    show bnxt E l _<N∧N≤rk (bnxt E l _)+_
    rw[bnxt_at hj hl]
    exact⟨by omega,by omega⟩
 have good:∀i,i<N→Good E N l (bit E l i e.f1.toNat):=by
  intro i hi
  obtain⟨h1,h2⟩:=key i (by omega)
  rcases h.B _ h1 with ⟨_,h3⟩|⟨j,e',hj,hl,hv,_,_⟩
  ·omega
  ·exact⟨h1,j,e',hj,hl,hv⟩
 obtain⟨a,b,hab,hbN,hf⟩:=pigF N (fun i=>bit E l i e.f1.toNat) (fun i hi=>(key i hi).1)
 have per:∀m,bit E l (a+m+(b - a)) e.f1.toNat=bit E l (a+m) e.f1.toNat:=by
  intro m
  rw[show a+m+(b - a)=m+b by omega,show a+m=m+a by omega,Zbs,Zbs,hf]
 have goodall:∀m,Good E N l (bit E l m e.f1.toNat):=by
  intro m
  induction m using Nat.strongRecOn with
  | ind m ih=>
   by_cases hm:m<N
   ·exact good m hm
   ·have:=per (m - b)
    rw[show a+(m - b)+(b - a)=m by omega] at this
    rw[this]
    exact ih _ (by omega)
 refine⟨c,e,he,hce,fun i hi=>(key i hi).1,good,fun m=>?_,b - a,by omega,by omega,?_⟩
 ·rw[← Zbs];exact goodall _
 ·rw[← Zbs]
  have:=per (N - a)
  rw[show a+(N - a)=N by omega] at this
  rw[show b - a+N=N+(b - a) by omega]
  exact this
abbrev KSt:=List Int×List Bool×Bool
def rb (l:List Bool) (i:Int):Bool:=l.getD i.toNat false
def ZaI (s:KSt) (e:ZU):KSt:=
 if rb s.2.1 e.f0=true∧(rb s.2.1 e.f1=false∨wrap64 (rd s.1 e.f0+e.f2)<rd s.1 e.f1) then(s.1.set e.f1.toNat (wrap64 (rd s.1 e.f0+e.f2)),s.2.1.set e.f1.toNat true,true) else s
def krnd:List ZU→KSt→KSt
 | [],s=>s
 | e :: t,s=>krnd t (ZaI s e)
def Zbb (E:List ZU):Nat→KSt→KSt
 | 0,s=>s
 | n+1,s=>Zbb E n (krnd E (s.1,s.2.1,false))
theorem Zct (E:List ZU):∀(n:Nat) (s:KSt),Zbb E (n+1) s=(fun u:KSt=>krnd E (u.1,u.2.1,false)) (Zbb E n s)
 | 0,s=>rfl
 | n+1,s=>by show Zbb E (n+1) _=_;rw[Zct E n];rfl
structure KInv (E:List ZU) (N k i t:Nat) (s:KSt) (lst:Nat→Option Nat) (rk T:Nat→Nat):Prop where
 ld:s.1.length=N
 ll:s.2.1.length=N
 k1:1≤k
 R:∀v,rk v≤k
 TT:∀v,T v≤t
 bd:∀v,v<N→-((t:Int) * 1000000)≤s.1.getD v 0∧s.1.getD v 0≤(t:Int) * 1000000
 A:∀j e,E[j]? = some e→rb s.2.1 e.f0=true→rk e.f0.toNat<(if j<i then k else k - 1)→rb s.2.1 e.f1=true∧rd s.1 e.f1≤rd s.1 e.f0+e.f2
 B:∀v,v<N→s.2.1.getD v false=true→(rk v=0)∨∃j e,lst v=some j∧E[j]? = some e∧e.f1.toNat=v∧rb s.2.1 e.f0=true∧1≤rk v∧rk v≤rk e.f0.toNat+1∧rd s.1 e.f0+e.f2≤s.1.getD v 0∧(T e.f0.toNat<T v∨rd s.1 e.f0+e.f2<s.1.getD v 0)
 C:s.2.2=false∨∃v,v<N∧s.2.1.getD v false=true∧rk v=k
def ZaV (E:List ZU):Prop:=∀e∈E,-1000000≤e.f2∧e.f2≤1000000
theorem Zbo {l:List Bool} {i j:Nat} (h:i≠j) (x d:Bool):(l.set i x).getD j d=l.getD j d:=by
 rw[List.getD_eq_getElem?_getD,List.getD_eq_getElem?_getD,List.getElem?_set_ne h]
theorem ZbA {l:List Bool} {i:Nat} (h:i<l.length) (x d:Bool):(l.set i x).getD i d=x:=by
 rw[List.getD_eq_getElem?_getD,List.getElem?_set_self h];rfl
theorem ZbB {l:List Bool} {i j:Nat} (h:l.getD j false=true):(l.set i true).getD j false=true:=by
 by_cases e:i=j
 ·subst e
  have:i<l.length:=by
   rcases Nat.lt_or_ge i l.length with h0|h0
   ·exact h0
   ·rw[List.getD_eq_getElem?_getD,List.getElem?_eq_none h0] at h;cases h
  exact ZbA this _ _
 ·rw[Zbo e];exact h
theorem ZbT {i:Int} (h0 : -9223372036854775808≤i) (h:i≤9223372036854775807):wrap64 i=i:=by
 unfold wrap64;omega
theorem KInv.step {E:List ZU} {N k i t:Nat} {s:KSt} {lst rk T} (hE:Zar E N) (hw:ZaV E) (ht:t≤1000000) (h:KInv E N k i t s lst rk T) {e:ZU} (he:E[i]? = some e):∃lst' rk' T',KInv E N k (i+1) (t+1) (ZaI s e) lst' rk' T':=by
 obtain⟨d,l,ch⟩:=s
 obtain⟨ld,ll,k1,R,TT,bd,A,B,C⟩:=h
 dsimp only at ld ll A B C bd
 have hin:=hE e (List.mem_of_getElem? he)
 have hwe:=hw e (List.mem_of_getElem? he)
 have hb0:=bd e.f0.toNat (by omega)
 have hww:wrap64 (rd d e.f0+e.f2)=rd d e.f0+e.f2:=by
  have:rd d e.f0=d.getD e.f0.toNat 0:=rfl
  rw[this];exact ZbT (by omega) (by omega)
 unfold ZaI
 dsimp only
 rw[hww]
 by_cases c:rb l e.f0=true∧(rb l e.f1=false∨rd d e.f0+e.f2<rd d e.f1)
 ·rw[if_pos c]
  obtain⟨cu,cv⟩:=c
  have eq1:rd (d.set e.f1.toNat (rd d e.f0+e.f2)) e.f1=rd d e.f0+e.f2:=getD_set_eq (by omega) _ _
  have ne1:∀x:Int,x.toNat≠e.f1.toNat→rd (d.set e.f1.toNat (rd d e.f0+e.f2)) x=rd d x:=fun x hx=>getD_set_ne (Ne.symm hx) _ _
  have eqb:rb (l.set e.f1.toNat true) e.f1=true:=ZbA (by omega) _ _
  have neb:∀x:Int,x.toNat≠e.f1.toNat→rb (l.set e.f1.toNat true) x=rb l x:=fun x hx=>Zbo (Ne.symm hx) _ _
  refine⟨fun x=>if x=e.f1.toNat then some i else lst x,fun x=>if x=e.f1.toNat then k else rk x,fun x=>if x=e.f1.toNat then t+1 else T x,?_,?_,k1,?_,?_,?_,?_,?_,?_⟩
  ·simpa using ld
  ·simpa using ll
  ·intro v;show(if v=e.f1.toNat then k else rk v)≤k;split
   ·exact Nat.le_refl _
   ·exact R v
  ·intro v;show(if v=e.f1.toNat then t+1 else T v)≤t+1;split
   ·exact Nat.le_refl _
   ·have:=TT v;omega
  ·intro v hv
   dsimp only
   by_cases c1:v=e.f1.toNat
   ·subst c1
    rw[getD_set_eq (by omega)]
    have:rd d e.f0=d.getD e.f0.toNat 0:=rfl
    rw[this];omega
   ·rw[getD_set_ne (Ne.symm c1)]
    have:=bd v hv;omega
  ·intro j e' hj hkn hlt
   dsimp only at hlt hkn ⊢
   by_cases c0:e'.f0.toNat=e.f1.toNat
   ·rw[if_pos c0] at hlt;split at hlt <;> omega
   ·rw[if_neg c0] at hlt
    rw[neb _ c0] at hkn
    rw[ne1 _ c0]
    by_cases hji:j=i
    ·subst hji
     rw[he] at hj
     cases hj
     exact⟨eqb,by rw[eq1];exact Int.le_refl _⟩
    ·obtain⟨hA1,hA⟩:=A j e' hj hkn (by split at hlt <;> split <;> omega)
     refine⟨ZbB hA1,?_⟩
     by_cases c1:e'.f1.toNat=e.f1.toNat
     ·have e1:rd (d.set e.f1.toNat (rd d e.f0+e.f2)) e'.f1=rd d e.f0+e.f2:=by unfold rd;rw[c1];exact getD_set_eq (by omega) _ _
      have e2:rd d e'.f1=rd d e.f1:=by unfold rd;rw[c1]
      have e3:rb l e'.f1=rb l e.f1:=by unfold rb;rw[c1]
      rw[e3] at hA1
      rcases cv with h0|h0
      ·rw[h0] at hA1;cases hA1
      ·rw[e1];omega
     ·rw[ne1 _ c1];exact hA
  ·intro v hv hkn
   dsimp only at hkn ⊢
   by_cases c1:v=e.f1.toNat
   ·right
    refine⟨i,e,by rw[if_pos c1],he,c1.symm,ZbB cu,by rw[if_pos c1];exact k1,?_,?_,?_⟩
    ·rw[if_pos c1]
     split
     ·omega
     ·by_cases c2:rk e.f0.toNat<k - 1
      ·obtain⟨a1,a2⟩:=A i e he cu (by rw[if_neg (by omega)];exact c2)
       rcases cv with h0|h0
       ·rw[h0] at a1;cases a1
       ·omega
      ·omega
    ·rw[c1,getD_set_eq (by omega)]
     by_cases c2:e.f0.toNat=e.f1.toNat
     ·have e1:rd (d.set e.f1.toNat (rd d e.f0+e.f2)) e.f0=rd d e.f0+e.f2:=by unfold rd;rw[c2];exact getD_set_eq (by omega) _ _
      have e2:rd d e.f0=rd d e.f1:=by unfold rd;rw[c2]
      have e3:rb l e.f0=rb l e.f1:=by unfold rb;rw[c2]
      rw[e1]
      rcases cv with h0|h0
      ·rw[← e3,cu] at h0;cases h0
      ·omega
     ·rw[ne1 _ c2];exact Int.le_refl _
    ·by_cases c2:e.f0.toNat=e.f1.toNat
     ·right
      have e1:rd (d.set e.f1.toNat (rd d e.f0+e.f2)) e.f0=rd d e.f0+e.f2:=by unfold rd;rw[c2];exact getD_set_eq (by omega) _ _
      have e2:rd d e.f0=rd d e.f1:=by unfold rd;rw[c2]
      have e3:rb l e.f0=rb l e.f1:=by unfold rb;rw[c2]
      rw[c1,getD_set_eq (by omega),e1]
      rcases cv with h0|h0
      ·rw[← e3,cu] at h0;cases h0
      ·omega
     ·left
      rw[if_neg c2,if_pos c1]
      have:=TT e.f0.toNat;omega
   ·rw[Zbo (Ne.symm c1)] at hkn
    rw[if_neg c1,if_neg c1,if_neg c1,getD_set_ne (Ne.symm c1)]
    rcases B v hv hkn with hb|⟨j,e',h1,h2,h3,h4,h5,h6,h7,h8⟩
    ·exact Or.inl hb
    ·right
     refine⟨j,e',h1,h2,h3,ZbB h4,h5,?_,?_,?_⟩
     ·split
      ·have:=R v;omega
      ·exact h6
     ·by_cases c2:e'.f0.toNat=e.f1.toNat
      ·have e1:rd (d.set e.f1.toNat (rd d e.f0+e.f2)) e'.f0=rd d e.f0+e.f2:=by unfold rd;rw[c2];exact getD_set_eq (by omega) _ _
       have e2:rd d e'.f0=rd d e.f1:=by unfold rd;rw[c2]
       have e3:rb l e'.f0=rb l e.f1:=by unfold rb;rw[c2]
       rw[e3] at h4
       rw[e1]
       rcases cv with h0|h0
       ·rw[h0] at h4;cases h4
       ·omega
      ·rw[ne1 _ c2];exact h7
     ·by_cases c2:e'.f0.toNat=e.f1.toNat
      ·right
       have e1:rd (d.set e.f1.toNat (rd d e.f0+e.f2)) e'.f0=rd d e.f0+e.f2:=by unfold rd;rw[c2];exact getD_set_eq (by omega) _ _
       have e2:rd d e'.f0=rd d e.f1:=by unfold rd;rw[c2]
       have e3:rb l e'.f0=rb l e.f1:=by unfold rb;rw[c2]
       rw[e3] at h4
       rw[e1]
       rcases cv with h0|h0
       ·rw[h0] at h4;cases h4
       ·omega
      ·rw[ne1 _ c2,if_neg c2];exact h8
  ·right
   exact⟨e.f1.toNat,by omega,eqb,if_pos rfl⟩
 ·rw[if_neg c]
  refine⟨lst,rk,T,ld,ll,k1,R,fun v=>by have:=TT v;omega,fun v hv=>by have:=bd v hv;show -(((t+1:Nat):Int) * 1000000)≤d.getD v 0∧d.getD v 0≤((t+1:Nat):Int) * 1000000;omega,?_,B,C⟩
  intro j e' hj hkn hlt
  by_cases hji:j=i
  ·subst hji
   rw[he] at hj
   cases hj
   dsimp only at hkn ⊢
   cases hv:rb l e.f1 with
   | false=>exact absurd ⟨hkn,Or.inl hv⟩ c
   | true=>
    refine⟨rfl,?_⟩
    apply Classical.byContradiction
    intro h0
    exact c ⟨hkn,Or.inr (by omega)⟩
  ·exact A j e' hj hkn (by split at hlt <;> split <;> omega)
theorem KInv.rnd {E:List ZU} {N k:Nat} (hE:Zar E N) (hw:ZaV E):∀(n i t:Nat) (s:KSt) (lst rk T),i+n=E.length→t+n≤1000000→KInv E N k i t s lst rk T→∃lst' rk' T',KInv E N k E.length (t+n) (krnd (E.drop i) s) lst' rk' T':=by
 intro n
 induction n with
 | zero=>
  intro i t s lst rk T hn _ h
  obtain rfl:i=E.length:=by omega
  rw[List.drop_length];exact⟨lst,rk,T,h⟩
 | succ n ih=>
  intro i t s lst rk T hn ht h
  have hi:i<E.length:=by omega
  rw[List.drop_eq_getElem_cons hi]
  obtain⟨lst',rk',T',h'⟩:=h.step hE hw (by omega) (Zk hi)
  rw[show t+(n+1)=t+1+n by omega]
  exact ih (i+1) (t+1) _ _ _ _ (by omega) (by omega) h'
theorem KInv.next {E:List ZU} {N k t:Nat} {s:KSt} {lst rk T} (h:KInv E N k E.length t s lst rk T):KInv E N (k+1) 0 t (s.1,s.2.1,false) lst rk T:=by
 refine⟨h.ld,h.ll,by omega,fun v=>by have:=h.R v;omega,h.TT,h.bd,?_,h.B,Or.inl rfl⟩
 intro j e hj hkn hlt
 have hjl:=(List.getElem?_eq_some_iff.1 hj).1
 rw[if_neg (by omega)] at hlt
 exact h.A j e hj hkn (by rw[if_pos hjl];omega)
def kst0 (N:Nat) (a:Nat):KSt:=(List.replicate N 0,(List.replicate N false).set a true,false)
theorem KInv.start {E:List ZU} {N a:Nat}:KInv E N 1 0 0 (kst0 N a) (fun _=>none) (fun _=>0) (fun _=>0):=by
 refine⟨by simp[kst0],by simp[kst0],Nat.le_refl _,fun _=>by omega,fun _=>by omega,?_,?_,?_,Or.inl rfl⟩
 ·intro v hv;simp[kst0,List.getD_eq_getElem?_getD,hv]
 ·intro j e _ _ hlt;rw[if_neg (by omega)] at hlt;omega
 ·intro v _ _;exact Or.inl rfl
theorem KInv.afterS {E:List ZU} {N:Nat} {s0:KSt} (hE:Zar E N) (hw:ZaV E) (hl:E.length≤100) (h0:KInv E N 1 0 0 s0 (fun _=>none) (fun _=>0) (fun _=>0)):∀(r:Nat),r≤1000→∃lst rk T,KInv E N (r+1) E.length ((r+1) * E.length) (Zbb E (r+1) s0) lst rk T:=by
 intro r
 induction r with
 | zero=>
  intro _
  obtain⟨lst,rk,T,h⟩:=KInv.rnd hE hw E.length 0 0 _ _ _ _ (by omega) (by omega) (show KInv E N 1 0 0 (s0.1,s0.2.1,false) _ _ _ from⟨h0.ld,h0.ll,h0.k1,h0.R,h0.TT,h0.bd,h0.A,h0.B,Or.inl rfl⟩)
  refine⟨lst,rk,T,?_⟩
  rw[show(0+1) * E.length=0+E.length by omega]
  exact h
 | succ r ih=>
  intro hr
  obtain⟨lst,rk,T,h⟩:=ih (by omega)
  have hb:(r+1) * E.length+E.length≤1000000:=by
   have:(r+1) * E.length≤1001 * 100:=Nat.mul_le_mul (by omega) hl
   omega
  obtain⟨lst',rk',T',h'⟩:=KInv.rnd hE hw E.length 0 _ _ _ _ _ (by omega) hb h.next
  refine⟨lst',rk',T',?_⟩
  rw[show(r+1+1) * E.length=(r+1) * E.length+E.length by rw[Nat.add_mul (r+1) 1];omega,Zct]
  exact h'
theorem bf_stillS {E:List ZU} {N:Nat} {s0:KSt} (hE:Zar E N) (hw:ZaV E) (hl:E.length≤100) (hN:1≤N) (hN2:N≤1000) (p:Nat→Int) (hp:∀e∈E,p e.f1.toNat≤p e.f0.toNat+e.f2) (h0:KInv E N 1 0 0 s0 (fun _=>none) (fun _=>0) (fun _=>0)):(Zbb E N s0).2.2=false:=by
 obtain⟨m,rfl⟩:∃m,N=m+1:=⟨N - 1,by omega⟩
 obtain⟨lst,rk,T,h⟩:=KInv.afterS hE hw hl h0 m (by omega)
 revert h
 generalize Zbb E (m+1) s0=s
 obtain⟨d,l,ch⟩:=s
 intro h
 rcases h.C with hc|⟨v0,hv0,hk0,hr0⟩
 ·exact hc
 exfalso
 let nx:Nat→Nat:=fun v=>match lst v with|some j=>(E.getD j zE).f0.toNat|none=>0
 let nd:Nat→Nat:=fun i=>Nat.rec v0 (fun _ v=>nx v) i
 have nds:∀i,nd (i+1)=nx (nd i):=fun i=>rfl
 have key:∀i,i≤m+1→nd i<m+1∧l.getD (nd i) false=true∧m+1≤rk (nd i)+i:=by
  intro i
  induction i with
  | zero=>intro _;exact⟨hv0,hk0,by show m+1≤rk v0+0;omega⟩
  | succ i ih=>
   intro hi
   obtain⟨h1,h2,h3⟩:=ih (by omega)
   rcases h.B _ h1 h2 with h4|⟨j,e,q1,q2,q3,q4,q5,q6,_,_⟩
   ·omega
   ·have hin:=hE e (List.mem_of_getElem? q2)
    have:nd (i+1)=e.f0.toNat:=by
     rw[nds];show(match lst (nd i) with|some j=>(E.getD j zE).f0.toNat|none=>0)=_
     rw[q1];simp only;rw[List.getD_eq_getElem?_getD,q2];rfl
    rw[this]
    exact⟨by omega,q4,by omega⟩
 have lex:∀i,i<m+1→d.getD (nd (i+1)) 0 - p (nd (i+1))<d.getD (nd i) 0 - p (nd i)∨(d.getD (nd (i+1)) 0 - p (nd (i+1))≤d.getD (nd i) 0 - p (nd i)∧T (nd (i+1))<T (nd i)):=by
  intro i hi
  obtain⟨h1,h2,h3⟩:=key i (by omega)
  rcases h.B _ h1 h2 with h4|⟨j,e,q1,q2,q3,q4,q5,q6,q7,q8⟩
  ·omega
  ·have hpe:=hp e (List.mem_of_getElem? q2)
   have:nd (i+1)=e.f0.toNat:=by
    rw[nds];show(match lst (nd i) with|some j=>(E.getD j zE).f0.toNat|none=>0)=_
    rw[q1];simp only;rw[List.getD_eq_getElem?_getD,q2];rfl
   rw[this]
   rw[q3] at hpe
   have e0:rd d e.f0=d.getD e.f0.toNat 0:=rfl
   dsimp only at q7 q8
   rw[e0] at q7 q8
   rcases q8 with q8|q8
   ·right;exact⟨by omega,q8⟩
   ·left;omega
 have lexs:∀n i,i+(n+1)≤m+1→d.getD (nd (i+(n+1))) 0 - p (nd (i+(n+1)))<d.getD (nd i) 0 - p (nd i)∨(d.getD (nd (i+(n+1))) 0 - p (nd (i+(n+1)))≤d.getD (nd i) 0 - p (nd i)∧T (nd (i+(n+1)))<T (nd i)):=by
  intro n
  induction n with
  | zero=>intro i hi;exact lex i (by omega)
  | succ n ih=>
   intro i hi
   have a1:=lex i (by omega)
   have a2:=ih (i+1) (by omega)
   rw[show i+1+(n+1)=i+(n+1+1) by omega] at a2
   rcases a1 with a1|⟨a1,a3⟩ <;> rcases a2 with a2|⟨a2,a4⟩
   ·left;omega
   ·left;omega
   ·left;omega
   ·right;exact⟨by omega,by omega⟩
 obtain⟨i,j,hij,hj,he⟩:=pigF (m+1) nd (fun i hi=>(key i hi).1)
 have:=lexs (j - i - 1) i (by omega)
 rw[show i+(j - i - 1+1)=j by omega,← he] at this
 omega
theorem bf_still {E:List ZU} {N a:Nat} (hE:Zar E N) (hw:ZaV E) (hl:E.length≤100) (hN:1≤N) (hN2:N≤1000) (p:Nat→Int) (hp:∀e∈E,p e.f1.toNat≤p e.f0.toNat+e.f2):(Zbb E N (kst0 N a)).2.2=false:=bf_stillS hE hw hl hN hN2 p hp KInv.start
def turnB (E:List ZU) (l:List Int) (a N:Nat):Nat:=match (List.range N).find? (fun i=>bit E l (i+1) a == a) with|some i=>i+1|none=>0
theorem turnB_some {E:List ZU} {l:List Int} {a N:Nat} (h:∃q,1≤q∧q≤N∧bit E l q a=a):1≤turnB E l a N∧turnB E l a N≤N∧bit E l (turnB E l a N) a=a∧∀i,1≤i→i<turnB E l a N→bit E l i a≠a:=by
 unfold turnB
 cases hf:(List.range N).find? (fun i=>bit E l (i+1) a == a) with
 | none=>
  obtain⟨q,h1,h2,h3⟩:=h
  rw[List.find?_eq_none] at hf
  have:=hf (q - 1) (List.mem_range.2 (by omega))
  rw[show q - 1+1=q by omega,h3] at this
  simp at this
 | some i=>
  rw[List.find?_eq_some_iff_append] at hf
  obtain⟨hp,us,bs,he,hn⟩:=hf
  have hi:i=us.length∧i<N:=by
   have h1:(List.range N)[us.length]? = some i:=by rw[he];simp
   obtain⟨h2,h3⟩:=List.getElem?_eq_some_iff.1 h1
   rw[List.getElem_range] at h3
   rw[List.length_range] at h2
   omega
  refine⟨by simp,by simp only;omega,by simpa using hp,fun j h1 h2=>?_⟩
  simp only at h2
  have hm:j - 1∈us:=by
   have h3:(List.range N)[j - 1]? = some (j - 1):=by rw[List.getElem?_range (by omega)]
   rw[he,List.getElem?_append_left (by omega)] at h3
   exact List.mem_of_getElem? h3
  have:=hn _ hm
  rw[show j - 1+1=j by omega] at this
  simpa using this
def cycB (E:List ZU) (l:List Int) (a q:Nat):List Int:=(List.range q).map fun i=>l.getD (bit E l i a) 0
theorem cycB_succ (E:List ZU) (l:List Int) (a q:Nat):cycB E l a (q+1)=cycB E l a q ++ [l.getD (bit E l q a) 0]:=by
 unfold cycB
 rw[List.range_succ,List.map_append];rfl
theorem ZcQ (E:List ZU) (l:List Int) (a q:Nat):(cycB E l a q).length=q:=by simp[cycB]
def backB (E:List ZU) (N:Nat) (s:BSt):Nat:=bit E s.2.1 N (E.getD s.2.2.toNat zE).f1.toNat
def ncB (N:Nat) (E:List ZU):List Int:=let s:=rounds E N (bst0 N);if s.2.2<0 then[] else(cycB E s.2.1 (backB E N s) (turnB E s.2.1 (backB E N s) N)).reverse
theorem relax_len {E:BSt} {N i:Nat} {e:ZU} (h:E.1.length=N∧E.2.1.length=N):(relax E i e).1.length=N∧(relax E i e).2.1.length=N:=by
 unfold relax
 split
 ·simpa using h
 ·exact h
theorem bf_after {E:List ZU} {N:Nat} (hE:Zar E N) (hN:1≤N) {d l:List Int} {ch:Int} (hs:(d,l,ch)=rounds E N (bst0 N)) :
  (ch=-1∧ncB N E=[])∨∃(c v q:Nat),ch=(c:Int)∧c<E.length∧v<N∧(E.getD c zE).f1=(v:Int)∧1≤q∧q≤N∧(∀m,bit E l m v<N∧0≤l.getD (bit E l m v) 0∧l.getD (bit E l m v) 0<E.length) ∧
   (∀m,bit E l (m+1) v=(E.getD (l.getD (bit E l m v) 0).toNat zE).f0.toNat)∧bit E l q (bit E l N v)=bit E l N v∧(∀i,1≤i→i<q→bit E l i (bit E l N v)≠bit E l N v)∧ncB N E=(cycB E l (bit E l N v) q).reverse:=by
 by_cases hc:ch=-1
 ·left
  refine⟨hc,?_⟩
  unfold ncB
  rw[← hs]
  simp[hc]
 ·right
  have hx:=bf_circle hE hN (by rw[← hs];exact hc)
  rw[← hs] at hx
  obtain⟨c,e,he,hce,hlt,hg,hga,hq⟩:=hx
  dsimp only at hce hlt hg hga hq
  have hcl:=(List.getElem?_eq_some_iff.1 he).1
  have hin:=hE e (List.mem_of_getElem? he)
  have hgd:E.getD c zE=e:=by rw[List.getD_eq_getElem?_getD,he];rfl
  have ht:=turnB_some hq
  have hall:∀m,Good E N l (bit E l m e.f1.toNat):=by
   intro m
   by_cases hm:m<N
   ·exact hg m hm
   ·have:=hga (m - N)
    rw[← Zbs,show m - N+N=m by omega] at this
    exact this
  refine⟨c,e.f1.toNat,turnB E l (bit E l N e.f1.toNat) N,hce,hcl,by omega,by rw[hgd];omega,ht.1,ht.2.1,fun m=>?_,fun m=>rfl,ht.2.2.1,ht.2.2.2,?_⟩
  ·obtain⟨h1,j,e',hj,hl,_⟩:=hall m
   have:=(List.getElem?_eq_some_iff.1 hj).1
   exact⟨h1,by omega,by omega⟩
  ·unfold ncB backB
   rw[← hs]
   simp only
   rw[if_neg (by omega),show ch.toNat=c by omega,hgd]
abbrev SSt:=List Int×List Int×List Bool×Int
def Zbm (s:SSt) (i:Nat) (e:ZU):SSt:=
 if rb s.2.2.1 e.f0=true∧(rb s.2.2.1 e.f1=false∨wrap64 (rd s.1 e.f0+e.f2)<rd s.1 e.f1) then(s.1.set e.f1.toNat (wrap64 (rd s.1 e.f0+e.f2)),s.2.1.set e.f1.toNat (i:Int),s.2.2.1.set e.f1.toNat true,(i:Int)) else s
def srnd:List ZU→Nat→SSt→SSt
 | [],_,s=>s
 | e :: t,i,s=>srnd t (i+1) (Zbm s i e)
theorem rb_all {N:Nat} {x:Int} (h0:0≤x) (h:x<N):rb (List.replicate N true) x=true:=by
 unfold rb
 rw[List.getD_eq_getElem?_getD,List.getElem?_replicate,if_pos (by omega)];rfl
theorem srelax_all {N i:Nat} {d l:List Int} {ch:Int} {e:ZU} (h:0≤e.f0∧e.f0<N∧0≤e.f1∧e.f1<N):Zbm (d,l,List.replicate N true,ch) i e=((relax (d,l,ch) i e).1,(relax (d,l,ch) i e).2.1,List.replicate N true,(relax (d,l,ch) i e).2.2):=by
 unfold Zbm relax
 dsimp only
 rw[rb_all h.1 h.2.1,rb_all h.2.2.1 h.2.2.2]
 by_cases c:wrap64 (rd d e.f0+e.f2)<rd d e.f1
 ·rw[if_pos ⟨rfl,.inr c⟩,if_pos c]
  simp
 ·rw[if_neg (by simp[c]),if_neg c]
theorem srnd_all {N:Nat}:∀(E:List ZU) (i:Nat) (d l:List Int) (ch:Int),Zar E N→srnd E i (d,l,List.replicate N true,ch)=((rnd E i (d,l,ch)).1,(rnd E i (d,l,ch)).2.1,List.replicate N true,(rnd E i (d,l,ch)).2.2)
 | [],_,_,_,_,_=>rfl
 | e :: t,i,d,l,ch,h=>by
  show srnd t (i+1) (Zbm _ i e)=_
  rw[srelax_all (h e (by simp))]
  rw[srnd_all t (i+1) _ _ _ (fun x hx=>h x (by simp[hx]))]
  rfl
def sknow (s:SSt):KSt:=(s.1,s.2.2.1,decide (0≤s.2.2.2))
theorem srelax_k (s:SSt) (i:Nat) (e:ZU):sknow (Zbm s i e)=ZaI (sknow s) e:=by
 obtain⟨d,l,kn,ch⟩:=s
 unfold Zbm ZaI sknow
 dsimp only
 split
 ·simp
 ·rfl
theorem srnd_k:∀(E:List ZU) (i:Nat) (s:SSt),sknow (srnd E i s)=krnd E (sknow s)
 | [],_,_=>rfl
 | e :: t,i,s=>by
  show sknow (srnd t (i+1) (Zbm s i e))=krnd t (ZaI (sknow s) e)
  rw[srnd_k t,srelax_k]
theorem srelax_len {s:SSt} {i n:Nat} {e:ZU} (h:s.1.length=n∧s.2.1.length=n∧s.2.2.1.length=n):(Zbm s i e).1.length=n∧(Zbm s i e).2.1.length=n∧(Zbm s i e).2.2.1.length=n:=by
 unfold Zbm
 split
 ·simpa using h
 ·exact h
def isf (E:List ZU):Nat→KSt→Option KSt
 | 0,_=>none
 | m+1,s=>let u:=krnd E (s.1,s.2.1,false);if u.2.2=false then some u else isf E m u
def finB (s:KSt):List Int:=(List.range s.1.length).map fun i=>if s.2.1.getD i false=true then min (s.1.getD i 0) 1000000 else 1000000
theorem Zci (s:KSt):(finB s).length=s.1.length:=by simp[finB]
theorem Zce {E:List ZU}:∀{m:Nat} {s u:KSt},isf E m s=some u→isf E (m+1) s=some u
 | 0,_,_,h=>by cases h
 | m+1,s,u,h=>by
  rw[isf] at h ⊢
  try dsimp only at h ⊢
  split at h
  ·rename_i h1;rw[if_pos h1];exact h
  ·rename_i h1;rw[if_neg h1];exact Zce h
theorem isf_of {E:List ZU}:∀(m:Nat) (s:KSt),(Zbb E (m+1) s).2.2=false→∃u,isf E (m+1) s=some u
 | 0,s,h=>by
  rw[isf]
  try dsimp only
  have h':(krnd E (s.1,s.2.1,false)).2.2=false:=h
  rw[if_pos h']
  exact⟨_,rfl⟩
 | m+1,s,h=>by
  rw[isf]
  try dsimp only
  split
  ·exact⟨_,rfl⟩
  ·exact isf_of m _ h
theorem Zcj {f d:List Int} {j:Nat} (hl:f.length=d.length) (hj:j<d.length):(f.take j ++ d.drop j).set j (f.getD j 0)=f.take (j+1) ++ d.drop (j+1):=by
 rw[Za9 hj 0]
 have:(f.take j).length=j:=by rw[Zi];omega
 have h2:=set_mid (f.take j) (d.getD j 0) (f.getD j 0) (d.drop (j+1))
 rw[this] at h2
 rw[h2,List.take_succ_eq_append_getElem (by omega),List.append_assoc,List.getD_eq_getElem?_getD,Zk (by omega)];rfl
theorem fill_at {f d:List Int} {j:Nat} (hl:f.length=d.length) (hj:j<d.length):(f.take j ++ d.drop j).getD j 0=d.getD j 0:=by
 have:(f.take j).length=j:=by rw[Zi];omega
 rw[List.getD_eq_getElem?_getD,List.getElem?_append_right (by omega),this,Nat.sub_self,List.getElem?_drop,Nat.add_zero,← List.getD_eq_getElem?_getD]
theorem fill_keep {f d:List Int} {j:Nat} (hl:f.length=d.length) (hj:j<d.length) (h:d.getD j 0=f.getD j 0):f.take j ++ d.drop j=f.take (j+1) ++ d.drop (j+1):=by
 rw[← Zcj hl hj,← h]
 have e:=fill_at hl hj
 have:j<(f.take j ++ d.drop j).length:=by simp;omega
 rw[← e,List.getD_eq_getElem?_getD,Zk this]
 simp
theorem finB_at {s:KSt} {j:Nat} (hj:j<s.1.length):(finB s).getD j 0=if s.2.1.getD j false=true then min (s.1.getD j 0) 1000000 else 1000000:=by
 unfold finB
 rw[List.getD_eq_getElem?_getD,List.getElem?_map,List.getElem?_range hj];rfl
theorem isf_c (E:List ZU) (m:Nat) (d:List Int) (kn:List Bool) (c c':Bool):isf E m (d,kn,c)=isf E m (d,kn,c'):=by
 cases m <;> rfl
def sfB (n:Int) (E:List ZU) (a:Int) (m:Nat):List Int×Bool:=match isf E m (kst0 n.toNat a.toNat) with|some u=>(finB u,true)|none=>([],false)
abbrev IR (w:World) (B g n c:Nat) (xs:List Int):Prop:=Kd.R (Kd.int .i64) 3 w B (fun k=>k=g) (.slice (some ⟨g,0,none⟩) n c) xs
theorem IR.of {w:World} {B g n c:Nat} {ok:Nat→Prop} {xs:List Int} (h:Kd.R (Kd.int .i64) 3 w B ok (.slice (some ⟨g,0,none⟩) n c) xs):IR w B g n c xs:=
 ⟨fun k hk=>by simp[Value.ownBlock] at hk;exact hk.symm,h.2⟩
theorem IR.cell {w:World} {B g n c:Nat} {xs:List Int} (h:IR w B g n c xs) {i:Int} (h0:0≤i) (h1:i<n):w.cell? ⟨g,i.toNat,none⟩=some (.int .i64 (rd xs i))∧w.frozen? ⟨g,i.toNat,none⟩=false:=Kd.R_celln 0 h i h0 h1
theorem IR.put {w:World} {B g n c:Nat} {xs:List Int} (h:IR w B g n c xs) (i x:Int):IR (w.setCell ⟨g,i.toNat,none⟩ (.int .i64 x)) B g n c (xs.set i.toNat x):=Kd.R_putn h i x
theorem IR.far {w:World} {B g n c:Nat} {xs:List Int} (h:IR w B g n c xs) {p:Addr} (ne:g≠p.block) (u:Value):IR (w.setCell p u) B g n c xs:=Kd.R_far h (fun k hk=>by subst hk;exact ne) u
theorem IR.low {w w1:World} {B g n c:Nat} {xs:List Int} (h:IR w B g n c xs) (hb:Below w.heap.size w w1):IR w1 B g n c xs:=Kd.R_below h hb
theorem IR.lt {w:World} {B g n c:Nat} {xs:List Int} (h:IR w B g n c xs):g<w.heap.size:=Kd.R_lt h g (by simp[Value.ownBlock])
theorem IR.base {w:World} {B g n c:Nat} {xs:List Int} (h:IR w B g n c xs):B≤g:=Kd.R_base h g (by simp[Value.ownBlock])
theorem IR.reads {w:World} {B g n c:Nat} {xs:List Int} (h:IR w B g n c xs):n=xs.length∧n≤c∧Kd.C (Kd.int .i64) w (some ⟨g,0,none⟩) xs.length xs:=Kd.R_reads' h
abbrev BR (w:World) (B g n c:Nat) (xs:List Bool):Prop:=Kd.R Kd.bool 4 w B (fun k=>k=g) (.slice (some ⟨g,0,none⟩) n c) xs
theorem BR.of {w:World} {B g n c:Nat} {ok:Nat→Prop} {xs:List Bool} (h:Kd.R Kd.bool 4 w B ok (.slice (some ⟨g,0,none⟩) n c) xs):BR w B g n c xs:=
 ⟨fun k hk=>by simp[Value.ownBlock] at hk;exact hk.symm,h.2⟩
theorem BR.cell {w:World} {B g n c:Nat} {xs:List Bool} (h:BR w B g n c xs) {i:Int} (h0:0≤i) (h1:i<n):w.cell? ⟨g,i.toNat,none⟩=some (.bool (xs.getD i.toNat false))∧w.frozen? ⟨g,i.toNat,none⟩=false:=Kd.R_celln false h i h0 h1
theorem BR.put {w:World} {B g n c:Nat} {xs:List Bool} (h:BR w B g n c xs) (i:Int) (x:Bool):BR (w.setCell ⟨g,i.toNat,none⟩ (.bool x)) B g n c (xs.set i.toNat x):=Kd.R_putn h i x
theorem BR.far {w:World} {B g n c:Nat} {xs:List Bool} (h:BR w B g n c xs) {p:Addr} (ne:g≠p.block) (u:Value):BR (w.setCell p u) B g n c xs:=Kd.R_far h (fun k hk=>by subst hk;exact ne) u
theorem BR.low {w w1:World} {B g n c:Nat} {xs:List Bool} (h:BR w B g n c xs) (hb:Below w.heap.size w w1):BR w1 B g n c xs:=Kd.R_below h hb
theorem BR.lt {w:World} {B g n c:Nat} {xs:List Bool} (h:BR w B g n c xs):g<w.heap.size:=Kd.R_lt h g (by simp[Value.ownBlock])
theorem BR.base {w:World} {B g n c:Nat} {xs:List Bool} (h:BR w B g n c xs):B≤g:=Kd.R_base h g (by simp[Value.ownBlock])
theorem ZbN {n:Int} {E:List ZU} (h:ZaS n E=true):0≤n∧n≤8∧E.length≤80∧∀e∈E,0≤e.f0∧e.f0<n∧0≤e.f1∧e.f1<n∧-1000000<e.f2∧e.f2<1000000:=by
 unfold ZaS at h
 simp only[Bool.and_eq_true,Bool.not_eq_true',decide_eq_false_iff_not] at h
 obtain⟨h1,h2,h3,h4⟩:=h
 refine⟨by omega,by omega,by omega,fun e he=>?_⟩
 have:=List.any_eq_false.1 h4 e he
 unfold Za6 wgtB inN at this
 simp at this
 omega
end Go.Proofs.Ythphnhmabieflab.Pr
