/- Laws for the walk. -/
import Derived.Test.YtplakbflfckldaaGreatYar
set_option linter.unusedVariables false
set_option maxHeartbeats 4000000
namespace Go.Proofs.YtplakbflfckldaaGreat
open Go.RowKit Tr
def IntB(base:Nat)(z:Int):Fact:=fun v w A=>∃ m sl,v=.pointer (some ⟨m,0,none⟩)∧base≤m∧¬A m∧w.heap[m]?=some (.cells #[.bool (decide (z<0)),sl] 185 (0,0))∧WSlA A w sl (words z.natAbs)
theorem IntB.keeps(base:Nat)(z:Int):(IntB base z).Keeps:=by
 intro v w w' A A' hs hk ⟨m,sl,h1,h2,h3,h4,h5⟩
 obtain⟨k1,k2⟩:=hk m (Array.getElem?_eq_some_iff.1 h4).1 h3
 exact⟨m,sl,h1,h2,k2,k1.trans h4,h5.keep hs hk⟩
theorem Put.intB{m base:Nat}{b s:Value}{z:Int}{w w':World}(h:Put m 0 #[b,s] 185 z w w')(hm:base≤m){A:Nat→Prop}(hA:Rcv A w):IntB base z (.pointer (some ⟨m,0,none⟩)) w' (fun b=>A b∧b≠m):=by
 have h0:=h.intP (by simp) hA
 obtain⟨h1,sl,h2,h3⟩:=h
 refine⟨m,sl,rfl,hm,fun h=>h.2 rfl,h2,h3.avoids fun b hb=>?_⟩
 obtain⟨zz,k1,k2⟩:=hA b hb.1
 exact⟨zz,(h1.block b (Array.getElem?_eq_some_iff.1 k1).1 hb.2).trans k1,k2⟩
theorem IntB.parts{base:Nat}{z:Int}{v:Value}{w:World}{A:Nat→Prop}(h:IntB base z v w A):∃ m C,v=.pointer (some ⟨m,0,none⟩)∧base≤m∧w.heap[m]?=some (.cells C 185 (0,0))∧C.size=2∧NoW (.cells C 185 (0,0))∧IntP z (.pointer (some ⟨m,0,none⟩)) w A:=by
 obtain⟨m,sl,h1,h2,h3,h4,h5⟩:=h
 refine⟨m,_,h1,h2,h4,rfl,?_,m,0,sl,rfl,(Array.getElem?_eq_some_iff.1 h4).1,h3,by simp[World.cell?,h4],by simp[World.cell?,h4],h5⟩
 obtain⟨p,c,rfl,_⟩:=h5
 intro cs T fr e i k x
 cases e
 rcases i with _|_|i<;>simp
theorem natAbs_sub_le(a b:Int):(a - b).natAbs≤a.natAbs+b.natAbs:=by omega
set_option maxRecDepth 100000 in
theorem RAdd_any(m:Nat)(C:Array Value)(x y:Rat)(vx vy:Value)(A:Nat→Prop)(w:World)(hm:w.heap[m]?=some (.cells C 187 (0,0)))(hC4:C.size=4)(hC:NoW (.cells C 187 (0,0)))(hx:RatP x vx w A)(hy:RatP y vy w A)(k l:Nat)(hlx:RL x k)(hly:RL y l)(hkl:k+l<137438953472) :
  Calls Tryz.prog 132 #[.pointer (some ⟨m,0,none⟩),vx,vy] w fun e w'=>e=.returned (.pointer (some ⟨m,0,none⟩))∧PutR m (x+y) w w':=by
 have hx:=hx.noA
 have hy:=hy.noA
 obtain⟨b,rfl⟩:=hx.shape
 obtain⟨b2,rfl⟩:=hy.shape
 have hmlt:m<w.heap.size:=(Array.getElem?_eq_some_iff.1 hm).1
 obtain⟨_,eb,hxn,_⟩:=id hx
 cases eb
 obtain⟨_,eb,hyn,_⟩:=id hy
 cases eb
 have HM:=Lib.hid (And.intro hm hC)
 clear hm hC
 go_enter Tryz.func132,Tryz.ntmps132
 go_wp2_with fail
 refine wp_region_inv [(.new zI,[]),(.lit,[]),(.lit,[]),(.lit,[]),(.lit,[]),(.val,[]),(.on 0 zI,[5])]
  (pickF [(5,IntP y.den),(6,IntB w.heap.size (x.num*(y.den:Int)))]) (by kernel_rfl) ?_ ?_ (by simp[noW_zInt]) (by simp) (by kernel_rfl)
 ·exact keeps_pick (by simp[IntP.keeps,IntB.keeps])
 ·refine⟨fun f w1=>by go_simp,?_⟩
  repeat (refine⟨_,fun f w1 h1=>by go_simp; rfl,?_⟩)
  simp only[Act.put,nrA,nrB,nrC,Nat.reduceAdd]
  refine⟨fun f w1 A1 h1 hA hN hd K hK=>by
   go_simp
   refine(den_any y _ A1 w1 (later (RatP.keeps _) hy h1 hN) hA).mono ?_
   rintro e w' ⟨v,rfl,hb,hi⟩
   exact hK _ _ hb hi,?_⟩
  simp only[Act.put,nrA,nrB,nrC,Nat.reduceAdd]
  refine⟨fun f w1 A1 m1 h1 hA hN hAm hm0 e hz hd K hK=>by
   simp only[e] at hK ⊢
   have i1:IntP y.den (f 5) w1 A1:=hd 5 (by simp)
   go_simp
   refine(mul_any m1 0 _ _ x.num y.den _ _ A1 w1 hz (by decide) noW_zInt (later (IntP.keeps _) hxn h1 hN) i1 (by have:=hlx.1; omega) (by have:=hly.2; simp; omega)).mono ?_
   rintro e w' ⟨rfl,hp⟩
   exact hK _ w' hp.1 (hp.intB hm0 hA),?_⟩
  intro f w1 h1 hF
  have i1:IntB w.heap.size (x.num*(y.den:Int)) (f 6) w1 NoA:=hF.2
  clear hF
  simp only[Act.put,nrA,nrB,nrC]
  obtain⟨mn,Cn,e6,hmn,hbn,hCn,hnn,hin⟩:=i1.parts
  rw[e6]
  generalize f 5=v5
  have hbw:Below w.heap.size w w1:=br.drew.trans h1
  have hx1:=hx.below hbw
  have hyn1:=hyn.below hbw
  have HW:=Lib.hid (And.intro hbw (And.intro hbn (And.intro hnn (And.intro hx hy))))
  clear hxn hyn hx hy h1 hbw hbn hnn e6 i1
  go_wp2_with fail
  refine wp_region_inv [(.lit,[]),(.lit,[]),(.new zI,[]),(.lit,[]),(.lit,[]),(.lit,[]),(.lit,[]),(.val,[]),(.on 2 zI,[7])]
   (pickF [(7,IntP x.den),(8,IntP (y.num*(x.den:Int)))]) (by kernel_rfl) ?_ ?_ (by simp[noW_zInt]) (by simp) (by kernel_rfl)
  ·exact keeps_pick (by simp[IntP.keeps])
  ·refine⟨_,fun f w1 h1=>by go_simp; rfl,?_⟩
   refine⟨_,fun f w1 h1=>by go_simp; rfl,?_⟩
   refine⟨fun f w1=>by go_simp,?_⟩
   repeat (refine⟨_,fun f w1 h1=>by go_simp; rfl,?_⟩)
   simp only[Act.put,nrA,nrB,nrC,Nat.reduceAdd]
   refine⟨fun f w2 A1 h1 hA hN hd K hK=>by
    go_simp
    refine(den_any x _ A1 w2 (later (RatP.keeps _) hx1 h1 hN) hA).mono ?_
    rintro e w' ⟨v,rfl,hb,hi⟩
    exact hK _ _ hb hi,?_⟩
   simp only[Act.put,nrA,nrB,nrC,Nat.reduceAdd]
   refine⟨fun f w2 A1 m1 h1 hA hN hAm hm0 e hz hd K hK=>by
    simp only[e] at hK ⊢
    have i1:IntP x.den (f 7) w2 A1:=hd 7 (by simp)
    go_simp
    refine(mul_any m1 0 _ _ y.num x.den _ _ A1 w2 hz (by decide) noW_zInt (later (IntP.keeps _) hyn1 h1 hN) i1 (by have:=hly.1; omega) (by have:=hlx.2; simp; omega)).mono ?_
    rintro e w' ⟨rfl,hp⟩
    exact hK _ w' hp.1 (hp.intP (by decide) hA),?_⟩
   intro f w2 h2 hF
   have i2:IntP (y.num*(x.den:Int)) (f 8) w2 NoA:=hF.2
   clear hF
   simp only[Act.put,nrA,nrB,nrC]
   generalize f 7=v7
   generalize f 8=v8 at *
   have hbw2:Below w1.heap.size w1 w2:=br.drew.trans h2
   have l1:(words (x.num*(y.den:Int)).natAbs).length≤k+l:=by rw[Int.natAbs_mul]; exact wl_mul hlx.1 (by simpa using hly.2)
   have l2:(words (y.num*(x.den:Int)).natAbs).length≤k+l:=by rw[Int.natAbs_mul,Nat.add_comm]; exact wl_mul hly.1 (by simpa using hlx.2)
   have l4:(words ((x.num*(y.den:Int))+(y.num*(x.den:Int))).natAbs).length≤k+l+1:=wl_mono (Int.natAbs_add_le _ _) (wl_add l1 l2)
   have l5:(words ((x.den:Int)*(y.den:Int)).natAbs).length≤k+l:=by rw[Int.natAbs_mul]; exact wl_mul (by simpa using hlx.2) (by simpa using hly.2)
   have hmn1:mn<w1.heap.size:=(Array.getElem?_eq_some_iff.1 HW.out.2.1).1
   have hA:=Add_any mn 0 Cn _ _ _ _ v8 NoA w2 ((hbw2.block mn hmn1).trans HW.out.2.1) (by omega) HW.out.2.2.1 (hin.below hbw2) i2 (by omega) (by omega)
   have HA:=Lib.hid hA
   clear hA i2 hyn1 hx1
   go_wp2_with fail
   refine HA.out.mono ?_
   rintro e w3 ⟨rfl,hp3⟩
   have hb3:Below w.heap.size w w3:=HW.out.1.trans ((hbw2.mono HW.out.1.size).trans (hp3.1.below hmn (Nat.le_trans HW.out.1.size hbw2.size)))
   have in3:=(hp3.intP (by omega) (rcv_noA _)).noA
   -- the denominators' product,and the fraction
   let w4:=w3.alloc (.cells #[.bool false,.slice none 0 0] 185)
   have h34:Below w3.heap.size w3 w4:=br.alloc (Nat.le_refl _) _
   have hD1:=Lib.hid (den_any x _ NoA w4 ((HW.out.2.2.2.1.below hb3).below h34) (rcv_noA _))
   clear hin hbw2 h2 HA
   go_wp2_with fail
   refine hD1.out.mono ?_
   rintro e w5 ⟨vd,rfl,hb5,id5⟩
   have hb45:Below w3.heap.size w3 w5:=h34.trans (hb5.mono (by simp[w4]))
   have hD2:=Lib.hid (den_any y _ NoA w5 ((HW.out.2.2.2.2.below hb3).below hb45) (rcv_noA _))
   go_wp2_with fail
   refine hD2.out.mono ?_
   rintro e w6 ⟨ve,rfl,hb6,ie6⟩
   have hb36:Below w3.heap.size w3 w6:=hb45.trans (hb6.mono hb45.size)
   have hm6:w6.heap[w3.heap.size]?=some (.cells #[.bool false,.slice none 0 0] 185 (0,0)):=(hb6.block _ (by have:=hb5.size; simp[w4] at this; omega)).trans ((hb5.block _ (by simp[w4])).trans (heap_alloc_new w3 _))
   have hMu:=Lib.hid (mul_any w3.heap.size 0 _ _ x.den y.den _ _ NoA w6 hm6 (by decide) noW_zInt (id5.below hb6) ie6 (by have:=hlx.2; simp; omega) (by have:=hly.2; simp; omega))
   go_wp2_with fail
   refine hMu.out.mono ?_
   rintro e w7 ⟨rfl,hp7⟩
   have ip7:=(hp7.intP (by decide) (rcv_noA _)).noA
   have hb37:Below w3.heap.size w3 w7:=hb36.trans (hp7.1.below (Nat.le_refl _) hb36.size)
   have hbw7:Below w.heap.size w w7:=hb3.trans (hb37.mono hb3.size)
   have hS:=SetFrac_any m C _ _ (Int.mul_ne_zero den_ne den_ne) _ _ NoA w7 ((hbw7.block m hmlt).trans HM.out.1) hC4 HM.out.2 (in3.below hb37) ip7 (by omega) (by omega)
   rw[add_divInt] at hS
   have HS:=Lib.hid hS
   clear hS ip7 in3 hm6 id5 ie6 hMu hD1 hD2
   go_wp2_with (go_at_call 181; refine HS.out.mono ?_; rintro e w' ⟨rfl,hp⟩)
   go_ret
   exact⟨rfl,hp.below hbw7⟩
set_option maxRecDepth 100000 in
theorem RSub_any(m:Nat)(C:Array Value)(x y:Rat)(vx vy:Value)(A:Nat→Prop)(w:World)(hm:w.heap[m]?=some (.cells C 187 (0,0)))(hC4:C.size=4)(hC:NoW (.cells C 187 (0,0)))(hx:RatP x vx w A)(hy:RatP y vy w A)(k l:Nat)(hlx:RL x k)(hly:RL y l)(hkl:k+l<137438953472) :
  Calls Tryz.prog 141 #[.pointer (some ⟨m,0,none⟩),vx,vy] w fun e w'=>e=.returned (.pointer (some ⟨m,0,none⟩))∧PutR m (x - y) w w':=by
 have hx:=hx.noA
 have hy:=hy.noA
 obtain⟨b,rfl⟩:=hx.shape
 obtain⟨b2,rfl⟩:=hy.shape
 have hmlt:m<w.heap.size:=(Array.getElem?_eq_some_iff.1 hm).1
 obtain⟨_,eb,hxn,_⟩:=id hx
 cases eb
 obtain⟨_,eb,hyn,_⟩:=id hy
 cases eb
 have HM:=Lib.hid (And.intro hm hC)
 clear hm hC
 go_enter Tryz.func141,Tryz.ntmps141
 go_wp2_with fail
 refine wp_region_inv [(.new zI,[]),(.lit,[]),(.lit,[]),(.lit,[]),(.lit,[]),(.val,[]),(.on 0 zI,[5])]
  (pickF [(5,IntP y.den),(6,IntB w.heap.size (x.num*(y.den:Int)))]) (by kernel_rfl) ?_ ?_ (by simp[noW_zInt]) (by simp) (by kernel_rfl)
 ·exact keeps_pick (by simp[IntP.keeps,IntB.keeps])
 ·refine⟨fun f w1=>by go_simp,?_⟩
  repeat (refine⟨_,fun f w1 h1=>by go_simp; rfl,?_⟩)
  simp only[Act.put,nrA,nrB,nrC,Nat.reduceAdd]
  refine⟨fun f w1 A1 h1 hA hN hd K hK=>by
   go_simp
   refine(den_any y _ A1 w1 (later (RatP.keeps _) hy h1 hN) hA).mono ?_
   rintro e w' ⟨v,rfl,hb,hi⟩
   exact hK _ _ hb hi,?_⟩
  simp only[Act.put,nrA,nrB,nrC,Nat.reduceAdd]
  refine⟨fun f w1 A1 m1 h1 hA hN hAm hm0 e hz hd K hK=>by
   simp only[e] at hK ⊢
   have i1:IntP y.den (f 5) w1 A1:=hd 5 (by simp)
   go_simp
   refine(mul_any m1 0 _ _ x.num y.den _ _ A1 w1 hz (by decide) noW_zInt (later (IntP.keeps _) hxn h1 hN) i1 (by have:=hlx.1; omega) (by have:=hly.2; simp; omega)).mono ?_
   rintro e w' ⟨rfl,hp⟩
   exact hK _ w' hp.1 (hp.intB hm0 hA),?_⟩
  intro f w1 h1 hF
  have i1:IntB w.heap.size (x.num*(y.den:Int)) (f 6) w1 NoA:=hF.2
  clear hF
  simp only[Act.put,nrA,nrB,nrC]
  obtain⟨mn,Cn,e6,hmn,hbn,hCn,hnn,hin⟩:=i1.parts
  rw[e6]
  generalize f 5=v5
  have hbw:Below w.heap.size w w1:=br.drew.trans h1
  have hx1:=hx.below hbw
  have hyn1:=hyn.below hbw
  have HW:=Lib.hid (And.intro hbw (And.intro hbn (And.intro hnn (And.intro hx hy))))
  clear hxn hyn hx hy h1 hbw hbn hnn e6 i1
  go_wp2_with fail
  refine wp_region_inv [(.lit,[]),(.lit,[]),(.new zI,[]),(.lit,[]),(.lit,[]),(.lit,[]),(.lit,[]),(.val,[]),(.on 2 zI,[7])]
   (pickF [(7,IntP x.den),(8,IntP (y.num*(x.den:Int)))]) (by kernel_rfl) ?_ ?_ (by simp[noW_zInt]) (by simp) (by kernel_rfl)
  ·exact keeps_pick (by simp[IntP.keeps])
  ·refine⟨_,fun f w1 h1=>by go_simp; rfl,?_⟩
   refine⟨_,fun f w1 h1=>by go_simp; rfl,?_⟩
   refine⟨fun f w1=>by go_simp,?_⟩
   repeat (refine⟨_,fun f w1 h1=>by go_simp; rfl,?_⟩)
   simp only[Act.put,nrA,nrB,nrC,Nat.reduceAdd]
   refine⟨fun f w2 A1 h1 hA hN hd K hK=>by
    go_simp
    refine(den_any x _ A1 w2 (later (RatP.keeps _) hx1 h1 hN) hA).mono ?_
    rintro e w' ⟨v,rfl,hb,hi⟩
    exact hK _ _ hb hi,?_⟩
   simp only[Act.put,nrA,nrB,nrC,Nat.reduceAdd]
   refine⟨fun f w2 A1 m1 h1 hA hN hAm hm0 e hz hd K hK=>by
    simp only[e] at hK ⊢
    have i1:IntP x.den (f 7) w2 A1:=hd 7 (by simp)
    go_simp
    refine(mul_any m1 0 _ _ y.num x.den _ _ A1 w2 hz (by decide) noW_zInt (later (IntP.keeps _) hyn1 h1 hN) i1 (by have:=hly.1; omega) (by have:=hlx.2; simp; omega)).mono ?_
    rintro e w' ⟨rfl,hp⟩
    exact hK _ w' hp.1 (hp.intP (by decide) hA),?_⟩
   intro f w2 h2 hF
   have i2:IntP (y.num*(x.den:Int)) (f 8) w2 NoA:=hF.2
   clear hF
   simp only[Act.put,nrA,nrB,nrC]
   generalize f 7=v7
   generalize f 8=v8 at *
   have hbw2:Below w1.heap.size w1 w2:=br.drew.trans h2
   have l1:(words (x.num*(y.den:Int)).natAbs).length≤k+l:=by rw[Int.natAbs_mul]; exact wl_mul hlx.1 (by simpa using hly.2)
   have l2:(words (y.num*(x.den:Int)).natAbs).length≤k+l:=by rw[Int.natAbs_mul,Nat.add_comm]; exact wl_mul hly.1 (by simpa using hlx.2)
   have l4:(words ((x.num*(y.den:Int)) - (y.num*(x.den:Int))).natAbs).length≤k+l+1:=wl_mono (natAbs_sub_le _ _) (wl_add l1 l2)
   have l5:(words ((x.den:Int)*(y.den:Int)).natAbs).length≤k+l:=by rw[Int.natAbs_mul]; exact wl_mul (by simpa using hlx.2) (by simpa using hly.2)
   have hmn1:mn<w1.heap.size:=(Array.getElem?_eq_some_iff.1 HW.out.2.1).1
   have hA:=Sub_any mn 0 Cn _ _ _ _ v8 NoA w2 ((hbw2.block mn hmn1).trans HW.out.2.1) (by omega) HW.out.2.2.1 (hin.below hbw2) i2 (by omega) (by omega)
   have HA:=Lib.hid hA
   clear hA i2 hyn1 hx1
   go_wp2_with fail
   refine HA.out.mono ?_
   rintro e w3 ⟨rfl,hp3⟩
   have hb3:Below w.heap.size w w3:=HW.out.1.trans ((hbw2.mono HW.out.1.size).trans (hp3.1.below hmn (Nat.le_trans HW.out.1.size hbw2.size)))
   have in3:=(hp3.intP (by omega) (rcv_noA _)).noA
   -- the denominators' product,and the fraction
   let w4:=w3.alloc (.cells #[.bool false,.slice none 0 0] 185)
   have h34:Below w3.heap.size w3 w4:=br.alloc (Nat.le_refl _) _
   have hD1:=Lib.hid (den_any x _ NoA w4 ((HW.out.2.2.2.1.below hb3).below h34) (rcv_noA _))
   clear hin hbw2 h2 HA
   go_wp2_with fail
   refine hD1.out.mono ?_
   rintro e w5 ⟨vd,rfl,hb5,id5⟩
   have hb45:Below w3.heap.size w3 w5:=h34.trans (hb5.mono (by simp[w4]))
   have hD2:=Lib.hid (den_any y _ NoA w5 ((HW.out.2.2.2.2.below hb3).below hb45) (rcv_noA _))
   go_wp2_with fail
   refine hD2.out.mono ?_
   rintro e w6 ⟨ve,rfl,hb6,ie6⟩
   have hb36:Below w3.heap.size w3 w6:=hb45.trans (hb6.mono hb45.size)
   have hm6:w6.heap[w3.heap.size]?=some (.cells #[.bool false,.slice none 0 0] 185 (0,0)):=(hb6.block _ (by have:=hb5.size; simp[w4] at this; omega)).trans ((hb5.block _ (by simp[w4])).trans (heap_alloc_new w3 _))
   have hMu:=Lib.hid (mul_any w3.heap.size 0 _ _ x.den y.den _ _ NoA w6 hm6 (by decide) noW_zInt (id5.below hb6) ie6 (by have:=hlx.2; simp; omega) (by have:=hly.2; simp; omega))
   go_wp2_with fail
   refine hMu.out.mono ?_
   rintro e w7 ⟨rfl,hp7⟩
   have ip7:=(hp7.intP (by decide) (rcv_noA _)).noA
   have hb37:Below w3.heap.size w3 w7:=hb36.trans (hp7.1.below (Nat.le_refl _) hb36.size)
   have hbw7:Below w.heap.size w w7:=hb3.trans (hb37.mono hb3.size)
   have hS:=SetFrac_any m C _ _ (Int.mul_ne_zero den_ne den_ne) _ _ NoA w7 ((hbw7.block m hmlt).trans HM.out.1) hC4 HM.out.2 (in3.below hb37) ip7 (by omega) (by omega)
   rw[sub_divInt] at hS
   have HS:=Lib.hid hS
   clear hS ip7 in3 hm6 id5 ie6 hMu hD1 hD2
   go_wp2_with (go_at_call 181; refine HS.out.mono ?_; rintro e w' ⟨rfl,hp⟩)
   go_ret
   exact⟨rfl,hp.below hbw7⟩
end Go.Proofs.YtplakbflfckldaaGreat
namespace Go.Proofs.YtplakbflfckldaaGreat
open Go.RowKit Tr
set_option maxRecDepth 100000 in
theorem RInv_any(m:Nat)(C:Array Value)(x:Rat)(h0:x≠0)(vx:Value)(A:Nat→Prop)(w:World)(hm:w.heap[m]?=some (.cells C 187 (0,0)))(hC4:C.size=4)(hC:NoW (.cells C 187 (0,0)))(hx:RatP x vx w A)(k:Nat)(hlx:RL x k)(hk:k<137438953472) :
  Calls Tryz.prog 129 #[.pointer (some ⟨m,0,none⟩),vx] w fun e w'=>e=.returned (.pointer (some ⟨m,0,none⟩))∧PutR m x⁻¹ w w':=by
 have hx:=hx.noA
 obtain⟨b,rfl⟩:=hx.shape
 have hmlt:m<w.heap.size:=(Array.getElem?_eq_some_iff.1 hm).1
 obtain⟨_,eb,hxn,_⟩:=id hx
 cases eb
 have hn0:x.num≠0:=fun h=>h0 (Rat.num_eq_zero.1 h)
 have HM:=Lib.hid (And.intro hm hC)
 clear hm hC
 go_enter Tryz.func129,Tryz.ntmps129
 go_wp2_with fail
 refine wp_region_inv [(.lit,[]),(.lit,[]),(.val,[]),(.lit,[]),(.lit,[]),(.lit,[])]
  (pickF [(2,IntP x.den)]) (by kernel_rfl) ?_ ?_ (by simp) (by simp) (by kernel_rfl)
 ·exact keeps_pick (by simp[IntP.keeps])
 ·repeat (refine⟨_,fun f w1 h1=>by go_simp; rfl,?_⟩)
  simp only[Act.put,nrA,nrB,nrC,Nat.reduceAdd]
  refine⟨fun f w1 A1 h1 hA hN hd K hK=>by
   go_simp
   refine(den_any x _ A1 w1 (later (RatP.keeps _) hx h1 hN) hA).mono ?_
   rintro e w' ⟨v,rfl,hb,hi⟩
   exact hK _ _ hb hi,?_⟩
  repeat (refine⟨_,fun f w1 h1=>by go_simp; rfl,?_⟩)
  intro f w1 h1 hF
  have i1:IntP x.den (f 2) w1 NoA:=hF.2
  clear hF
  simp only[Act.put,nrA,nrB,nrC]
  generalize f 2=v2 at *
  have hbw:Below w.heap.size w w1:=br.drew.trans h1
  have hS:=SetFrac_any m C _ _ hn0 _ _ NoA w1 ((h1.block m hmlt).trans HM.out.1) hC4 HM.out.2 i1 (hxn.below hbw) (by have:=hlx.2; simp; omega) (by have:=hlx.1; omega)
  rw[inv_divInt] at hS
  have HS:=Lib.hid hS
  clear hS i1 hx hxn
  go_wp2_with (go_at_call 181; refine HS.out.mono ?_; rintro e w' ⟨rfl,hp⟩)
  go_ret
  exact⟨rfl,hp.below hbw⟩
theorem put_four{m:Nat}{C:Array Value}{q:Rat}{W:World}{nb:Bool}{p1 p2:Option Addr}{n1 c1 n2 c2:Nat}(hm:W.heap[m]?=some (.cells C 187 (0,0)))(hC4:C.size=4)(hC:NoW (.cells C 187 (0,0)))(hnb:nb=decide (q.num<0))(h1:WSl W (.slice p1 n1 c1) (words q.num.natAbs))(h2:WSl W (.slice p2 n2 c2) (words q.den)) :
  PutR m q W ((((W.setCell ⟨m,0,none⟩ (.bool nb)).setCell ⟨m,1,none⟩ (.slice p1 n1 c1)).setCell ⟨m,2,none⟩ (.bool false)).setCell ⟨m,3,none⟩ (.slice p2 n2 c2)):=by
 have hmod:Mod m W ((((W.setCell ⟨m,0,none⟩ (.bool nb)).setCell ⟨m,1,none⟩ (.slice p1 n1 c1)).setCell ⟨m,2,none⟩ (.bool false)).setCell ⟨m,3,none⟩ (.slice p2 n2 c2)):=(((((Mod.refl m W).setCell 0 _).setCell 1 _).setCell 2 _).setCell 3 _)
 obtain⟨x0,x1,x2,x3,rfl⟩:∃ x0 x1 x2 x3,C=#[x0,x1,x2,x3]:=by
  obtain⟨l⟩:=C
  match l,hC4 with
  | [x0,x1,x2,x3],_=>exact⟨x0,x1,x2,x3,rfl⟩
 refine⟨hmod,.slice p1 n1 c1,.slice p2 n2 c2,?_,WSl.mod h1 hmod hm hC,WSl.mod h2 hmod hm hC⟩
 rw[←hnb]
 exact setCell_heap (i:=3) (setCell_heap (i:=2) (setCell_heap (i:=1) (setCell_heap (i:=0) hm)))
theorem PutR.drewN{m:Nat}{q:Rat}{w w':World}(h:PutR m q w w')(n:Nat):PutR m q w (w'.drewN n):=⟨h.1.drewN n,h.2⟩
theorem four_cells{w:World}{m:Nat}{C:Array Value}{T:TypeId}(hm:w.heap[m]?=some (.cells C T (0,0)))(hC4:C.size=4):∃ x0 x1 x2 x3,w.cell? ⟨m,0,none⟩=some x0∧w.cell? ⟨m,1,none⟩=some x1∧w.cell? ⟨m,2,none⟩=some x2∧w.cell? ⟨m,3,none⟩=some x3∧w.frozen? ⟨m,0,none⟩=false∧w.frozen? ⟨m,1,none⟩=false∧w.frozen? ⟨m,2,none⟩=false∧w.frozen? ⟨m,3,none⟩=false:=by
 obtain⟨x0,x1,x2,x3,rfl⟩:∃ x0 x1 x2 x3,C=#[x0,x1,x2,x3]:=by
  obtain⟨l⟩:=C
  match l,hC4 with
  | [x0,x1,x2,x3],_=>exact⟨x0,x1,x2,x3,rfl⟩
 refine⟨x0,x1,x2,x3,?_⟩
 simp[World.cell?,World.frozen?,hm]
set_option maxRecDepth 100000 in
theorem RSet_any(m:Nat)(C:Array Value)(x:Rat)(vx:Value)(A:Nat→Prop)(w:World)(hm:w.heap[m]?=some (.cells C 187 (0,0)))(hC4:C.size=4)(hC:NoW (.cells C 187 (0,0)))(hx:RatP x vx w A)(hlx:RL x 137438953472) :
  Calls Tryz.prog 186 #[.pointer (some ⟨m,0,none⟩),vx] w fun e w'=>e=.returned (.pointer (some ⟨m,0,none⟩))∧PutR m x w w':=by
 have hx:=hx.noA
 obtain⟨b,rfl⟩:=hx.shape
 have hmlt:m<w.heap.size:=(Array.getElem?_eq_some_iff.1 hm).1
 obtain⟨_,eb,hxn,_⟩:=id hx
 cases eb
 have hal:Below w.heap.size w (w.alloc (.cells #[.bool false,.slice none 0 0] 185)):=br.alloc (Nat.le_refl _) _
 have HS1:=Lib.hid (set_any w.heap.size 0 _ _ x.num _ NoA _ (heap_alloc_new w (.cells #[.bool false,.slice none 0 0] 185)) (by decide) noW_zInt (hxn.below hal) (by have:=hlx.1; omega))
 have HM:=Lib.hid (And.intro hm (And.intro hC hx))
 have hld:(words (x.den:Int).natAbs).length<274877906944:=by have:=hlx.2; simp; omega
 clear hm hC hx hxn hal
 go_enter Tryz.func186,Tryz.ntmps186
 go_wp2_with fail
 refine HS1.out.mono ?_
 rintro e w1 ⟨rfl,hp1⟩
 have hn1:NewI x.num (.pointer (some ⟨w.heap.size,0,none⟩)) w w1:=hp1.new (by decide)
 have hal:Below w1.heap.size w1 (w1.alloc (.cells #[.bool false,.slice none 0 0] 185)):=br.alloc (Nat.le_refl _) _
 have HD:=Lib.hid (den_any x _ NoA _ ((HM.out.2.2.below hn1.1).below hal) (rcv_noA _))
 clear hal HS1
 go_wp2_with fail
 refine HD.out.mono ?_
 rintro e w2 ⟨vd,rfl,hb2,hi2⟩
 have hm2:w2.heap[w1.heap.size]?=some (.cells #[.bool false,.slice none 0 0] 185 (0,0)):=(hb2.block _ (by simp)).trans (heap_alloc_new w1 _)
 have HS2:=Lib.hid (set_any w1.heap.size 0 _ _ x.den vd NoA w2 hm2 (by decide) noW_zInt hi2 hld)
 clear hm2 hi2 HD
 go_wp2_with fail
 refine HS2.out.mono ?_
 rintro e w3 ⟨rfl,hp3⟩
 have hn3:NewI x.den (.pointer (some ⟨w1.heap.size,0,none⟩)) w1 w3:=(hp3.below hb2).new (by decide)
 have hb3:Below w.heap.size w w3:=hn1.1.trans (hn3.1.mono hn1.1.size)
 obtain⟨p1,n1,c1,b1,e1,e2,e3⟩:=((hn1.2 NoA (rcv_noA _)).below hn3.1).cells
 obtain⟨p2,n2,c2,b2,e4,e5,e6⟩:=(hn3.2 NoA (rcv_noA _)).cells
 have hm3:=(hb3.block m hmlt).trans HM.out.1
 have hne1:w.heap.size≠m:=by omega
 have hne2:w1.heap.size≠m:=by have:=hn1.1.size; omega
 have hd0:decide ((x.den:Int)<0)=false:=by simp
 rw[hd0] at e4
 obtain⟨nb,hnb⟩:∃ nb,nb=decide (x.num<0):=⟨_,rfl⟩
 rw[←hnb] at e1
 obtain⟨x0,x1,x2,x3,f0,f1,f2,f3,g0,g1,g2,g3⟩:=four_cells hm3 hC4
 have HW:=Lib.hid (And.intro hb3 (And.intro hm3 (And.intro e3 (And.intro e6 hnb))))
 clear hn1 hn3 hp1 hp3 hb2 hb3 hm3 e3 e6 hd0 hnb HS2
 go_wp2_with fail
 go_region
 go_wp2
 go_ret
 have h5:=put_four HW.out.2.1 hC4 HM.out.2.1 HW.out.2.2.2.2 HW.out.2.2.1 (by have:=HW.out.2.2.2.1; simpa using this)
 exact⟨rfl,(h5.drewN 1).below HW.out.1⟩
end Go.Proofs.YtplakbflfckldaaGreat
namespace Go.Proofs.YtplakbflfckldaaGreat
open Go.RowKit Tr
set_option maxRecDepth 100000 in
theorem RNeg_any(m:Nat)(C:Array Value)(x:Rat)(vx:Value)(A:Nat→Prop)(w:World)(hm:w.heap[m]?=some (.cells C 187 (0,0)))(hC4:C.size=4)(hC:NoW (.cells C 187 (0,0)))(hx:RatP x vx w A)(hlx:RL x 137438953472) :
  Calls Tryz.prog 133 #[.pointer (some ⟨m,0,none⟩),vx] w fun e w'=>e=.returned (.pointer (some ⟨m,0,none⟩))∧PutR m (-x) w w':=by
 have HS:=Lib.hid (RSet_any m C x vx A w hm hC4 hC hx hlx)
 obtain⟨b,rfl⟩:=hx.shape
 have hmlt:m<w.heap.size:=(Array.getElem?_eq_some_iff.1 hm).1
 clear hm hC hx
 go_enter Tryz.func133,Tryz.ntmps133
 go_wp2_with fail
 refine HS.out.mono ?_
 rintro e w1 ⟨rfl,hp⟩
 obtain⟨hmod,s1,s2,h2,h3,h4⟩:=id hp
 obtain⟨p2,c2,rfl,_⟩:=id h4
 obtain⟨p1,c1,rfl,_⟩:=id h3
 have hx1:=(hp.ratP (rcv_noA _)).noA
 obtain⟨_,eb,hxn,_⟩:=hx1
 cases eb
 have hnw:NoW (.cells #[.bool (decide (x.num<0)),.slice p1 (words x.num.natAbs).length c1,.bool false,.slice p2 (words x.den).length c2] 187 (0,0)):=by
  intro cs T fr e i k x
  cases e
  rcases i with _|_|_|_|i<;>simp
 have hmlt1:m<w1.heap.size:=(Array.getElem?_eq_some_iff.1 h2).1
 have HW:=Lib.hid (And.intro hmod (And.intro h2 (And.intro h4 (And.intro hnw hxn))))
 clear hp hmod h2 h3 h4 hnw hxn HS
 go_wp2_with fail
 refine wp_region_inv [(.lit,[]),(.lit,[]),(.lit,[]),(.lit,[]),(.lit,[]),(.lit,[])] (pickF []) (by kernel_rfl) ?_ ?_ (by simp) (by simp) (by kernel_rfl)
 ·exact keeps_pick (by simp)
 ·repeat (refine⟨_,fun f w1 h1=>by go_simp; rfl,?_⟩)
  intro f w2 h2 _
  simp only[Act.put,nrA,nrB,nrC]
  have hbw:Below w1.heap.size w1 w2:=br.drew.trans h2
  have hN:=Neg_any m 0 _ _ x.num _ NoA w2 ((hbw.block m hmlt1).trans HW.out.2.1) (by simp) HW.out.2.2.2.1 (HW.out.2.2.2.2.below hbw) (by have:=hlx.1; omega)
  have HN:=Lib.hid hN
  clear hN
  go_wp2_with (go_at_call 187; refine HN.out.mono ?_; rintro e w' ⟨rfl,hp⟩)
  go_ret
  obtain⟨hm3,sl,h5,h6⟩:=hp
  refine⟨rfl,(HW.out.1.trans (Mod.of_below hbw)).trans hm3,sl,.slice p2 (words x.den).length c2,?_,?_,?_⟩
  ·rw[h5,Rat.neg_num]; simp
  ·rw[Rat.neg_num]; exact h6
  ·rw[Rat.neg_den]; exact WSl.mod (HW.out.2.2.1.below hbw) hm3 ((hbw.block m hmlt1).trans HW.out.2.1) HW.out.2.2.2.1
set_option maxRecDepth 100000 in
theorem RSetInt_any (m : Nat) (C : Array Value) (x : Int) (vx : Value) (A : Nat → Prop) (w : World) (hm : w.heap[m]? = some (.cells C 187 (0,0))) (hC4 : C.size = 4) (hC : NoW (.cells C 187 (0,0))) (hx : IntP x vx w A) (hlx : (words x.natAbs).length < 274877906944) :
    Calls Tryz.prog 171 #[.pointer (some ⟨m,0,none⟩),vx] w fun e w'=>e=.returned (.pointer (some ⟨m,0,none⟩))∧PutR m (x:Rat) w w':=by
  have hx:=hx.noA
  obtain⟨b,o,rfl⟩:=hx.shape
  have hmlt:m<w.heap.size:=(Array.getElem?_eq_some_iff.1 hm).1
  have HM:=Lib.hid (And.intro hm (And.intro hC hx))
  obtain⟨x0,x1,x2,x3,f0,f1,f2,f3,g0,g1,g2,g3⟩:=four_cells hm hC4
  obtain⟨nb,hnb⟩:∃ nb,nb=decide (x<0):=⟨_,rfl⟩
  have HNB:=Lib.hid hnb
  clear hnb
  clear hm hC hx
  go_enter Tryz.func171,Tryz.ntmps171
  go_wp2_with fail
  have hm0:((w.alloc (.cells #[.bool false,.slice none 0 0] 185)).drew).heap[w.heap.size]?=some (.cells #[.bool false,.slice none 0 0] 185 (0,0)):=heap_alloc_new w _
  have hS0:=set_any w.heap.size 0 _ _ x _ NoA ((w.alloc (.cells #[.bool false,.slice none 0 0] 185)).drew) hm0 (by decide) noW_zInt (HM.out.2.2.below ((br.alloc (Nat.le_refl _) _).drew)) hlx
  have HS0:=Lib.hid hS0
  have HN0:=Lib.hid (fun w=>newInt_any 1 (by decide) (by decide) w)
  clear hS0 hm0
  go_region_with (first
    | (go_at_call 174
       refine HS0.out.mono ?_
       rintro e w1 ⟨rfl,hp1⟩
       have hn1:NewI x (.pointer (some ⟨w.heap.size,0,none⟩)) w w1:=(hp1.below (w:=w.alloc (.cells #[.bool false,.slice none 0 0] 185)) br.drew).new (by decide)
       have f0:=(hn1.1.cell (p:=⟨m,0,none⟩) hmlt).trans f0
       have f1:=(hn1.1.cell (p:=⟨m,1,none⟩) hmlt).trans f1
       have f2:=(hn1.1.cell (p:=⟨m,2,none⟩) hmlt).trans f2
       have f3:=(hn1.1.cell (p:=⟨m,3,none⟩) hmlt).trans f3
       have g0:=(hn1.1.frozen (p:=⟨m,0,none⟩) hmlt).trans g0
       have g1:=(hn1.1.frozen (p:=⟨m,1,none⟩) hmlt).trans g1
       have g2:=(hn1.1.frozen (p:=⟨m,2,none⟩) hmlt).trans g2
       have g3:=(hn1.1.frozen (p:=⟨m,3,none⟩) hmlt).trans g3
       obtain⟨p1,n1,c1,b1,e1,e2,e3⟩:=(hn1.2 NoA (rcv_noA _)).cells
       rw[←HNB.out] at e1
       have H1:=Lib.hid (And.intro hn1 e3)
       clear hn1 hp1 e3)
    | (go_at_call 172
       refine(HN0.out _).mono ?_
       rintro e w2 ⟨v2,rfl,hn2⟩
       have hmlt1:m<w1.heap.size:=Nat.lt_of_lt_of_le hmlt H1.out.1.1.size
       have f0:=(hn2.1.cell (p:=⟨m,0,none⟩) hmlt1).trans f0
       have f1:=(hn2.1.cell (p:=⟨m,1,none⟩) hmlt1).trans f1
       have f2:=(hn2.1.cell (p:=⟨m,2,none⟩) hmlt1).trans f2
       have f3:=(hn2.1.cell (p:=⟨m,3,none⟩) hmlt1).trans f3
       have g0:=(hn2.1.frozen (p:=⟨m,0,none⟩) hmlt1).trans g0
       have g1:=(hn2.1.frozen (p:=⟨m,1,none⟩) hmlt1).trans g1
       have g2:=(hn2.1.frozen (p:=⟨m,2,none⟩) hmlt1).trans g2
       have g3:=(hn2.1.frozen (p:=⟨m,3,none⟩) hmlt1).trans g3
       have e1:=(hn2.1.cell (p:=⟨w.heap.size,0,none⟩) b1).trans e1
       have e2:=(hn2.1.cell (p:=⟨w.heap.size,1,none⟩) b1).trans e2
       obtain⟨b3,o3,rfl⟩:=(hn2.2 NoA (rcv_noA _)).shape
       obtain⟨p2,n2,c2,b2,e4,e5,e6⟩:=(hn2.2 NoA (rcv_noA _)).cells
       rw[show decide ((1:Int)<0)=false from rfl] at e4
       have H2:=Lib.hid (And.intro hn2 e6)
       clear hn2 e6))
  all_goals
    go_wp2
    go_ret
    have hbw:Below w.heap.size w w2:=H1.out.1.1.trans (H2.out.1.1.mono H1.out.1.1.size)
    have h5:=put_four (nb:=nb) (q:=(x:Rat)) ((hbw.block m hmlt).trans HM.out.1) hC4 HM.out.2.1 (by rw[Rat.num_intCast]; exact HNB.out) (by rw[Rat.num_intCast]; exact H1.out.2.below H2.out.1.1) (by rw[Rat.den_intCast]; exact H2.out.2)
    exact⟨rfl,h5.below hbw⟩
set_option maxRecDepth 100000 in
theorem RSetInt64_any(m:Nat)(C:Array Value)(n:Int)(h0:-9223372036854775808≤n)(h1:n<9223372036854775808)(w:World)(hm:w.heap[m]?=some (.cells C 187 (0,0)))(hC4:C.size=4)(hC:NoW (.cells C 187 (0,0))) :
  Calls Tryz.prog 108 #[.pointer (some ⟨m,0,none⟩),.int .i64 n] w fun e w'=>e=.returned (.pointer (some ⟨m,0,none⟩))∧PutR m (n:Rat) w w':=by
 have hmlt:m<w.heap.size:=(Array.getElem?_eq_some_iff.1 hm).1
 have HN:=Lib.hid (newInt_any n h0 h1 w)
 have HM:=Lib.hid (And.intro hm hC)
 have hln:(words n.natAbs).length<274877906944:=Nat.lt_of_le_of_lt (words_length_le (k:=2) (by omega)) (by decide)
 clear hm hC
 go_enter Tryz.func108,Tryz.ntmps108
 go_wp2_with fail
 refine HN.out.mono ?_
 rintro e w1 ⟨v,rfl,hn⟩
 have HS:=Lib.hid (RSetInt_any m C n v NoA w1 ((hn.1.block m hmlt).trans HM.out.1) hC4 HM.out.2 (hn.2 NoA (rcv_noA _)) hln)
 go_wp2_with (go_at_call 171; refine HS.out.mono ?_; rintro e w' ⟨rfl,hp⟩)
 go_ret
 exact⟨rfl,hp.below hn.1⟩
def NewR(q:Rat)(v:Value)(w w':World):Prop:=Below w.heap.size w w'∧∀ A,Rcv A w→RatP q v w' A
theorem RatP.wider{q:Rat}{v:Value}{w:World}{A A':Nat→Prop}(h:RatP q v w A)(hA:∀ b,A' b→A b):RatP q v w A' :=
 RatP.keeps q v w w A A' (Nat.le_refl _) (fun b _ hna=>⟨rfl,fun h=>hna (hA b h)⟩) h
theorem PutR.new{q:Rat}{w w':World}{ob:Obj}(h:PutR w.heap.size q (w.alloc ob) w'):NewR q (.pointer (some ⟨w.heap.size,0,none⟩)) w w':=by
 refine⟨below_of_alloc h.1,fun A hA=>?_⟩
 have hA':Rcv A (w.alloc ob):=hA.below (br.alloc (Nat.le_refl _) _)
 exact(h.ratP hA').wider fun b hb=>⟨hb,fun e=>by have:=hA.lt hb; omega⟩
theorem NewR.of_below{q:Rat}{v:Value}{w w1 w':World}(h:NewR q v w1 w')(hb:Below w.heap.size w w1):NewR q v w w':=⟨hb.trans (h.1.mono hb.size),fun A hA=>h.2 A (hA.below hb)⟩
abbrev zR:Obj:=.cells #[.bool false,.slice none 0 0,.bool false,.slice none 0 0] 187 (0,0)
end Go.Proofs.YtplakbflfckldaaGreat
namespace Go.Proofs.YtplakbflfckldaaGreat
open Go.RowKit Tr
def encZ(z:Int):Value:=.agg #[.bool (decide (z<0)),.string (strN z.natAbs)]
def encF(q:Rat):Value:=.agg #[.bool (decide (q.num<0)),.string (strN q.num.natAbs),.bool false,.string (strN q.den)]
def WForm(neg:Bool)(s:ByteArray):Prop:=(s.size=0→neg=false)∧NoLead s
theorem numS_zero{s:ByteArray}(h:NoLead s):numS s=0↔s.size=0:=by
 rw[←strN_numS h,numS_strN,size_strN]
 constructor
 ·intro h0; rw[h0,byteLE_zero]; rfl
 ·intro h0
  have:=List.eq_nil_of_length_eq_zero h0
  rcases Nat.eq_zero_or_pos (numS s) with h1|h1
  ·exact h1
  ·rw[byteLE_pos (by omega)] at this; cases this
theorem WForm.enc{neg:Bool}{s:ByteArray}(h:WForm neg s):Value.agg #[.bool neg,.string s]=encZ (sgn neg (numS s)):=by
 unfold encZ
 rw[natAbs_sgn,strN_numS h.2,sgn_neg]
 have:(neg && decide (numS s≠0))=neg:=by
  cases hn:neg
  ·rfl
  ·have:s.size≠0:=fun h0=>by have:=h.1 h0; rw[hn] at this; cases this
   have h2:numS s≠0:=fun h0=>this ((numS_zero h.2).1 h0)
   simp[h2]
 rw[this]
theorem below_bytes(w:World)(e:TypeId)(s:ByteArray):Below w.heap.size w (Lib.bytesWorld w e s):=by
 refine⟨?_,?_,?_,?_,fun k hk=>Lib.bytesWorld_at_old w e s k hk⟩
 ·simp[Lib.bytesWorld,World.freeze,World.alloc,World.drew,-World.alloc_eq,-World.drew_eq]
 ·simp[Lib.bytesWorld,World.freeze,World.alloc,World.drew,-World.alloc_eq,-World.drew_eq]
 ·simp[Lib.bytesWorld,World.freeze,World.alloc,World.drew,-World.alloc_eq,-World.drew_eq]
 ·rw[Lib.bytesWorld_size]; omega
theorem bsl_bytes(w:World)(s:ByteArray):BSl (Lib.bytesWorld w 5 s) (.slice (some ⟨w.heap.size,0,none⟩) s.size (grownCap w s.size 0 5)) s:=by
 refine⟨w.heap.size,0,_,rfl,by rw[Lib.bytesWorld_size]; omega,fun i hi=>?_⟩
 rw[Nat.zero_add,Lib.bytesWorld_cell w _ s i hi]
 simp[List.getD,hi]
 rfl
theorem Put.newAt{m o:Nat}{C:Array Value}{T:TypeId}{z:Int}{w w1 w':World}(h:Put m o C T z w1 w')(ho:o+1<C.size)(hb:Below w.heap.size w w1)(hm:w.heap.size≤m):NewI z (.pointer (some ⟨m,o,none⟩)) w w':=by
 refine⟨hb.trans (h.1.below hm hb.size),fun A hA=>?_⟩
 exact(h.intP ho (hA.below hb)).wider fun b hb'=>⟨hb',fun e=>by have:=hA.lt hb'; omega⟩
theorem PutR.newAt{m:Nat}{q:Rat}{w w1 w':World}(h:PutR m q w1 w')(hb:Below w.heap.size w w1)(hm:w.heap.size≤m):NewR q (.pointer (some ⟨m,0,none⟩)) w w':=by
 refine⟨hb.trans (h.1.below hm hb.size),fun A hA=>?_⟩
 exact(h.ratP (hA.below hb)).wider fun b hb'=>⟨hb',fun e=>by have:=hA.lt hb'; omega⟩
set_option maxRecDepth 100000 in
theorem number_any(neg:Bool)(s:ByteArray)(hs:s.size<274877906944)(w:World) :
  Calls Tryz.prog 199 #[.agg #[.bool neg,.string s]] w fun e w'=>∃ v,e=.returned v∧NewI (sgn neg (numS s)) v w w':=by
 have kc:=fun w=>Lib.run_convert_string_bytes (P:=Tryz.prog) w 9 191 5 s Tryz.underlying9 Tryz.underlying191 Tryz.underlying5
 have hlen:(words (numS s)).length<274877906944:=Nat.lt_of_le_of_lt (words_length_le (k:=s.size) (Nat.lt_of_lt_of_le (numS_lt s) (Nat.pow_le_pow_left (by decide) _))) hs
 have HL:=Lib.hid hlen
 clear hlen
 go_enter Tryz.func199,Tryz.ntmps199
 go_wp2_with fail
 clear kc
 obtain⟨W,hW⟩:∃ W,W=(w.alloc (.cells #[.bool neg,.string s] 32)).alloc (.cells #[.bool false,.slice none 0 0] 185):=⟨_,rfl⟩
 have hBW:Below w.heap.size w W:=by rw[hW]; exact(br.alloc (Nat.le_refl _) _).alloc (by simp) _
 have hsz:w.heap.size+1+1=W.heap.size:=by rw[hW]; simp
 have hm:W.heap[w.heap.size+1]?=some (.cells #[.bool false,.slice none 0 0] 185 (0,0)):=by
  rw[hW]; have:=heap_alloc_new (w.alloc (.cells #[.bool neg,.string s] 32)) (.cells #[.bool false,.slice none 0 0] 185); simpa using this
 have hc:W.cell? ⟨w.heap.size,0,none⟩=some (.bool neg):=by
  rw[hW]; simp[go_sem]
 rw[←hW,hsz]
 have hb1:=below_bytes W 5 s
 have hb2:Below w.heap.size w (Lib.bytesWorld W 5 s):=hBW.trans (hb1.mono hBW.size)
 have hm2:=(hb1.block _ (by omega)).trans hm
 have hc2:=(hb1.cell (p:=⟨w.heap.size,0,none⟩) (by show w.heap.size<_; omega)).trans hc
 have HS:=Lib.hid (setBytes_any (w.heap.size+1) 0 _ _ s _ rfl _ _ hm2 (by decide) noW_zInt (bsl_bytes W s) hs)
 have HB:=Lib.hid hb2
 have hlt:w.heap.size<(Lib.bytesWorld W 5 s).heap.size:=by rw[Lib.bytesWorld_size]; omega
 clear hW hBW hm hc hb1 hm2 hb2 hsz
 refine HS.out.mono ?_
 rintro e w1 ⟨rfl,hp⟩
 have hc1:=(World.cell?_of_block (w:=Lib.bytesWorld W 5 s) (a:=⟨w.heap.size,0,none⟩) (hp.1.block w.heap.size hlt (by omega))).trans hc2
 clear HS hc2
 cases neg
 ·go_wp2
  go_ret
  exact⟨_,rfl,hp.newAt (by decide) HB.out (by omega)⟩
 ·obtain⟨C1,hm3,hs3,hn3⟩:=put_heap hp
  have hin:=(hp.intP (by decide) (rcv_noA _)).noA
  have HN:=Lib.hid (Neg_any (w.heap.size+1) 0 C1 _ _ _ NoA w1 hm3 (by rw[hs3]; decide) (hn3 noW_zInt) hin (by simpa using HL.out))
  have HP:=Lib.hid hp
  have H3:=Lib.hid hs3
  clear hm3 hin hn3 hp hs3
  go_wp2_with fail
  refine HN.out.mono ?_
  rintro e w2 ⟨rfl,hp2⟩
  go_wp2_with fail
  go_ret
  refine⟨_,rfl,hp2.newAt (by rw[H3.out]; decide) (HB.out.trans (HP.out.1.below (by omega) (by omega))) (by omega)⟩
set_option maxRecDepth 100000 in
theorem xnumber_any(neg:Bool)(s:ByteArray)(hs:s.size<274877906944)(w:World) :
  Calls Tryz.prog 202 #[.agg #[.bool neg,.string s]] w fun e w'=>∃ v,e=.returned v∧NewI (sgn neg (numS s)) v w w':=by
 have kc:=fun w=>Lib.run_convert_string_bytes (P:=Tryz.prog) w 9 191 5 s Tryz.underlying9 Tryz.underlying191 Tryz.underlying5
 have hlen:(words (numS s)).length<274877906944:=Nat.lt_of_le_of_lt (words_length_le (k:=s.size) (Nat.lt_of_lt_of_le (numS_lt s) (Nat.pow_le_pow_left (by decide) _))) hs
 have HL:=Lib.hid hlen
 clear hlen
 go_enter Tryz.func202,Tryz.ntmps202
 go_wp2_with fail
 clear kc
 obtain⟨W,hW⟩:∃ W,W=(w.alloc (.cells #[.bool neg,.string s] 32)).alloc (.cells #[.bool false,.slice none 0 0] 185):=⟨_,rfl⟩
 have hBW:Below w.heap.size w W:=by rw[hW]; exact(br.alloc (Nat.le_refl _) _).alloc (by simp) _
 have hsz:w.heap.size+1+1=W.heap.size:=by rw[hW]; simp
 have hm:W.heap[w.heap.size+1]?=some (.cells #[.bool false,.slice none 0 0] 185 (0,0)):=by
  rw[hW]; have:=heap_alloc_new (w.alloc (.cells #[.bool neg,.string s] 32)) (.cells #[.bool false,.slice none 0 0] 185); simpa using this
 have hc:W.cell? ⟨w.heap.size,0,none⟩=some (.bool neg):=by
  rw[hW]; simp[go_sem]
 rw[←hW,hsz]
 have hb1:=below_bytes W 5 s
 have hb2:Below w.heap.size w (Lib.bytesWorld W 5 s):=hBW.trans (hb1.mono hBW.size)
 have hm2:=(hb1.block _ (by omega)).trans hm
 have hc2:=(hb1.cell (p:=⟨w.heap.size,0,none⟩) (by show w.heap.size<_; omega)).trans hc
 have HS:=Lib.hid (setBytes_any (w.heap.size+1) 0 _ _ s _ rfl _ _ hm2 (by decide) noW_zInt (bsl_bytes W s) hs)
 have HB:=Lib.hid hb2
 have hlt:w.heap.size<(Lib.bytesWorld W 5 s).heap.size:=by rw[Lib.bytesWorld_size]; omega
 clear hW hBW hm hc hb1 hm2 hb2 hsz
 refine HS.out.mono ?_
 rintro e w1 ⟨rfl,hp⟩
 have hc1:=(World.cell?_of_block (w:=Lib.bytesWorld W 5 s) (a:=⟨w.heap.size,0,none⟩) (hp.1.block w.heap.size hlt (by omega))).trans hc2
 clear HS hc2
 cases neg
 ·go_wp2
  go_ret
  exact⟨_,rfl,hp.newAt (by decide) HB.out (by omega)⟩
 ·obtain⟨C1,hm3,hs3,hn3⟩:=put_heap hp
  have hin:=(hp.intP (by decide) (rcv_noA _)).noA
  have HN:=Lib.hid (Neg_any (w.heap.size+1) 0 C1 _ _ _ NoA w1 hm3 (by rw[hs3]; decide) (hn3 noW_zInt) hin (by simpa using HL.out))
  have HP:=Lib.hid hp
  have H3:=Lib.hid hs3
  clear hm3 hin hn3 hp hs3
  go_wp2_with fail
  refine HN.out.mono ?_
  rintro e w2 ⟨rfl,hp2⟩
  go_wp2_with fail
  go_ret
  refine⟨_,rfl,hp2.newAt (by rw[H3.out]; decide) (HB.out.trans (HP.out.1.below (by omega) (by omega))) (by omega)⟩
theorem IntP.avoid{z:Int}{b o:Nat}{w:World}{A:Nat→Prop}(h:IntP z (.pointer (some ⟨b,o,none⟩)) w NoA)(hA:Rcv A w)(hb:¬A b):IntP z (.pointer (some ⟨b,o,none⟩)) w A:=by
 obtain⟨b',o',sl,e,h1,_,h3,h4,h5⟩:=h
 cases e
 exact⟨b,o,sl,rfl,h1,hb,h3,h4,h5.wsl.avoids hA⟩
theorem RatP.avoid{q:Rat}{m:Nat}{w:World}{A:Nat→Prop}(h:RatP q (.pointer (some ⟨m,0,none⟩)) w NoA)(hA:Rcv A w)(hm:¬A m):RatP q (.pointer (some ⟨m,0,none⟩)) w A:=by
 obtain⟨b,e,h1,h2⟩:=h
 cases e
 exact⟨m,rfl,h1.avoid hA hm,h2.imp (fun h=>h.avoid hA hm) (fun h=>⟨h.1,h.2.avoid hA hm⟩)⟩
def RatM(base:Nat)(q:Rat):Fact:=fun v w A=>∃ m,v=.pointer (some ⟨m,0,none⟩)∧base≤m∧RatP q v w A
theorem RatM.keeps(base:Nat)(q:Rat):(RatM base q).Keeps:=by
 intro v w w' A A' hs hk ⟨m,h1,h2,h3⟩
 exact⟨m,h1,h2,RatP.keeps q v w w' A A' hs hk h3⟩
theorem PutR.ratM{m base:Nat}{q:Rat}{w w':World}(h:PutR m q w w')(hm:base≤m){A:Nat→Prop}(hA:Rcv A w):RatM base q (.pointer (some ⟨m,0,none⟩)) w' (fun b=>A b∧b≠m):=⟨m,rfl,hm,h.ratP hA⟩
theorem RatM.new{q:Rat}{v:Value}{w w':World}{base:Nat}(h:RatM base q v w' NoA)(hb:Below w.heap.size w w')(hw:w.heap.size≤base):NewR q v w w':=by
 obtain⟨m,rfl,h2,h3⟩:=h
 exact⟨hb,fun A hA=>h3.avoid (hA.below hb) (fun hm=>by have:=hA.lt hm; omega)⟩
end Go.Proofs.YtplakbflfckldaaGreat
namespace Tr
end Tr
namespace Go.Proofs.YtplakbflfckldaaGreat
open Go.RowKit Tr
end Go.Proofs.YtplakbflfckldaaGreat
