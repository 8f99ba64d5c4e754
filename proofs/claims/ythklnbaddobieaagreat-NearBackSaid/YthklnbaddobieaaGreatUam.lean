/- Laws for the walk. -/
import Derived.Test.YthklnbaddobieaaGreatUae
import Derived.Test.YthklnbaddobieaaGreatUal
set_option linter.unusedVariables false
set_option maxHeartbeats 4000000
namespace Go.Proofs.YthklnbaddobieaaGreat
open Go.RowKit Tr
def IntB(base:Nat)(z:Int):Fact:=fun v w A=>∃ m sl,v=.pointer (some ⟨m,0,none⟩)∧base≤m∧¬A m∧w.heap[m]?=some (.cells #[.bool (decide (z<0)),sl] 131 (0,0))∧WSlA A w sl (words z.natAbs)
theorem IntB.keeps(base:Nat)(z:Int):(IntB base z).Keeps:=by
 intro v w w' A A' hs hk ⟨m,sl,h1,h2,h3,h4,h5⟩
 obtain⟨k1,k2⟩:=hk m (Array.getElem?_eq_some_iff.1 h4).1 h3
 exact⟨m,sl,h1,h2,k2,k1.trans h4,h5.keep hs hk⟩
theorem Put.intB{m base:Nat}{b s:Value}{z:Int}{w w':World}(h:Put m 0 #[b,s] 131 z w w')(hm:base≤m){A:Nat→Prop}(hA:Rcv A w):IntB base z (.pointer (some ⟨m,0,none⟩)) w' (fun b=>A b∧b≠m):=by
 have h0:=h.intP (by simp) hA
 obtain⟨h1,sl,h2,h3⟩:=h
 refine⟨m,sl,rfl,hm,fun h=>h.2 rfl,h2,h3.avoids fun b hb=>?_⟩
 obtain⟨zz,k1,k2⟩:=hA b hb.1
 exact⟨zz,(h1.block b (Array.getElem?_eq_some_iff.1 k1).1 hb.2).trans k1,k2⟩
theorem IntB.parts{base:Nat}{z:Int}{v:Value}{w:World}{A:Nat→Prop}(h:IntB base z v w A):∃ m C,v=.pointer (some ⟨m,0,none⟩)∧base≤m∧w.heap[m]?=some (.cells C 131 (0,0))∧C.size=2∧NoW (.cells C 131 (0,0))∧IntP z (.pointer (some ⟨m,0,none⟩)) w A:=by
 obtain⟨m,sl,h1,h2,h3,h4,h5⟩:=h
 refine⟨m,_,h1,h2,h4,rfl,?_,m,0,sl,rfl,(Array.getElem?_eq_some_iff.1 h4).1,h3,by simp[World.cell?,h4],by simp[World.cell?,h4],h5⟩
 obtain⟨p,c,rfl,_⟩:=h5
 intro cs T fr e i k x
 cases e
 rcases i with _|_|i<;>simp
theorem natAbs_sub_le(a b:Int):(a - b).natAbs≤a.natAbs+b.natAbs:=by omega
set_option maxRecDepth 100000 in
theorem RSub_any(m:Nat)(C:Array Value)(x y:Rat)(vx vy:Value)(A:Nat→Prop)(w:World)(hm:w.heap[m]?=some (.cells C 133 (0,0)))(hC4:C.size=4)(hC:NoW (.cells C 133 (0,0)))(hx:RatP x vx w A)(hy:RatP y vy w A)(k l:Nat)(hlx:RL x k)(hly:RL y l)(hkl:k+l<137438953472) :
  Calls Tryz.prog 167 #[.pointer (some ⟨m,0,none⟩),vx,vy] w fun e w'=>e=.returned (.pointer (some ⟨m,0,none⟩))∧PutR m (x - y) w w':=by
 have hx:=hx.noA
 have hy:=hy.noA
 obtain⟨b,rfl⟩:=hx.shape
 obtain⟨b2,rfl⟩:=hy.shape
 have hmlt:m<w.heap.size:=(Array.getElem?_eq_some_iff.1 hm).1
 obtain⟨_,eb,hxn,_⟩:=id hx
 cases eb
 obtain⟨_,eb,hyn,_⟩:=id hy
 cases eb
 have HM:=Lib.hid (And.intro hm hC)
 clear hm hC
 go_enter Tryz.func167,Tryz.ntmps167
 go_wp2_with fail
 refine wp_region_inv [(.new zI,[]),(.lit,[]),(.lit,[]),(.lit,[]),(.lit,[]),(.val,[]),(.on 0 zI,[5])]
  (pickF [(5,IntP y.den),(6,IntB w.heap.size (x.num*(y.den:Int)))]) (by kernel_rfl) ?_ ?_ (by simp[noW_zInt]) (by simp) (by kernel_rfl)
 ·exact keeps_pick (by simp[IntP.keeps,IntB.keeps])
 ·refine⟨fun f w1=>by go_simp,?_⟩
  repeat (refine⟨_,fun f w1 h1=>by go_simp; rfl,?_⟩)
  simp only[Act.put,nrA,nrB,nrC,Nat.reduceAdd]
  refine⟨fun f w1 A1 h1 hA hN hd K hK=>by
   go_simp
   refine(den_any y _ A1 w1 (later (RatP.keeps _) hy h1 hN) hA).mono ?_
   rintro e w' ⟨v,rfl,hb,hi⟩
   exact hK _ _ hb hi,?_⟩
  simp only[Act.put,nrA,nrB,nrC,Nat.reduceAdd]
  refine⟨fun f w1 A1 m1 h1 hA hN hAm hm0 e hz hd K hK=>by
   simp only[e] at hK ⊢
   have i1:IntP y.den (f 5) w1 A1:=hd 5 (by simp)
   go_simp
   refine(mul_any m1 0 _ _ x.num y.den _ _ A1 w1 hz (by decide) noW_zInt (later (IntP.keeps _) hxn h1 hN) i1 (by have:=hlx.1; omega) (by have:=hly.2; simp; omega)).mono ?_
   rintro e w' ⟨rfl,hp⟩
   exact hK _ w' hp.1 (hp.intB hm0 hA),?_⟩
  intro f w1 h1 hF
  have i1:IntB w.heap.size (x.num*(y.den:Int)) (f 6) w1 NoA:=hF.2
  clear hF
  simp only[Act.put,nrA,nrB,nrC]
  obtain⟨mn,Cn,e6,hmn,hbn,hCn,hnn,hin⟩:=i1.parts
  rw[e6]
  generalize f 5=v5
  have hbw:Below w.heap.size w w1:=br.drew.trans h1
  have hx1:=hx.below hbw
  have hyn1:=hyn.below hbw
  have HW:=Lib.hid (And.intro hbw (And.intro hbn (And.intro hnn (And.intro hx hy))))
  clear hxn hyn hx hy h1 hbw hbn hnn e6 i1
  go_wp2_with fail
  refine wp_region_inv [(.lit,[]),(.lit,[]),(.new zI,[]),(.lit,[]),(.lit,[]),(.lit,[]),(.lit,[]),(.val,[]),(.on 2 zI,[7])]
   (pickF [(7,IntP x.den),(8,IntP (y.num*(x.den:Int)))]) (by kernel_rfl) ?_ ?_ (by simp[noW_zInt]) (by simp) (by kernel_rfl)
  ·exact keeps_pick (by simp[IntP.keeps])
  ·refine⟨_,fun f w1 h1=>by go_simp; rfl,?_⟩
   refine⟨_,fun f w1 h1=>by go_simp; rfl,?_⟩
   refine⟨fun f w1=>by go_simp,?_⟩
   repeat (refine⟨_,fun f w1 h1=>by go_simp; rfl,?_⟩)
   simp only[Act.put,nrA,nrB,nrC,Nat.reduceAdd]
   refine⟨fun f w2 A1 h1 hA hN hd K hK=>by
    go_simp
    refine(den_any x _ A1 w2 (later (RatP.keeps _) hx1 h1 hN) hA).mono ?_
    rintro e w' ⟨v,rfl,hb,hi⟩
    exact hK _ _ hb hi,?_⟩
   simp only[Act.put,nrA,nrB,nrC,Nat.reduceAdd]
   refine⟨fun f w2 A1 m1 h1 hA hN hAm hm0 e hz hd K hK=>by
    simp only[e] at hK ⊢
    have i1:IntP x.den (f 7) w2 A1:=hd 7 (by simp)
    go_simp
    refine(mul_any m1 0 _ _ y.num x.den _ _ A1 w2 hz (by decide) noW_zInt (later (IntP.keeps _) hyn1 h1 hN) i1 (by have:=hly.1; omega) (by have:=hlx.2; simp; omega)).mono ?_
    rintro e w' ⟨rfl,hp⟩
    exact hK _ w' hp.1 (hp.intP (by decide) hA),?_⟩
   intro f w2 h2 hF
   have i2:IntP (y.num*(x.den:Int)) (f 8) w2 NoA:=hF.2
   clear hF
   simp only[Act.put,nrA,nrB,nrC]
   generalize f 7=v7
   generalize f 8=v8 at *
   have hbw2:Below w1.heap.size w1 w2:=br.drew.trans h2
   have l1:(words (x.num*(y.den:Int)).natAbs).length≤k+l:=by rw[Int.natAbs_mul]; exact wl_mul hlx.1 (by simpa using hly.2)
   have l2:(words (y.num*(x.den:Int)).natAbs).length≤k+l:=by rw[Int.natAbs_mul,Nat.add_comm]; exact wl_mul hly.1 (by simpa using hlx.2)
   have l4:(words ((x.num*(y.den:Int)) - (y.num*(x.den:Int))).natAbs).length≤k+l+1:=wl_mono (natAbs_sub_le _ _) (wl_add l1 l2)
   have l5:(words ((x.den:Int)*(y.den:Int)).natAbs).length≤k+l:=by rw[Int.natAbs_mul]; exact wl_mul (by simpa using hlx.2) (by simpa using hly.2)
   have hmn1:mn<w1.heap.size:=(Array.getElem?_eq_some_iff.1 HW.out.2.1).1
   have hA:=Sub_any mn 0 Cn _ _ _ _ v8 NoA w2 ((hbw2.block mn hmn1).trans HW.out.2.1) (by omega) HW.out.2.2.1 (hin.below hbw2) i2 (by omega) (by omega)
   have HA:=Lib.hid hA
   clear hA i2 hyn1 hx1
   go_wp2_with fail
   refine HA.out.mono ?_
   rintro e w3 ⟨rfl,hp3⟩
   have hb3:Below w.heap.size w w3:=HW.out.1.trans ((hbw2.mono HW.out.1.size).trans (hp3.1.below hmn (Nat.le_trans HW.out.1.size hbw2.size)))
   have in3:=(hp3.intP (by omega) (rcv_noA _)).noA
   -- the denominators' product,and the fraction
   let w4:=w3.alloc (.cells #[.bool false,.slice none 0 0] 131)
   have h34:Below w3.heap.size w3 w4:=br.alloc (Nat.le_refl _) _
   have hD1:=Lib.hid (den_any x _ NoA w4 ((HW.out.2.2.2.1.below hb3).below h34) (rcv_noA _))
   clear hin hbw2 h2 HA
   go_wp2_with fail
   refine hD1.out.mono ?_
   rintro e w5 ⟨vd,rfl,hb5,id5⟩
   have hb45:Below w3.heap.size w3 w5:=h34.trans (hb5.mono (by simp[w4]))
   have hD2:=Lib.hid (den_any y _ NoA w5 ((HW.out.2.2.2.2.below hb3).below hb45) (rcv_noA _))
   go_wp2_with fail
   refine hD2.out.mono ?_
   rintro e w6 ⟨ve,rfl,hb6,ie6⟩
   have hb36:Below w3.heap.size w3 w6:=hb45.trans (hb6.mono hb45.size)
   have hm6:w6.heap[w3.heap.size]?=some (.cells #[.bool false,.slice none 0 0] 131 (0,0)):=(hb6.block _ (by have:=hb5.size; simp[w4] at this; omega)).trans ((hb5.block _ (by simp[w4])).trans (heap_alloc_new w3 _))
   have hMu:=Lib.hid (mul_any w3.heap.size 0 _ _ x.den y.den _ _ NoA w6 hm6 (by decide) noW_zInt (id5.below hb6) ie6 (by have:=hlx.2; simp; omega) (by have:=hly.2; simp; omega))
   go_wp2_with fail
   refine hMu.out.mono ?_
   rintro e w7 ⟨rfl,hp7⟩
   have ip7:=(hp7.intP (by decide) (rcv_noA _)).noA
   have hb37:Below w3.heap.size w3 w7:=hb36.trans (hp7.1.below (Nat.le_refl _) hb36.size)
   have hbw7:Below w.heap.size w w7:=hb3.trans (hb37.mono hb3.size)
   have hS:=SetFrac_any m C _ _ (Int.mul_ne_zero den_ne den_ne) _ _ NoA w7 ((hbw7.block m hmlt).trans HM.out.1) hC4 HM.out.2 (in3.below hb37) ip7 (by omega) (by omega)
   rw[sub_divInt] at hS
   have HS:=Lib.hid hS
   clear hS ip7 in3 hm6 id5 ie6 hMu hD1 hD2
   go_wp2_with (go_at_call 80; refine HS.out.mono ?_; rintro e w' ⟨rfl,hp⟩)
   go_ret
   exact⟨rfl,hp.below hbw7⟩
end Go.Proofs.YthklnbaddobieaaGreat
namespace Go.Proofs.YthklnbaddobieaaGreat
open Go.RowKit Tr
theorem put_four{m:Nat}{C:Array Value}{q:Rat}{W:World}{nb:Bool}{p1 p2:Option Addr}{n1 c1 n2 c2:Nat}(hm:W.heap[m]?=some (.cells C 133 (0,0)))(hC4:C.size=4)(hC:NoW (.cells C 133 (0,0)))(hnb:nb=decide (q.num<0))(h1:WSl W (.slice p1 n1 c1) (words q.num.natAbs))(h2:WSl W (.slice p2 n2 c2) (words q.den)) :
  PutR m q W ((((W.setCell ⟨m,0,none⟩ (.bool nb)).setCell ⟨m,1,none⟩ (.slice p1 n1 c1)).setCell ⟨m,2,none⟩ (.bool false)).setCell ⟨m,3,none⟩ (.slice p2 n2 c2)):=by
 have hmod:Mod m W ((((W.setCell ⟨m,0,none⟩ (.bool nb)).setCell ⟨m,1,none⟩ (.slice p1 n1 c1)).setCell ⟨m,2,none⟩ (.bool false)).setCell ⟨m,3,none⟩ (.slice p2 n2 c2)):=(((((Mod.refl m W).setCell 0 _).setCell 1 _).setCell 2 _).setCell 3 _)
 obtain⟨x0,x1,x2,x3,rfl⟩:∃ x0 x1 x2 x3,C=#[x0,x1,x2,x3]:=by
  obtain⟨l⟩:=C
  match l,hC4 with
  | [x0,x1,x2,x3],_=>exact⟨x0,x1,x2,x3,rfl⟩
 refine⟨hmod,.slice p1 n1 c1,.slice p2 n2 c2,?_,WSl.mod h1 hmod hm hC,WSl.mod h2 hmod hm hC⟩
 rw[←hnb]
 exact setCell_heap (i:=3) (setCell_heap (i:=2) (setCell_heap (i:=1) (setCell_heap (i:=0) hm)))
theorem PutR.drewN{m:Nat}{q:Rat}{w w':World}(h:PutR m q w w')(n:Nat):PutR m q w (w'.drewN n):=⟨h.1.drewN n,h.2⟩
theorem four_cells{w:World}{m:Nat}{C:Array Value}{T:TypeId}(hm:w.heap[m]?=some (.cells C T (0,0)))(hC4:C.size=4):∃ x0 x1 x2 x3,w.cell? ⟨m,0,none⟩=some x0∧w.cell? ⟨m,1,none⟩=some x1∧w.cell? ⟨m,2,none⟩=some x2∧w.cell? ⟨m,3,none⟩=some x3∧w.frozen? ⟨m,0,none⟩=false∧w.frozen? ⟨m,1,none⟩=false∧w.frozen? ⟨m,2,none⟩=false∧w.frozen? ⟨m,3,none⟩=false:=by
 obtain⟨x0,x1,x2,x3,rfl⟩:∃ x0 x1 x2 x3,C=#[x0,x1,x2,x3]:=by
  obtain⟨l⟩:=C
  match l,hC4 with
  | [x0,x1,x2,x3],_=>exact⟨x0,x1,x2,x3,rfl⟩
 refine⟨x0,x1,x2,x3,?_⟩
 simp[World.cell?,World.frozen?,hm]
end Go.Proofs.YthklnbaddobieaaGreat
namespace Go.Proofs.YthklnbaddobieaaGreat
open Go.RowKit Tr
set_option maxRecDepth 100000 in
theorem RSetInt_any (m : Nat) (C : Array Value) (x : Int) (vx : Value) (A : Nat → Prop) (w : World) (hm : w.heap[m]? = some (.cells C 133 (0,0))) (hC4 : C.size = 4) (hC : NoW (.cells C 133 (0,0))) (hx : IntP x vx w A) (hlx : (words x.natAbs).length < 274877906944) :
    Calls Tryz.prog 162 #[.pointer (some ⟨m,0,none⟩),vx] w fun e w'=>e=.returned (.pointer (some ⟨m,0,none⟩))∧PutR m (x:Rat) w w':=by
  have hx:=hx.noA
  obtain⟨b,o,rfl⟩:=hx.shape
  have hmlt:m<w.heap.size:=(Array.getElem?_eq_some_iff.1 hm).1
  have HM:=Lib.hid (And.intro hm (And.intro hC hx))
  obtain⟨x0,x1,x2,x3,f0,f1,f2,f3,g0,g1,g2,g3⟩:=four_cells hm hC4
  obtain⟨nb,hnb⟩:∃ nb,nb=decide (x<0):=⟨_,rfl⟩
  have HNB:=Lib.hid hnb
  clear hnb
  clear hm hC hx
  go_enter Tryz.func162,Tryz.ntmps162
  go_wp2_with fail
  have hm0:((w.alloc (.cells #[.bool false,.slice none 0 0] 131)).drew).heap[w.heap.size]?=some (.cells #[.bool false,.slice none 0 0] 131 (0,0)):=heap_alloc_new w _
  have hS0:=set_any w.heap.size 0 _ _ x _ NoA ((w.alloc (.cells #[.bool false,.slice none 0 0] 131)).drew) hm0 (by decide) noW_zInt (HM.out.2.2.below ((br.alloc (Nat.le_refl _) _).drew)) hlx
  have HS0:=Lib.hid hS0
  have HN0:=Lib.hid (fun w=>newInt_any 1 (by decide) (by decide) w)
  clear hS0 hm0
  go_region_with (first
    | (go_at_call 149
       refine HS0.out.mono ?_
       rintro e w1 ⟨rfl,hp1⟩
       have hn1:NewI x (.pointer (some ⟨w.heap.size,0,none⟩)) w w1:=(hp1.below (w:=w.alloc (.cells #[.bool false,.slice none 0 0] 131)) br.drew).new (by decide)
       have f0:=(hn1.1.cell (p:=⟨m,0,none⟩) hmlt).trans f0
       have f1:=(hn1.1.cell (p:=⟨m,1,none⟩) hmlt).trans f1
       have f2:=(hn1.1.cell (p:=⟨m,2,none⟩) hmlt).trans f2
       have f3:=(hn1.1.cell (p:=⟨m,3,none⟩) hmlt).trans f3
       have g0:=(hn1.1.frozen (p:=⟨m,0,none⟩) hmlt).trans g0
       have g1:=(hn1.1.frozen (p:=⟨m,1,none⟩) hmlt).trans g1
       have g2:=(hn1.1.frozen (p:=⟨m,2,none⟩) hmlt).trans g2
       have g3:=(hn1.1.frozen (p:=⟨m,3,none⟩) hmlt).trans g3
       obtain⟨p1,n1,c1,b1,e1,e2,e3⟩:=(hn1.2 NoA (rcv_noA _)).cells
       rw[←HNB.out] at e1
       have H1:=Lib.hid (And.intro hn1 e3)
       clear hn1 hp1 e3)
    | (go_at_call 90
       refine(HN0.out _).mono ?_
       rintro e w2 ⟨v2,rfl,hn2⟩
       have hmlt1:m<w1.heap.size:=Nat.lt_of_lt_of_le hmlt H1.out.1.1.size
       have f0:=(hn2.1.cell (p:=⟨m,0,none⟩) hmlt1).trans f0
       have f1:=(hn2.1.cell (p:=⟨m,1,none⟩) hmlt1).trans f1
       have f2:=(hn2.1.cell (p:=⟨m,2,none⟩) hmlt1).trans f2
       have f3:=(hn2.1.cell (p:=⟨m,3,none⟩) hmlt1).trans f3
       have g0:=(hn2.1.frozen (p:=⟨m,0,none⟩) hmlt1).trans g0
       have g1:=(hn2.1.frozen (p:=⟨m,1,none⟩) hmlt1).trans g1
       have g2:=(hn2.1.frozen (p:=⟨m,2,none⟩) hmlt1).trans g2
       have g3:=(hn2.1.frozen (p:=⟨m,3,none⟩) hmlt1).trans g3
       have e1:=(hn2.1.cell (p:=⟨w.heap.size,0,none⟩) b1).trans e1
       have e2:=(hn2.1.cell (p:=⟨w.heap.size,1,none⟩) b1).trans e2
       obtain⟨b3,o3,rfl⟩:=(hn2.2 NoA (rcv_noA _)).shape
       obtain⟨p2,n2,c2,b2,e4,e5,e6⟩:=(hn2.2 NoA (rcv_noA _)).cells
       rw[show decide ((1:Int)<0)=false from rfl] at e4
       have H2:=Lib.hid (And.intro hn2 e6)
       clear hn2 e6))
  all_goals
    go_wp2
    go_ret
    have hbw:Below w.heap.size w w2:=H1.out.1.1.trans (H2.out.1.1.mono H1.out.1.1.size)
    have h5:=put_four (nb:=nb) (q:=(x:Rat)) ((hbw.block m hmlt).trans HM.out.1) hC4 HM.out.2.1 (by rw[Rat.num_intCast]; exact HNB.out) (by rw[Rat.num_intCast]; exact H1.out.2.below H2.out.1.1) (by rw[Rat.den_intCast]; exact H2.out.2)
    exact⟨rfl,h5.below hbw⟩
set_option maxRecDepth 100000 in
theorem RSetInt64_any(m:Nat)(C:Array Value)(n:Int)(h0:-9223372036854775808≤n)(h1:n<9223372036854775808)(w:World)(hm:w.heap[m]?=some (.cells C 133 (0,0)))(hC4:C.size=4)(hC:NoW (.cells C 133 (0,0))) :
  Calls Tryz.prog 168 #[.pointer (some ⟨m,0,none⟩),.int .i64 n] w fun e w'=>e=.returned (.pointer (some ⟨m,0,none⟩))∧PutR m (n:Rat) w w':=by
 have hmlt:m<w.heap.size:=(Array.getElem?_eq_some_iff.1 hm).1
 have HN:=Lib.hid (newInt_any n h0 h1 w)
 have HM:=Lib.hid (And.intro hm hC)
 have hln:(words n.natAbs).length<274877906944:=Nat.lt_of_le_of_lt (words_length_le (k:=2) (by omega)) (by decide)
 clear hm hC
 go_enter Tryz.func168,Tryz.ntmps168
 go_wp2_with fail
 refine HN.out.mono ?_
 rintro e w1 ⟨v,rfl,hn⟩
 have HS:=Lib.hid (RSetInt_any m C n v NoA w1 ((hn.1.block m hmlt).trans HM.out.1) hC4 HM.out.2 (hn.2 NoA (rcv_noA _)) hln)
 go_wp2_with (go_at_call 162; refine HS.out.mono ?_; rintro e w' ⟨rfl,hp⟩)
 go_ret
 exact⟨rfl,hp.below hn.1⟩
def NewR(q:Rat)(v:Value)(w w':World):Prop:=Below w.heap.size w w'∧∀ A,Rcv A w→RatP q v w' A
theorem RatP.wider{q:Rat}{v:Value}{w:World}{A A':Nat→Prop}(h:RatP q v w A)(hA:∀ b,A' b→A b):RatP q v w A' :=
 RatP.keeps q v w w A A' (Nat.le_refl _) (fun b _ hna=>⟨rfl,fun h=>hna (hA b h)⟩) h
theorem PutR.new{q:Rat}{w w':World}{ob:Obj}(h:PutR w.heap.size q (w.alloc ob) w'):NewR q (.pointer (some ⟨w.heap.size,0,none⟩)) w w':=by
 refine⟨below_of_alloc h.1,fun A hA=>?_⟩
 have hA':Rcv A (w.alloc ob):=hA.below (br.alloc (Nat.le_refl _) _)
 exact(h.ratP hA').wider fun b hb=>⟨hb,fun e=>by have:=hA.lt hb; omega⟩
theorem NewR.of_below{q:Rat}{v:Value}{w w1 w':World}(h:NewR q v w1 w')(hb:Below w.heap.size w w1):NewR q v w w':=⟨hb.trans (h.1.mono hb.size),fun A hA=>h.2 A (hA.below hb)⟩
abbrev zR:Obj:=.cells #[.bool false,.slice none 0 0,.bool false,.slice none 0 0] 133 (0,0)
end Go.Proofs.YthklnbaddobieaaGreat
namespace Tr
open Go
def sbit(s:Bool):Nat:=if s then 1 else 0
theorem sbit_lt(s:Bool):sbit s<2:=by cases s<;>decide
theorem sgw_S(s:Bool)(b:Nat):sgw s b=sbit s*9223372036854775808+b:=by cases s<;>simp[sgw,sbit]
theorem frexp_bits{s:Bool}{c E r:Nat}(hc:c=E*4503599627370496+r)(hr:r<4503599627370496)(hE:E≤2046) :
  bits .and .u64 (((sgw s c:Nat):Int) / 4503599627370496) 2047=(E:Int) ∧
  ∃ Y:Nat,bits .andNot .u64 ((sgw s c:Nat):Int) 9218868437227405312=(Y:Int)∧bits .or .u64 (Y:Int) 4602678819172646912=((sgw s (1022*4503599627370496+r):Nat):Int):=by
 have hS:=sbit_lt s
 refine⟨?_,sbit s*9223372036854775808+r,?_,?_⟩
 ·have e1:(((sgw s c:Nat):Int) / 4503599627370496)=((sbit s*2048+E:Nat):Int):=by rw[sgw_S,hc]; omega
  rw[e1,u64_and2047 _ (by omega)]
  congr 1
  omega
 ·have:=andNot_exp (sbit s) c hS (by omega)
  rw[←sgw_S] at this
  rw[this]
  congr 2
  omega
 ·have:=or_exp_i (sbit s) r 1022 hS hr (by decide)
  rw[show((1022*4503599627370496:Nat):Int)=4602678819172646912 from rfl] at this
  rw[this,sgw_S]
end Tr
namespace Go.Proofs.YthklnbaddobieaaGreat
open Go.RowKit Tr
theorem Ldexp_any{fb m B:Nat}{e:Int}(hm:0<m)(hm2:m≤9007199254740992)(hfb:Exu fb ((m*2 ^ UU:Nat):Int))(hf:fb<18446744073709551616)(he:-1074≤e)(he2:e≤100000)(hB:VV B=m*2 ^ (e+1074).toNat)(w:World) :
  Calls Tryz.prog 95 #[.float .f64 fb,.int .i64 e] w fun r w'=>r=.returned (.float .f64 (min B (GW+1)))∧w=w':=by
 obtain⟨E,r,h1,h2,h3,h4,h5⟩:=ldexp_ways hm hm2 hfb hf he hB
 have main:∀ w:World,Calls Tryz.prog 159 #[.float .f64 fb,.int .i64 e] w fun r w'=>r=.returned (.float .f64 (min B (GW+1)))∧w=w':=by
  intro w
  clear hB hfb
  rcases h5 with⟨k1,k2⟩|⟨x,k1,k2,k3,k4⟩|⟨x,k1,k2,k3⟩
  ·rw[k2]; exact ldexp_hi E r e h1 h2 h3 h4 he he2 k1 w
  ·exact ldexp_mid E r e x _ k1 h1 h2 h3 h4 k2 k3 k4 w
  ·exact ldexp_low E r e x _ k1 h1 h2 h3 h4 he k2 k3 w
 clear h1 h2 h3 h4 h5 hB hfb
 generalize min B (GW+1)=M at *
 go_enter Tryz.func95,Tryz.ntmps95
 go_wp2_with (go_at_call 159; refine(main _).mono ?_; rintro e w' ⟨rfl,rfl⟩)
 go_ret
 exact⟨rfl,rfl⟩
set_option maxRecDepth 100000 in
theorem frexp_by{s:Bool}{b c E r:Nat}{e0:Int}(hb0:b≠0)(hb:b≤GW)(hn:∀ w,Calls Tryz.prog 206 #[.float .f64 (sgw s b)] w fun e w'=>e=.returned (.tuple #[.float .f64 (sgw s c),.int .i64 e0])∧w=w')
  (hc:c=E*4503599627370496+r) (hr:r<4503599627370496) (hE:E≤2046) (he0:e0=0∨e0=-52) (w:World) :
  Calls Tryz.prog 161 #[.float .f64 (sgw s b)] w fun e w'=>e=.returned (.tuple #[.float .f64 (sgw s (1022*4503599627370496+r)),.int .i64 (e0+((E:Int) - 1023+1))])∧w=w':=by
 have main:∀ w:World,Calls Tryz.prog 208 #[.float .f64 (sgw s b)] w fun e w'=>e=.returned (.tuple #[.float .f64 (sgw s (1022*4503599627370496+r)),.int .i64 (e0+((E:Int) - 1023+1))])∧w=w':=by
  intro w
  obtain⟨f1,Y,f2,f3⟩:=frexp_bits (s:=s) hc hr hE
  have e1:=bits_of
  have e2:=of_bits
  have h1:=ord_self (ex_sgw (s:=s) hb)
  have h2:=ord_fin hb
  have h3:(FloatKind.f64.format.order (sgw s b) 0 == some .eq)=decide (b=0):=ord_eq0 (s:=s) hb
  rw[show decide (b=0)=false by simp[hb0]] at h3
  have h4:sgw s b % 2 ^ 63=b:=sgw_mod (by omega)
  have h5:sgw s b<2 ^ 64:=sgw_lt hb
  have b1:-52≤e0:=by omega
  have b2:e0≤0:=by omega
  have HN:=Lib.hid (hn w)
  clear hn hc hr he0 hb hb0
  generalize sgw s c=X at *
  generalize sgw s (1022*4503599627370496+r)=Z at *
  generalize sgw s b=F at *
  go_enter Tryz.func208,Tryz.ntmps208
  go_wp2_with (first|(go_at_call 97; refine(isnan_any _ _).mono ?_; rintro e w' ⟨rfl,rfl⟩; rw[h1])|(go_at_call 38; refine(isinf0_any h5 _).mono ?_; rintro e w' ⟨rfl,rfl⟩; rw[h4,h2])|(go_at_call 206; refine HN.out.mono ?_; rintro e w' ⟨rfl,rfl⟩))
  refine bodyPost_ret (v:=.tuple #[.float .f64 Z,.int .i64 (e0+((E:Int) - 1023+1))]) (by kernel_rfl) rfl ⟨rfl,rfl⟩
 clear hn hc hr he0 hb hb0
 generalize sgw s (1022*4503599627370496+r)=Z at *
 generalize sgw s b=F at *
 go_enter Tryz.func161,Tryz.ntmps161
 go_wp2_with (go_at_call 208; refine(main _).mono ?_; rintro e w' ⟨rfl,rfl⟩)
 refine bodyPost_ret (v:=.tuple #[.float .f64 Z,.int .i64 (e0+((E:Int) - 1023+1))]) (by kernel_rfl) rfl ⟨rfl,rfl⟩
theorem frexp_0(s:Bool)(w:World):Calls Tryz.prog 161 #[.float .f64 (sgw s 0)] w fun e w'=>e=.returned (.tuple #[.float .f64 (sgw s 0),.int .i64 0])∧w=w':=by
 have h3:(FloatKind.f64.format.order (sgw s 0) 0 == some .eq)=decide ((0:Nat)=0):=ord_eq0 (s:=s) (b:=0) (by decide)
 rw[show decide ((0:Nat)=0)=true from rfl] at h3
 generalize sgw s 0=F at *
 have main:∀ w:World,Calls Tryz.prog 208 #[.float .f64 F] w fun e w'=>e=.returned (.tuple #[.float .f64 F,.int .i64 0])∧w=w':=by
  intro w
  go_enter Tryz.func208,Tryz.ntmps208
  go_wp2
  refine bodyPost_ret (v:=.tuple #[.float .f64 F,.int .i64 0]) (by kernel_rfl) rfl ⟨rfl,rfl⟩
 go_enter Tryz.func161,Tryz.ntmps161
 go_wp2_with (go_at_call 208; refine(main _).mono ?_; rintro e w' ⟨rfl,rfl⟩)
 refine bodyPost_ret (v:=.tuple #[.float .f64 F,.int .i64 0]) (by kernel_rfl) rfl ⟨rfl,rfl⟩
theorem normalize_s{s:Bool}{b c:Nat}(hb:b<4503599627370496)(hm:Ieee.double.mul (sgw s b) 4841369599423283200=some (sgw s c))(w:World) :
  Calls Tryz.prog 206 #[.float .f64 (sgw s b)] w fun e w'=>e=.returned (.tuple #[.float .f64 (sgw s c),.int .i64 (-52)])∧w=w':=by
 have h1:(FloatKind.f64.format.order b 4503599627370496 == some .lt)=decide (b<4503599627370496):=ord_small (by unfold GW; omega)
 rw[show decide (b<4503599627370496)=true by simp[hb]] at h1
 have hb2:b<9223372036854775808:=by omega
 have hv:VOp .mul (sgw s b) 4841369599423283200 (sgw s c):=hm
 have r4:=fun w=>hv.run (P:=Tryz.prog) 28 w
 clear hm hb hv
 go_enter Tryz.func206,Tryz.ntmps206
 go_wp2_with (go_at_call 98; refine(ab_any hb2 _).mono ?_; rintro e w' ⟨rfl,rfl⟩)
 refine bodyPost_ret (v:=.tuple #[.float .f64 (sgw s c),.int .i64 (-52)]) (by kernel_rfl) rfl ⟨rfl,rfl⟩
theorem toInt_val{x:Nat}{n:Int}(h:Exu x (n*2 ^ UU))(h1:-9007199254740992≤n)(h2:n≤9007199254740992):floatToIntVal .f64 x .i64=some n:=by
 unfold floatToIntVal
 have:=toInt_ex h
 rw[show(FloatKind.f64.decode x).toInt .zero=some n from this]
 show(if IntKind.i64.min≤n∧n≤IntKind.i64.max then some n else none)=some n
 rw[if_pos]
 have e1:IntKind.i64.min=-9223372036854775808:=rfl
 have e2:IntKind.i64.max=9223372036854775807:=rfl
 rw[e1,e2]
 omega
theorem sgk_bound{s:Bool}{r:Nat}(hr:r<4503599627370496):-9007199254740992≤sgk s (4503599627370496+r)∧sgk s (4503599627370496+r)≤9007199254740992∧(sgk s (4503599627370496+r)).natAbs<9007199254740992:=by
 unfold sgk
 cases s
 ·simp only[Bool.false_eq_true,if_false]; omega
 ·simp only[if_true]; omega
theorem Frexp_any{s:Bool}{b:Nat}(hb:b≤GW):∃(fw mv:Nat) (n e:Int),(∀ w,Calls Tryz.prog 161 #[.float .f64 (sgw s b)] w fun q w'=>q=.returned (.tuple #[.float .f64 fw,.int .i64 e])∧w=w') ∧
  VOp .mul fw 4845873199050653696 mv∧floatToIntVal .f64 mv .i64=some n∧n.natAbs<9007199254740992 ∧
  ((∃ d:Nat,e - 53=(d:Int)∧d≤971∧fq s b=((n*2 ^ d:Int):Rat))∨(∃ t:Nat,0<t∧e - 53=-(t:Int)∧t≤1126∧fq s b=Rat.divInt n ((2 ^ t:Nat):Int))):=by
 by_cases h0:b=0
 ·subst h0
  refine⟨_,_,0,0,frexp_0 s,mul_zero53 s,toInt_val (by rw[Int.zero_mul]; exact(sgv_zero (s:=s) (b:=0)).2 rfl▸ex_sgw (s:=s) (b:=0) (by decide)) (by decide) (by decide),by decide,.inr ⟨53,by decide,rfl,by decide,?_⟩⟩
  have:sgv s 0=0:=(sgv_zero (s:=s) (b:=0)).2 rfl
  unfold fq
  rw[this,Rat.zero_divInt]
  generalize ((2 ^ UU:Nat):Rat)=u
  show(0:Rat) / u=0
  grind
 ·have main:∃(r:Nat) (e:Int),r<4503599627370496∧(∀ w,Calls Tryz.prog 161 #[.float .f64 (sgw s b)] w fun q w'=>q=.returned (.tuple #[.float .f64 (sgw s (1022*4503599627370496+r)),.int .i64 e])∧w=w')∧-1126≤e - 53∧e - 53≤971∧VV b*2 ^ 52=(4503599627370496+r)*2 ^ (e - 53+1126).toNat:=by
   rcases Nat.lt_or_ge b 4503599627370496 with c|c
   ·obtain⟨c',E,r,k1,k2,k3,k4,k5,k6,k7⟩:=sub_parts (s:=s) h0 c
    refine⟨r,-52+((E:Int) - 1023+1),k4,fun w=>frexp_by h0 hb (normalize_s c k1) k3 k4 (by omega) (.inr rfl) w,by omega,by omega,?_⟩
    rw[show VV b=b by unfold VV; rw[if_pos c],show(2:Nat) ^ 52=4503599627370496 by decide,k7]
    congr 2
    clear k7
    omega
   ·obtain⟨E,r,k3,k4,k5,k6,k7⟩:=frexp_parts hb c
    refine⟨r,0+((E:Int) - 1023+1),k4,fun w=>frexp_by h0 hb (normalize_n hb c) k3 k4 (by omega) (.inl rfl) w,by omega,by omega,?_⟩
    rw[k7,Nat.mul_assoc,←Nat.pow_add]
    congr 2
    clear k7
    omega
  obtain⟨r,e,hr,hc,h1,h2,hv⟩:=main
  obtain⟨mv,hm,hx⟩:=frac53 (s:=s) hr
  obtain⟨b1,b2,b3⟩:=sgk_bound (s:=s) hr
  refine⟨_,mv,sgk s (4503599627370496+r),e,hc,hm,toInt_val hx b1 b2,b3,?_⟩
  rcases Int.lt_or_le (e - 53) 0 with c|c
  ·refine .inr ⟨(-(e - 53)).toNat,by omega,by omega,by omega,fq_lo (j:=(e - 53+1126).toNat) (by rw[UT_eq]; omega) hv⟩
  ·refine .inl ⟨(e - 53).toNat,by omega,by omega,fq_hi (by rw[hv]; congr 2; rw[UT_eq]; omega)⟩
theorem newInt_own(n:Int)(h0:-9223372036854775808≤n)(h1:n<9223372036854775808)(w:World) :
  Calls Tryz.prog 90 #[.int .i64 n] w fun e w'=>e=.returned (.pointer (some ⟨w.heap.size,0,none⟩))∧OwnI w.heap.size n w'∧Below w.heap.size w w':=by
 have hs:=setInt64_any w.heap.size 0 _ _ n h0 h1 _ (heap_alloc_new w (.cells #[.bool false,.slice none 0 0] 131)) (by decide) noW_zInt
 have HS:=Lib.hid hs
 clear hs
 go_enter Tryz.func90,Tryz.ntmps90
 go_wp2_with (go_at_call 157; refine HS.out.mono ?_; rintro e w' ⟨rfl,hp⟩)
 go_ret
 exact⟨rfl,hp.own (by decide) noW_zInt,(hp.new (by decide)).1⟩
theorem OwnI.lsh{B N:Nat}{z:Int}{w:World}(h:OwnI B z w)(hl:(words z.natAbs).length<1000000)(hN:N<1000000)(hl2:(words (z.natAbs*2 ^ N)).length<1000000) :
  Calls Tryz.prog 86 #[.pointer (some ⟨B,0,none⟩),.pointer (some ⟨B,0,none⟩),.int .u64 N] w fun e w'=>e=.returned (.pointer (some ⟨B,0,none⟩))∧OwnI B (z*2 ^ N) w'∧Mod B w w':=by
 obtain⟨C,a1,a2,a3,a4⟩:=h
 refine(Lsh_any B 0 C _ z _ N NoA w a1 a2 a3 a4 (by omega) (by omega) (by omega)).mono ?_
 rintro e w' ⟨rfl,hp⟩
 exact⟨rfl,hp.own a2 a3,hp.1⟩
theorem OwnI.intP{B:Nat}{z:Int}{w:World}(h:OwnI B z w):IntP z (.pointer (some ⟨B,0,none⟩)) w NoA:=by
 obtain⟨C,a1,a2,a3,a4⟩:=h; exact a4
theorem OwnI.lt{B:Nat}{z:Int}{w:World}(h:OwnI B z w):B<w.heap.size:=by
 obtain⟨C,a1,a2,a3,a4⟩:=h; exact(Array.getElem?_eq_some_iff.1 a1).1
theorem OwnI.below{B:Nat}{z:Int}{w w':World}(h:OwnI B z w)(hb:Below w.heap.size w w'):OwnI B z w':=by
 have hl:=h.lt
 obtain⟨C,a1,a2,a3,a4⟩:=h
 exact⟨C,(hb.block B hl).trans a1,a2,a3,a4.below hb⟩
theorem wl_small{n N:Nat}(hn:n<9007199254740992)(hN:N≤1126):(words (n*2 ^ N)).length<1000000:=by
 obtain⟨k,hk⟩:∃ k,k=38:=⟨_,rfl⟩
 refine Nat.lt_of_le_of_lt (words_length_le (k:=k) ?_) (by omega)
 have h1:n*2 ^ N<2 ^ 53*2 ^ N:=Nat.mul_lt_mul_of_pos_right (by simpa using hn) (Nat.two_pow_pos _)
 rw[show(4294967296:Nat)=2 ^ 32 by decide,←Nat.pow_mul]
 rw[←Nat.pow_add] at h1
 exact Nat.lt_of_lt_of_le h1 (Nat.pow_le_pow_right (by decide) (by omega))
theorem wl_two{N:Nat}(hN:N≤1126):(words (2 ^ N)).length<1000000:=by
 have:=wl_small (n:=1) (by decide) hN
 rwa[Nat.one_mul] at this
theorem SetFloat_any{s:Bool}{b:Nat}(hb:b≤GW)(m:Nat)(w:World)(hm:w.heap[m]?=some zR) :
  Calls Tryz.prog 99 #[.pointer (some ⟨m,0,none⟩),.float .f64 (sgw s b)] w fun e w'=>e=.returned (.pointer (some ⟨m,0,none⟩))∧PutR m (fq s b) w w':=by
 obtain⟨fw,mv,n,e,hf,hv,hi,hn,hq⟩:=Frexp_any (s:=s) hb
 have hmlt:m<w.heap.size:=(Array.getElem?_eq_some_iff.1 hm).1
 have h1:=ord_self (ex_sgw (s:=s) hb)
 have h2:=ord_fin hb
 have h4:sgw s b % 2 ^ 63=b:=sgw_mod (by omega)
 have h5:sgw s b<2 ^ 64:=sgw_lt hb
 have r4:=fun w=>hv.run (P:=Tryz.prog) 28 w
 have r5:=fun w=>run_convert_float_int (P:=Tryz.prog) w 28 2 .f64 .i64 mv n (by kernel_rfl) (by kernel_rfl) hi
 have HF:=Lib.hid hf
 have HM:=Lib.hid hm
 have hln:(words n.natAbs).length<1000000:=by have:=wl_small (N:=0) hn (by decide); rwa[Nat.pow_zero,Nat.mul_one] at this
 obtain⟨q,hqe⟩:∃ q,q=fq s b:=⟨_,rfl⟩
 rw[←hqe] at hq ⊢
 clear hf hv hi hm hqe
 rcases hq with⟨d,e1,e2,e3⟩|⟨t,e0,e1,e2,e3⟩
 ·have ed:e=(d:Int)+53:=by omega
  subst ed
  have hl2:=wl_small hn (show d≤1126 by omega)
  have HQ:=Lib.hid e3
  have w1:IntKind.i64.wrap ((d:Int)+53 - 53)=(d:Int):=by rw[IntKind.wrap_i64]; omega
  have w2:IntKind.u64.wrap (d:Int)=(d:Int):=by rw[IntKind.wrap_u64]; omega
  clear hb e1 e3
  generalize sgw s b=F at *
  go_enter Tryz.func99,Tryz.ntmps99
  go_wp2_with (first|(go_at_call 97; refine(isnan_any _ _).mono ?_; rintro e w' ⟨rfl,rfl⟩; rw[h1])|(go_at_call 38; refine(isinf0_any h5 _).mono ?_; rintro e w' ⟨rfl,rfl⟩; rw[h4,h2])|(go_at_call 161; refine(HF.out _).mono ?_; rintro e w' ⟨rfl,rfl⟩))
  refine(newInt_own n (by omega) (by omega) w).mono ?_
  rintro e w1 ⟨rfl,hn1,hb1⟩
  go_wp2_with fail
  refine(hn1.lsh hln (by omega) hl2).mono ?_
  rintro e w2 ⟨rfl,hn2,hm2⟩
  have hb2:Below w.heap.size w w2:=hb1.trans (hm2.below (Nat.le_refl _) hb1.size)
  have hi2:=hn2.intP
  have hl3:(words (n*2 ^ d).natAbs).length<274877906944:=by rw[natAbs_shl]; omega
  have HS:=Lib.hid (RSetInt_any m _ (n*2 ^ d) _ NoA w2 ((hb2.block m hmlt).trans HM.out) rfl noW_zRat hi2 hl3)
  clear hi2 hl3
  go_wp2_with (go_at_call 162; refine HS.out.mono ?_; rintro e w' ⟨rfl,hp⟩)
  go_ret
  rw[←HQ.out] at hp
  exact⟨rfl,hp.below hb2⟩
 ·have ed:e=-(t:Int)+53:=by omega
  subst ed
  have hl2:=wl_two e2
  have HQ:=Lib.hid e3
  have w1:IntKind.i64.wrap (-(t:Int)+53 - 53)=-(t:Int):=by rw[IntKind.wrap_i64]; omega
  have w3:IntKind.i64.wrap (- -(t:Int))=(t:Int):=by rw[IntKind.wrap_i64]; omega
  have w4:IntKind.i64.wrap (0 - -(t:Int))=(t:Int):=by rw[IntKind.wrap_i64]; omega
  have w2:IntKind.u64.wrap (t:Int)=(t:Int):=by rw[IntKind.wrap_u64]; omega
  clear hb e1 e3
  generalize sgw s b=F at *
  go_enter Tryz.func99,Tryz.ntmps99
  go_wp2_with (first|(go_at_call 97; refine(isnan_any _ _).mono ?_; rintro e w' ⟨rfl,rfl⟩; rw[h1])|(go_at_call 38; refine(isinf0_any h5 _).mono ?_; rintro e w' ⟨rfl,rfl⟩; rw[h4,h2])|(go_at_call 161; refine(HF.out _).mono ?_; rintro e w' ⟨rfl,rfl⟩))
  refine(newInt_own n (by omega) (by omega) w).mono ?_
  rintro e w1 ⟨rfl,hn1,hb1⟩
  go_wp2_with fail
  refine(newInt_own 1 (by decide) (by decide) _).mono ?_
  rintro e w2 ⟨rfl,hn2,hb2⟩
  have hb12:Below w1.heap.size w1 w2:=(br.alloc (Nat.le_refl _) _).trans (hb2.mono (by simp))
  have k2:w2.heap[w1.heap.size]?=some (.cells #[.bool false,.slice none 0 0] 131 (0,0)):=(hb2.block _ (by simp)).trans (heap_alloc_new w1 _)
  have hi1:=hn2.intP
  rw[show(w1.alloc (.cells #[.bool false,.slice none 0 0] 131)).heap.size=w1.heap.size+1 by simp] at hi1
  have hl1:(words (1:Int).natAbs).length<274877906944:=by have:=wl_two (N:=0) (by decide); rw[show(1:Int).natAbs=2 ^ 0 from rfl]; omega
  have hl4:(words ((1:Int).natAbs*2 ^ t)).length<1099511627776:=by rw[show(1:Int).natAbs*2 ^ t=2 ^ t from Nat.one_mul _]; omega
  have HL:=Lib.hid (Lsh_any w1.heap.size 0 _ _ (1:Int) _ t NoA w2 k2 (by decide) noW_zInt hi1 hl1 (by omega) hl4)
  clear hi1 hl1 hl4 k2
  go_wp2_with fail
  refine HL.out.mono ?_
  rintro e w3 ⟨rfl,hp3⟩
  rw[Int.one_mul] at hp3
  obtain⟨C3,_,_,_,hi3⟩:=hp3.own (by decide) noW_zInt
  have hb3:Below w1.heap.size w1 w3:=hb12.trans (hp3.1.below (Nat.le_refl _) hb12.size)
  have hbw:Below w.heap.size w w3:=hb1.trans (hb3.mono hb1.size)
  have hin:=hn1.intP.below hb3
  rw[show((2:Int) ^ t)=((2 ^ t:Nat):Int) by simp] at hi3
  have hz:((2 ^ t:Nat):Int)≠0:=by have:=Nat.two_pow_pos t; omega
  have HS:=Lib.hid (SetFrac_any m _ n ((2 ^ t:Nat):Int) hz _ _ NoA w3 ((hbw.block m hmlt).trans HM.out) rfl noW_zRat hin hi3 (by omega) (by rw[show(((2 ^ t:Nat):Int)).natAbs=2 ^ t from rfl]; omega))
  clear hin hi3 hz hp3
  go_wp2_with (go_at_call 80; refine HS.out.mono ?_; rintro e w' ⟨rfl,hp⟩)
  go_ret
  rw[←HQ.out] at hp
  exact⟨rfl,hp.below hbw⟩
theorem nrat_any{s:Bool}{b:Nat}(hb:b≤GW)(w:World) :
  Calls Tryz.prog 39 #[.float .f64 (sgw s b)] w fun e w'=>∃ v,e=.returned v∧NewR (fq s b) v w w':=by
 have HS:=Lib.hid (SetFloat_any (s:=s) hb w.heap.size (w.alloc (.cells #[.bool false,.slice none 0 0,.bool false,.slice none 0 0] 133)) (heap_alloc_new w _))
 obtain⟨F,hF⟩:∃ F,F=sgw s b:=⟨_,rfl⟩
 rw[←hF] at HS ⊢
 clear hF hb
 go_enter Tryz.func39,Tryz.ntmps39
 go_wp2_with (go_at_call 99; refine HS.out.mono ?_; rintro e w' ⟨rfl,hp⟩)
 go_ret
 exact⟨_,rfl,hp.new⟩
end Go.Proofs.YthklnbaddobieaaGreat
namespace Go.Proofs.YthklnbaddobieaaGreat
open Go.RowKit Tr
theorem Abs_any(m o:Nat)(C:Array Value)(T:TypeId)(x:Int)(vx:Value)(A:Nat→Prop)(w:World)(hm:w.heap[m]?=some (.cells C T (0,0)))(ho:o+1<C.size)(hC:NoW (.cells C T (0,0)))(hx:IntP x vx w A)(hnx:(words x.natAbs).length<274877906944) :
  Calls Tryz.prog 83 #[.pointer (some ⟨m,o,none⟩),vx] w fun e w'=>e=.returned (.pointer (some ⟨m,o,none⟩))∧Put m o C T (x.natAbs:Int) w w':=by
 have hc:=set_any m o C T x vx A w hm ho hC hx hnx
 obtain⟨b2,bo2,sl2,rfl,hb2,_,d0,d1,hsl2⟩:=hx
 have HC:=Lib.hid hc
 have HN:=Lib.hid hC
 clear hc hm hC d0 d1
 go_enter Tryz.func83,Tryz.ntmps83
 go_wp2_with (go_at_call 149; refine HC.out.mono ?_; rintro e w' ⟨rfl,hp⟩; obtain⟨sl,e1,e2,e3,e4,e5⟩:=hp.cells ho; obtain⟨p,cap,rfl,_,_⟩:=e3; have e6:=e5 o; clear e5 e4)
 go_ret
 refine⟨rfl,?_⟩
 have k:=put_again (z':=(x.natAbs:Int)) hp (by simp) HN.out
 rw[show decide (((x.natAbs:Nat):Int)<0)=false by simp] at k
 exact k
theorem Bit0_any(x:Nat)(vx:Value)(A:Nat→Prop)(w:World)(hx:IntP (x:Int) vx w A)(hn:(words x).length<274877906944) :
  Calls Tryz.prog 93 #[vx,.int .i64 0] w fun e w'=>e=.returned (.int .u64 ((x % 2:Nat):Int))∧w=w':=by
 obtain⟨b,bo,sl,rfl,hb,_,c0,c1,hsl⟩:=hx
 rw[show((x:Int)).natAbs=x from rfl] at hsl
 have hw:=hsl.wsl
 obtain⟨p,cap,rfl,hcap,hrow⟩:=hw
 clear hsl
 by_cases hz:x=0
 ·subst hz
  rw[words_zero] at c1
  go_enter Tryz.func93,Tryz.ntmps93
  go_wp2
  go_ret
  exact⟨rfl,rfl⟩
 ·have hm0:0<(words x).length:=List.length_pos_iff.2 (fun h=>hz (words_eq_nil.1 h))
  obtain⟨bb,ob,rfl,hbb,hcell⟩:=hrow (List.length_pos_iff.1 hm0)
  have d0:=hcell 0 hm0
  obtain⟨bt,hbt⟩:∃ bt,bt=(words x)[0]?.getD 0:=⟨_,rfl⟩
  rw[←hbt,Nat.add_zero] at d0
  have hbx:bt % 2=x % 2:=by
   have h1:=wat_words x 0
   rw[Nat.pow_zero,Nat.div_one] at h1
   rw[hbt]
   show wat (words x) 0 % 2=x % 2
   rw[h1]
   omega
  have hlt:bt<4294967296:=by
   have h1:=wat_words x 0
   rw[hbt]
   show wat (words x) 0<_
   rw[h1]; exact Nat.mod_lt _ (by decide)
  obtain⟨m,hm⟩:∃ m,(words x).length=m:=⟨_,rfl⟩
  rw[hm] at c1 hn hm0 hcap
  have HX:=Lib.hid hbx
  have hand:bits .and .u32 (bt:Int) 1=(((bt % 2:Nat)):Int):=by
   have:=u32_and_nat bt 1 hlt (by decide)
   rw[show((1:Nat):Int)=1 from rfl] at this
   rw[this,show(1:Nat)=2 ^ 1 - 1 by decide,Nat.and_two_pow_sub_one_eq_mod]
  clear hcell hrow hz hm hbt hbx
  go_enter Tryz.func93,Tryz.ntmps93
  go_wp2
  go_ret
  rw[←HX.out]
  exact⟨rfl,rfl⟩
theorem wat_two{x:Nat}(h:x<18446744073709551616):x=wat (words x) 0+wat (words x) 1*4294967296:=by
 rw[wat_words,wat_words,Nat.pow_zero,Nat.pow_one,Nat.div_one]; omega
theorem words_len_two{x:Nat}(h:x<18446744073709551616):(words x).length≤2:=words_length_le (by simpa using h)
theorem low_any(x:Nat)(h64:x<18446744073709551616)(vx:Value)(A:Nat→Prop)(w:World)(hx:IntP (x:Int) vx w A) :
  Calls Tryz.prog 160 #[vx] w fun e w'=>e=.returned (.int .u64 (x:Int))∧w=w':=by
 obtain⟨b,bo,sl,rfl,hb,_,c0,c1,hsl⟩:=hx
 rw[show((x:Int)).natAbs=x from rfl] at hsl
 have hw:=hsl.wsl
 obtain⟨p,cap,rfl,hcap,hrow⟩:=hw
 have h2:=words_len_two h64
 have hx2:=wat_two h64
 have l0:=wat_lt (wok_words x) 0
 have l1:=wat_lt (wok_words x) 1
 clear hsl
 by_cases hz:x=0
 ·subst hz
  rw[words_zero] at c1
  clear hx2 l0 l1
  go_enter Tryz.func160,Tryz.ntmps160
  go_wp2
  go_ret
  exact⟨rfl,rfl⟩
 ·have hm0:0<(words x).length:=List.length_pos_iff.2 (fun h=>hz (words_eq_nil.1 h))
  obtain⟨bb,ob,rfl,hbb,hcell⟩:=hrow (List.length_pos_iff.1 hm0)
  have d0:w.cell? ⟨bb,ob,none⟩=some (.int .u32 ((wat (words x) 0:Nat):Int)):=hcell 0 hm0
  by_cases h1:(words x).length=1
  ·have hq:wat (words x) 1=0:=wat_out (by omega)
   rw[hq] at hx2
   rw[h1] at c1
   generalize wat (words x) 0=y at *
   have hy:x=y:=by omega
   subst hy
   have hor:bits .or .u64 0 (x:Int)=(x:Int):=by
    have:=bits_or_u64_nat 0 x (by decide) (by omega)
    rw[Nat.zero_or] at this
    exact this
   clear hcell hrow hz h1 hq h2 hcap hm0 hx2
   go_enter Tryz.func160,Tryz.ntmps160
   go_wp2
   go_ret
   exact⟨rfl,rfl⟩
  ·have hl:(words x).length=2:=by omega
   have d1:w.cell? ⟨bb,ob+1,none⟩=some (.int .u32 ((wat (words x) 1:Nat):Int)):=hcell 1 (by omega)
   rw[hl] at c1
   generalize wat (words x) 0=y at *
   generalize wat (words x) 1=z at *
   have hor:bits .or .u64 ((z:Int)*4294967296) (y:Int)=(x:Int):=by
    have:=or_high l0 l1
    have e:=bits_or_u64_nat y (z*4294967296) (by omega) (by omega)
    have e2:=bits_or_u64_nat (z*4294967296) y (by omega) (by omega)
    rw[show((z*4294967296:Nat):Int)=(z:Int)*4294967296 by simp] at e e2
    rw[e2,Nat.or_comm,←e,this,←hx2]
   clear hcell hrow hz h1 hl h2 hcap hm0 hx2 h64
   go_enter Tryz.func160,Tryz.ntmps160
   go_wp2
   go_ret
   exact⟨rfl,rfl⟩
theorem Uint64_any(x:Nat)(h64:x<18446744073709551616)(vx:Value)(A:Nat→Prop)(w:World)(hx:IntP (x:Int) vx w A) :
  Calls Tryz.prog 96 #[vx] w fun e w'=>e=.returned (.int .u64 (x:Int))∧w=w':=by
 have HL:=Lib.hid (low_any x h64 vx A w hx)
 go_enter Tryz.func96,Tryz.ntmps96
 go_wp2_with (go_at_call 160; refine HL.out.mono ?_; rintro e w' ⟨rfl,rfl⟩)
 go_ret
 exact⟨rfl,rfl⟩
theorem bits_one{n M N:Nat}(h1:BitsOf n M)(h2:BitsOf n N):M=N:=by
 have key:∀{a b:Nat},BitsOf n a→BitsOf n b→a≤b:=fun{a b} ha hb=>by
  rcases ha.2 with h0|h0
  ·omega
  ·rcases Nat.lt_or_ge b a with c|c
   ·exfalso
    have:=Nat.pow_le_pow_right (show 0<2 by decide) (show b≤a - 1 by omega)
    have:=hb.1
    omega
   ·exact c
 exact Nat.le_antisymm (key h1 h2) (key h2 h1)
end Go.Proofs.YthklnbaddobieaaGreat
