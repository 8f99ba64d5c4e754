/- Laws. -/
import Derived.Test.YtmimficdpfmfgaaGreatWal
set_option linter.all false
set_option maxHeartbeats 4000000
set_option maxRecDepth 100000
open Go.Lib (hid)
namespace Go.Proofs.YtmimficdpfmfgaaGreat
open Go.RowKit Tr Proofs.Tryz
def Koj(base:Nat)(z:Int):Qcq:=fun v w A=>∃ m sl,v=.pointer (some ⟨m,0,none⟩)/\base<=m/\¬A m/\w.heap[m]?=some (.cells #[.bool (decide (z<0)),sl] 230 (0,0))/\Qjo A w sl (Qac z.natAbs)
def Koj.keeps(base:Nat)(z:Int):(Koj base z).Keeps:=by
 intro v w w' A A' hs hk ⟨m,sl,h1,h2,h3,h4,h5⟩;obtain⟨k1,k2⟩:=hk m (axa.1 h4).1 h3;exact⟨m,sl,h1,h2,k2,k1.trans h4,h5.keep hs hk⟩
def Put.intB{m base:Nat}{b s:Value}{z:Int}{w w':World}(h:Put m 0 #[b,s] 230 z w w')(hm:base<=m){A:Nat->Prop}(hA:Rcv A w):Koj base z (.pointer (some ⟨m,0,none⟩)) w' (fun b=>A b/\b≠m):=by
 have h0:=h.intP (by simp) hA;obtain⟨h1,sl,h2,h3⟩:=h;refine⟨m,sl,rfl,hm,fun h=>h.2 rfl,h2,h3.avoids fun b hb=>?_⟩;obtain⟨zz,k1,k2⟩:=hA b hb.1;exact⟨zz,(h1.block b (axa.1 k1).1 hb.2).trans k1,k2⟩
def Koj.parts{base:Nat}{z:Int}{v:Value}{w:World}{A:Nat->Prop}(h:Koj base z v w A):∃ m C,v=.pointer (some ⟨m,0,none⟩)/\base<=m/\w.heap[m]?=some (.cells C 230 (0,0))/\C.size=2/\NoW (.cells C 230 (0,0))/\Qce z (.pointer (some ⟨m,0,none⟩)) w A:=by
 obtain⟨m,sl,h1,h2,h3,h4,h5⟩:=h;refine⟨m,_,h1,h2,h4,rfl,?_,m,0,sl,rfl,(axa.1 h4).1,h3,by simp[World.cell?,h4],by simp[World.cell?,h4],h5⟩;obtain⟨p,c,rfl,_⟩:=h5;intro cs T fr e i k x;cases e;rcases i with _|_|i<;>simp
def natAbs_sub_le(a b:Int):(a-b).natAbs<=a.natAbs+b.natAbs:=by omega
def Qkq(m:Nat)(C:Array Value)(x y:Rat)(vx vy:Value)(A:Nat->Prop)(w:World)(hm:w.heap[m]?=some (.cells C 232 (0,0)))(hC4:C.size=4)(hC:NoW (.cells C 232 (0,0)))(hx:Qbk x vx w A)(hy:Qbk y vy w A)(k l:Nat)(hlx:RL x k)(hly:RL y l)(hkl:k+l<137438953472) :
  Calls prog 186 #[.pointer (some ⟨m,0,none⟩),vx,vy] w fun e w'=>e=.returned (.pointer (some ⟨m,0,none⟩))/\Qlm m (x+y) w w':=by
 have hx:=hx.noA;have hy:=hy.noA;obtain⟨b,rfl⟩:=hx.shape;obtain⟨b2,rfl⟩:=hy.shape;have hmlt:m<w.heap.size:=(axa.1 hm).1;obtain⟨_,eb,hxn,_⟩:=id hx;cases eb;obtain⟨_,eb,hyn,_⟩:=id hy;cases eb;have HM:=hid (And.intro hm hC);clear hm hC
 go_enter func186,Tryz.ntmps186
 go_wp2_with fail
 refine Qav [(.new zI,[]),(.lit,[]),(.lit,[]),(.lit,[]),(.lit,[]),(.val,[]),(.on 0 zI,[5])]
  (Qfj [(5,Qce y.den),(6,Koj w.heap.size (x.num*(y.den:Int)))]) kR ?_ ?_ (by simp[Qbi]) (by simp) kR
 .exact Qbh (by simp[Qce.keeps,Koj.keeps])
 .refine⟨fun f w1=>by go_simp,?_⟩
  repeat (refine⟨_,fun f w1 h1=>by go_simp;rfl,?_⟩)
  simp only[Act.put,nrA,nrB,nrC,Nat.reduceAdd];refine⟨fun f w1 A1 h1 hA hN hd K hK=>by
   go_simp
   refine(Qfa y _ A1 w1 (Qdk (Qbk.keeps _) hy h1 hN) hA).mono ?_;rintro e w' ⟨v,rfl,hb,hi⟩;exact hK _ _ hb hi,?_⟩
  simp only[Act.put,nrA,nrB,nrC,Nat.reduceAdd];refine⟨fun f w1 A1 m1 h1 hA hN hAm hm0 e hz hd K hK=>by
   simp only[e] at hK ⊢;have i1:Qce y.den (f 5) w1 A1:=hd 5 (by simp)
   go_simp
   refine(Qgm m1 0 _ _ x.num y.den _ _ A1 w1 hz (by decide) Qbi (Qdk (Qce.keeps _) hxn h1 hN) i1 (by have:=hlx.1;omega) (by have:=hly.2;simp;omega)).mono ?_;rintro e w' ⟨rfl,hp⟩;exact hK _ w' hp.1 (hp.intB hm0 hA),?_⟩
  intro f w1 h1 hF;have i1:Koj w.heap.size (x.num*(y.den:Int)) (f 6) w1 NoA:=hF.2;clear hF;simp only[Act.put,nrA,nrB,nrC];obtain⟨mn,Cn,e6,hmn,hbn,hCn,hnn,hin⟩:=i1.parts;rw[e6];generalize f 5=v5;have hbw:Below w.heap.size w w1:=br.drew.trans h1;have hx1:=hx.below hbw;have hyn1:=hyn.below hbw;have HW:=hid (And.intro hbw (And.intro hbn (And.intro hnn (And.intro hx hy))));clear hxn hyn hx hy h1 hbw hbn hnn e6 i1
  go_wp2_with fail
  refine Qav [(.lit,[]),(.lit,[]),(.new zI,[]),(.lit,[]),(.lit,[]),(.lit,[]),(.lit,[]),(.val,[]),(.on 2 zI,[7])]
   (Qfj [(7,Qce x.den),(8,Qce (y.num*(x.den:Int)))]) kR ?_ ?_ (by simp[Qbi]) (by simp) kR
  .exact Qbh (by simp[Qce.keeps])
  .refine⟨_,fun f w1 h1=>by go_simp;rfl,?_⟩;refine⟨_,fun f w1 h1=>by go_simp;rfl,?_⟩;refine⟨fun f w1=>by go_simp,?_⟩
   repeat (refine⟨_,fun f w1 h1=>by go_simp;rfl,?_⟩)
   simp only[Act.put,nrA,nrB,nrC,Nat.reduceAdd];refine⟨fun f w2 A1 h1 hA hN hd K hK=>by
    go_simp
    refine(Qfa x _ A1 w2 (Qdk (Qbk.keeps _) hx1 h1 hN) hA).mono ?_;rintro e w' ⟨v,rfl,hb,hi⟩;exact hK _ _ hb hi,?_⟩
   simp only[Act.put,nrA,nrB,nrC,Nat.reduceAdd];refine⟨fun f w2 A1 m1 h1 hA hN hAm hm0 e hz hd K hK=>by
    simp only[e] at hK ⊢;have i1:Qce x.den (f 7) w2 A1:=hd 7 (by simp)
    go_simp
    refine(Qgm m1 0 _ _ y.num x.den _ _ A1 w2 hz (by decide) Qbi (Qdk (Qce.keeps _) hyn1 h1 hN) i1 (by have:=hly.1;omega) (by have:=hlx.2;simp;omega)).mono ?_;rintro e w' ⟨rfl,hp⟩;exact hK _ w' hp.1 (hp.intP (by decide) hA),?_⟩
   intro f w2 h2 hF;have i2:Qce (y.num*(x.den:Int)) (f 8) w2 NoA:=hF.2;clear hF;simp only[Act.put,nrA,nrB,nrC];generalize f 7=v7;generalize f 8=v8 at *
   have hbw2:Below w1.heap.size w1 w2:=br.drew.trans h2;have l1:(Qac (x.num*(y.den:Int)).natAbs).length<=k+l:=by rw[axm];exact Qfu hlx.1 (by simpa using hly.2)
   have l2:(Qac (y.num*(x.den:Int)).natAbs).length<=k+l:=by rw[axm,Nat.add_comm];exact Qfu hly.1 (by simpa using hlx.2)
   have l4:(Qac ((x.num*(y.den:Int))+(y.num*(x.den:Int))).natAbs).length<=k+l+1:=Qfc (Int.natAbs_add_le _ _) (Kcl l1 l2);have l5:(Qac ((x.den:Int)*(y.den:Int)).natAbs).length<=k+l:=by rw[axm];exact Qfu (by simpa using hlx.2) (by simpa using hly.2)
   have hmn1:mn<w1.heap.size:=(axa.1 HW.out.2.1).1;have hA:=Kog mn 0 Cn _ _ _ _ v8 NoA w2 ((hbw2.block mn hmn1).trans HW.out.2.1) (by omega) HW.out.2.2.1 (hin.below hbw2) i2 (by omega) (by omega);have HA:=hid hA;clear hA i2 hyn1 hx1
   go_wp2_with fail
   refine HA.out.mono ?_;rintro e w3 ⟨rfl,hp3⟩;have hb3:Below w.heap.size w w3:=HW.out.1.trans ((hbw2.mono HW.out.1.size).trans (hp3.1.below hmn (axw HW.out.1.size hbw2.size)));have in3:=(hp3.intP (by omega) (Qbt _)).noA
   -- the denominators' product,and the fraction
   let w4:=w3.alloc (.cells #[.bool false,.slice none 0 0] 230);have h34:Below w3.heap.size w3 w4:=br.alloc lr _;have hD1:=hid (Qfa x _ NoA w4 ((HW.out.2.2.2.1.below hb3).below h34) (Qbt _));clear hin hbw2 h2 HA
   go_wp2_with fail
   refine hD1.out.mono ?_;rintro e w5 ⟨vd,rfl,hb5,id5⟩;have hb45:Below w3.heap.size w3 w5:=h34.trans (hb5.mono (by simp[w4]));have hD2:=hid (Qfa y _ NoA w5 ((HW.out.2.2.2.2.below hb3).below hb45) (Qbt _))
   go_wp2_with fail
   refine hD2.out.mono ?_;rintro e w6 ⟨ve,rfl,hb6,ie6⟩;have hb36:Below w3.heap.size w3 w6:=hb45.trans (hb6.mono hb45.size);have hm6:w6.heap[w3.heap.size]?=some (.cells #[.bool false,.slice none 0 0] 230 (0,0)):=(hb6.block _ (by have:=hb5.size;simp[w4] at this;omega)).trans ((hb5.block _ (by simp[w4])).trans (heap_alloc_new w3 _));have hMu:=hid (Qgm w3.heap.size 0 _ _ x.den y.den _ _ NoA w6 hm6 (by decide) Qbi (id5.below hb6) ie6 (by have:=hlx.2;simp;omega) (by have:=hly.2;simp;omega))
   go_wp2_with fail
   refine hMu.out.mono ?_;rintro e w7 ⟨rfl,hp7⟩;have ip7:=(hp7.intP (by decide) (Qbt _)).noA;have hb37:Below w3.heap.size w3 w7:=hb36.trans (hp7.1.below lr hb36.size);have hbw7:Below w.heap.size w w7:=hb3.trans (hb37.mono hb3.size);have hS:=Qez m C _ _ (Int.mul_ne_zero Qfr Qfr) _ _ NoA w7 ((hbw7.block m hmlt).trans HM.out.1) hC4 HM.out.2 (in3.below hb37) ip7 (by omega) (by omega);rw[Qoe] at hS;have HS:=hid hS;clear hS ip7 in3 hm6 id5 ie6 hMu hD1 hD2
   go_wp2_with (go_at_call 223;refine HS.out.mono ?_;rintro e w' ⟨rfl,hp⟩)
   go_ret
   exact⟨rfl,hp.below hbw7⟩
def Qqq(m:Nat)(C:Array Value)(x y:Rat)(vx vy:Value)(A:Nat->Prop)(w:World)(hm:w.heap[m]?=some (.cells C 232 (0,0)))(hC4:C.size=4)(hC:NoW (.cells C 232 (0,0)))(hx:Qbk x vx w A)(hy:Qbk y vy w A)(k l:Nat)(hlx:RL x k)(hly:RL y l)(hkl:k+l<137438953472) :
  Calls prog 215 #[.pointer (some ⟨m,0,none⟩),vx,vy] w fun e w'=>e=.returned (.pointer (some ⟨m,0,none⟩))/\Qlm m (x-y) w w':=by
 have hx:=hx.noA;have hy:=hy.noA;obtain⟨b,rfl⟩:=hx.shape;obtain⟨b2,rfl⟩:=hy.shape;have hmlt:m<w.heap.size:=(axa.1 hm).1;obtain⟨_,eb,hxn,_⟩:=id hx;cases eb;obtain⟨_,eb,hyn,_⟩:=id hy;cases eb;have HM:=hid (And.intro hm hC);clear hm hC
 go_enter func215,Tryz.ntmps215
 go_wp2_with fail
 refine Qav [(.new zI,[]),(.lit,[]),(.lit,[]),(.lit,[]),(.lit,[]),(.val,[]),(.on 0 zI,[5])]
  (Qfj [(5,Qce y.den),(6,Koj w.heap.size (x.num*(y.den:Int)))]) kR ?_ ?_ (by simp[Qbi]) (by simp) kR
 .exact Qbh (by simp[Qce.keeps,Koj.keeps])
 .refine⟨fun f w1=>by go_simp,?_⟩
  repeat (refine⟨_,fun f w1 h1=>by go_simp;rfl,?_⟩)
  simp only[Act.put,nrA,nrB,nrC,Nat.reduceAdd];refine⟨fun f w1 A1 h1 hA hN hd K hK=>by
   go_simp
   refine(Qfa y _ A1 w1 (Qdk (Qbk.keeps _) hy h1 hN) hA).mono ?_;rintro e w' ⟨v,rfl,hb,hi⟩;exact hK _ _ hb hi,?_⟩
  simp only[Act.put,nrA,nrB,nrC,Nat.reduceAdd];refine⟨fun f w1 A1 m1 h1 hA hN hAm hm0 e hz hd K hK=>by
   simp only[e] at hK ⊢;have i1:Qce y.den (f 5) w1 A1:=hd 5 (by simp)
   go_simp
   refine(Qgm m1 0 _ _ x.num y.den _ _ A1 w1 hz (by decide) Qbi (Qdk (Qce.keeps _) hxn h1 hN) i1 (by have:=hlx.1;omega) (by have:=hly.2;simp;omega)).mono ?_;rintro e w' ⟨rfl,hp⟩;exact hK _ w' hp.1 (hp.intB hm0 hA),?_⟩
  intro f w1 h1 hF;have i1:Koj w.heap.size (x.num*(y.den:Int)) (f 6) w1 NoA:=hF.2;clear hF;simp only[Act.put,nrA,nrB,nrC];obtain⟨mn,Cn,e6,hmn,hbn,hCn,hnn,hin⟩:=i1.parts;rw[e6];generalize f 5=v5;have hbw:Below w.heap.size w w1:=br.drew.trans h1;have hx1:=hx.below hbw;have hyn1:=hyn.below hbw;have HW:=hid (And.intro hbw (And.intro hbn (And.intro hnn (And.intro hx hy))));clear hxn hyn hx hy h1 hbw hbn hnn e6 i1
  go_wp2_with fail
  refine Qav [(.lit,[]),(.lit,[]),(.new zI,[]),(.lit,[]),(.lit,[]),(.lit,[]),(.lit,[]),(.val,[]),(.on 2 zI,[7])]
   (Qfj [(7,Qce x.den),(8,Qce (y.num*(x.den:Int)))]) kR ?_ ?_ (by simp[Qbi]) (by simp) kR
  .exact Qbh (by simp[Qce.keeps])
  .refine⟨_,fun f w1 h1=>by go_simp;rfl,?_⟩;refine⟨_,fun f w1 h1=>by go_simp;rfl,?_⟩;refine⟨fun f w1=>by go_simp,?_⟩
   repeat (refine⟨_,fun f w1 h1=>by go_simp;rfl,?_⟩)
   simp only[Act.put,nrA,nrB,nrC,Nat.reduceAdd];refine⟨fun f w2 A1 h1 hA hN hd K hK=>by
    go_simp
    refine(Qfa x _ A1 w2 (Qdk (Qbk.keeps _) hx1 h1 hN) hA).mono ?_;rintro e w' ⟨v,rfl,hb,hi⟩;exact hK _ _ hb hi,?_⟩
   simp only[Act.put,nrA,nrB,nrC,Nat.reduceAdd];refine⟨fun f w2 A1 m1 h1 hA hN hAm hm0 e hz hd K hK=>by
    simp only[e] at hK ⊢;have i1:Qce x.den (f 7) w2 A1:=hd 7 (by simp)
    go_simp
    refine(Qgm m1 0 _ _ y.num x.den _ _ A1 w2 hz (by decide) Qbi (Qdk (Qce.keeps _) hyn1 h1 hN) i1 (by have:=hly.1;omega) (by have:=hlx.2;simp;omega)).mono ?_;rintro e w' ⟨rfl,hp⟩;exact hK _ w' hp.1 (hp.intP (by decide) hA),?_⟩
   intro f w2 h2 hF;have i2:Qce (y.num*(x.den:Int)) (f 8) w2 NoA:=hF.2;clear hF;simp only[Act.put,nrA,nrB,nrC];generalize f 7=v7;generalize f 8=v8 at *
   have hbw2:Below w1.heap.size w1 w2:=br.drew.trans h2;have l1:(Qac (x.num*(y.den:Int)).natAbs).length<=k+l:=by rw[axm];exact Qfu hlx.1 (by simpa using hly.2)
   have l2:(Qac (y.num*(x.den:Int)).natAbs).length<=k+l:=by rw[axm,Nat.add_comm];exact Qfu hly.1 (by simpa using hlx.2)
   have l4:(Qac ((x.num*(y.den:Int))-(y.num*(x.den:Int))).natAbs).length<=k+l+1:=Qfc (natAbs_sub_le _ _) (Kcl l1 l2);have l5:(Qac ((x.den:Int)*(y.den:Int)).natAbs).length<=k+l:=by rw[axm];exact Qfu (by simpa using hlx.2) (by simpa using hly.2)
   have hmn1:mn<w1.heap.size:=(axa.1 HW.out.2.1).1;have hA:=Ufm mn 0 Cn _ _ _ _ v8 NoA w2 ((hbw2.block mn hmn1).trans HW.out.2.1) (by omega) HW.out.2.2.1 (hin.below hbw2) i2 (by omega) (by omega);have HA:=hid hA;clear hA i2 hyn1 hx1
   go_wp2_with fail
   refine HA.out.mono ?_;rintro e w3 ⟨rfl,hp3⟩;have hb3:Below w.heap.size w w3:=HW.out.1.trans ((hbw2.mono HW.out.1.size).trans (hp3.1.below hmn (axw HW.out.1.size hbw2.size)));have in3:=(hp3.intP (by omega) (Qbt _)).noA
   -- the denominators' product,and the fraction
   let w4:=w3.alloc (.cells #[.bool false,.slice none 0 0] 230);have h34:Below w3.heap.size w3 w4:=br.alloc lr _;have hD1:=hid (Qfa x _ NoA w4 ((HW.out.2.2.2.1.below hb3).below h34) (Qbt _));clear hin hbw2 h2 HA
   go_wp2_with fail
   refine hD1.out.mono ?_;rintro e w5 ⟨vd,rfl,hb5,id5⟩;have hb45:Below w3.heap.size w3 w5:=h34.trans (hb5.mono (by simp[w4]));have hD2:=hid (Qfa y _ NoA w5 ((HW.out.2.2.2.2.below hb3).below hb45) (Qbt _))
   go_wp2_with fail
   refine hD2.out.mono ?_;rintro e w6 ⟨ve,rfl,hb6,ie6⟩;have hb36:Below w3.heap.size w3 w6:=hb45.trans (hb6.mono hb45.size);have hm6:w6.heap[w3.heap.size]?=some (.cells #[.bool false,.slice none 0 0] 230 (0,0)):=(hb6.block _ (by have:=hb5.size;simp[w4] at this;omega)).trans ((hb5.block _ (by simp[w4])).trans (heap_alloc_new w3 _));have hMu:=hid (Qgm w3.heap.size 0 _ _ x.den y.den _ _ NoA w6 hm6 (by decide) Qbi (id5.below hb6) ie6 (by have:=hlx.2;simp;omega) (by have:=hly.2;simp;omega))
   go_wp2_with fail
   refine hMu.out.mono ?_;rintro e w7 ⟨rfl,hp7⟩;have ip7:=(hp7.intP (by decide) (Qbt _)).noA;have hb37:Below w3.heap.size w3 w7:=hb36.trans (hp7.1.below lr hb36.size);have hbw7:Below w.heap.size w w7:=hb3.trans (hb37.mono hb3.size);have hS:=Qez m C _ _ (Int.mul_ne_zero Qfr Qfr) _ _ NoA w7 ((hbw7.block m hmlt).trans HM.out.1) hC4 HM.out.2 (in3.below hb37) ip7 (by omega) (by omega);rw[Kmw] at hS;have HS:=hid hS;clear hS ip7 in3 hm6 id5 ie6 hMu hD1 hD2
   go_wp2_with (go_at_call 223;refine HS.out.mono ?_;rintro e w' ⟨rfl,hp⟩)
   go_ret
   exact⟨rfl,hp.below hbw7⟩
def Kgm(m:Nat)(C:Array Value)(x:Rat)(h0:x≠0)(vx:Value)(A:Nat->Prop)(w:World)(hm:w.heap[m]?=some (.cells C 232 (0,0)))(hC4:C.size=4)(hC:NoW (.cells C 232 (0,0)))(hx:Qbk x vx w A)(k:Nat)(hlx:RL x k)(hk:k<137438953472) :
  Calls prog 191 #[.pointer (some ⟨m,0,none⟩),vx] w fun e w'=>e=.returned (.pointer (some ⟨m,0,none⟩))/\Qlm m x⁻¹ w w':=by
 have hx:=hx.noA;obtain⟨b,rfl⟩:=hx.shape;have hmlt:m<w.heap.size:=(axa.1 hm).1;obtain⟨_,eb,hxn,_⟩:=id hx;cases eb;have hn0:x.num≠0:=fun h=>h0 (Rat.num_eq_zero.1 h)
 have HM:=hid (And.intro hm hC);clear hm hC
 go_enter func191,Tryz.ntmps191
 go_wp2_with fail
 refine Qav [(.lit,[]),(.lit,[]),(.val,[]),(.lit,[]),(.lit,[]),(.lit,[])]
  (Qfj [(2,Qce x.den)]) kR ?_ ?_ (by simp) (by simp) kR
 .exact Qbh (by simp[Qce.keeps])
 .repeat (refine⟨_,fun f w1 h1=>by go_simp;rfl,?_⟩)
  simp only[Act.put,nrA,nrB,nrC,Nat.reduceAdd];refine⟨fun f w1 A1 h1 hA hN hd K hK=>by
   go_simp
   refine(Qfa x _ A1 w1 (Qdk (Qbk.keeps _) hx h1 hN) hA).mono ?_;rintro e w' ⟨v,rfl,hb,hi⟩;exact hK _ _ hb hi,?_⟩
  repeat (refine⟨_,fun f w1 h1=>by go_simp;rfl,?_⟩)
  intro f w1 h1 hF;have i1:Qce x.den (f 2) w1 NoA:=hF.2;clear hF;simp only[Act.put,nrA,nrB,nrC];generalize f 2=v2 at *
  have hbw:Below w.heap.size w w1:=br.drew.trans h1;have hS:=Qez m C _ _ hn0 _ _ NoA w1 ((h1.block m hmlt).trans HM.out.1) hC4 HM.out.2 i1 (hxn.below hbw) (by have:=hlx.2;simp;omega) (by have:=hlx.1;omega);rw[Qks] at hS;have HS:=hid hS;clear hS i1 hx hxn
  go_wp2_with (go_at_call 223;refine HS.out.mono ?_;rintro e w' ⟨rfl,hp⟩)
  go_ret
  exact⟨rfl,hp.below hbw⟩
def Kio{m:Nat}{C:Array Value}{q:Rat}{W:World}{nb:Bool}{p1 p2:Option Addr}{n1 c1 n2 c2:Nat}(hm:W.heap[m]?=some (.cells C 232 (0,0)))(hC4:C.size=4)(hC:NoW (.cells C 232 (0,0)))(hnb:nb=decide (q.num<0))(h1:WSl W (.slice p1 n1 c1) (Qac q.num.natAbs))(h2:WSl W (.slice p2 n2 c2) (Qac q.den)) :
  Qlm m q W ((((W.setCell ⟨m,0,none⟩ (.bool nb)).setCell ⟨m,1,none⟩ (.slice p1 n1 c1)).setCell ⟨m,2,none⟩ (.bool false)).setCell ⟨m,3,none⟩ (.slice p2 n2 c2)):=by
 have hmod:Mod m W ((((W.setCell ⟨m,0,none⟩ (.bool nb)).setCell ⟨m,1,none⟩ (.slice p1 n1 c1)).setCell ⟨m,2,none⟩ (.bool false)).setCell ⟨m,3,none⟩ (.slice p2 n2 c2)):=(((((Mod.refl m W).setCell 0 _).setCell 1 _).setCell 2 _).setCell 3 _)
 obtain⟨x0,x1,x2,x3,rfl⟩:∃ x0 x1 x2 x3,C=#[x0,x1,x2,x3]:=by
  obtain⟨l⟩:=C
  match l,hC4 with
  | [x0,x1,x2,x3],_=>exact⟨x0,x1,x2,x3,rfl⟩
 refine⟨hmod,.slice p1 n1 c1,.slice p2 n2 c2,?_,WSl.mod h1 hmod hm hC,WSl.mod h2 hmod hm hC⟩;rw[<-hnb];exact Qcx (i:=3) (Qcx (i:=2) (Qcx (i:=1) (Qcx (i:=0) hm)))
def Qlm.drewN{m:Nat}{q:Rat}{w w':World}(h:Qlm m q w w')(n:Nat):Qlm m q w (w'.drewN n):=⟨h.1.drewN n,h.2⟩
def Qvs{w:World}{m:Nat}{C:Array Value}{T:TypeId}(hm:w.heap[m]?=some (.cells C T (0,0)))(hC4:C.size=4):∃ x0 x1 x2 x3,w.cell? ⟨m,0,none⟩=some x0/\w.cell? ⟨m,1,none⟩=some x1/\w.cell? ⟨m,2,none⟩=some x2/\w.cell? ⟨m,3,none⟩=some x3/\w.frozen? ⟨m,0,none⟩=false/\w.frozen? ⟨m,1,none⟩=false/\w.frozen? ⟨m,2,none⟩=false/\w.frozen? ⟨m,3,none⟩=false:=by
 obtain⟨x0,x1,x2,x3,rfl⟩:∃ x0 x1 x2 x3,C=#[x0,x1,x2,x3]:=by
  obtain⟨l⟩:=C
  match l,hC4 with
  | [x0,x1,x2,x3],_=>exact⟨x0,x1,x2,x3,rfl⟩
 refine⟨x0,x1,x2,x3,?_⟩;simp[World.cell?,World.frozen?,hm]
def Kxo(m:Nat)(C:Array Value)(x:Rat)(vx:Value)(A:Nat->Prop)(w:World)(hm:w.heap[m]?=some (.cells C 232 (0,0)))(hC4:C.size=4)(hC:NoW (.cells C 232 (0,0)))(hx:Qbk x vx w A)(hlx:RL x 137438953472) :
  Calls prog 249 #[.pointer (some ⟨m,0,none⟩),vx] w fun e w'=>e=.returned (.pointer (some ⟨m,0,none⟩))/\Qlm m x w w':=by
 have hx:=hx.noA;obtain⟨b,rfl⟩:=hx.shape;have hmlt:m<w.heap.size:=(axa.1 hm).1;obtain⟨_,eb,hxn,_⟩:=id hx;cases eb;have hal:Below w.heap.size w (w.alloc (.cells #[.bool false,.slice none 0 0] 230)):=br.alloc lr _;have HS1:=hid (Qmb w.heap.size 0 _ _ x.num _ NoA _ (heap_alloc_new w (.cells #[.bool false,.slice none 0 0] 230)) (by decide) Qbi (hxn.below hal) (by have:=hlx.1;omega));have HM:=hid (And.intro hm (And.intro hC hx));have hld:(Qac (x.den:Int).natAbs).length<274877906944:=by have:=hlx.2;simp;omega
 clear hm hC hx hxn hal
 go_enter func249,Tryz.ntmps249
 go_wp2_with fail
 refine HS1.out.mono ?_;rintro e w1 ⟨rfl,hp1⟩;have hn1:Kcz x.num (.pointer (some ⟨w.heap.size,0,none⟩)) w w1:=hp1.new (by decide);have hal:Below w1.heap.size w1 (w1.alloc (.cells #[.bool false,.slice none 0 0] 230)):=br.alloc lr _;have HD:=hid (Qfa x _ NoA _ ((HM.out.2.2.below hn1.1).below hal) (Qbt _));clear hal HS1
 go_wp2_with fail
 refine HD.out.mono ?_;rintro e w2 ⟨vd,rfl,hb2,hi2⟩;have hm2:w2.heap[w1.heap.size]?=some (.cells #[.bool false,.slice none 0 0] 230 (0,0)):=(hb2.block _ (by simp)).trans (heap_alloc_new w1 _);have HS2:=hid (Qmb w1.heap.size 0 _ _ x.den vd NoA w2 hm2 (by decide) Qbi hi2 hld);clear hm2 hi2 HD
 go_wp2_with fail
 refine HS2.out.mono ?_;rintro e w3 ⟨rfl,hp3⟩;have hn3:Kcz x.den (.pointer (some ⟨w1.heap.size,0,none⟩)) w1 w3:=(hp3.below hb2).new (by decide);have hb3:Below w.heap.size w w3:=hn1.1.trans (hn3.1.mono hn1.1.size);obtain⟨p1,n1,c1,b1,e1,e2,e3⟩:=((hn1.2 NoA (Qbt _)).below hn3.1).cells;obtain⟨p2,n2,c2,b2,e4,e5,e6⟩:=(hn3.2 NoA (Qbt _)).cells;have hm3:=(hb3.block m hmlt).trans HM.out.1;have hne1:w.heap.size≠m:=by omega
 have hne2:w1.heap.size≠m:=by have:=hn1.1.size;omega
 have hd0:decide ((x.den:Int)<0)=false:=by simp
 rw[hd0] at e4;obtain⟨nb,hnb⟩:∃ nb,nb=decide (x.num<0):=⟨_,rfl⟩
 rw[<-hnb] at e1;obtain⟨x0,x1,x2,x3,f0,f1,f2,f3,g0,g1,g2,g3⟩:=Qvs hm3 hC4;have HW:=hid (And.intro hb3 (And.intro hm3 (And.intro e3 (And.intro e6 hnb))));clear hn1 hn3 hp1 hp3 hb2 hb3 hm3 e3 e6 hd0 hnb HS2
 go_wp2_with fail
 go_region
 go_wp2
 go_ret
 have h5:=Kio HW.out.2.1 hC4 HM.out.2.1 HW.out.2.2.2.2 HW.out.2.2.1 (by have:=HW.out.2.2.2.1;simpa using this);exact⟨rfl,(h5.drewN 1).below HW.out.1⟩
def Qxa(m:Nat)(C:Array Value)(x:Rat)(vx:Value)(A:Nat->Prop)(w:World)(hm:w.heap[m]?=some (.cells C 232 (0,0)))(hC4:C.size=4)(hC:NoW (.cells C 232 (0,0)))(hx:Qbk x vx w A)(hlx:RL x 137438953472) :
  Calls prog 187 #[.pointer (some ⟨m,0,none⟩),vx] w fun e w'=>e=.returned (.pointer (some ⟨m,0,none⟩))/\Qlm m (-x) w w':=by
 have HS:=hid (Kxo m C x vx A w hm hC4 hC hx hlx);obtain⟨b,rfl⟩:=hx.shape;have hmlt:m<w.heap.size:=(axa.1 hm).1;clear hm hC hx
 go_enter func187,Tryz.ntmps187
 go_wp2_with fail
 refine HS.out.mono ?_;rintro e w1 ⟨rfl,hp⟩;obtain⟨hmod,s1,s2,h2,h3,h4⟩:=id hp;obtain⟨p2,c2,rfl,_⟩:=id h4;obtain⟨p1,c1,rfl,_⟩:=id h3;have hx1:=(hp.ratP (Qbt _)).noA;obtain⟨_,eb,hxn,_⟩:=hx1;cases eb;have hnw:NoW (.cells #[.bool (decide (x.num<0)),.slice p1 (Qac x.num.natAbs).length c1,.bool false,.slice p2 (Qac x.den).length c2] 232 (0,0)):=by
  intro cs T fr e i k x;cases e;rcases i with _|_|_|_|i<;>simp
 have hmlt1:m<w1.heap.size:=(axa.1 h2).1;have HW:=hid (And.intro hmod (And.intro h2 (And.intro h4 (And.intro hnw hxn))));clear hp hmod h2 h3 h4 hnw hxn HS
 go_wp2_with fail
 refine Qav [(.lit,[]),(.lit,[]),(.lit,[]),(.lit,[]),(.lit,[]),(.lit,[])] (Qfj []) kR ?_ ?_ (by simp) (by simp) kR
 .exact Qbh (by simp)
 .repeat (refine⟨_,fun f w1 h1=>by go_simp;rfl,?_⟩)
  intro f w2 h2 _;simp only[Act.put,nrA,nrB,nrC];have hbw:Below w1.heap.size w1 w2:=br.drew.trans h2;have hN:=Kdg m 0 _ _ x.num _ NoA w2 ((hbw.block m hmlt1).trans HW.out.2.1) (by simp) HW.out.2.2.2.1 (HW.out.2.2.2.2.below hbw) (by have:=hlx.1;omega);have HN:=hid hN;clear hN
  go_wp2_with (go_at_call 250;refine HN.out.mono ?_;rintro e w' ⟨rfl,hp⟩)
  go_ret
  obtain⟨hm3,sl,h5,h6⟩:=hp;refine⟨rfl,(HW.out.1.trans (Mod.of_below hbw)).trans hm3,sl,.slice p2 (Qac x.den).length c2,?_,?_,?_⟩
  .rw[h5,Rat.neg_num];simp
  .rw[Rat.neg_num];exact h6
  .rw[Rat.neg_den];exact WSl.mod (HW.out.2.2.1.below hbw) hm3 ((hbw.block m hmlt1).trans HW.out.2.1) HW.out.2.2.2.1
def Kdh (m : Nat) (C : Array Value) (x : Int) (vx : Value) (A : Nat -> Prop) (w : World) (hm : w.heap[m]? = some (.cells C 232 (0,0))) (hC4 : C.size = 4) (hC : NoW (.cells C 232 (0,0))) (hx : Qce x vx w A) (hlx : (Qac x.natAbs).length < 274877906944) :
    Calls prog 277 #[.pointer (some ⟨m,0,none⟩),vx] w fun e w'=>e=.returned (.pointer (some ⟨m,0,none⟩))/\Qlm m (x:Rat) w w':=by
  have hx:=hx.noA;obtain⟨b,o,rfl⟩:=hx.shape;have hmlt:m<w.heap.size:=(axa.1 hm).1;have HM:=hid (And.intro hm (And.intro hC hx));obtain⟨x0,x1,x2,x3,f0,f1,f2,f3,g0,g1,g2,g3⟩:=Qvs hm hC4;obtain⟨nb,hnb⟩:∃ nb,nb=decide (x<0):=⟨_,rfl⟩
  have HNB:=hid hnb;clear hnb;clear hm hC hx
  go_enter func277,Tryz.ntmps277
  go_wp2_with fail
  have hm0:((w.alloc (.cells #[.bool false,.slice none 0 0] 230)).drew).heap[w.heap.size]?=some (.cells #[.bool false,.slice none 0 0] 230 (0,0)):=heap_alloc_new w _;have hS0:=Qmb w.heap.size 0 _ _ x _ NoA ((w.alloc (.cells #[.bool false,.slice none 0 0] 230)).drew) hm0 (by decide) Qbi (HM.out.2.2.below ((br.alloc lr _).drew)) hlx;have HS0:=hid hS0;have HN0:=hid (fun w=>Qgv 1 (by decide) (by decide) w);clear hS0 hm0
  go_region_with (first
    | (go_at_call 255
       refine HS0.out.mono ?_;rintro e w1 ⟨rfl,hp1⟩;have hn1:Kcz x (.pointer (some ⟨w.heap.size,0,none⟩)) w w1:=(hp1.below (w:=w.alloc (.cells #[.bool false,.slice none 0 0] 230)) br.drew).new (by decide);have f0:=(hn1.1.cell (p:=⟨m,0,none⟩) hmlt).trans f0;have f1:=(hn1.1.cell (p:=⟨m,1,none⟩) hmlt).trans f1;have f2:=(hn1.1.cell (p:=⟨m,2,none⟩) hmlt).trans f2;have f3:=(hn1.1.cell (p:=⟨m,3,none⟩) hmlt).trans f3;have g0:=(hn1.1.frozen (p:=⟨m,0,none⟩) hmlt).trans g0;have g1:=(hn1.1.frozen (p:=⟨m,1,none⟩) hmlt).trans g1;have g2:=(hn1.1.frozen (p:=⟨m,2,none⟩) hmlt).trans g2;have g3:=(hn1.1.frozen (p:=⟨m,3,none⟩) hmlt).trans g3;obtain⟨p1,n1,c1,b1,e1,e2,e3⟩:=(hn1.2 NoA (Qbt _)).cells;rw[<-HNB.out] at e1;have H1:=hid (And.intro hn1 e3);clear hn1 hp1 e3)
    | (go_at_call 247
       refine(HN0.out _).mono ?_;rintro e w2 ⟨v2,rfl,hn2⟩;have hmlt1:m<w1.heap.size:=axc hmlt H1.out.1.1.size;have f0:=(hn2.1.cell (p:=⟨m,0,none⟩) hmlt1).trans f0;have f1:=(hn2.1.cell (p:=⟨m,1,none⟩) hmlt1).trans f1;have f2:=(hn2.1.cell (p:=⟨m,2,none⟩) hmlt1).trans f2;have f3:=(hn2.1.cell (p:=⟨m,3,none⟩) hmlt1).trans f3;have g0:=(hn2.1.frozen (p:=⟨m,0,none⟩) hmlt1).trans g0;have g1:=(hn2.1.frozen (p:=⟨m,1,none⟩) hmlt1).trans g1;have g2:=(hn2.1.frozen (p:=⟨m,2,none⟩) hmlt1).trans g2;have g3:=(hn2.1.frozen (p:=⟨m,3,none⟩) hmlt1).trans g3;have e1:=(hn2.1.cell (p:=⟨w.heap.size,0,none⟩) b1).trans e1;have e2:=(hn2.1.cell (p:=⟨w.heap.size,1,none⟩) b1).trans e2;obtain⟨b3,o3,rfl⟩:=(hn2.2 NoA (Qbt _)).shape;obtain⟨p2,n2,c2,b2,e4,e5,e6⟩:=(hn2.2 NoA (Qbt _)).cells;rw[show decide ((1:Int)<0)=false from rfl] at e4;have H2:=hid (And.intro hn2 e6);clear hn2 e6))
  all_goals
    go_wp2
    go_ret
    have hbw:Below w.heap.size w w2:=H1.out.1.1.trans (H2.out.1.1.mono H1.out.1.1.size);have h5:=Kio (nb:=nb) (q:=(x:Rat)) ((hbw.block m hmlt).trans HM.out.1) hC4 HM.out.2.1 (by rw[Rat.num_intCast];exact HNB.out) (by rw[Rat.num_intCast];exact H1.out.2.below H2.out.1.1) (by rw[Rat.den_intCast];exact H2.out.2);exact⟨rfl,h5.below hbw⟩
def Qxb(m:Nat)(C:Array Value)(n:Int)(h0:-9223372036854775808<=n)(h1:n<9223372036854775808)(w:World)(hm:w.heap[m]?=some (.cells C 232 (0,0)))(hC4:C.size=4)(hC:NoW (.cells C 232 (0,0))) :
  Calls prog 246 #[.pointer (some ⟨m,0,none⟩),.int .i64 n] w fun e w'=>e=.returned (.pointer (some ⟨m,0,none⟩))/\Qlm m (n:Rat) w w':=by
 have hmlt:m<w.heap.size:=(axa.1 hm).1;have HN:=hid (Qgv n h0 h1 w);have HM:=hid (And.intro hm hC);have hln:(Qac n.natAbs).length<274877906944:=axd (Qal (k:=2) (by omega)) (by decide);clear hm hC
 go_enter func246,Tryz.ntmps246
 go_wp2_with fail
 refine HN.out.mono ?_;rintro e w1 ⟨v,rfl,hn⟩;have HS:=hid (Kdh m C n v NoA w1 ((hn.1.block m hmlt).trans HM.out.1) hC4 HM.out.2 (hn.2 NoA (Qbt _)) hln)
 go_wp2_with (go_at_call 277;refine HS.out.mono ?_;rintro e w' ⟨rfl,hp⟩)
 go_ret
 exact⟨rfl,hp.below hn.1⟩
def Ufj(q:Rat)(v:Value)(w w':World):Prop:=Below w.heap.size w w'/\∀ A,Rcv A w->Qbk q v w' A
def Qbk.wider{q:Rat}{v:Value}{w:World}{A A':Nat->Prop}(h:Qbk q v w A)(hA:∀ b,A' b->A b):Qbk q v w A' :=
 Qbk.keeps q v w w A A' lr (fun b _ hna=>⟨rfl,fun h=>hna (hA b h)⟩) h
def Qlm.new{q:Rat}{w w':World}{ob:Obj}(h:Qlm w.heap.size q (w.alloc ob) w'):Ufj q (.pointer (some ⟨w.heap.size,0,none⟩)) w w':=by
 refine⟨Qgh h.1,fun A hA=>?_⟩;have hA':Rcv A (w.alloc ob):=hA.below (br.alloc lr _);exact(h.ratP hA').wider fun b hb=>⟨hb,fun e=>by have:=hA.lt hb;omega⟩
def Ufj.of_below{q:Rat}{v:Value}{w w1 w':World}(h:Ufj q v w1 w')(hb:Below w.heap.size w w1):Ufj q v w w':=⟨hb.trans (h.1.mono hb.size),fun A hA=>h.2 A (hA.below hb)⟩
abbrev zR:Obj:=.cells #[.bool false,.slice none 0 0,.bool false,.slice none 0 0] 232 (0,0)
def Qdu(z:Int):Value:=.agg #[.bool (decide (z<0)),.string (Qcg z.natAbs)]
def Qew(q:Rat):Value:=.agg #[.bool (decide (q.num<0)),.string (Qcg q.num.natAbs),.bool false,.string (Qcg q.den)]
def Qka(neg:Bool)(s:ByteArray):Prop:=(s.size=0->neg=false)/\Qrp s
def Qki{s:ByteArray}(h:Qrp s):Qjp s=0↔s.size=0:=by
 rw[<-Qtj h,Qdy,Qfk];constructor
 .intro h0;rw[h0,Qdb];rfl
 .intro h0;have:=List.eq_nil_of_length_eq_zero h0;rcases axh (Qjp s) with h1|h1
  .exact h1
  .rw[Qdx (by omega)] at this;cases this
def Qka.enc{neg:Bool}{s:ByteArray}(h:Qka neg s):Value.agg #[.bool neg,.string s]=Qdu (sgn neg (Qjp s)):=by
 unfold Qdu;rw[Qdi,Qtj h.2,Qkm];have:(neg&&decide (Qjp s≠0))=neg:=by
  cases hn:neg
  .rfl
  .have:s.size≠0:=fun h0=>by have:=h.1 h0;rw[hn] at this;cases this
   have h2:Qjp s≠0:=fun h0=>this ((Qki h.2).1 h0)
   simp[h2]
 rw[this]
def Kdm(w:World)(e:TypeId)(s:ByteArray):Below w.heap.size w (Lib.bytesWorld w e s):=by
 refine⟨?_,?_,?_,?_,fun k hk=>Lib.bytesWorld_at_old w e s k hk⟩
 .simp[Lib.bytesWorld,World.freeze,World.alloc,World.drew,-World.alloc_eq,-World.drew_eq]
 .simp[Lib.bytesWorld,World.freeze,World.alloc,World.drew,-World.alloc_eq,-World.drew_eq]
 .simp[Lib.bytesWorld,World.freeze,World.alloc,World.drew,-World.alloc_eq,-World.drew_eq]
 .rw[Lib.bytesWorld_size];omega
def Kow(w:World)(s:ByteArray):BSl (Lib.bytesWorld w 5 s) (.slice (some ⟨w.heap.size,0,none⟩) s.size (grownCap w s.size 0 5)) s:=by
 refine⟨w.heap.size,0,_,rfl,by rw[Lib.bytesWorld_size];omega,fun i hi=>?_⟩;rw[Nat.zero_add,Lib.bytesWorld_cell w _ s i hi];simp[List.getD,hi];rfl
def Put.newAt{m o:Nat}{C:Array Value}{T:TypeId}{z:Int}{w w1 w':World}(h:Put m o C T z w1 w')(ho:o+1<C.size)(hb:Below w.heap.size w w1)(hm:w.heap.size<=m):Kcz z (.pointer (some ⟨m,o,none⟩)) w w':=by
 refine⟨hb.trans (h.1.below hm hb.size),fun A hA=>?_⟩;exact(h.intP ho (hA.below hb)).wider fun b hb'=>⟨hb',fun e=>by have:=hA.lt hb';omega⟩
def Qlm.newAt{m:Nat}{q:Rat}{w w1 w':World}(h:Qlm m q w1 w')(hb:Below w.heap.size w w1)(hm:w.heap.size<=m):Ufj q (.pointer (some ⟨m,0,none⟩)) w w':=by
 refine⟨hb.trans (h.1.below hm hb.size),fun A hA=>?_⟩;exact(h.ratP (hA.below hb)).wider fun b hb'=>⟨hb',fun e=>by have:=hA.lt hb';omega⟩
def Qvk(neg:Bool)(s:ByteArray)(hs:s.size<274877906944)(w:World) :
  Calls prog 222 #[.agg #[.bool neg,.string s]] w fun e w'=>∃ v,e=.returned v/\Kcz (sgn neg (Qjp s)) v w w':=by
 have kc:=fun w=>Lib.run_convert_string_bytes (P:=prog) w 9 257 5 s Tryz.underlying9 Tryz.underlying257 Tryz.underlying5
 have hlen:(Qac (Qjp s)).length<274877906944:=axd (Qal (k:=s.size) (axc (Kef s) (Nat.pow_le_pow_left (by decide) _))) hs;have HL:=hid hlen;clear hlen
 go_enter func222,Tryz.ntmps222
 go_wp2_with fail
 clear kc;obtain⟨W,hW⟩:∃ W,W=(w.alloc (.cells #[.bool neg,.string s] 24)).alloc (.cells #[.bool false,.slice none 0 0] 230):=⟨_,rfl⟩
 have hBW:Below w.heap.size w W:=by rw[hW];exact(br.alloc lr _).alloc (by simp) _
 have hsz:w.heap.size+1+1=W.heap.size:=by rw[hW];simp
 have hm:W.heap[w.heap.size+1]?=some (.cells #[.bool false,.slice none 0 0] 230 (0,0)):=by
  rw[hW];have:=heap_alloc_new (w.alloc (.cells #[.bool neg,.string s] 24)) (.cells #[.bool false,.slice none 0 0] 230);simpa using this
 have hc:W.cell? ⟨w.heap.size,0,none⟩=some (.bool neg):=by
  rw[hW];simp[go_sem]
 rw[<-hW,hsz];have hb1:=Kdm W 5 s;have hb2:Below w.heap.size w (Lib.bytesWorld W 5 s):=hBW.trans (hb1.mono hBW.size);have hm2:=(hb1.block _ (by omega)).trans hm;have hc2:=(hb1.cell (p:=⟨w.heap.size,0,none⟩) (by show w.heap.size<_;omega)).trans hc;have HS:=hid (Kbx (w.heap.size+1) 0 _ _ s _ rfl _ _ hm2 (by decide) Qbi (Kow W s) hs);have HB:=hid hb2;have hlt:w.heap.size<(Lib.bytesWorld W 5 s).heap.size:=by rw[Lib.bytesWorld_size];omega
 clear hW hBW hm hc hb1 hm2 hb2 hsz;refine HS.out.mono ?_;rintro e w1 ⟨rfl,hp⟩;have hc1:=(World.cell?_of_block (w:=Lib.bytesWorld W 5 s) (a:=⟨w.heap.size,0,none⟩) (hp.1.block w.heap.size hlt (by omega))).trans hc2;clear HS hc2;cases neg
 .go_wp2
  go_ret
  exact⟨_,rfl,hp.newAt (by decide) HB.out (by omega)⟩
 .obtain⟨C1,hm3,hs3,hn3⟩:=Kip hp;have hin:=(hp.intP (by decide) (Qbt _)).noA;have HN:=hid (Kdg (w.heap.size+1) 0 C1 _ _ _ NoA w1 hm3 (by rw[hs3];decide) (hn3 Qbi) hin (by simpa using HL.out));have HP:=hid hp;have H3:=hid hs3;clear hm3 hin hn3 hp hs3
  go_wp2_with fail
  refine HN.out.mono ?_;rintro e w2 ⟨rfl,hp2⟩
  go_wp2_with fail
  go_ret
  refine⟨_,rfl,hp2.newAt (by rw[H3.out];decide) (HB.out.trans (HP.out.1.below (by omega) (by omega))) (by omega)⟩
def Qce.avoid{z:Int}{b o:Nat}{w:World}{A:Nat->Prop}(h:Qce z (.pointer (some ⟨b,o,none⟩)) w NoA)(hA:Rcv A w)(hb:¬A b):Qce z (.pointer (some ⟨b,o,none⟩)) w A:=by
 obtain⟨b',o',sl,e,h1,_,h3,h4,h5⟩:=h;cases e;exact⟨b,o,sl,rfl,h1,hb,h3,h4,h5.wsl.avoids hA⟩
def Qbk.avoid{q:Rat}{m:Nat}{w:World}{A:Nat->Prop}(h:Qbk q (.pointer (some ⟨m,0,none⟩)) w NoA)(hA:Rcv A w)(hm:¬A m):Qbk q (.pointer (some ⟨m,0,none⟩)) w A:=by
 obtain⟨b,e,h1,h2⟩:=h;cases e;exact⟨m,rfl,h1.avoid hA hm,h2.imp (fun h=>h.avoid hA hm) (fun h=>⟨h.1,h.2.avoid hA hm⟩)⟩
def Uml(base:Nat)(q:Rat):Qcq:=fun v w A=>∃ m,v=.pointer (some ⟨m,0,none⟩)/\base<=m/\Qbk q v w A
def Uml.keeps(base:Nat)(q:Rat):(Uml base q).Keeps:=by
 intro v w w' A A' hs hk ⟨m,h1,h2,h3⟩;exact⟨m,h1,h2,Qbk.keeps q v w w' A A' hs hk h3⟩
def Uml.new{q:Rat}{v:Value}{w w':World}{base:Nat}(h:Uml base q v w' NoA)(hb:Below w.heap.size w w')(hw:w.heap.size<=base):Ufj q v w w':=by
 obtain⟨m,rfl,h2,h3⟩:=h;exact⟨hb,fun A hA=>h3.avoid (hA.below hb) (fun hm=>by have:=hA.lt hm;omega)⟩
end Go.Proofs.YtmimficdpfmfgaaGreat
namespace Tr
def Kfc{s:ByteArray}{l:List Nat}(hl:l.length=(s.size+3)/4)(ol:WOk l)(hv:wv l=Qjp s)(hn:Qrp s):l=Qac (Qjp s):=by
 rcases axh s.size with h0|h0
 .have h1:l=[]:=List.eq_nil_of_length_eq_zero (by omega);subst h1;rw[<-hv,Kjp,Qay]
 .have hge:256^(s.size-1)<=Qjp s:=by
   rcases Nat.lt_or_ge (Qjp s) (256^(s.size-1)) with h|h
   .have h1:=Qio h;have h2:(Qds (Qjp s)).length=s.size:=by rw[<-Qfk,Qtj hn]
    omega
   .exact h
  have hgt:(s.size-1)/4<(Qac (Qjp s)).length:=by
   refine Qtt (axw ?_ hge);rw[show(4294967296:Nat)=256^4 by decide,<-Nat.pow_mul];exact axg (by decide) (by omega)
  have h3:=Qww ol;rw[hv,axe (by omega)] at h3;exact h3.symm
end Tr
namespace Go.Proofs.YtmimficdpfmfgaaGreat
open Go.RowKit Tr Proofs.Tryz
def Kmx(s:ByteArray)(n:Nat)(hn:s.size=n)(w:World)(hs:n<274877906944) :
  Calls prog 236 #[.string s] w fun e w'=>∃ v l,e=.returned v/\WSl w' v l/\WOk l/\wv l=Qjp s/\l.length=(n+3)/4/\Below w.heap.size w w':=by
 have HL:=hid (Qkt s);have HN:=hid hn;obtain⟨M,hM⟩:∃ M,(n+3)/4=M:=⟨_,rfl⟩
 have e1:((n:Int)+3)/4=(M:Int):=by omega
 have hmk:=Qgr M (by omega);have HMM:=hid hM;have hlen:(s.size:Int)=(n:Int):=by omega
 clear hM hn
 go_enter func236,Tryz.ntmps236
 go_wp2_with fail
 rw[e1]
 go_loopw [4,5] (fun i _ wr=>∃(k:Nat) (cur:List Nat),k<=n/\i=.int .i64 k/\Hid (cur.length=M)/\WOk cur/\Hid (wv cur=bv ((leS s).take k))/\Blk wr w.heap.size cur/\Below w.heap.size w wr) (fun i _ _=>n-(intOf i).toNat)
 case atStart=>exact⟨0,List.replicate M 0,Nat.zero_le _,rfl,hid (by simp),Qbn _,hid (by rw[Qel];simp[bv]),Blk.new _ _,br.alloc lr _⟩
 case round =>
  obtain⟨k,cur,hk,rfl,hlc,oc,hinv,hblk,hB⟩:=hrel
  by_cases hlt:k<n
  .obtain⟨kq,hkq⟩:∃ kq,kq=k/4:=⟨_,rfl⟩
   obtain⟨kr,hkr⟩:∃ kr,kr=k%4:=⟨_,rfl⟩
   have hkr4:kr<4:=by omega
   have hkM:kq<M:=by have:=HMM.out;omega
   have c0:=hblk.cell (i:=kq) (by have:=hlc.out;omega);have f0:=hblk.frozen kq;obtain⟨kj,hkj⟩:∃ kj,kj=n-1-k:=⟨_,rfl⟩
   have hj:kj<s.size:=by have:=HN.out;omega
   obtain⟨x,hxe⟩:∃ x,x=s[kj].toNat:=⟨_,rfl⟩
   have hx:Hid ((leS s)[k]?=some x):=hid (by have:=Kec s k (by have:=HN.out;omega);simp only[HN.out,<-hkj] at this;rw[this,hxe]);have hx256:x<256:=by rw[hxe];exact UInt8.toNat_lt _
   have hix:∀ w,(Instr.index 9 (.string s) (.int .i64 (kj:Int))).run prog w=.ok (.int .u8 (x:Int)) w:=fun w=>by
    rw[run_index_string w 9 s .i64 kj Tryz.underlying9,dif_pos ⟨by omega,by omega⟩,hxe];simp
   clear hxe;have hbv:=Ufr (Kgt (Qxe s) k);obtain⟨hd1,hd2⟩:=Kca (x:=x) (i:=k) (by have:=hlc.out;omega) hinv.out (by rw[List.length_take] at hbv;have:=HL.out;have:=HN.out;rwa[Nat.min_eq_left (by omega)] at hbv);rw[<-hkq,<-hkr] at hd1 hd2;obtain⟨y,hy⟩:∃ y,y=wat cur kq:=⟨_,rfl⟩
   rw[show cur[kq]?.getD 0=y from hy.symm] at c0;rw[<-hy] at hd1 hd2;have q1:(k:Int).tdiv 4=(kq:Int):=by rw[Int.tdiv_eq_ediv_of_nonneg (by omega)];omega
   have q2:(k:Int).tmod 4=(kr:Int):=by rw[Int.tmod_eq_emod_of_nonneg (by omega)];omega
   have q1':(k:Int)/4=(kq:Int):=by omega
   have q2':(k:Int)%4=(kr:Int):=by omega
   have q3:(n:Int)-1-(k:Int)=(kj:Int):=by omega
   have q5:(kj:Int)<(n:Int):=by omega
   have q6:(kq:Int)<(M:Int):=by omega
   obtain⟨ks,hks⟩:∃ ks,ks=kr*8:=⟨_,rfl⟩
   have q7:(kr:Int)*8=(ks:Int):=by omega
   have q8:(8:Int)*(kr:Int)=(ks:Int):=by omega
   have q9:ks<32:=by omega
   have w1:IntKind.i64.wrap (kq:Int)=(kq:Int):=IntWalk.i64_in _ (by omega);have w2:IntKind.i64.wrap (kr:Int)=(kr:Int):=IntWalk.i64_in _ (by omega);have w3:IntKind.i64.wrap (ks:Int)=(ks:Int):=IntWalk.i64_in _ (by omega);have w4:IntKind.u32.wrap (x:Int)=(x:Int):=by rw[IntKind.wrap_u32];omega
   have ep:2^ks=256^kr:=by rw[hks,Nat.mul_comm,Nat.pow_mul]
   obtain⟨z,hz⟩:∃ z,z=y+x*2^ks:=⟨_,rfl⟩
   have hpk:2^ks<=2^24:=axg (by decide) (by omega);have hxk:x*2^ks<=255*2^24:=axr (by omega) hpk;obtain⟨u,hu⟩:∃ u,u=x*2^ks:=⟨_,rfl⟩
   have w5:IntKind.u32.wrap ((x:Int)*2^ks)=(u:Int):=by
    rw[show(x:Int)*2^ks=(u:Int) by rw[hu];simp,IntKind.wrap_u32];omega
   have w6:(y:Int)+(u:Int)=(z:Int):=by omega
   have hz32:z<4294967296:=by rw[hz];rw[<-ep] at hd1;omega
   have hd2:wv (cur.set kq z)=bv ((leS s).take k)+256^k*x:=by rw[hz,ep];exact hd2
   have hbv2:=Qpm (l:=leS s) (i:=k) (by have:=HL.out;have:=HN.out;omega);have hxg:(leS s)[k]'(by have:=HL.out;have:=HN.out;omega)=x:=by
    have h5:=hx.out;rw[axi (by have:=HL.out;have:=HN.out;omega)] at h5;simpa using h5
   rw[hxg,<-hd2] at hbv2;have HV:=hid hbv2.symm;have HKS:=hid hks;clear hks;have HK:=hid (And.intro hkq hkr);clear hd1 hd2 hbv hy hj hkq hkr hkj hz ep hpk hxk hbv2 hxg hu
   go_wp2_with fail
   refine Qgi 18 kR kR ?_;simp only[List.take_succ_cons,List.take_zero,List.drop_succ_cons,List.drop_zero]
   repeat still_step
   refine wpStill_nil ?_
   go_wp2_with fail
   go_roundw
   case rel=>exact⟨k+1,cur.set kq z,by omega,by go_num,hid (by have:=hlc.out;simpa using this),Qcv oc _ _ hz32,HV,hblk.set _ _,hB.drew.setCell (p:=⟨w.heap.size,kq,none⟩) lr _⟩
   case measure=>simp[intOf];omega
  .obtain rfl:n=k:=by omega
   have hfin:wv cur=Qjp s:=by rw[hinv.out,axe (by have:=HL.out;have:=HN.out;omega)];rfl
   have HF:=hid hfin;have hW:WSl wr (.slice (some ⟨w.heap.size,0,none⟩) M M) cur:=⟨_,M,by rw[hlc.out],by rw[hlc.out];exact Nat.le_refl _,hblk.row⟩
   clear hfin
   go_wp2
   go_ret
   exact⟨_,cur,rfl,hW,oc,HF.out,by rw[hlc.out,HMM.out],hB⟩
def Qwn(n:Nat)(hs:(Qcg n).size<274877906944)(w:World) :
  Calls prog 236 #[.string (Qcg n)] w fun e w'=>∃ v,e=.returned v/\WSl w' v (Qac n)/\Below w.heap.size w w':=by
 refine(Kmx (Qcg n) _ rfl w hs).mono ?_;rintro e w' ⟨v,l,rfl,hv,ol,hw,hl,hb⟩;have:=Kfc hl ol hw (Qge n);rw[Qdy] at this;rw[this] at hv;exact⟨v,rfl,hv,hb⟩
def Qib(w:World)(v:Value)(s:ByteArray)(h:BSl w v s):(convert 257 9 v).run prog w=.ok (.string s) w:=by
 obtain⟨b,off,cap,rfl,_,hb⟩:=h;exact Lib.run_convert_whole w 257 5 9 Tryz.underlying257 Tryz.underlying5 Tryz.underlying9 b off s hb cap
def Ksy(z:Int):decide (z.sign<0)=decide (z<0):=by
 rcases Int.lt_trichotomy z 0 with h|h|h
 .rw[axo h];simp[h]
 .subst h;rfl
 .rw[axn h];have:¬z<0:=by omega
  simp[this]
def Qij(w:World)(x y:Value)(T:TypeId){w1:World}(h:Below (w.alloc (.cells #[x,y] T)).heap.size (w.alloc (.cells #[x,y] T)) w1):w1.cell? ⟨w.heap.size,0,none⟩=some x/\w1.cell? ⟨w.heap.size,1,none⟩=some y/\w1.frozen? ⟨w.heap.size,0,none⟩=false/\w1.frozen? ⟨w.heap.size,1,none⟩=false:=by
 have e:=(h.block w.heap.size (by simp)).trans (heap_alloc_new w _);simp[World.cell?,World.frozen?,e]
def Kgq(z:Int)(vx:Value)(A:Nat->Prop)(w:World)(hx:Qce z vx w A)(hn:(Qac z.natAbs).length<274877906944) :
  Calls prog 267 #[vx] w fun e w'=>e=.returned (Qdu z)/\Below w.heap.size w w':=by
 have hal:Below w.heap.size w (w.alloc (.cells #[.bool false,.string ⟨#[]⟩] 24)):=br.alloc lr _;obtain⟨sg,hsg⟩:∃ sg,sg=z.sign:=⟨_,rfl⟩
 have HS:=hid (Qxc z vx A _ (hx.below hal));have HB:=hid (Qro z vx A _ (hx.below hal) hn);rw[<-hsg] at HS;have HG:Hid (decide (sg<0)=decide (z<0)):=hid (by rw[hsg,Ksy]);clear hsg hx hal
 go_enter func267,Tryz.ntmps267
 go_wp2_with fail
 refine HS.out.mono ?_;rintro e w0 ⟨rfl,rfl⟩
 go_wp2_with fail
 refine HB.out.mono ?_;rintro e w1 ⟨v,rfl,hv,hb⟩;obtain⟨e0,e1,f0,f1⟩:=Qij w _ _ _ hb;have hr:=Qib w1 v _ hv;have hbw:Below w.heap.size w w1:=(br.alloc lr _).trans (hb.mono (by simp));obtain⟨st,hst⟩:∃ st,st=Qcg z.natAbs:=⟨_,rfl⟩
 rw[<-hst] at hr;have HST:=hid hst;clear hb hv hst HS HB
 go_wp2_with fail
 refine bodyPost_ret (v:=.agg #[.bool (decide (sg<0)),.string st]) (by simp[results,Tryz.results267,go_sem,e0,e1]) rfl ⟨?_,?_⟩
 .rw[HG.out,HST.out];rfl
 .exact((hbw.setCell (p:=⟨w.heap.size,0,none⟩) lr _).setCell (p:=⟨w.heap.size,1,none⟩) lr _)
def Qkw(w:World)(x y z u:Value)(T:TypeId){w1:World}(h:Below (w.alloc (.cells #[x,y,z,u] T)).heap.size (w.alloc (.cells #[x,y,z,u] T)) w1):w1.cell? ⟨w.heap.size,0,none⟩=some x/\w1.cell? ⟨w.heap.size,1,none⟩=some y/\w1.cell? ⟨w.heap.size,2,none⟩=some z/\w1.cell? ⟨w.heap.size,3,none⟩=some u/\w1.frozen? ⟨w.heap.size,0,none⟩=false/\w1.frozen? ⟨w.heap.size,1,none⟩=false/\w1.frozen? ⟨w.heap.size,2,none⟩=false/\w1.frozen? ⟨w.heap.size,3,none⟩=false:=by
 have e:=(h.block w.heap.size (by simp)).trans (heap_alloc_new w _);simp[World.cell?,World.frozen?,e]
def Ubm(q:Rat)(vx:Value)(A:Nat->Prop)(w:World)(hx:Qbk q vx w A)(hl:RL q 137438953472) :
  Calls prog 230 #[vx] w fun e w'=>e=.returned (Qew q)/\Below w.heap.size w w':=by
 have hal:Below w.heap.size w (w.alloc (.cells #[.bool false,.string ⟨#[]⟩,.bool false,.string ⟨#[]⟩] 26)):=br.alloc lr _;have HX:=hid (hx.below hal);have HN:=hid (Qwz q vx A _ HX.out hl);have hln:(Qac q.num.natAbs).length<274877906944:=by have:=hl.1;omega
 have hld:(Qac (q.den:Int).natAbs).length<274877906944:=by have:=hl.2;simp;omega
 clear hx hal
 go_enter func230,Tryz.ntmps230
 go_wp2_with fail
 refine HN.out.mono ?_;rintro e w1 ⟨v1,rfl,hn1⟩;have HK:=hid (Kgq q.num v1 NoA w1 (hn1.2 NoA (Qbt _)) hln)
 go_wp2_with fail
 refine HK.out.mono ?_;rintro e w2 ⟨rfl,hb2⟩;have HD:=hid (Qmj q vx A w2 ((HX.out.below hn1.1).below hb2) hl)
 go_wp2_with fail
 refine HD.out.mono ?_;rintro e w3 ⟨v3,rfl,hn3⟩;have HK2:=hid (Kgq q.den v3 NoA w3 (hn3.2 NoA (Qbt _)) hld)
 go_wp2_with fail
 refine HK2.out.mono ?_;rintro e w4 ⟨rfl,hb4⟩;have hb13:=hn1.1.trans ((hb2.trans ((hn3.1.trans (hb4.mono hn3.1.size)).mono hb2.size)).mono hn1.1.size);obtain⟨e0,e1,e2,e3,f0,f1,f2,f3⟩:=Qkw w _ _ _ _ _ hb13;have hbw:Below w.heap.size w w4:=(br.alloc lr _).trans (hb13.mono (by simp));obtain⟨b1,hb1⟩:∃ b1,b1=decide (q.num<0):=⟨_,rfl⟩
 obtain⟨b2,hb2'⟩:∃ b2,b2=decide ((q.den:Int)<0):=⟨_,rfl⟩
 obtain⟨s1,hs1⟩:∃ s1,s1=Qcg q.num.natAbs:=⟨_,rfl⟩
 obtain⟨s2,hs2⟩:∃ s2,s2=Qcg (q.den:Int).natAbs:=⟨_,rfl⟩
 have ez1:Qdu q.num=.agg #[.bool b1,.string s1]:=by rw[hb1,hs1];rfl
 have ez2:Qdu (q.den:Int)=.agg #[.bool b2,.string s2]:=by rw[hb2',hs2];rfl
 have HE:=hid (show Qew q=.agg #[.bool b1,.string s1,.bool b2,.string s2] by unfold Qew;rw[hb1,hb2',hs1,hs2];simp);rw[ez1,ez2];clear hn1 hb2 hn3 hb4 hb13 hb1 hb2' hs1 hs2 ez1 ez2 HK HK2 HD HN
 go_wp2_with fail
 refine bodyPost_ret (v:=.agg #[.bool b1,.string s1,.bool b2,.string s2]) (by simp[results,Tryz.results230,go_sem,e0,e1,e2,e3]) rfl ⟨?_,?_⟩
 .rw[HE.out]
 .exact((((hbw.setCell (p:=⟨w.heap.size,0,none⟩) lr _).setCell (p:=⟨w.heap.size,1,none⟩) lr _).setCell (p:=⟨w.heap.size,2,none⟩) lr _).setCell (p:=⟨w.heap.size,3,none⟩) lr _)
end Go.Proofs.YtmimficdpfmfgaaGreat
namespace Tr
def Ufs{a j:Nat}(h:a<256^(j+1))(h0:a/256^j%256≠0):(Qds a).length=j+1:=by
 refine Qmo h (.inr ?_);simp only[Nat.add_sub_cancel];rcases Nat.lt_or_ge a (256^j) with h1|h1
 .rw[Nat.div_eq_of_lt h1] at h0;simp at h0
 .exact h1
def Umt{a j:Nat}(h:a<256^(j+1))(h0:a/256^j%256=0):a<256^j:=by
 have hp:0<256^j:=Nat.pow_pos (by decide);have h1:a/256^j<256:=by rw[Nat.div_lt_iff_lt_mul hp,Nat.mul_comm,<-Nat.pow_succ];exact h
 rw[Nat.mod_eq_of_lt h1] at h0;rcases Nat.lt_or_ge a (256^j) with h2|h2
 .exact h2
 .have:=Nat.div_pos h2 hp;omega
end Tr
namespace Go.Proofs.YtmimficdpfmfgaaGreat
open Go.RowKit Tr Proofs.Tryz
def Kyq(neg:Bool)(a:Nat)(h:a≠0):Qdu (sgn neg a)=.agg #[.bool neg,.string (Qcg a)]:=by
 unfold Qdu;rw[Qdi,Qkm];simp[h]
def Qrx:Qdu 0=.agg #[.bool false,.string ⟨#[]⟩]:=by
 unfold Qdu;have:Qcg (0:Int).natAbs=⟨#[]⟩:=by unfold Qcg;simp[Qdb]
 rw[this];rfl
def Kta(neg:Bool)(l:List Nat)(v:Value)(a:Nat)(ha:wv l=a)(ha0:a≠0)(w:World)(ol:WOk l)(hl:WSl w v l)(hm:l.length<274877906944) :
  Calls prog 220 #[.bool neg,v] w fun e w'=>e=.returned (.agg #[.bool neg,.string (Qcg a)])/\Below w.heap.size w w':=by
 have hcut:=fun(w1:World) (hb:Below w.heap.size w w1)=>Qfm l v w1 ol (hl.below hb) (by omega)
 rw[ha] at hcut;have hlen:(Qac a).length<274877906944:=by rw[<-ha];exact axd (Qal (Qgu ol)) hm
 have HC:=hid hcut;have HA:=hid ha0;obtain⟨m,hmw⟩:∃ m,(Qac a).length=m:=⟨_,rfl⟩
 have hm0:0<m:=by
  rw[<-hmw];exact List.length_pos_iff.2 (fun h=>ha0 (Qbz.1 h))
 rw[hmw] at hlen;have HM:=hid hmw;have e0:((m:Int)==0)=false:=by simp;omega
 clear hcut ha ha0 hl hm ol hmw
 go_enter func220,Tryz.ntmps220
 go_wp2_with fail
 refine(HC.out _ (br.alloc lr _)).mono ?_;rintro e w1 ⟨v1,rfl,hv1,rfl⟩;obtain⟨p1,c1,rfl,hc1,hr1⟩:=hv1;rw[HM.out];obtain⟨bb,ob,rfl,hbb,hcell⟩:=hr1 (by intro h;have:=HM.out;rw[h] at this;simp at this;omega);have HR:=hid hcell;obtain⟨wo,hwo⟩:∃ wo,wo=w.alloc (.cells #[.bool false,.string ⟨#[]⟩] 24):=⟨_,rfl⟩
 have hz4:wo.heap[w.heap.size]?=some (.cells #[.bool false,.string ⟨#[]⟩] 24 (0,0)):=by rw[hwo];exact heap_alloc_new w _
 have hB0:Below w.heap.size w wo:=by rw[hwo];exact br.alloc lr _
 have hlt0:w.heap.size<wo.heap.size:=(axa.1 hz4).1;rw[<-hwo] at HR hbb ⊢;clear hr1 hcell hwo
 go_wp2_with fail
 go_loop [5] (fun n=>∃ k:Nat,n=.int .i64 k/\k<=4*m/\Hid (a<256^k)) (fun n=>(intOf n).toNat)
 case atStart =>
  refine⟨4*m,by go_num,Nat.le_refl _,hid ?_⟩;have:=Qbr a;rw[HM.out] at this;rw[show(256:Nat)^(4*m)=4294967296^m by rw[Nat.pow_mul]];exact this
 case round =>
  obtain⟨k,rfl,hk,hlt⟩:=hrel;cases k with
  | zero=>exact absurd hlt.out (by have:=HA.out;omega)
  | succ j =>
   obtain⟨kq,hkq⟩:∃ kq,kq=j/4:=⟨_,rfl⟩
   obtain⟨kr,hkr⟩:∃ kr,kr=j%4:=⟨_,rfl⟩
   obtain⟨ks,hks⟩:∃ ks,ks=8*kr:=⟨_,rfl⟩
   have hkM:kq<m:=by omega
   have c2:=HR.out kq (by have:=HM.out;omega);obtain⟨y,hy⟩:∃ y,y=wat (Qac a) kq:=⟨_,rfl⟩
   rw[show(Qac a)[kq]?.getD 0=y from hy.symm] at c2;have hy32:y<4294967296:=by rw[hy];exact Qci (Qap a) kq
   obtain⟨z,hz⟩:∃ z,z=a/256^j%256:=⟨_,rfl⟩
   have hyz:y/2^ks%256=z:=by rw[hy,Qtq,hks,Qkc a kq kr (by omega),hz,show 4*kq+kr=j by omega]
   have q0:((y:Int)/2^ks).tmod 256=(z:Int):=by
    rw[show(y:Int)/2^ks=((y/2^ks:Nat):Int) by simp,Int.tmod_eq_emod_of_nonneg (Int.natCast_nonneg _),<-hyz];simp
   have hz8:z<256:=by rw[<-hyz];exact Nat.mod_lt _ (by decide)
   have q4:((j+1:Nat):Int)=(j:Int)+1:=by omega
   have q5:(j:Int)+1-1=(j:Int):=by omega
   have q1:(j:Int)/4=(kq:Int):=by omega
   have q2:(j:Int)%4=(kr:Int):=by omega
   have q7:(8:Int)*(kr:Int)=(ks:Int):=by omega
   have q6:(kq:Int)<(m:Int):=by omega
   have q9:ks<32:=by omega
   have HZ:=hid hz;clear hkq hkr hks hyz hy hz;rw[q4];clear q4
   by_cases h0:z=0
   .have HL:Hid (a<256^j):=hid (Umt hlt.out (by rw[<-HZ.out,h0]));have hb:((z:Int)==0)=true:=by rw[h0];rfl
    clear h0
    go_wp2_with fail
    go_round
    case rel=>exact⟨j,rfl,by omega,HL⟩
    case measure=>simp[intOf]
   .have HL:Hid ((Qds a).length=j+1):=hid (Ufs hlt.out (by rw[<-HZ.out];exact h0));have hb:((z:Int)==0)=false:=by simp;exact h0
    obtain⟨n,hn⟩:∃ n,n=j+1:=⟨_,rfl⟩
    have hjn:(j:Int)+1=(n:Int):=by omega
    have hn1:(n:Int)-1=(j:Int):=by omega
    have hn4:n<=4*m:=by omega
    rw[<-hn] at HL;rw[hjn];clear h0 hn q5;have hmk:=Ksr n (by omega)
    go_wp2_with fail
    go_loopw [7] (fun i wr=>∃(k:Nat) (cur:List Nat),k<=n/\i=.int .i64 k/\Hid (cur.length=n)/\Hid (∀ j,j<k->cur[n-1-j]?=some (a/256^j%256))/\Qzt wr wo.heap.size cur/\Below wo.heap.size wo wr) (fun i _=>n-(intOf i).toNat)
    case atStart=>exact⟨0,List.replicate n 0,Nat.zero_le _,rfl,hid (by simp),hid (fun j hj=>by omega),Qzt.new _ _,br.alloc lr _⟩
    case round =>
     obtain⟨k,cur,hk,rfl,hlc,hinv,hblk,hB⟩:=hrel
     by_cases hlt:k<n
     .obtain⟨kq,hkq⟩:∃ kq,kq=k/4:=⟨_,rfl⟩
      obtain⟨kr,hkr⟩:∃ kr,kr=k%4:=⟨_,rfl⟩
      obtain⟨kj,hkj⟩:∃ kj,kj=n-1-k:=⟨_,rfl⟩
      obtain⟨ks,hks⟩:∃ ks,ks=8*kr:=⟨_,rfl⟩
      have hkM:kq<m:=by omega
      have c2:=(hB.cell (p:=⟨bb,ob+kq,none⟩) hbb).trans (HR.out kq (by have:=HM.out;omega));have c3:=hblk.cell (i:=kj) (by have:=hlc.out;omega);have f3:=hblk.frozen kj;obtain⟨y,hy⟩:∃ y,y=wat (Qac a) kq:=⟨_,rfl⟩
      rw[show(Qac a)[kq]?.getD 0=y from hy.symm] at c2;have hy32:y<4294967296:=by rw[hy];exact Qci (Qap a) kq
      obtain⟨z,hz⟩:∃ z,z=a/256^k%256:=⟨_,rfl⟩
      have hyz:y/2^ks%256=z:=by rw[hy,Qtq,hks,Qkc a kq kr (by omega),hz,show 4*kq+kr=k by omega]
      have q0:(y:Int)/2^ks%256=(z:Int):=by rw[<-hyz];simp
      have q1:(k:Int)/4=(kq:Int):=by omega
      have q2:(k:Int)%4=(kr:Int):=by omega
      have q3:(j:Int)-(k:Int)=(kj:Int):=by omega
      have q7:(8:Int)*(kr:Int)=(ks:Int):=by omega
      have q9:ks<32:=by omega
      have q5:(kj:Int)<(n:Int):=by omega
      have q6:(kq:Int)<(m:Int):=by omega
      have HK:=hid (And.intro hkj hz);clear hkq hkr hkj hks hyz hy hz
      go_wp2_with fail
      go_roundw
      case rel =>
       refine⟨k+1,cur.set kj z,by omega,by go_num,hid (by have:=hlc.out;simpa using this),hid (fun j hj=>?_),hblk.set kj z,hB.setCell (p:=⟨wo.heap.size,kj,none⟩) lr _⟩;have h1:=HK.out.1
       by_cases hjk:j=k
       .subst hjk;rw[<-h1,<-HK.out.2,List.getElem?_set_self (by have:=hlc.out;omega)]
       .rw[axp (by omega)];exact hinv.out j (by omega)
      case measure=>simp[intOf];omega
     .obtain rfl:n=k:=by omega
      have hsz:(Qcg a).size=n:=by rw[Qfk];exact HL.out
      have hbs:BSl wr (.slice (some ⟨wo.heap.size,0,none⟩) n n) (Qcg a):=⟨wo.heap.size,0,n,by rw[hsz],hblk.lt,fun i hi=>by
       rw[Nat.zero_add,hblk.cell (i:=i) (by have:=hlc.out;omega)];have h1:=hinv.out (n-1-i) (by rw[hsz] at hi;omega);rw[show n-1-(n-1-i)=i by rw[hsz] at hi;omega] at h1;have h2:=Kjh hi;simp only[hsz] at h2;rw[h1,h2];rfl⟩
      have hcv:=Qib wr _ _ hbs;have hz5:=(hB.block _ hlt0).trans hz4;have hBw:=hB0.trans (hB.mono hB0.size);clear hbs hsz
      go_wp2_with (refine wpList_store_row rfl 24 _ _ rfl w.heap.size _ rfl rfl 24 _ hz5 kR kR kR ?_)
      refine bodyPost_ret (v:=.agg #[.bool neg,.string (Qcg a)]) (by exact results_cell_row Tryz.results220 _ _ w.heap.size 24 #[.bool neg,.string (Qcg a)] (0,0) _ rfl (setRow_heap _ _ _ _ _ _ hz5) Tryz.underlying24 rfl kR) rfl ⟨rfl,?_⟩;exact below_setRow hBw lr _
def Qnl(neg:Bool)(l:List Nat)(v:Value)(w:World)(ol:WOk l)(hl:WSl w v l)(hm:l.length<274877906944) :
  Calls prog 220 #[.bool neg,v] w fun e w'=>e=.returned (Qdu (sgn neg (wv l)))/\Below w.heap.size w w':=by
 by_cases ha0:wv l=0
 .have hcut:=fun(w1:World) (hb:Below w.heap.size w w1)=>Qfm l v w1 ol (hl.below hb) (by omega)
  rw[ha0,Qay] at hcut;have hz:Qdu (sgn neg 0)=.agg #[.bool false,.string ⟨#[]⟩]:=by rw[show sgn neg 0=0 by cases neg<;>rfl];exact Qrx
  rw[ha0,hz];have HC:=hid hcut;clear hcut hl ol ha0 hz hm
  go_enter func220,Tryz.ntmps220
  go_wp2_with fail
  refine(HC.out _ (br.alloc lr _)).mono ?_;rintro e w1 ⟨v1,rfl,⟨p1,c1,rfl,hc1,hr1⟩,rfl⟩;have hz4:=heap_alloc_new w (.cells #[.bool false,.string ⟨#[]⟩] 24);have hB0:Below w.heap.size w (w.alloc (.cells #[.bool false,.string ⟨#[]⟩] 24)):=br.alloc lr _;clear hr1
  go_wp2_with (refine wpList_store_row rfl 24 _ _ rfl w.heap.size _ rfl rfl 24 _ hz4 kR kR kR ?_)
  refine bodyPost_ret (v:=.agg #[.bool false,.string ⟨#[]⟩]) (by exact results_cell_row Tryz.results220 _ _ w.heap.size 24 #[.bool false,.string ⟨#[]⟩] (0,0) _ rfl (setRow_heap _ _ _ _ _ _ hz4) Tryz.underlying24 rfl kR) rfl ⟨rfl,?_⟩;exact below_setRow hB0 lr _
 .rw[Kyq neg _ ha0];exact Kta neg l v _ rfl ha0 w ol hl hm
