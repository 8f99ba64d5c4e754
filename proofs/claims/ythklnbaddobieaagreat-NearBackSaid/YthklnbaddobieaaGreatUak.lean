/- Laws for the walk. -/
import Derived.Test.YthklnbaddobieaaGreatUaj
import Derived.Deep.LoopGhost
import Derived.Lib.ConvBytes
import Derived.Lib.SlBytesRow
set_option linter.unusedVariables false
set_option maxHeartbeats 4000000
namespace Go.Proofs.YthklnbaddobieaaGreat
open Go.RowKit Tr
theorem Put.intP{m o:Nat}{C:Array Value}{T:TypeId}{z:Int}{w w':World}(h:Put m o C T z w w')(ho:o+1<C.size){A:Nat→Prop}(hA:Rcv A w):IntP z (.pointer (some ⟨m,o,none⟩)) w' (fun b=>A b∧b≠m):=by
 obtain⟨sl,e1,e2,e3,e4,_⟩:=h.cells ho
 refine⟨m,o,sl,rfl,(Array.getElem?_eq_some_iff.1 e4).1,fun h=>h.2 rfl,e1,e2,e3.avoids fun b hb=>?_⟩
 obtain⟨zz,h1,h2⟩:=hA b hb.1
 exact⟨zz,(h.1.block b (Array.getElem?_eq_some_iff.1 h1).1 hb.2).trans h1,h2⟩
theorem IntP.wider{z:Int}{v:Value}{w:World}{A A':Nat→Prop}(h:IntP z v w A)(hA:∀ b,A' b→A b):IntP z v w A' :=
 IntP.keeps z v w w A A' (Nat.le_refl _) (fun b _ hna=>⟨rfl,fun h=>hna (hA b h)⟩) h
def NewI(z:Int)(v:Value)(w w':World):Prop:=Below w.heap.size w w'∧∀ A,Rcv A w→IntP z v w' A
theorem Put.new{o:Nat}{C:Array Value}{T:TypeId}{z:Int}{w w':World}{ob:Obj}(h:Put w.heap.size o C T z (w.alloc ob) w')(ho:o+1<C.size):NewI z (.pointer (some ⟨w.heap.size,o,none⟩)) w w':=by
 refine⟨below_of_alloc h.1,fun A hA=>?_⟩
 have hA':Rcv A (w.alloc ob):=hA.below (br.alloc (Nat.le_refl _) _)
 exact(h.intP ho hA').wider fun b hb=>⟨hb,fun e=>by have:=hA.lt hb; omega⟩
theorem NewI.of_below{z:Int}{v:Value}{w w1 w':World}(h:NewI z v w1 w')(hb:Below w.heap.size w w1):NewI z v w w':=⟨hb.trans (h.1.mono hb.size),fun A hA=>h.2 A (hA.below hb)⟩
theorem noW_zInt:NoW (.cells #[.bool false,.slice none 0 0] 131 (0,0)):=by
 intro cs T fr e i k x
 cases e
 rcases i with _|_|i<;>simp
theorem noW_zRat:NoW (.cells #[.bool false,.slice none 0 0,.bool false,.slice none 0 0] 133 (0,0)):=by
 intro cs T fr e i k x
 cases e
 rcases i with _|_|_|_|i<;>simp
theorem newInt_any(n:Int)(h0:-9223372036854775808≤n)(h1:n<9223372036854775808)(w:World) :
  Calls Tryz.prog 90 #[.int .i64 n] w fun e w'=>∃ v,e=.returned v∧NewI n v w w':=by
 have hs:=setInt64_any w.heap.size 0 _ _ n h0 h1 _ (heap_alloc_new w (.cells #[.bool false,.slice none 0 0] 131)) (by decide) noW_zInt
 have HS:=Lib.hid hs
 clear hs
 go_enter Tryz.func90,Tryz.ntmps90
 go_wp2_with (go_at_call 157; refine HS.out.mono ?_; rintro e w' ⟨rfl,hp⟩)
 go_ret
 exact⟨_,rfl,hp.new (by decide)⟩
def cmpI(x y:Int):Int:=if x<y then -1 else if y<x then 1 else 0
theorem cmpI_neg{x y:Int}(hx:x<0)(hy:y<0):cmpZ y.natAbs x.natAbs=cmpI x y:=by
 unfold cmpZ cmpI
 by_cases h:x<y
 ·rw[if_pos h,if_pos (by omega)]
 ·by_cases h2:y<x
  ·rw[if_neg h,if_pos h2,if_neg (by omega),if_pos (by omega)]
  ·rw[if_neg h,if_neg h2,if_neg (by omega),if_neg (by omega)]
theorem cmpI_pos{x y:Int}(hx:0≤x)(hy:0≤y):cmpZ x.natAbs y.natAbs=cmpI x y:=by
 unfold cmpZ cmpI
 by_cases h:x<y
 ·rw[if_pos h,if_pos (by omega)]
 ·by_cases h2:y<x
  ·rw[if_neg h,if_pos h2,if_neg (by omega),if_pos (by omega)]
  ·rw[if_neg h,if_neg h2,if_neg (by omega),if_neg (by omega)]
theorem Cmp_any(x y:Int)(vx vy:Value)(A:Nat→Prop)(w:World)(hx:IntP x vx w A)(hy:IntP y vy w A)(hnx:(words x.natAbs).length<274877906944)(hny:(words y.natAbs).length<274877906944) :
  Calls Tryz.prog 91 #[vx,vy] w fun e w'=>e=.returned (.int .i64 (cmpI x y))∧Below w.heap.size w w':=by
 obtain⟨b,bo,sl,rfl,hb,_,c0,c1,hsl⟩:=hx
 obtain⟨b2,bo2,sl2,rfl,hb2,_,d0,d1,hsl2⟩:=hy
 have hw:=hsl.wsl
 have hw2:=hsl2.wsl
 obtain⟨cz,hcz⟩:∃ cz,cz=cmpI x y:=⟨_,rfl⟩
 rw[←hcz]
 have HZ:=Lib.hid hcz
 clear hcz
 by_cases hx0:x<0<;>by_cases hy0:y<0
 ·have e0:decide (x<0)=true:=by simpa using hx0
  have e1:decide (y<0)=true:=by simpa using hy0
  rw[e0] at c0
  rw[e1] at d0
  have HU:=fun(w:World) h1 h2=>under_any y.natAbs x.natAbs sl2 sl w h1 h2 (by omega)
  rw[cmpI_neg hx0 hy0,←HZ.out] at HU
  clear e0 e1 hx0 hy0
  go_enter Tryz.func91,Tryz.ntmps91
  go_wp2_with fail
  refine wp_region_inv [(.lit,[]),(.lit,[]),(.lit,[]),(.lit,[]),(.lit,[]),(.lit,[]),(.lit,[]),(.lit,[]),(.val,[])] (pickF [(8,fun v _ _=>v=.int .i64 cz)]) (by kernel_rfl) ?_ ?_ (by simp) (by simp) (by kernel_rfl)
  ·exact keeps_pick (by simp[keeps_pure])
  ·repeat (refine⟨_,fun f w1 h1=>by(have e2:=ct h1 hb c1; have e4:=ct h1 hb2 d1; go_simp; rfl),?_⟩)
   simp only[Act.put,nrA,nrB,nrC,Nat.reduceAdd]
   refine⟨fun f w1 A1 h1 hA hN hd K hK=>?_,?_⟩
   ·go_simp
    refine(HU _ (hw2.below h1) (hw.below h1)).mono ?_
    rintro e w' ⟨rfl,d,rfl⟩
    exact hK _ _ (below_drewN br d) rfl
   ·intro f w1 h1 hF
    have hv:f 8=.int .i64 cz:=hF.2
    clear hF
    simp only[Act.put,nrA,nrB,nrC]
    rw[hv]
    clear hv c0 c1 d0 d1 hw hw2
    go_wp2
    go_ret
    exact⟨rfl,br.drew.trans h1⟩
 ·have e0:decide (x<0)=true:=by simpa using hx0
  have e1:decide (y<0)=false:=by simpa using hy0
  rw[e0] at c0
  rw[e1] at d0
  have hc:Hid (cz=-1):=Lib.hid (by rw[HZ.out]; unfold cmpI; rw[if_pos (by omega)])
  clear e0 e1 hx0 hy0
  go_enter Tryz.func91,Tryz.ntmps91
  go_wp2
  go_ret
  exact⟨ret_int hc.out.symm,Below.refl _ _⟩
 ·have e0:decide (x<0)=false:=by simpa using hx0
  have e1:decide (y<0)=true:=by simpa using hy0
  rw[e0] at c0
  rw[e1] at d0
  have hc:Hid (cz=1):=Lib.hid (by rw[HZ.out]; unfold cmpI; rw[if_neg (by omega),if_pos (by omega)])
  clear e0 e1 hx0 hy0
  go_enter Tryz.func91,Tryz.ntmps91
  go_wp2
  go_ret
  exact⟨ret_int hc.out.symm,Below.refl _ _⟩
 ·have e0:decide (x<0)=false:=by simpa using hx0
  have e1:decide (y<0)=false:=by simpa using hy0
  rw[e0] at c0
  rw[e1] at d0
  have HU:=fun(w:World) h1 h2=>under_any x.natAbs y.natAbs sl sl2 w h1 h2 (by omega)
  rw[cmpI_pos (by omega) (by omega),←HZ.out] at HU
  clear e0 e1 hx0 hy0
  go_enter Tryz.func91,Tryz.ntmps91
  go_wp2_with fail
  refine wp_region_inv [(.lit,[]),(.lit,[]),(.lit,[]),(.lit,[]),(.lit,[]),(.lit,[]),(.lit,[]),(.lit,[]),(.val,[])] (pickF [(8,fun v _ _=>v=.int .i64 cz)]) (by kernel_rfl) ?_ ?_ (by simp) (by simp) (by kernel_rfl)
  ·exact keeps_pick (by simp[keeps_pure])
  ·repeat (refine⟨_,fun f w1 h1=>by(have e2:=ct h1 hb c1; have e4:=ct h1 hb2 d1; go_simp; rfl),?_⟩)
   simp only[Act.put,nrA,nrB,nrC,Nat.reduceAdd]
   refine⟨fun f w1 A1 h1 hA hN hd K hK=>?_,?_⟩
   ·go_simp
    refine(HU _ (hw.below h1) (hw2.below h1)).mono ?_
    rintro e w' ⟨rfl,d,rfl⟩
    exact hK _ _ (below_drewN br d) rfl
   ·intro f w1 h1 hF
    have hv:f 8=.int .i64 cz:=hF.2
    clear hF
    simp only[Act.put,nrA,nrB,nrC]
    rw[hv]
    clear hv c0 c1 d0 d1 hw hw2
    go_wp2
    go_ret
    exact⟨rfl,br.drew.trans h1⟩
end Go.Proofs.YthklnbaddobieaaGreat
namespace Go.Proofs.YthklnbaddobieaaGreat
open Go.RowKit Tr
theorem tdiv_sgn(x y:Int):x.tdiv y=sgn (decide (x<0) != decide (y<0)) (x.natAbs / y.natAbs):=by
 have hx:=Int.natAbs_eq x
 have hy:=Int.natAbs_eq y
 by_cases h1:x<0<;>by_cases h2:y<0
 ·have e1:x=-(x.natAbs:Int):=by omega
  have e2:y=-(y.natAbs:Int):=by omega
  rw[show(decide (x<0) != decide (y<0))=false by simp[h1,h2]]
  conv=>lhs; rw[e1,e2,Int.neg_tdiv_neg]
  simp[sgn]
 ·have e1:x=-(x.natAbs:Int):=by omega
  have e2:y=(y.natAbs:Int):=by omega
  rw[show(decide (x<0) != decide (y<0))=true by simp[h1,h2]]
  conv=>lhs; rw[e1,e2,Int.neg_tdiv]
  simp[sgn]
 ·have e1:x=(x.natAbs:Int):=by omega
  have e2:y=-(y.natAbs:Int):=by omega
  rw[show(decide (x<0) != decide (y<0))=true by simp[h1,h2]]
  conv=>lhs; rw[e1,e2,Int.tdiv_neg]
  simp[sgn]
 ·have e1:x=(x.natAbs:Int):=by omega
  have e2:y=(y.natAbs:Int):=by omega
  rw[show(decide (x<0) != decide (y<0))=false by simp[h1,h2]]
  conv=>lhs; rw[e1,e2]
  simp[sgn]
theorem tmod_sgn(x y:Int):x.tmod y=sgn (decide (x<0)) (x.natAbs % y.natAbs):=by
 have hy:x.tmod y=x.tmod (y.natAbs:Int):=by
  by_cases h:y<0
  ·have e:(y.natAbs:Int)=-y:=by omega
   rw[e,Int.tmod_neg]
  ·have e:(y.natAbs:Int)=y:=by omega
   rw[e]
 rw[hy]
 by_cases h1:x<0
 ·have e1:x=-(x.natAbs:Int):=by omega
  rw[show decide (x<0)=true by simp[h1]]
  conv=>lhs; rw[e1,Int.neg_tmod]
  simp[sgn]; rfl
 ·have e1:x=(x.natAbs:Int):=by omega
  rw[show decide (x<0)=false by simp[h1]]
  conv=>lhs; rw[e1]
  simp[sgn]; rfl
theorem wpList_append_words{ops:Array Oper}{rest:List Oper}{o:Oper}{a:Act}{w:World}{Q:Exit→Act→World→Prop}(hgd:o.guard=none)(s x:Operand)
  (ho:o.op=.call { callee:=.builtin .append,args:=#[s,x],argTypes:=#[129,129] }) (hty:o.type=129) (v:Value) (l:List Nat) (hs:a.eval s=.slice none 0 0) (hx:a.eval x=v) (h:WSl w v l) (hn:l.length<1099511627776)
  (hK:∀ v' w',WSl w' v' l→Below w.heap.size w w'→wpList Tryz.prog ops Q rest (a.put o.dst v') w'):wpList Tryz.prog ops Q (o :: rest) a w :=
 wpList_plain hgd fun _ hK'=>wp_append_words s x ho hty v l hs hx h hn fun v' w' h1 h2=>hK' _ _ (hK v' w' h1 h2)
def PairF(x y:Nat):Fact:=fun v w A=>∃ v1 v2,v=.tuple #[v1,v2]∧WSlA A w v1 (words x)∧WSlA A w v2 (words y)
theorem PairF.keeps(x y:Nat):(PairF x y).Keeps:=by
 intro v w w' A A' hs hk ⟨v1,v2,h1,h2,h3⟩
 exact⟨v1,v2,h1,h2.keep hs hk,h3.keep hs hk⟩
theorem QuoRem_any(m o:Nat)(C:Array Value)(T:TypeId)(m2 o2:Nat)(C2:Array Value)(T2:TypeId)(hmm:m≠m2)(x y:Int)(hy0:y≠0)(vx vy:Value)(A:Nat→Prop)(w:World)(hm:w.heap[m]?=some (.cells C T (0,0)))(ho:o+1<C.size)(hC:NoW (.cells C T (0,0)))
  (hm2:w.heap[m2]?=some (.cells C2 T2 (0,0))) (ho2:o2+1<C2.size) (hC2:NoW (.cells C2 T2 (0,0))) (hx:IntP x vx w A) (hy:IntP y vy w A) (hnx:(words x.natAbs).length<274877906944) :
  Calls Tryz.prog 87 #[.pointer (some ⟨m,o,none⟩),vx,vy,.pointer (some ⟨m2,o2,none⟩)] w fun e w'=>e=.returned (.tuple #[.pointer (some ⟨m,o,none⟩),.pointer (some ⟨m2,o2,none⟩)])∧∃ w2,Put m2 o2 C2 T2 (x.tmod y) w w2∧Put m o C T (x.tdiv y) w2 w':=by
 obtain⟨b,bo,sl,rfl,hb,_,c0,c1,hsl⟩:=hx
 obtain⟨b2,bo2,sl2,rfl,hb2,_,d0,d1,hsl2⟩:=hy
 have hw:=hsl.wsl
 have hw2:=hsl2.wsl
 have hmlt:m<w.heap.size:=(Array.getElem?_eq_some_iff.1 hm).1
 have hmlt2:m2<w.heap.size:=(Array.getElem?_eq_some_iff.1 hm2).1
 have hq0:x.natAbs / y.natAbs≤x.natAbs:=Nat.div_le_self _ _
 have hq1:x.natAbs % y.natAbs≤x.natAbs:=Nat.mod_le _ _
 have hlq:(words (x.natAbs / y.natAbs)).length<274877906944:=Nat.lt_of_le_of_lt (words_length_le (Nat.lt_of_le_of_lt hq0 (lt_words _))) hnx
 have hlr:(words (x.natAbs % y.natAbs)).length<274877906944:=Nat.lt_of_le_of_lt (words_length_le (Nat.lt_of_le_of_lt hq1 (lt_words _))) hnx
 have hyp:0<y.natAbs:=by omega
 have HD:=fun(w:World) h1 h2=>divide_any x.natAbs y.natAbs sl sl2 w h1 h2 hyp hnx
 obtain⟨qa,hqa⟩:∃ qa,qa=x.natAbs / y.natAbs:=⟨_,rfl⟩
 obtain⟨ra,hra⟩:∃ ra,ra=x.natAbs % y.natAbs:=⟨_,rfl⟩
 rw[←hqa] at HD hlq
 rw[←hra] at HD hlr
 obtain⟨xn,hxn⟩:∃ xn,xn=decide (x<0):=⟨_,rfl⟩
 obtain⟨yn,hyn⟩:∃ yn,yn=decide (y<0):=⟨_,rfl⟩
 rw[←hxn] at c0
 rw[←hyn] at d0
 have hT:Hid (x.tdiv y=sgn (xn != yn) qa∧x.tmod y=sgn xn ra):=Lib.hid ⟨by rw[tdiv_sgn,hxn,hyn,hqa],by rw[tmod_sgn,hxn,hra]⟩
 rw[hT.out.1,hT.out.2]
 clear hT hqa hra hxn hyn hq0 hq1 hyp hnx
 have HM:=Lib.hid (And.intro hm (And.intro hm2 (And.intro hC hC2)))
 clear hm hm2 hC hC2
 go_enter Tryz.func87,Tryz.ntmps87
 go_wp2_with fail
 refine wp_region_inv [(.lit,[]),(.lit,[]),(.lit,[]),(.lit,[]),(.lit,[]),(.lit,[]),(.lit,[]),(.lit,[]),(.val,[]),(.val,[8]),(.val,[9]),(.val,[9]),(.val,[10]),(.val,[11])]
  (pickF [(8,PairF qa ra),(9,PairF qa ra),(10,fun v w A=>WSlA A w v (words qa)),(11,fun v w A=>WSlA A w v (words ra)),(12,fun v w A=>WSlA A w v (words qa)),(13,fun v w A=>WSlA A w v (words ra))]) (by kernel_rfl) ?_ ?_ (by simp) (by simp) (by kernel_rfl)
 ·exact keeps_pick (by simp[PairF.keeps,keeps_wsla])
 ·repeat (refine⟨_,fun f w1 h1=>by(have e2:=ct h1 hb c1; have e4:=ct h1 hb2 d1; go_simp; rfl),?_⟩)
  simp only[Act.put,nrA,nrB,nrC,Nat.reduceAdd]
  refine⟨fun f w1 A1 h1 hA hN hd K hK=>?_,?_⟩
  ·go_simp
   refine(HD _ (hw.below h1) (hw2.below h1)).mono ?_
   rintro e w' ⟨v1,v2,rfl,k1,k2,k3⟩
   exact hK _ _ k3 ⟨v1,v2,rfl,k1.avoids (hA.below k3),k2.avoids (hA.below k3)⟩
  simp only[Act.put,nrA,nrB,nrC,Nat.reduceAdd]
  refine⟨fun f w1 A1 h1 hA hN hd K hK=>by
   have h8:PairF qa ra (f 8) w1 A1:=hd 8 (by simp)
   go_simp
   exact hK _ _ br h8,?_⟩
  simp only[Act.put,nrA,nrB,nrC,Nat.reduceAdd]
  refine⟨fun f w1 A1 h1 hA hN hd K hK=>by
   obtain⟨v1,v2,e,k1,k2⟩:PairF qa ra (f 9) w1 A1:=hd 9 (by simp)
   simp only[e] at hK ⊢
   go_simp
   exact hK _ _ br k1,?_⟩
  simp only[Act.put,nrA,nrB,nrC,Nat.reduceAdd]
  refine⟨fun f w1 A1 h1 hA hN hd K hK=>by
   obtain⟨v1,v2,e,k1,k2⟩:PairF qa ra (f 9) w1 A1:=hd 9 (by simp)
   simp only[e] at hK ⊢
   go_simp
   exact hK _ _ br k2,?_⟩
  simp only[Act.put,nrA,nrB,nrC,Nat.reduceAdd]
  refine⟨fun f w1 A1 h1 hA hN hd K hK=>by
   have h8:WSlA A1 w1 (f 10) (words qa):=hd 10 (by simp)
   go_simp
   exact hK _ _ br h8,?_⟩
  simp only[Act.put,nrA,nrB,nrC,Nat.reduceAdd]
  refine⟨fun f w1 A1 h1 hA hN hd K hK=>by
   have h8:WSlA A1 w1 (f 11) (words ra):=hd 11 (by simp)
   go_simp
   exact hK _ _ br h8,?_⟩
  ·intro f w1 h1 hF
   have k1:WSlA NoA w1 (f 12) (words qa):=hF.1.2
   have k2:WSlA NoA w1 (f 13) (words ra):=hF.2
   have k1:=k1.wsl
   have k2:=k2.wsl
   clear hF
   simp only[Act.put,nrA,nrB,nrC]
   generalize f 12=v1 at *
   generalize f 13=v2 at *
   generalize f 8=u8
   generalize f 9=u9
   generalize f 10=u10
   generalize f 11=u11
   clear c1 d1 hw hw2
   have h1':Below w.heap.size w w1:=br.drew.trans h1
   have c0:=ct h1 hb c0
   have d0:=ct h1 hb2 d0
   go_wp2_with fail
   go_quiet (fail)
   obtain⟨w2,hw2⟩:∃ w2,w2=w1.drewN nq:=⟨_,rfl⟩
   have h2':Below w.heap.size w w2:=by rw[hw2]; exact below_drewN h1' nq
   have k1':WSl w2 v1 (words qa):=by rw[hw2]; exact k1.drewN nq
   have k2':WSl w2 v2 (words ra):=by rw[hw2]; exact k2.drewN nq
   rw[←hw2]
   clear hw2 k1 k2 c0 d0 h1 h1'
   go_wp2_with ((refine wpList_append_words rfl _ _ rfl rfl v2 _ rfl rfl k2' (by omega) ?_; intro v3 w3 k3 h3))
   refine(is_put m2 o2 C2 T2 xn (words ra) v3 w3 (sgn xn ra) ((h3.block m2 (by have:=h2'.size; omega)).trans ((h2'.block m2 hmlt2).trans HM.out.2.1)) ho2 HM.out.2.2.2 (wok_words _) k3 (by omega) (by rw[natAbs_sgn,wv_words]) (by rw[sgn_neg,wv_words])).mono ?_
   rintro e w4 ⟨rfl,hp⟩
   go_wp2_with fail
   refine(is_put m o C T (xn != yn) (words qa) v1 w4 (sgn (xn != yn) qa) ((hp.1.block m (by have:=h2'.size; have:=h3.size; omega) hmm).trans ((h3.block m (by have:=h2'.size; omega)).trans ((h2'.block m hmlt).trans HM.out.1))) ho HM.out.2.2.1 (wok_words _) ((k1'.below h3).mod hp.1 ((h3.block m2 (by have:=h2'.size; omega)).trans ((h2'.block m2 hmlt2).trans HM.out.2.1)) HM.out.2.2.2) (by omega) (by rw[natAbs_sgn,wv_words]) (by rw[sgn_neg,wv_words])).mono ?_
   rintro e w5 ⟨rfl,hp5⟩
   go_wp2_with fail
   go_ret2
   exact⟨rfl,w4,hp.below (h2'.trans (h3.mono h2'.size)),hp5⟩
theorem Quo_any(m o:Nat)(C:Array Value)(T:TypeId)(x y:Int)(hy0:y≠0)(vx vy:Value)(A:Nat→Prop)(w:World)(hm:w.heap[m]?=some (.cells C T (0,0)))(ho:o+1<C.size)(hC:NoW (.cells C T (0,0)))(hx:IntP x vx w A)(hy:IntP y vy w A)(hnx:(words x.natAbs).length<274877906944) :
  Calls Tryz.prog 147 #[.pointer (some ⟨m,o,none⟩),vx,vy] w fun e w'=>e=.returned (.pointer (some ⟨m,o,none⟩))∧Put m o C T (x.tdiv y) w w':=by
 have hmlt:m<w.heap.size:=(Array.getElem?_eq_some_iff.1 hm).1
 have hb:Below w.heap.size w (w.alloc (.cells #[.bool false,.slice none 0 0] 131)):=br.alloc (Nat.le_refl _) _
 have hq:=QuoRem_any m o C T w.heap.size 0 _ _ (by omega) x y hy0 vx vy A _ ((hb.block m hmlt).trans hm) ho hC (heap_alloc_new w (.cells #[.bool false,.slice none 0 0] 131)) (by decide) noW_zInt (hx.below hb) (hy.below hb) hnx
 have HQ:=Lib.hid hq
 clear hq hm hC hx hy
 go_enter Tryz.func147,Tryz.ntmps147
 go_wp2_with (go_at_call 87; refine HQ.out.mono ?_; rintro e w' ⟨rfl,w2,hp2,hp⟩)
 go_ret
 refine⟨rfl,hp.below ?_⟩
 exact hb.trans (hp2.1.below (Nat.le_refl _) (by simp))
theorem GCD_any(m o:Nat)(C:Array Value)(T:TypeId)(x y:Int)(vx vy v1 v2:Value)(A:Nat→Prop)(w:World)(hm:w.heap[m]?=some (.cells C T (0,0)))(ho:o+1<C.size)(hC:NoW (.cells C T (0,0)))(hx:IntP x vx w A)(hy:IntP y vy w A)(hnx:(words x.natAbs).length<274877906944)(hny:(words y.natAbs).length<274877906944) :
  Calls Tryz.prog 145 #[.pointer (some ⟨m,o,none⟩),v1,v2,vx,vy] w fun e w'=>e=.returned (.pointer (some ⟨m,o,none⟩))∧Put m o C T (Nat.gcd x.natAbs y.natAbs:Nat) w w':=by
 obtain⟨b,bo,sl,rfl,hb,_,c0,c1,hsl⟩:=hx
 obtain⟨b2,bo2,sl2,rfl,hb2,_,d0,d1,hsl2⟩:=hy
 have hw:=hsl.wsl
 have hw2:=hsl2.wsl
 have hmlt:m<w.heap.size:=(Array.getElem?_eq_some_iff.1 hm).1
 have HM:=Lib.hid (And.intro hm hC)
 clear hm hC
 obtain⟨xa,hxa⟩:∃ xa,xa=x.natAbs:=⟨_,rfl⟩
 obtain⟨ya,hya⟩:∃ ya,ya=y.natAbs:=⟨_,rfl⟩
 rw[←hxa] at hw hnx ⊢
 rw[←hya] at hw2 hny ⊢
 clear hxa hya hsl hsl2
 go_enter Tryz.func145,Tryz.ntmps145
 go_wp2_with fail
 go_quiet (fail)
 go_wp2_with fail
 clear c0 c1 d0 d1
 go_loopg [11,12,13,14] ya (fun g p q _ _ wr=>∃ a,WSl wr p (words a)∧WSl wr q (words g)∧Hid (Nat.gcd a g=Nat.gcd xa ya)∧Hid ((words a).length<274877906944)∧Hid ((words g).length<274877906944)∧Below w.heap.size w wr)
 case atStart=>exact⟨xa,hw.drewN _,hw2.drewN _,Lib.hid rfl,Lib.hid hnx,Lib.hid hny,below_drewN br _⟩
 case round =>
  obtain⟨a,ha,hg,hgcd,hla,hlg,hB⟩:=hrel
  obtain⟨p,cap,rfl,_,_⟩:=id hg
  by_cases hz:gk=0
  ·have ea:a=Nat.gcd xa ya:=by rw[←hgcd.out,hz,Nat.gcd_zero_right]
   rw[ea] at ha hla
   subst hz
   have HA:=Lib.hid (And.intro ha hla.out)
   have hle:=Lib.hid words_zero
   rw[show(words 0).length=0 by rw[words_zero]; rfl]
   clear ea hg hgcd ha hla hlg
   go_wp2_with ((refine wpList_append_words rfl _ _ rfl rfl u11 _ rfl rfl HA.out.1 (by have:=HA.out.2; omega) ?_; intro v3 w3 k3 h3))
   refine(is_put m o C T false (words (Nat.gcd xa ya)) v3 w3 (Nat.gcd xa ya:Nat) ((h3.block m (by have:=hB.size; omega)).trans ((hB.block m hmlt).trans HM.out.1)) ho HM.out.2 (wok_words _) k3 (by have:=HA.out.2; omega) (by rw[wv_words]; rfl) (by simp)).mono ?_
   rintro e w4 ⟨rfl,hp⟩
   go_wp2_with fail
   go_ret
   exact⟨rfl,hp.below (hB.trans (h3.mono hB.size))⟩
  ·have hpos:0<gk:=Nat.pos_of_ne_zero hz
   have hlen:0<(words gk).length:=List.length_pos_iff.2 (fun h=>hz (words_eq_nil.1 h))
   have hD:=divide_any a gk u11 _ wr ha hg hpos hla.out
   have HD:=Lib.hid hD
   have hnext:Hid (Nat.gcd gk (a % gk)=Nat.gcd xa ya):=Lib.hid (by rw[←hgcd.out,Nat.gcd_comm a gk,Nat.gcd_rec gk a,Nat.gcd_comm])
   have hlt:a % gk<gk:=Nat.mod_lt _ hpos
   have hl3:Hid ((words (a % gk)).length<274877906944):=Lib.hid (Nat.lt_of_le_of_lt (words_length_le (Nat.lt_trans hlt (lt_words gk))) hlg.out)
   clear hD hz
   go_wp2_with (go_at_call 152; refine HD.out.mono ?_; rintro e w' ⟨q1,q2,rfl,hq1,hq2,hb3⟩)
   go_roundg (a % gk)
   case rel=>exact⟨gk,hg.below hb3,hq2,hnext,hlg,hl3,hB.trans (hb3.mono hB.size)⟩
   case measure=>exact hlt
end Go.Proofs.YthklnbaddobieaaGreat
namespace Tr
def bv:List Nat→Nat
 | []=>0
 | x :: l=>x+256*bv l
def BOk(l:List Nat):Prop:=∀ x∈l,x<256
def byteLE(n:Nat):List Nat:=if h:n=0 then[] else n % 256 :: byteLE (n / 256)
termination_by n
decreasing_by omega
theorem byteLE_zero:byteLE 0=[]:=by unfold byteLE; rfl
theorem byteLE_pos{n:Nat}(h:n≠0):byteLE n=n % 256 :: byteLE (n / 256):=by rw[byteLE,dif_neg h]
theorem bv_byteLE(n:Nat):bv (byteLE n)=n:=by
 induction n using Nat.strongRecOn with
 | ind n ih =>
  by_cases h:n=0
  ·subst h; rw[byteLE_zero]; rfl
  ·rw[byteLE_pos h]; show n % 256+256*bv (byteLE (n / 256))=n; rw[ih (n / 256) (by omega)]; omega
theorem bok_byteLE(n:Nat):BOk (byteLE n):=by
 induction n using Nat.strongRecOn with
 | ind n ih =>
  by_cases h:n=0
  ·subst h; rw[byteLE_zero]; intro x hx; cases hx
  ·rw[byteLE_pos h]
   intro x hx
   rcases List.mem_cons.1 hx with rfl|hx
   ·omega
   ·exact ih (n / 256) (by omega) x hx
theorem bok_cons{x:Nat}{l:List Nat}:BOk (x :: l)↔x<256∧BOk l:=by unfold BOk; simp
theorem bv_lt{l:List Nat}(h:BOk l):bv l<256 ^ l.length:=by
 induction l with
 | nil=>simp[bv]
 | cons x l ih =>
  obtain⟨hx,hl⟩:=bok_cons.1 h
  have:=ih hl
  show x+256*bv l<256 ^ (l.length+1)
  rw[Nat.pow_succ]
  omega
theorem byteLE_of{l:List Nat}(h:BOk l)(hn:∀ l' x,l=l'++[x]→x≠0):byteLE (bv l)=l:=by
 induction l with
 | nil=>exact byteLE_zero
 | cons x l ih =>
  obtain⟨hx,hl⟩:=bok_cons.1 h
  have ih':=ih hl (fun l' y e=>hn (x :: l') y (by rw[e]; rfl))
  by_cases h0:bv (x :: l)=0
  ·exfalso
   change x+256*bv l=0 at h0
   have h2:bv l=0:=by omega
   rw[h2,byteLE_zero] at ih'
   subst ih'
   exact hn [] x rfl (by omega)
  ·rw[byteLE_pos h0]
   have e1:bv (x :: l) % 256=x:=by show(x+256*bv l) % 256=x; omega
   have e2:bv (x :: l) / 256=bv l:=by show(x+256*bv l) / 256=bv l; omega
   rw[e1,e2,ih']
theorem byteLE_last{n:Nat}:∀ l' x,byteLE n=l'++[x]→x≠0:=by
 induction n using Nat.strongRecOn with
 | ind n ih =>
  intro l' x e
  by_cases h:n=0
  ·subst h; rw[byteLE_zero] at e; simp at e
  ·rw[byteLE_pos h] at e
   cases l' with
   | nil =>
    simp at e
    have:n / 256=0:=by
     rcases Nat.eq_zero_or_pos (n / 256) with h0|h0
     ·exact h0
     ·rw[byteLE_pos (by omega)] at e; simp at e
    omega
   | cons y l' =>
    simp at e
    exact ih (n / 256) (by omega) l' x e.2
theorem byteLE_length{n k:Nat}(h1:n<256 ^ k)(h2:k=0∨256 ^ (k - 1)≤n):(byteLE n).length=k:=by
 induction k generalizing n with
 | zero=>simp at h1; subst h1; rw[byteLE_zero]; rfl
 | succ k ih =>
  have h2':256 ^ k≤n:=by simpa using h2
  have hp:0<256 ^ k:=Nat.pow_pos (by decide)
  rw[byteLE_pos (by omega),List.length_cons,ih (n:=n / 256)]
  ·rw[Nat.pow_succ] at h1; exact Nat.div_lt_of_lt_mul (by omega)
  ·rcases k with _|k
   ·exact .inl rfl
   ·refine .inr ?_
    simp only[Nat.add_sub_cancel]
    rw[Nat.le_div_iff_mul_le (by decide),←Nat.pow_succ]; exact h2'
theorem byteLE_get{n i:Nat}(h:i<(byteLE n).length):(byteLE n)[i]=n / 256 ^ i % 256:=by
 induction i generalizing n with
 | zero =>
  have h0:n≠0:=by intro h0; subst h0; rw[byteLE_zero] at h; simp at h
  simp[byteLE_pos h0]
 | succ i ih =>
  have h0:n≠0:=by intro h0; subst h0; rw[byteLE_zero] at h; simp at h
  have h':i<(byteLE (n / 256)).length:=by rw[byteLE_pos h0] at h; simpa using h
  have:=ih h'
  simp only[byteLE_pos h0,List.getElem_cons_succ]
  rw[this,Nat.div_div_eq_div_mul,Nat.pow_succ,Nat.mul_comm]
theorem byteLE_le{n k:Nat}(h:n<256 ^ k):(byteLE n).length≤k:=by
 induction k generalizing n with
 | zero=>simp at h; subst h; rw[byteLE_zero]; simp
 | succ k ih =>
  by_cases h0:n=0
  ·subst h0; rw[byteLE_zero]; simp
  ·rw[byteLE_pos h0,List.length_cons]
   have:=ih (n:=n / 256) (by rw[Nat.pow_succ] at h; exact Nat.div_lt_of_lt_mul (by omega))
   omega
def strN(n:Nat):ByteArray:=⟨((byteLE n).reverse.map UInt8.ofNat).toArray⟩
def leS(s:ByteArray):List Nat:=s.data.toList.reverse.map UInt8.toNat
def numS(s:ByteArray):Nat:=bv (leS s)
def NoLead(s:ByteArray):Prop:=∀ x l,s.data.toList=x :: l→x≠0
theorem bok_leS(s:ByteArray):BOk (leS s):=by
 intro x hx
 unfold leS at hx
 obtain⟨y,_,rfl⟩:=List.mem_map.1 hx
 exact UInt8.toNat_lt y
theorem leS_length(s:ByteArray):(leS s).length=s.size:=by simp[leS]
theorem leS_strN(n:Nat):leS (strN n)=byteLE n:=by
 unfold leS strN
 have h:=bok_byteLE n
 simp only[List.map_reverse,List.reverse_reverse,List.map_map]
 conv=>rhs; rw[←List.map_id (byteLE n)]
 apply List.map_congr_left
 intro x hx
 have:=h x hx
 simp; omega
theorem numS_strN(n:Nat):numS (strN n)=n:=by unfold numS; rw[leS_strN,bv_byteLE]
theorem strN_numS{s:ByteArray}(h:NoLead s):strN (numS s)=s:=by
 have h1:byteLE (bv (leS s))=leS s:=byteLE_of (bok_leS s) fun l' x e=>by
  unfold leS at e
  intro hx
  have h2:=congrArg List.reverse e
  rw[←List.map_reverse,List.reverse_reverse,List.reverse_append] at h2
  simp at h2
  cases hs:s.data.toList with
  | nil=>rw[hs] at h2; simp at h2
  | cons y l =>
   rw[hs] at h2
   simp at h2
   exact h y l hs (UInt8.toNat_inj.1 (by rw[h2.1,hx]; rfl))
 unfold strN numS
 rw[h1]
 apply ByteArray.ext
 apply Array.toList_inj.1
 simp[leS,List.map_reverse,Function.comp_def]
theorem noLead_strN(n:Nat):NoLead (strN n):=by
 intro x l e hx
 have h:(byteLE n).reverse.map UInt8.ofNat=x :: l:=by simpa[strN] using e
 cases hr:(byteLE n).reverse with
 | nil=>rw[hr] at h; simp at h
 | cons y l' =>
  rw[hr] at h
  simp at h
  have h3:byteLE n=l'.reverse++[y]:=by
   have:=congrArg List.reverse hr
   simpa using this
  have h4:=byteLE_last _ _ h3
  have h5:y<256:=bok_byteLE n y (by rw[h3]; simp)
  have h6:(UInt8.ofNat y).toNat=y:=by simp; omega
  rw[h.1,hx] at h6
  exact h4 (by rw[←h6]; rfl)
theorem size_strN(n:Nat):(strN n).size=(byteLE n).length:=by
 rw[←leS_length,leS_strN]
theorem numS_lt(s:ByteArray):numS s<256 ^ s.size:=by
 have:=bv_lt (bok_leS s); rwa[leS_length] at this
theorem bv_take_succ{l:List Nat}{i:Nat}(h:i<l.length):bv (l.take (i+1))=bv (l.take i)+256 ^ i*l[i]:=by
 induction l generalizing i with
 | nil=>simp at h
 | cons x l ih =>
  cases i with
  | zero=>simp[bv]
  | succ i =>
   have hi:i<l.length:=by simpa using h
   have:=ih (i:=i) hi
   simp only[List.take_succ_cons,List.getElem_cons_succ]
   show x+256*bv (l.take (i+1))=x+256*bv (l.take i)+256 ^ (i+1)*l[i]
   rw[this,Nat.pow_succ,Nat.mul_add,←Nat.mul_assoc,Nat.mul_comm 256 (256 ^ i)]
   omega
theorem bok_take{l:List Nat}(h:BOk l)(k:Nat):BOk (l.take k):=fun x hx=>h x (List.mem_of_mem_take hx)
end Tr
namespace Tr
theorem setb_step{l:List Nat}{s i x:Nat}(hi:i / 4<l.length)(h:wv l=s)(hs:s<256 ^ i):wat l (i / 4)<256 ^ (i % 4)∧wv (l.set (i / 4) (wat l (i / 4)+x*256 ^ (i % 4)))=s+256 ^ i*x:=by
 have e:256 ^ i=4294967296 ^ (i / 4)*256 ^ (i % 4):=by
  rw[show(4294967296:Nat)=256 ^ 4 by decide,←Nat.pow_mul,←Nat.pow_add]; congr 1; omega
 have h1:=wv_split hi
 have h2:=wv_set_wat hi (wat l (i / 4)+x*256 ^ (i % 4))
 have hP:0<4294967296 ^ (i / 4):=Nat.pow_pos (by decide)
 constructor
 ·have h3:4294967296 ^ (i / 4)*wat l (i / 4)<4294967296 ^ (i / 4)*256 ^ (i % 4):=by
   rw[←e]
   refine Nat.lt_of_le_of_lt ?_ hs
   rw[←h,h1,wat_of hi,Nat.mul_add]
   omega
  exact Nat.lt_of_mul_lt_mul_left h3
 ·rw[Nat.mul_add,h] at h2
  have h4:4294967296 ^ (i / 4)*(x*256 ^ (i % 4))=256 ^ i*x:=by rw[e,Nat.mul_comm x,Nat.mul_assoc]
  omega
theorem leS_get(s:ByteArray)(k:Nat)(h:k<s.size):(leS s)[k]?=some (s[s.size - 1 - k].toNat):=by
 unfold leS
 rw[List.getElem?_map,List.getElem?_reverse (by simpa using h)]
 simp only[Option.map_eq_some_iff]
 refine⟨s[s.size - 1 - k],?_,rfl⟩
 have h2:s.size - 1 - k<s.data.toList.length:=by simp; omega
 have h3:s.data.toList.length - 1 - k=s.size - 1 - k:=by simp
 rw[h3,List.getElem?_eq_getElem h2]
 rfl
end Tr
namespace Go.Proofs.YthklnbaddobieaaGreat
open Go.RowKit Tr
def BSl(w:World)(v:Value)(s:ByteArray):Prop:=∃ b off cap,v=.slice (some ⟨b,off,none⟩) s.size cap∧b<w.heap.size∧Lib.Bytes w b off s
theorem bits_or_u32_nat(a b:Nat)(ha:a<4294967296)(hb:b<4294967296):bits .or .u32 (a:Int) (b:Int)=((a ||| b:Nat):Int):=by
 have hx:a ||| b<2 ^ 32:=Nat.or_lt_two_pow (by omega) (by omega)
 have h1:(BitVec.ofInt 32 (a:Int)).toNat=a:=by
  rw[BitVec.ofInt_natCast,BitVec.toNat_ofNat]; exact Nat.mod_eq_of_lt (by omega)
 have h2:(BitVec.ofInt 32 (b:Int)).toNat=b:=by
  rw[BitVec.ofInt_natCast,BitVec.toNat_ofNat]; exact Nat.mod_eq_of_lt (by omega)
 show IntKind.u32.wrap ((BitVec.ofInt 32 (a:Int) ||| BitVec.ofInt 32 (b:Int)).toNat:Int)=_
 rw[BitVec.toNat_or,h1,h2,IntKind.wrap_u32]
 omega
theorem or_u32{x y k:Nat}(hy:y<2 ^ k)(h:y+x*2 ^ k<4294967296):bits BinOp.or .u32 (y:Int) (IntKind.u32.wrap ((x:Int)*2 ^ k))=((y+x*2 ^ k:Nat):Int):=by
 have e:IntKind.u32.wrap ((x:Int)*2 ^ k)=((x*2 ^ k:Nat):Int):=by
  have:((x*2 ^ k:Nat):Int)=(x:Int)*2 ^ k:=by simp
  rw[←this]
  show((x*2 ^ k:Nat):Int) % 4294967296=_
  omega
 rw[e,bits_or_u32_nat _ _ (by omega) (by omega),Nat.or_comm,Nat.mul_comm,←Nat.two_pow_add_eq_or_of_lt hy,Nat.add_comm]
set_option maxRecDepth 100000 in
theorem setBytes_any(m o:Nat)(C:Array Value)(T:TypeId)(s:ByteArray)(n:Nat)(hn:s.size=n)(v:Value)(w:World)(hm:w.heap[m]?=some (.cells C T (0,0)))(ho:o+1<C.size)(hC:NoW (.cells C T (0,0)))(hv:BSl w v s)(hs:n<274877906944) :
  Calls Tryz.prog 148 #[.pointer (some ⟨m,o,none⟩),v] w fun e w'=>e=.returned (.pointer (some ⟨m,o,none⟩))∧Put m o C T (numS s:Nat) w w':=by
 obtain⟨b,off,cap,rfl,hb,hby⟩:=hv
 rw[hn]
 have hmlt:m<w.heap.size:=(Array.getElem?_eq_some_iff.1 hm).1
 have HM:=Lib.hid (And.intro hm hC)
 have HL:=Lib.hid (leS_length s)
 have HN:=Lib.hid hn
 have HB:=Lib.hid hby
 obtain⟨M,hM⟩:∃ M,(n+3) / 4=M:=⟨_,rfl⟩
 have e1:((n:Int)+3) / 4=(M:Int):=by omega
 have hmk:=run_mk M (by omega)
 have HMM:=Lib.hid hM
 clear hm hC hn hby hM
 go_enter Tryz.func148,Tryz.ntmps148
 go_wp2_with fail
 rw[e1]
 clear e1
 go_loopw [6,7,15] (fun _ _ i wr=>∃(k:Nat) (cur:List Nat),k≤n∧i=.int .i64 k∧Hid (cur.length=M)∧WOk cur∧Hid (wv cur=bv ((leS s).take k))∧Blk wr w.heap.size cur∧Below w.heap.size w wr) (fun _ _ i _=>n - (intOf i).toNat)
 case atStart=>exact⟨0,List.replicate M 0,Nat.zero_le _,rfl,Lib.hid (by simp),wok_replicate _,Lib.hid (by rw[wv_replicate]; simp[bv]),Blk.new _ _,br.alloc (Nat.le_refl _) _⟩
 case round =>
  obtain⟨k,cur,hk,rfl,hlc,oc,hinv,hblk,hB⟩:=hrel
  by_cases hlt:k<n
  ·obtain⟨kq,hkq⟩:∃ kq,kq=k / 4:=⟨_,rfl⟩
   obtain⟨kr,hkr⟩:∃ kr,kr=k % 4:=⟨_,rfl⟩
   have hkr4:kr<4:=by omega
   have hkM:kq<M:=by have:=HMM.out; omega
   have c0:=hblk.cell (i:=kq) (by have:=hlc.out; omega)
   have f0:=hblk.frozen kq
   obtain⟨kj,hkj⟩:∃ kj,kj=n - 1 - k:=⟨_,rfl⟩
   have hj:kj<s.size:=by have:=HN.out; omega
   have c1:=(hB.cell (p:=⟨b,off+kj,none⟩) hb).trans (HB.out kj hj)
   have hx:Hid ((leS s)[k]?=some s[kj].toNat):=Lib.hid (by have:=leS_get s k (by have:=HN.out; omega); simp only[HN.out,←hkj] at this; exact this)
   obtain⟨x,hxe⟩:∃ x,x=s[kj].toNat:=⟨_,rfl⟩
   have hx256:x<256:=by rw[hxe]; exact UInt8.toNat_lt _
   rw[←hxe] at hx c1
   clear hxe
   have hbv:=bv_lt (bok_take (bok_leS s) k)
   obtain⟨hd1,hd2⟩:=setb_step (x:=x) (i:=k) (by have:=hlc.out; omega) hinv.out (by rw[List.length_take] at hbv; have:=HL.out; have:=HN.out; rwa[Nat.min_eq_left (by omega)] at hbv)
   rw[←hkq,←hkr] at hd1 hd2
   obtain⟨y,hy⟩:∃ y,y=wat cur kq:=⟨_,rfl⟩
   rw[show cur[kq]?.getD 0=y from hy.symm] at c0
   rw[←hy] at hd1 hd2
   have q1:(k:Int).tdiv 4=(kq:Int):=by rw[Int.tdiv_eq_ediv_of_nonneg (by omega)]; omega
   have q2:(k:Int).tmod 4=(kr:Int):=by rw[Int.tmod_eq_emod_of_nonneg (by omega)]; omega
   have q1':(k:Int) / 4=(kq:Int):=by omega
   have q2':(k:Int) % 4=(kr:Int):=by omega
   have q3:(n:Int) - 1 - (k:Int)=(kj:Int):=by omega
   have q5:(kj:Int)<(n:Int):=by omega
   have q6:(kq:Int)<(M:Int):=by omega
   obtain⟨ks,hks⟩:∃ ks,ks=kr*8:=⟨_,rfl⟩
   have q7:(kr:Int)*8=(ks:Int):=by omega
   have q8:(8:Int)*(kr:Int)=(ks:Int):=by omega
   have q9:ks<32:=by omega
   have w1:IntKind.i64.wrap (kq:Int)=(kq:Int):=IntWalk.i64_in _ (by omega)
   have w2:IntKind.i64.wrap (kr:Int)=(kr:Int):=IntWalk.i64_in _ (by omega)
   have w3:IntKind.i64.wrap (ks:Int)=(ks:Int):=IntWalk.i64_in _ (by omega)
   have w4:IntKind.u32.wrap (x:Int)=(x:Int):=by rw[IntKind.wrap_u32]; omega
   have ep:2 ^ ks=256 ^ kr:=by rw[hks,Nat.mul_comm,Nat.pow_mul]
   obtain⟨z,hz⟩:∃ z,z=y+x*2 ^ ks:=⟨_,rfl⟩
   have hpk:2 ^ ks≤2 ^ 24:=Nat.pow_le_pow_right (by decide) (by omega)
   have hxk:x*2 ^ ks≤255*2 ^ 24:=Nat.mul_le_mul (by omega) hpk
   have hor:=or_u32 (x:=x) (y:=y) (k:=ks) (by rw[ep]; exact hd1) (by rw[←ep] at hd1; omega)
   rw[←hz] at hor
   have hz32:z<4294967296:=by rw[←ep] at hd1; omega
   have hd2:wv (cur.set kq z)=bv ((leS s).take k)+256 ^ k*x:=by rw[hz,ep]; exact hd2
   have hbv2:=bv_take_succ (l:=leS s) (i:=k) (by have:=HL.out; have:=HN.out; omega)
   have hxg:(leS s)[k]'(by have:=HL.out; have:=HN.out; omega)=x:=by
    have h5:=hx.out
    rw[List.getElem?_eq_getElem (by have:=HL.out; have:=HN.out; omega)] at h5
    simpa using h5
   rw[hxg,←hd2] at hbv2
   have HV:=Lib.hid hbv2.symm
   have HKS:=Lib.hid hks
   clear hks
   have HK:=Lib.hid (And.intro hkq hkr)
   clear hd1 hd2 hbv hy hj hkq hkr hkj hz ep hpk hxk hbv2 hxg
   go_wp2_with fail
   refine wp_region_tail 16 (by kernel_rfl) (by kernel_rfl) ?_
   simp only[List.take_succ_cons,List.take_zero,List.drop_succ_cons,List.drop_zero]
   repeat still_step
   refine wpStill_nil ?_
   go_wp2_with fail
   go_roundw
   case rel=>exact⟨k+1,cur.set kq z,by omega,by go_num,Lib.hid (by have:=hlc.out; simpa using this),wok_set oc _ _ hz32,HV,hblk.set _ _,hB.drew.setCell (p:=⟨w.heap.size,kq,none⟩) (Nat.le_refl _) _⟩
   case measure=>simp[intOf]; omega
  ·obtain rfl:n=k:=by omega
   have hfin:wv cur=numS s:=by rw[hinv.out,List.take_of_length_le (by have:=HL.out; have:=HN.out; omega)]; rfl
   have hW:=hblk.all
   rw[hlc.out] at hW
   have his:=is_put m o C T false cur _ wr (numS s:Nat) ((hB.block m hmlt).trans HM.out.1) ho HM.out.2 oc hW (by have:=hlc.out; have:=HMM.out; omega) (by rw[hfin]; rfl) (by simp)
   have HI:=Lib.hid his
   clear his hfin hW
   go_wp2_with (go_at_call 150; refine HI.out.mono ?_; rintro e w' ⟨rfl,hp⟩)
   go_ret
   exact⟨rfl,hp.below hB⟩
end Go.Proofs.YthklnbaddobieaaGreat
