/- Laws for the walk. -/
import Derived.Test.YthklnbaddobieaaGreatVar
set_option linter.unusedVariables false
set_option maxHeartbeats 4000000
namespace Tr
def RL(q:Rat)(k:Nat):Prop:=(words q.num.natAbs).length≤k∧(words q.den).length≤k
theorem RL.mono{q:Rat}{k l:Nat}(h:RL q k)(hl:k≤l):RL q l:=⟨Nat.le_trans h.1 hl,Nat.le_trans h.2 hl⟩
theorem wl_mul{a b k l:Nat}(ha:(words a).length≤k)(hb:(words b).length≤l):(words (a*b)).length≤k+l:=by
 refine words_length_le ?_
 have h1:=Nat.lt_of_lt_of_le (lt_words a) (Nat.pow_le_pow_right (by decide) ha)
 have h2:=Nat.lt_of_lt_of_le (lt_words b) (Nat.pow_le_pow_right (by decide) hb)
 rw[Nat.pow_add]
 exact Nat.mul_lt_mul'' h1 h2
theorem wl_add{a b k:Nat}(ha:(words a).length≤k)(hb:(words b).length≤k):(words (a+b)).length≤k+1:=by
 refine words_length_le ?_
 have h1:=Nat.lt_of_lt_of_le (lt_words a) (Nat.pow_le_pow_right (by decide) ha)
 have h2:=Nat.lt_of_lt_of_le (lt_words b) (Nat.pow_le_pow_right (by decide) hb)
 rw[Nat.pow_succ]
 omega
theorem wl_mono{a b k:Nat}(h:a≤b)(hb:(words b).length≤k):(words a).length≤k:=Nat.le_trans (words_length_le (Nat.lt_of_le_of_lt h (lt_words b))) hb
theorem RL_divInt{a b:Int}(hb:b≠0){k:Nat}(h1:(words a.natAbs).length≤k)(h2:(words b.natAbs).length≤k):RL (Rat.divInt a b) k:=by
 have:=Go.Proofs.YthklnbaddobieaaGreat.divInt_parts (a:=a) hb _ rfl
 refine⟨wl_mono ?_ h1,wl_mono ?_ h2⟩
 ·rw[this.1,Int.natAbs_tdiv]; exact Nat.div_le_self _ _
 ·have h3:(Rat.divInt a b).den=(b.tdiv (if b<0 then -((a.natAbs.gcd b.natAbs:Nat):Int) else((a.natAbs.gcd b.natAbs:Nat):Int))).natAbs:=by rw[←this.2]; simp
  rw[h3,Int.natAbs_tdiv]; exact Nat.div_le_self _ _
theorem den_ne{q:Rat}:(q.den:Int)≠0:=by have:=q.den_nz; omega
theorem mul_divInt(x y:Rat):Rat.divInt (x.num*y.num) ((x.den:Int)*(y.den:Int))=x*y:=by
 rw[←Rat.divInt_mul_divInt,Rat.num_divInt_den,Rat.num_divInt_den]
theorem RL_mul{x y:Rat}{k l:Nat}(hx:RL x k)(hy:RL y l):RL (x*y) (k+l):=by
 rw[←mul_divInt]
 refine RL_divInt (Int.mul_ne_zero den_ne den_ne) ?_ ?_
 ·rw[Int.natAbs_mul]; exact wl_mul hx.1 hy.1
 ·rw[Int.natAbs_mul]; exact wl_mul (by simpa using hx.2) (by simpa using hy.2)
theorem add_divInt(x y:Rat):Rat.divInt (x.num*(y.den:Int)+y.num*(x.den:Int)) ((x.den:Int)*(y.den:Int))=x+y:=by
 rw[←Rat.divInt_add_divInt _ _ den_ne den_ne,Rat.num_divInt_den,Rat.num_divInt_den]
theorem sub_divInt(x y:Rat):Rat.divInt (x.num*(y.den:Int) - y.num*(x.den:Int)) ((x.den:Int)*(y.den:Int))=x - y:=by
 rw[Int.sub_eq_add_neg,←Int.neg_mul,←Rat.divInt_add_divInt _ _ den_ne den_ne,Rat.num_divInt_den,←Rat.neg_divInt,Rat.num_divInt_den,Rat.sub_eq_add_neg]
theorem RL_add{x y:Rat}{k l:Nat}(hx:RL x k)(hy:RL y l):RL (x+y) (k+l+1):=by
 rw[←add_divInt]
 refine RL_divInt (Int.mul_ne_zero den_ne den_ne) ?_ ?_
 ·refine wl_mono (Int.natAbs_add_le _ _) (wl_add ?_ ?_)
  ·rw[Int.natAbs_mul]; exact wl_mul hx.1 (by simpa using hy.2)
  ·rw[Int.natAbs_mul,Nat.add_comm]; exact wl_mul hy.1 (by simpa using hx.2)
 ·rw[Int.natAbs_mul]; exact Nat.le_trans (wl_mul (by simpa using hx.2) (by simpa using hy.2)) (by omega)
theorem RL_neg{x:Rat}{k:Nat}(h:RL x k):RL (-x) k:=⟨by rw[Rat.neg_num,Int.natAbs_neg]; exact h.1,by rw[Rat.neg_den]; exact h.2⟩
theorem RL_sub{x y:Rat}{k l:Nat}(hx:RL x k)(hy:RL y l):RL (x - y) (k+l+1):=by rw[Rat.sub_eq_add_neg]; exact RL_add hx (RL_neg hy)
end Tr
namespace Go.Proofs.YthklnbaddobieaaGreat
open Go.RowKit Tr
theorem PutR.ratP{m:Nat}{q:Rat}{w w':World}(h:PutR m q w w'){A:Nat→Prop}(hA:Rcv A w):RatP q (.pointer (some ⟨m,0,none⟩)) w' (fun b=>A b∧b≠m):=by
 obtain⟨h1,s1,s2,h2,h3,h4⟩:=h
 have hlt:=(Array.getElem?_eq_some_iff.1 h2).1
 have hA':Rcv (fun b=>A b∧b≠m) w':=fun b hb=>by
  obtain⟨zz,k1,k2⟩:=hA b hb.1
  exact⟨zz,(h1.block b (Array.getElem?_eq_some_iff.1 k1).1 hb.2).trans k1,k2⟩
 refine⟨m,rfl,⟨m,0,s1,rfl,hlt,fun h=>h.2 rfl,by simp[World.cell?,h2],by simp[World.cell?,h2],h3.avoids hA'⟩,.inl ⟨m,2,s2,rfl,hlt,fun h=>h.2 rfl,?_,by simp[World.cell?,h2],?_⟩⟩
 ·have:decide ((q.den:Int)<0)=false:=by simp
  rw[this]; simp[World.cell?,h2]
 ·exact WSl.avoids h4 hA'
theorem PutR.below{m:Nat}{q:Rat}{w w1 w':World}(h:PutR m q w1 w')(hb:Below w.heap.size w w1):PutR m q w w':=⟨(Mod.of_below hb).trans h.1,h.2⟩
set_option maxRecDepth 100000 in
theorem den_any(q:Rat)(vx:Value)(A:Nat→Prop)(w:World)(hx:RatP q vx w A)(hA:Rcv A w) :
  Calls Tryz.prog 84 #[vx] w fun e w'=>∃ v,e=.returned v∧Below w.heap.size w w'∧IntP q.den v w' A:=by
 obtain⟨b,rfl,_,hd⟩:=hx
 rcases hd with hd|⟨h0,hd⟩
 ·obtain⟨p,n,c,h1,h2,h3,h4⟩:=hd.cells
  have hn:n=(words q.den).length:=by obtain⟨p',c',e,_⟩:=h4; cases e; simp
  have hpos:((n:Int) == 0)=false:=by
   have:(words q.den)≠[]:=fun h=>q.den_nz (words_eq_nil.1 h)
   have:=List.length_pos_iff.2 this
   simp; omega
  have HD:=Lib.hid hd
  clear hd h2 h4 hn
  go_enter Tryz.func84,Tryz.ntmps84
  go_wp2
  go_ret
  exact⟨_,rfl,Below.refl _ _,HD.out⟩
 ·obtain⟨p,n,c,h1,h2,h3,h4⟩:=hd.cells
  have hn:n=0:=by obtain⟨p',c',e,_⟩:=h4; cases e; simp[words_zero]
  subst hn
  have hN:=fun w=>newInt_any 1 (by decide) (by decide) w
  have HN:=Lib.hid hN
  have HQ:=Lib.hid h0
  clear hN hd h2 h4 h0
  go_enter Tryz.func84,Tryz.ntmps84
  go_wp2_with (go_at_call 90; refine(HN.out _).mono ?_; rintro e w' ⟨v,rfl,hb,hi⟩)
  go_ret
  refine⟨v,rfl,hb,?_⟩
  rw[HQ.out]
  exact hi A hA
set_option maxRecDepth 100000 in
theorem Num_any(q:Rat)(vx:Value)(A:Nat→Prop)(w:World)(hx:RatP q vx w A)(hl:RL q 137438953472) :
  Calls Tryz.prog 119 #[vx] w fun e w'=>∃ v,e=.returned v∧NewI q.num v w w':=by
 obtain⟨b,rfl,hn,_⟩:=hx
 have hb:Below w.heap.size w (w.alloc (.cells #[.bool false,.slice none 0 0] 131)):=br.alloc (Nat.le_refl _) _
 have hS:=set_any w.heap.size 0 _ _ q.num _ A _ (heap_alloc_new w (.cells #[.bool false,.slice none 0 0] 131)) (by decide) noW_zInt (hn.below hb) (by have:=hl.1; omega)
 have HS:=Lib.hid hS
 clear hS hn
 go_enter Tryz.func119,Tryz.ntmps119
 go_wp2_with (go_at_call 149; refine HS.out.mono ?_; rintro e w' ⟨rfl,hp⟩)
 go_ret
 exact⟨_,rfl,hp.new (by decide)⟩
set_option maxRecDepth 100000 in
theorem Denom_any(q:Rat)(vx:Value)(A:Nat→Prop)(w:World)(hx:RatP q vx w A)(hl:RL q 137438953472) :
  Calls Tryz.prog 120 #[vx] w fun e w'=>∃ v,e=.returned v∧NewI q.den v w w':=by
 have hx:=hx.noA
 have hb:Below w.heap.size w (w.alloc (.cells #[.bool false,.slice none 0 0] 131)):=br.alloc (Nat.le_refl _) _
 have hD:=den_any q vx NoA _ (hx.below hb) (rcv_noA _)
 have HD:=Lib.hid hD
 have hlen:(words (q.den:Int).natAbs).length<274877906944:=by have:=hl.2; simp; omega
 clear hD hx
 go_enter Tryz.func120,Tryz.ntmps120
 go_wp2_with fail
 refine HD.out.mono ?_
 rintro e w1 ⟨v,rfl,hb1,hi⟩
 have hm:w1.heap[w.heap.size]?=some (.cells #[.bool false,.slice none 0 0] 131 (0,0)):=(hb1.block _ (by simp)).trans (heap_alloc_new w _)
 have hS:=set_any w.heap.size 0 _ _ q.den v NoA w1 hm (by decide) noW_zInt hi hlen
 have HS:=Lib.hid hS
 clear hS hm
 go_wp2_with (go_at_call 149; refine HS.out.mono ?_; rintro e w' ⟨rfl,hp⟩)
 go_ret
 exact⟨_,rfl,(hp.below hb1).new (by decide)⟩
set_option maxRecDepth 100000 in
theorem RSign_any(q:Rat)(vx:Value)(A:Nat→Prop)(w:World)(hx:RatP q vx w A) :
  Calls Tryz.prog 82 #[vx] w fun e w'=>e=.returned (.int .i64 q.num.sign)∧w=w':=by
 obtain⟨b,rfl,hn,_⟩:=hx
 have HS:=Lib.hid (Sign_any q.num _ A w hn)
 clear hn
 go_enter Tryz.func82,Tryz.ntmps82
 go_wp2_with (go_at_call 92; refine HS.out.mono ?_; rintro e w' ⟨rfl,rfl⟩)
 go_ret
 exact⟨rfl,rfl⟩
end Go.Proofs.YthklnbaddobieaaGreat
namespace Go.Proofs.YthklnbaddobieaaGreat
open Go.RowKit Tr
theorem later{R:Fact}(hk:R.Keeps){v:Value}{w w1:World}{A1:Nat→Prop}(h:R v w NoA)(h1:Below w.drew.heap.size w.drew w1)(hN:∀ b,A1 b→w.drew.heap.size≤b):R v w1 A1 :=
 hk v w w1 NoA A1 h1.size (fun b hb _=>⟨h1.block b hb,fun hA=>absurd (hN b hA) (Nat.not_le.2 hb)⟩) h
theorem IntP.shape{z:Int}{v:Value}{w:World}{A:Nat→Prop}(h:IntP z v w A):∃ b o,v=.pointer (some ⟨b,o,none⟩):=by obtain⟨b,o,_,e,_⟩:=h; exact⟨b,o,e⟩
theorem RatP.shape{q:Rat}{v:Value}{w:World}{A:Nat→Prop}(h:RatP q v w A):∃ b,v=.pointer (some ⟨b,0,none⟩):=by obtain⟨b,e,_⟩:=h; exact⟨b,e⟩
abbrev zI:Obj:=.cells #[.bool false,.slice none 0 0] 131 (0,0)
set_option maxRecDepth 100000 in
theorem RMul_any(m:Nat)(C:Array Value)(x y:Rat)(vx vy:Value)(A:Nat→Prop)(w:World)(hm:w.heap[m]?=some (.cells C 133 (0,0)))(hC4:C.size=4)(hC:NoW (.cells C 133 (0,0)))(hx:RatP x vx w A)(hy:RatP y vy w A)(k l:Nat)(hlx:RL x k)(hly:RL y l)(hkl:k+l<137438953472) :
  Calls Tryz.prog 230 #[.pointer (some ⟨m,0,none⟩),vx,vy] w fun e w'=>e=.returned (.pointer (some ⟨m,0,none⟩))∧PutR m (x*y) w w':=by
 have hx:=hx.noA
 have hy:=hy.noA
 obtain⟨b,rfl⟩:=hx.shape
 obtain⟨b2,rfl⟩:=hy.shape
 have hmlt:m<w.heap.size:=(Array.getElem?_eq_some_iff.1 hm).1
 obtain⟨_,eb,hxn,_⟩:=id hx
 cases eb
 obtain⟨_,eb,hyn,_⟩:=id hy
 cases eb
 have HM:=Lib.hid (And.intro hm hC)
 clear hm hC
 go_enter Tryz.func230,Tryz.ntmps230
 go_wp2_with fail
 refine wp_region_inv [(.lit,[]),(.new zI,[]),(.lit,[]),(.lit,[]),(.lit,[]),(.lit,[]),(.lit,[]),(.lit,[]),(.on 1 zI,[]),(.new zI,[]),(.lit,[]),(.val,[]),(.lit,[]),(.val,[]),(.on 9 zI,[11,13])]
  (pickF [(8,IntP (x.num*y.num)),(11,IntP x.den),(13,IntP y.den),(14,IntP ((x.den:Int)*(y.den:Int)))]) (by kernel_rfl) ?_ ?_ (by simp[noW_zInt]) (by simp) (by kernel_rfl)
 ·exact keeps_pick (by simp[IntP.keeps])
 ·refine⟨_,fun f w1 h1=>by go_simp; rfl,?_⟩
  refine⟨fun f w1=>by go_simp,?_⟩
  repeat (refine⟨_,fun f w1 h1=>by go_simp; rfl,?_⟩)
  simp only[Act.put,nrA,nrB,nrC,Nat.reduceAdd]
  refine⟨fun f w1 A1 m1 h1 hA hN hAm hm0 e hz hd K hK=>by
   simp only[e] at hK ⊢
   go_simp
   refine(mul_any m1 0 _ _ x.num y.num _ _ A1 w1 hz (by decide) noW_zInt (later (IntP.keeps _) hxn h1 hN) (later (IntP.keeps _) hyn h1 hN) (by have:=hlx.1; omega) (by have:=hly.1; omega)).mono ?_
   rintro e w' ⟨rfl,hp⟩
   exact hK _ w' hp.1 (hp.intP (by decide) hA),?_⟩
  refine⟨fun f w1=>by go_simp,?_⟩
  refine⟨_,fun f w1 h1=>by go_simp; rfl,?_⟩
  simp only[Act.put,nrA,nrB,nrC,Nat.reduceAdd]
  refine⟨fun f w1 A1 h1 hA hN hd K hK=>by
   go_simp
   refine(den_any x _ A1 w1 (later (RatP.keeps _) hx h1 hN) hA).mono ?_
   rintro e w' ⟨v,rfl,hb,hi⟩
   exact hK _ _ hb hi,?_⟩
  refine⟨_,fun f w1 h1=>by go_simp; rfl,?_⟩
  simp only[Act.put,nrA,nrB,nrC,Nat.reduceAdd]
  refine⟨fun f w1 A1 h1 hA hN hd K hK=>by
   go_simp
   refine(den_any y _ A1 w1 (later (RatP.keeps _) hy h1 hN) hA).mono ?_
   rintro e w' ⟨v,rfl,hb,hi⟩
   exact hK _ _ hb hi,?_⟩
  simp only[Act.put,nrA,nrB,nrC,Nat.reduceAdd]
  refine⟨fun f w1 A1 m1 h1 hA hN hAm hm0 e hz hd K hK=>by
   simp only[e] at hK ⊢
   have i1:IntP x.den (f 11) w1 A1:=hd 11 (by simp)
   have i2:IntP y.den (f 13) w1 A1:=hd 13 (by simp)
   go_simp
   refine(mul_any m1 0 _ _ x.den y.den _ _ A1 w1 hz (by decide) noW_zInt i1 i2 (by have:=hlx.2; simp; omega) (by have:=hly.2; simp; omega)).mono ?_
   rintro e w' ⟨rfl,hp⟩
   exact hK _ w' hp.1 (hp.intP (by decide) hA),?_⟩
  intro f w1 h1 hF
  have i1:IntP (x.num*y.num) (f 8) w1 NoA:=hF.1.1.1.2
  have i2:IntP ((x.den:Int)*(y.den:Int)) (f 14) w1 NoA:=hF.2
  clear hF
  simp only[Act.put,nrA,nrB,nrC]
  generalize f 8=v8 at *
  generalize f 14=v14 at *
  have hbw:Below w.heap.size w w1:=br.drew.trans h1
  have hS:=SetFrac_any m C _ _ (Int.mul_ne_zero den_ne den_ne) _ _ NoA w1 ((h1.block m hmlt).trans HM.out.1) hC4 HM.out.2 i1 i2 (by rw[Int.natAbs_mul]; have:=wl_mul hlx.1 hly.1; omega) (by rw[Int.natAbs_mul]; have:=wl_mul (a:=(x.den:Int).natAbs) (b:=(y.den:Int).natAbs) (by simpa using hlx.2) (by simpa using hly.2); omega)
  rw[mul_divInt] at hS
  have HS:=Lib.hid hS
  clear hS i1 i2 hx hy hxn hyn
  go_wp2_with (go_at_call 80; refine HS.out.mono ?_; rintro e w' ⟨rfl,hp⟩)
  go_ret
  exact⟨rfl,hp.below hbw⟩
end Go.Proofs.YthklnbaddobieaaGreat
namespace Go.Proofs.YthklnbaddobieaaGreat
open Go.RowKit Tr
def IntB(base:Nat)(z:Int):Fact:=fun v w A=>∃ m sl,v=.pointer (some ⟨m,0,none⟩)∧base≤m∧¬A m∧w.heap[m]?=some (.cells #[.bool (decide (z<0)),sl] 131 (0,0))∧WSlA A w sl (words z.natAbs)
theorem IntB.keeps(base:Nat)(z:Int):(IntB base z).Keeps:=by
 intro v w w' A A' hs hk ⟨m,sl,h1,h2,h3,h4,h5⟩
 obtain⟨k1,k2⟩:=hk m (Array.getElem?_eq_some_iff.1 h4).1 h3
 exact⟨m,sl,h1,h2,k2,k1.trans h4,h5.keep hs hk⟩
theorem Put.intB{m base:Nat}{b s:Value}{z:Int}{w w':World}(h:Put m 0 #[b,s] 131 z w w')(hm:base≤m){A:Nat→Prop}(hA:Rcv A w):IntB base z (.pointer (some ⟨m,0,none⟩)) w' (fun b=>A b∧b≠m):=by
 have h0:=h.intP (by simp) hA
 obtain⟨h1,sl,h2,h3⟩:=h
 refine⟨m,sl,rfl,hm,fun h=>h.2 rfl,h2,h3.avoids fun b hb=>?_⟩
 obtain⟨zz,k1,k2⟩:=hA b hb.1
 exact⟨zz,(h1.block b (Array.getElem?_eq_some_iff.1 k1).1 hb.2).trans k1,k2⟩
theorem IntB.parts{base:Nat}{z:Int}{v:Value}{w:World}{A:Nat→Prop}(h:IntB base z v w A):∃ m C,v=.pointer (some ⟨m,0,none⟩)∧base≤m∧w.heap[m]?=some (.cells C 131 (0,0))∧C.size=2∧NoW (.cells C 131 (0,0))∧IntP z (.pointer (some ⟨m,0,none⟩)) w A:=by
 obtain⟨m,sl,h1,h2,h3,h4,h5⟩:=h
 refine⟨m,_,h1,h2,h4,rfl,?_,m,0,sl,rfl,(Array.getElem?_eq_some_iff.1 h4).1,h3,by simp[World.cell?,h4],by simp[World.cell?,h4],h5⟩
 obtain⟨p,c,rfl,_⟩:=h5
 intro cs T fr e i k x
 cases e
 rcases i with _|_|i<;>simp
theorem natAbs_sub_le(a b:Int):(a - b).natAbs≤a.natAbs+b.natAbs:=by omega
set_option maxRecDepth 100000 in
theorem RAdd_any(m:Nat)(C:Array Value)(x y:Rat)(vx vy:Value)(A:Nat→Prop)(w:World)(hm:w.heap[m]?=some (.cells C 133 (0,0)))(hC4:C.size=4)(hC:NoW (.cells C 133 (0,0)))(hx:RatP x vx w A)(hy:RatP y vy w A)(k l:Nat)(hlx:RL x k)(hly:RL y l)(hkl:k+l<137438953472) :
  Calls Tryz.prog 229 #[.pointer (some ⟨m,0,none⟩),vx,vy] w fun e w'=>e=.returned (.pointer (some ⟨m,0,none⟩))∧PutR m (x+y) w w':=by
 have hx:=hx.noA
 have hy:=hy.noA
 obtain⟨b,rfl⟩:=hx.shape
 obtain⟨b2,rfl⟩:=hy.shape
 have hmlt:m<w.heap.size:=(Array.getElem?_eq_some_iff.1 hm).1
 obtain⟨_,eb,hxn,_⟩:=id hx
 cases eb
 obtain⟨_,eb,hyn,_⟩:=id hy
 cases eb
 have HM:=Lib.hid (And.intro hm hC)
 clear hm hC
 go_enter Tryz.func229,Tryz.ntmps229
 go_wp2_with fail
 refine wp_region_inv [(.new zI,[]),(.lit,[]),(.lit,[]),(.lit,[]),(.lit,[]),(.val,[]),(.on 0 zI,[5])]
  (pickF [(5,IntP y.den),(6,IntB w.heap.size (x.num*(y.den:Int)))]) (by kernel_rfl) ?_ ?_ (by simp[noW_zInt]) (by simp) (by kernel_rfl)
 ·exact keeps_pick (by simp[IntP.keeps,IntB.keeps])
 ·refine⟨fun f w1=>by go_simp,?_⟩
  repeat (refine⟨_,fun f w1 h1=>by go_simp; rfl,?_⟩)
  simp only[Act.put,nrA,nrB,nrC,Nat.reduceAdd]
  refine⟨fun f w1 A1 h1 hA hN hd K hK=>by
   go_simp
   refine(den_any y _ A1 w1 (later (RatP.keeps _) hy h1 hN) hA).mono ?_
   rintro e w' ⟨v,rfl,hb,hi⟩
   exact hK _ _ hb hi,?_⟩
  simp only[Act.put,nrA,nrB,nrC,Nat.reduceAdd]
  refine⟨fun f w1 A1 m1 h1 hA hN hAm hm0 e hz hd K hK=>by
   simp only[e] at hK ⊢
   have i1:IntP y.den (f 5) w1 A1:=hd 5 (by simp)
   go_simp
   refine(mul_any m1 0 _ _ x.num y.den _ _ A1 w1 hz (by decide) noW_zInt (later (IntP.keeps _) hxn h1 hN) i1 (by have:=hlx.1; omega) (by have:=hly.2; simp; omega)).mono ?_
   rintro e w' ⟨rfl,hp⟩
   exact hK _ w' hp.1 (hp.intB hm0 hA),?_⟩
  intro f w1 h1 hF
  have i1:IntB w.heap.size (x.num*(y.den:Int)) (f 6) w1 NoA:=hF.2
  clear hF
  simp only[Act.put,nrA,nrB,nrC]
  obtain⟨mn,Cn,e6,hmn,hbn,hCn,hnn,hin⟩:=i1.parts
  rw[e6]
  generalize f 5=v5
  have hbw:Below w.heap.size w w1:=br.drew.trans h1
  have hx1:=hx.below hbw
  have hyn1:=hyn.below hbw
  have HW:=Lib.hid (And.intro hbw (And.intro hbn (And.intro hnn (And.intro hx hy))))
  clear hxn hyn hx hy h1 hbw hbn hnn e6 i1
  go_wp2_with fail
  refine wp_region_inv [(.lit,[]),(.lit,[]),(.new zI,[]),(.lit,[]),(.lit,[]),(.lit,[]),(.lit,[]),(.val,[]),(.on 2 zI,[7])]
   (pickF [(7,IntP x.den),(8,IntP (y.num*(x.den:Int)))]) (by kernel_rfl) ?_ ?_ (by simp[noW_zInt]) (by simp) (by kernel_rfl)
  ·exact keeps_pick (by simp[IntP.keeps])
  ·refine⟨_,fun f w1 h1=>by go_simp; rfl,?_⟩
   refine⟨_,fun f w1 h1=>by go_simp; rfl,?_⟩
   refine⟨fun f w1=>by go_simp,?_⟩
   repeat (refine⟨_,fun f w1 h1=>by go_simp; rfl,?_⟩)
   simp only[Act.put,nrA,nrB,nrC,Nat.reduceAdd]
   refine⟨fun f w2 A1 h1 hA hN hd K hK=>by
    go_simp
    refine(den_any x _ A1 w2 (later (RatP.keeps _) hx1 h1 hN) hA).mono ?_
    rintro e w' ⟨v,rfl,hb,hi⟩
    exact hK _ _ hb hi,?_⟩
   simp only[Act.put,nrA,nrB,nrC,Nat.reduceAdd]
   refine⟨fun f w2 A1 m1 h1 hA hN hAm hm0 e hz hd K hK=>by
    simp only[e] at hK ⊢
    have i1:IntP x.den (f 7) w2 A1:=hd 7 (by simp)
    go_simp
    refine(mul_any m1 0 _ _ y.num x.den _ _ A1 w2 hz (by decide) noW_zInt (later (IntP.keeps _) hyn1 h1 hN) i1 (by have:=hly.1; omega) (by have:=hlx.2; simp; omega)).mono ?_
    rintro e w' ⟨rfl,hp⟩
    exact hK _ w' hp.1 (hp.intP (by decide) hA),?_⟩
   intro f w2 h2 hF
   have i2:IntP (y.num*(x.den:Int)) (f 8) w2 NoA:=hF.2
   clear hF
   simp only[Act.put,nrA,nrB,nrC]
   generalize f 7=v7
   generalize f 8=v8 at *
   have hbw2:Below w1.heap.size w1 w2:=br.drew.trans h2
   have l1:(words (x.num*(y.den:Int)).natAbs).length≤k+l:=by rw[Int.natAbs_mul]; exact wl_mul hlx.1 (by simpa using hly.2)
   have l2:(words (y.num*(x.den:Int)).natAbs).length≤k+l:=by rw[Int.natAbs_mul,Nat.add_comm]; exact wl_mul hly.1 (by simpa using hlx.2)
   have l4:(words ((x.num*(y.den:Int))+(y.num*(x.den:Int))).natAbs).length≤k+l+1:=wl_mono (Int.natAbs_add_le _ _) (wl_add l1 l2)
   have l5:(words ((x.den:Int)*(y.den:Int)).natAbs).length≤k+l:=by rw[Int.natAbs_mul]; exact wl_mul (by simpa using hlx.2) (by simpa using hly.2)
   have hmn1:mn<w1.heap.size:=(Array.getElem?_eq_some_iff.1 HW.out.2.1).1
   have hA:=Add_any mn 0 Cn _ _ _ _ v8 NoA w2 ((hbw2.block mn hmn1).trans HW.out.2.1) (by omega) HW.out.2.2.1 (hin.below hbw2) i2 (by omega) (by omega)
   have HA:=Lib.hid hA
   clear hA i2 hyn1 hx1
   go_wp2_with fail
   refine HA.out.mono ?_
   rintro e w3 ⟨rfl,hp3⟩
   have hb3:Below w.heap.size w w3:=HW.out.1.trans ((hbw2.mono HW.out.1.size).trans (hp3.1.below hmn (Nat.le_trans HW.out.1.size hbw2.size)))
   have in3:=(hp3.intP (by omega) (rcv_noA _)).noA
   -- the denominators' product,and the fraction
   let w4:=w3.alloc (.cells #[.bool false,.slice none 0 0] 131)
   have h34:Below w3.heap.size w3 w4:=br.alloc (Nat.le_refl _) _
   have hD1:=Lib.hid (den_any x _ NoA w4 ((HW.out.2.2.2.1.below hb3).below h34) (rcv_noA _))
   clear hin hbw2 h2 HA
   go_wp2_with fail
   refine hD1.out.mono ?_
   rintro e w5 ⟨vd,rfl,hb5,id5⟩
   have hb45:Below w3.heap.size w3 w5:=h34.trans (hb5.mono (by simp[w4]))
   have hD2:=Lib.hid (den_any y _ NoA w5 ((HW.out.2.2.2.2.below hb3).below hb45) (rcv_noA _))
   go_wp2_with fail
   refine hD2.out.mono ?_
   rintro e w6 ⟨ve,rfl,hb6,ie6⟩
   have hb36:Below w3.heap.size w3 w6:=hb45.trans (hb6.mono hb45.size)
   have hm6:w6.heap[w3.heap.size]?=some (.cells #[.bool false,.slice none 0 0] 131 (0,0)):=(hb6.block _ (by have:=hb5.size; simp[w4] at this; omega)).trans ((hb5.block _ (by simp[w4])).trans (heap_alloc_new w3 _))
   have hMu:=Lib.hid (mul_any w3.heap.size 0 _ _ x.den y.den _ _ NoA w6 hm6 (by decide) noW_zInt (id5.below hb6) ie6 (by have:=hlx.2; simp; omega) (by have:=hly.2; simp; omega))
   go_wp2_with fail
   refine hMu.out.mono ?_
   rintro e w7 ⟨rfl,hp7⟩
   have ip7:=(hp7.intP (by decide) (rcv_noA _)).noA
   have hb37:Below w3.heap.size w3 w7:=hb36.trans (hp7.1.below (Nat.le_refl _) hb36.size)
   have hbw7:Below w.heap.size w w7:=hb3.trans (hb37.mono hb3.size)
   have hS:=SetFrac_any m C _ _ (Int.mul_ne_zero den_ne den_ne) _ _ NoA w7 ((hbw7.block m hmlt).trans HM.out.1) hC4 HM.out.2 (in3.below hb37) ip7 (by omega) (by omega)
   rw[add_divInt] at hS
   have HS:=Lib.hid hS
   clear hS ip7 in3 hm6 id5 ie6 hMu hD1 hD2
   go_wp2_with (go_at_call 80; refine HS.out.mono ?_; rintro e w' ⟨rfl,hp⟩)
   go_ret
   exact⟨rfl,hp.below hbw7⟩
set_option maxRecDepth 100000 in
theorem RSub_any(m:Nat)(C:Array Value)(x y:Rat)(vx vy:Value)(A:Nat→Prop)(w:World)(hm:w.heap[m]?=some (.cells C 133 (0,0)))(hC4:C.size=4)(hC:NoW (.cells C 133 (0,0)))(hx:RatP x vx w A)(hy:RatP y vy w A)(k l:Nat)(hlx:RL x k)(hly:RL y l)(hkl:k+l<137438953472) :
  Calls Tryz.prog 167 #[.pointer (some ⟨m,0,none⟩),vx,vy] w fun e w'=>e=.returned (.pointer (some ⟨m,0,none⟩))∧PutR m (x - y) w w':=by
 have hx:=hx.noA
 have hy:=hy.noA
 obtain⟨b,rfl⟩:=hx.shape
 obtain⟨b2,rfl⟩:=hy.shape
 have hmlt:m<w.heap.size:=(Array.getElem?_eq_some_iff.1 hm).1
 obtain⟨_,eb,hxn,_⟩:=id hx
 cases eb
 obtain⟨_,eb,hyn,_⟩:=id hy
 cases eb
 have HM:=Lib.hid (And.intro hm hC)
 clear hm hC
 go_enter Tryz.func167,Tryz.ntmps167
 go_wp2_with fail
 refine wp_region_inv [(.new zI,[]),(.lit,[]),(.lit,[]),(.lit,[]),(.lit,[]),(.val,[]),(.on 0 zI,[5])]
  (pickF [(5,IntP y.den),(6,IntB w.heap.size (x.num*(y.den:Int)))]) (by kernel_rfl) ?_ ?_ (by simp[noW_zInt]) (by simp) (by kernel_rfl)
 ·exact keeps_pick (by simp[IntP.keeps,IntB.keeps])
 ·refine⟨fun f w1=>by go_simp,?_⟩
  repeat (refine⟨_,fun f w1 h1=>by go_simp; rfl,?_⟩)
  simp only[Act.put,nrA,nrB,nrC,Nat.reduceAdd]
  refine⟨fun f w1 A1 h1 hA hN hd K hK=>by
   go_simp
   refine(den_any y _ A1 w1 (later (RatP.keeps _) hy h1 hN) hA).mono ?_
   rintro e w' ⟨v,rfl,hb,hi⟩
   exact hK _ _ hb hi,?_⟩
  simp only[Act.put,nrA,nrB,nrC,Nat.reduceAdd]
  refine⟨fun f w1 A1 m1 h1 hA hN hAm hm0 e hz hd K hK=>by
   simp only[e] at hK ⊢
   have i1:IntP y.den (f 5) w1 A1:=hd 5 (by simp)
   go_simp
   refine(mul_any m1 0 _ _ x.num y.den _ _ A1 w1 hz (by decide) noW_zInt (later (IntP.keeps _) hxn h1 hN) i1 (by have:=hlx.1; omega) (by have:=hly.2; simp; omega)).mono ?_
   rintro e w' ⟨rfl,hp⟩
   exact hK _ w' hp.1 (hp.intB hm0 hA),?_⟩
  intro f w1 h1 hF
  have i1:IntB w.heap.size (x.num*(y.den:Int)) (f 6) w1 NoA:=hF.2
  clear hF
  simp only[Act.put,nrA,nrB,nrC]
  obtain⟨mn,Cn,e6,hmn,hbn,hCn,hnn,hin⟩:=i1.parts
  rw[e6]
  generalize f 5=v5
  have hbw:Below w.heap.size w w1:=br.drew.trans h1
  have hx1:=hx.below hbw
  have hyn1:=hyn.below hbw
  have HW:=Lib.hid (And.intro hbw (And.intro hbn (And.intro hnn (And.intro hx hy))))
  clear hxn hyn hx hy h1 hbw hbn hnn e6 i1
  go_wp2_with fail
  refine wp_region_inv [(.lit,[]),(.lit,[]),(.new zI,[]),(.lit,[]),(.lit,[]),(.lit,[]),(.lit,[]),(.val,[]),(.on 2 zI,[7])]
   (pickF [(7,IntP x.den),(8,IntP (y.num*(x.den:Int)))]) (by kernel_rfl) ?_ ?_ (by simp[noW_zInt]) (by simp) (by kernel_rfl)
  ·exact keeps_pick (by simp[IntP.keeps])
  ·refine⟨_,fun f w1 h1=>by go_simp; rfl,?_⟩
   refine⟨_,fun f w1 h1=>by go_simp; rfl,?_⟩
   refine⟨fun f w1=>by go_simp,?_⟩
   repeat (refine⟨_,fun f w1 h1=>by go_simp; rfl,?_⟩)
   simp only[Act.put,nrA,nrB,nrC,Nat.reduceAdd]
   refine⟨fun f w2 A1 h1 hA hN hd K hK=>by
    go_simp
    refine(den_any x _ A1 w2 (later (RatP.keeps _) hx1 h1 hN) hA).mono ?_
    rintro e w' ⟨v,rfl,hb,hi⟩
    exact hK _ _ hb hi,?_⟩
   simp only[Act.put,nrA,nrB,nrC,Nat.reduceAdd]
   refine⟨fun f w2 A1 m1 h1 hA hN hAm hm0 e hz hd K hK=>by
    simp only[e] at hK ⊢
    have i1:IntP x.den (f 7) w2 A1:=hd 7 (by simp)
    go_simp
    refine(mul_any m1 0 _ _ y.num x.den _ _ A1 w2 hz (by decide) noW_zInt (later (IntP.keeps _) hyn1 h1 hN) i1 (by have:=hly.1; omega) (by have:=hlx.2; simp; omega)).mono ?_
    rintro e w' ⟨rfl,hp⟩
    exact hK _ w' hp.1 (hp.intP (by decide) hA),?_⟩
   intro f w2 h2 hF
   have i2:IntP (y.num*(x.den:Int)) (f 8) w2 NoA:=hF.2
   clear hF
   simp only[Act.put,nrA,nrB,nrC]
   generalize f 7=v7
   generalize f 8=v8 at *
   have hbw2:Below w1.heap.size w1 w2:=br.drew.trans h2
   have l1:(words (x.num*(y.den:Int)).natAbs).length≤k+l:=by rw[Int.natAbs_mul]; exact wl_mul hlx.1 (by simpa using hly.2)
   have l2:(words (y.num*(x.den:Int)).natAbs).length≤k+l:=by rw[Int.natAbs_mul,Nat.add_comm]; exact wl_mul hly.1 (by simpa using hlx.2)
   have l4:(words ((x.num*(y.den:Int)) - (y.num*(x.den:Int))).natAbs).length≤k+l+1:=wl_mono (natAbs_sub_le _ _) (wl_add l1 l2)
   have l5:(words ((x.den:Int)*(y.den:Int)).natAbs).length≤k+l:=by rw[Int.natAbs_mul]; exact wl_mul (by simpa using hlx.2) (by simpa using hly.2)
   have hmn1:mn<w1.heap.size:=(Array.getElem?_eq_some_iff.1 HW.out.2.1).1
   have hA:=Sub_any mn 0 Cn _ _ _ _ v8 NoA w2 ((hbw2.block mn hmn1).trans HW.out.2.1) (by omega) HW.out.2.2.1 (hin.below hbw2) i2 (by omega) (by omega)
   have HA:=Lib.hid hA
   clear hA i2 hyn1 hx1
   go_wp2_with fail
   refine HA.out.mono ?_
   rintro e w3 ⟨rfl,hp3⟩
   have hb3:Below w.heap.size w w3:=HW.out.1.trans ((hbw2.mono HW.out.1.size).trans (hp3.1.below hmn (Nat.le_trans HW.out.1.size hbw2.size)))
   have in3:=(hp3.intP (by omega) (rcv_noA _)).noA
   -- the denominators' product,and the fraction
   let w4:=w3.alloc (.cells #[.bool false,.slice none 0 0] 131)
   have h34:Below w3.heap.size w3 w4:=br.alloc (Nat.le_refl _) _
   have hD1:=Lib.hid (den_any x _ NoA w4 ((HW.out.2.2.2.1.below hb3).below h34) (rcv_noA _))
   clear hin hbw2 h2 HA
   go_wp2_with fail
   refine hD1.out.mono ?_
   rintro e w5 ⟨vd,rfl,hb5,id5⟩
   have hb45:Below w3.heap.size w3 w5:=h34.trans (hb5.mono (by simp[w4]))
   have hD2:=Lib.hid (den_any y _ NoA w5 ((HW.out.2.2.2.2.below hb3).below hb45) (rcv_noA _))
   go_wp2_with fail
   refine hD2.out.mono ?_
   rintro e w6 ⟨ve,rfl,hb6,ie6⟩
   have hb36:Below w3.heap.size w3 w6:=hb45.trans (hb6.mono hb45.size)
   have hm6:w6.heap[w3.heap.size]?=some (.cells #[.bool false,.slice none 0 0] 131 (0,0)):=(hb6.block _ (by have:=hb5.size; simp[w4] at this; omega)).trans ((hb5.block _ (by simp[w4])).trans (heap_alloc_new w3 _))
   have hMu:=Lib.hid (mul_any w3.heap.size 0 _ _ x.den y.den _ _ NoA w6 hm6 (by decide) noW_zInt (id5.below hb6) ie6 (by have:=hlx.2; simp; omega) (by have:=hly.2; simp; omega))
   go_wp2_with fail
   refine hMu.out.mono ?_
   rintro e w7 ⟨rfl,hp7⟩
   have ip7:=(hp7.intP (by decide) (rcv_noA _)).noA
   have hb37:Below w3.heap.size w3 w7:=hb36.trans (hp7.1.below (Nat.le_refl _) hb36.size)
   have hbw7:Below w.heap.size w w7:=hb3.trans (hb37.mono hb3.size)
   have hS:=SetFrac_any m C _ _ (Int.mul_ne_zero den_ne den_ne) _ _ NoA w7 ((hbw7.block m hmlt).trans HM.out.1) hC4 HM.out.2 (in3.below hb37) ip7 (by omega) (by omega)
   rw[sub_divInt] at hS
   have HS:=Lib.hid hS
   clear hS ip7 in3 hm6 id5 ie6 hMu hD1 hD2
   go_wp2_with (go_at_call 80; refine HS.out.mono ?_; rintro e w' ⟨rfl,hp⟩)
   go_ret
   exact⟨rfl,hp.below hbw7⟩
end Go.Proofs.YthklnbaddobieaaGreat
namespace Go.Proofs.YthklnbaddobieaaGreat
open Go.RowKit Tr
theorem PutR.drewN{m:Nat}{q:Rat}{w w':World}(h:PutR m q w w')(n:Nat):PutR m q w (w'.drewN n):=⟨h.1.drewN n,h.2⟩
end Go.Proofs.YthklnbaddobieaaGreat
namespace Go.Proofs.YthklnbaddobieaaGreat
open Go.RowKit Tr
def NewR(q:Rat)(v:Value)(w w':World):Prop:=Below w.heap.size w w'∧∀ A,Rcv A w→RatP q v w' A
theorem RatP.wider{q:Rat}{v:Value}{w:World}{A A':Nat→Prop}(h:RatP q v w A)(hA:∀ b,A' b→A b):RatP q v w A' :=
 RatP.keeps q v w w A A' (Nat.le_refl _) (fun b _ hna=>⟨rfl,fun h=>hna (hA b h)⟩) h
theorem PutR.new{q:Rat}{w w':World}{ob:Obj}(h:PutR w.heap.size q (w.alloc ob) w'):NewR q (.pointer (some ⟨w.heap.size,0,none⟩)) w w':=by
 refine⟨below_of_alloc h.1,fun A hA=>?_⟩
 have hA':Rcv A (w.alloc ob):=hA.below (br.alloc (Nat.le_refl _) _)
 exact(h.ratP hA').wider fun b hb=>⟨hb,fun e=>by have:=hA.lt hb; omega⟩
theorem NewR.of_below{q:Rat}{v:Value}{w w1 w':World}(h:NewR q v w1 w')(hb:Below w.heap.size w w1):NewR q v w w':=⟨hb.trans (h.1.mono hb.size),fun A hA=>h.2 A (hA.below hb)⟩
abbrev zR:Obj:=.cells #[.bool false,.slice none 0 0,.bool false,.slice none 0 0] 133 (0,0)
end Go.Proofs.YthklnbaddobieaaGreat
namespace Tr
open Go
end Tr
namespace Go.Proofs.YthklnbaddobieaaGreat
open Go.RowKit Tr
theorem Ldexp_any{fb m B:Nat}{e:Int}(hm:0<m)(hm2:m≤9007199254740992)(hfb:Exu fb ((m*2 ^ UU:Nat):Int))(hf:fb<18446744073709551616)(he:-1074≤e)(he2:e≤100000)(hB:VV B=m*2 ^ (e+1074).toNat)(w:World) :
  Calls Tryz.prog 95 #[.float .f64 fb,.int .i64 e] w fun r w'=>r=.returned (.float .f64 (min B (GW+1)))∧w=w':=by
 obtain⟨E,r,h1,h2,h3,h4,h5⟩:=ldexp_ways hm hm2 hfb hf he hB
 have main:∀ w:World,Calls Tryz.prog 159 #[.float .f64 fb,.int .i64 e] w fun r w'=>r=.returned (.float .f64 (min B (GW+1)))∧w=w':=by
  intro w
  clear hB hfb
  rcases h5 with⟨k1,k2⟩|⟨x,k1,k2,k3,k4⟩|⟨x,k1,k2,k3⟩
  ·rw[k2]; exact ldexp_hi E r e h1 h2 h3 h4 he he2 k1 w
  ·exact ldexp_mid E r e x _ k1 h1 h2 h3 h4 k2 k3 k4 w
  ·exact ldexp_low E r e x _ k1 h1 h2 h3 h4 he k2 k3 w
 clear h1 h2 h3 h4 h5 hB hfb
 generalize min B (GW+1)=M at *
 go_enter Tryz.func95,Tryz.ntmps95
 go_wp2_with (go_at_call 159; refine(main _).mono ?_; rintro e w' ⟨rfl,rfl⟩)
 go_ret
 exact⟨rfl,rfl⟩
theorem newInt_own(n:Int)(h0:-9223372036854775808≤n)(h1:n<9223372036854775808)(w:World) :
  Calls Tryz.prog 90 #[.int .i64 n] w fun e w'=>e=.returned (.pointer (some ⟨w.heap.size,0,none⟩))∧OwnI w.heap.size n w'∧Below w.heap.size w w':=by
 have hs:=setInt64_any w.heap.size 0 _ _ n h0 h1 _ (heap_alloc_new w (.cells #[.bool false,.slice none 0 0] 131)) (by decide) noW_zInt
 have HS:=Lib.hid hs
 clear hs
 go_enter Tryz.func90,Tryz.ntmps90
 go_wp2_with (go_at_call 157; refine HS.out.mono ?_; rintro e w' ⟨rfl,hp⟩)
 go_ret
 exact⟨rfl,hp.own (by decide) noW_zInt,(hp.new (by decide)).1⟩
theorem OwnI.lsh{B N:Nat}{z:Int}{w:World}(h:OwnI B z w)(hl:(words z.natAbs).length<1000000)(hN:N<1000000)(hl2:(words (z.natAbs*2 ^ N)).length<1000000) :
  Calls Tryz.prog 86 #[.pointer (some ⟨B,0,none⟩),.pointer (some ⟨B,0,none⟩),.int .u64 N] w fun e w'=>e=.returned (.pointer (some ⟨B,0,none⟩))∧OwnI B (z*2 ^ N) w'∧Mod B w w':=by
 obtain⟨C,a1,a2,a3,a4⟩:=h
 refine(Lsh_any B 0 C _ z _ N NoA w a1 a2 a3 a4 (by omega) (by omega) (by omega)).mono ?_
 rintro e w' ⟨rfl,hp⟩
 exact⟨rfl,hp.own a2 a3,hp.1⟩
theorem OwnI.intP{B:Nat}{z:Int}{w:World}(h:OwnI B z w):IntP z (.pointer (some ⟨B,0,none⟩)) w NoA:=by
 obtain⟨C,a1,a2,a3,a4⟩:=h; exact a4
theorem OwnI.lt{B:Nat}{z:Int}{w:World}(h:OwnI B z w):B<w.heap.size:=by
 obtain⟨C,a1,a2,a3,a4⟩:=h; exact(Array.getElem?_eq_some_iff.1 a1).1
theorem OwnI.below{B:Nat}{z:Int}{w w':World}(h:OwnI B z w)(hb:Below w.heap.size w w'):OwnI B z w':=by
 have hl:=h.lt
 obtain⟨C,a1,a2,a3,a4⟩:=h
 exact⟨C,(hb.block B hl).trans a1,a2,a3,a4.below hb⟩
end Go.Proofs.YthklnbaddobieaaGreat
namespace Go.Proofs.YthklnbaddobieaaGreat
open Go.RowKit Tr
theorem Abs_any(m o:Nat)(C:Array Value)(T:TypeId)(x:Int)(vx:Value)(A:Nat→Prop)(w:World)(hm:w.heap[m]?=some (.cells C T (0,0)))(ho:o+1<C.size)(hC:NoW (.cells C T (0,0)))(hx:IntP x vx w A)(hnx:(words x.natAbs).length<274877906944) :
  Calls Tryz.prog 83 #[.pointer (some ⟨m,o,none⟩),vx] w fun e w'=>e=.returned (.pointer (some ⟨m,o,none⟩))∧Put m o C T (x.natAbs:Int) w w':=by
 have hc:=set_any m o C T x vx A w hm ho hC hx hnx
 obtain⟨b2,bo2,sl2,rfl,hb2,_,d0,d1,hsl2⟩:=hx
 have HC:=Lib.hid hc
 have HN:=Lib.hid hC
 clear hc hm hC d0 d1
 go_enter Tryz.func83,Tryz.ntmps83
 go_wp2_with (go_at_call 149; refine HC.out.mono ?_; rintro e w' ⟨rfl,hp⟩; obtain⟨sl,e1,e2,e3,e4,e5⟩:=hp.cells ho; obtain⟨p,cap,rfl,_,_⟩:=e3; have e6:=e5 o; clear e5 e4)
 go_ret
 refine⟨rfl,?_⟩
 have k:=put_again (z':=(x.natAbs:Int)) hp (by simp) HN.out
 rw[show decide (((x.natAbs:Nat):Int)<0)=false by simp] at k
 exact k
theorem Bit0_any(x:Nat)(vx:Value)(A:Nat→Prop)(w:World)(hx:IntP (x:Int) vx w A)(hn:(words x).length<274877906944) :
  Calls Tryz.prog 93 #[vx,.int .i64 0] w fun e w'=>e=.returned (.int .u64 ((x % 2:Nat):Int))∧w=w':=by
 obtain⟨b,bo,sl,rfl,hb,_,c0,c1,hsl⟩:=hx
 rw[show((x:Int)).natAbs=x from rfl] at hsl
 have hw:=hsl.wsl
 obtain⟨p,cap,rfl,hcap,hrow⟩:=hw
 clear hsl
 by_cases hz:x=0
 ·subst hz
  rw[words_zero] at c1
  go_enter Tryz.func93,Tryz.ntmps93
  go_wp2
  go_ret
  exact⟨rfl,rfl⟩
 ·have hm0:0<(words x).length:=List.length_pos_iff.2 (fun h=>hz (words_eq_nil.1 h))
  obtain⟨bb,ob,rfl,hbb,hcell⟩:=hrow (List.length_pos_iff.1 hm0)
  have d0:=hcell 0 hm0
  obtain⟨bt,hbt⟩:∃ bt,bt=(words x)[0]?.getD 0:=⟨_,rfl⟩
  rw[←hbt,Nat.add_zero] at d0
  have hbx:bt % 2=x % 2:=by
   have h1:=wat_words x 0
   rw[Nat.pow_zero,Nat.div_one] at h1
   rw[hbt]
   show wat (words x) 0 % 2=x % 2
   rw[h1]
   omega
  have hlt:bt<4294967296:=by
   have h1:=wat_words x 0
   rw[hbt]
   show wat (words x) 0<_
   rw[h1]; exact Nat.mod_lt _ (by decide)
  obtain⟨m,hm⟩:∃ m,(words x).length=m:=⟨_,rfl⟩
  rw[hm] at c1 hn hm0 hcap
  have HX:=Lib.hid hbx
  have hand:bits .and .u32 (bt:Int) 1=(((bt % 2:Nat)):Int):=by
   have:=u32_and_nat bt 1 hlt (by decide)
   rw[show((1:Nat):Int)=1 from rfl] at this
   rw[this,show(1:Nat)=2 ^ 1 - 1 by decide,Nat.and_two_pow_sub_one_eq_mod]
  clear hcell hrow hz hm hbt hbx
  go_enter Tryz.func93,Tryz.ntmps93
  go_wp2
  go_ret
  rw[←HX.out]
  exact⟨rfl,rfl⟩
theorem wat_two{x:Nat}(h:x<18446744073709551616):x=wat (words x) 0+wat (words x) 1*4294967296:=by
 rw[wat_words,wat_words,Nat.pow_zero,Nat.pow_one,Nat.div_one]; omega
theorem words_len_two{x:Nat}(h:x<18446744073709551616):(words x).length≤2:=words_length_le (by simpa using h)
theorem low_any(x:Nat)(h64:x<18446744073709551616)(vx:Value)(A:Nat→Prop)(w:World)(hx:IntP (x:Int) vx w A) :
  Calls Tryz.prog 160 #[vx] w fun e w'=>e=.returned (.int .u64 (x:Int))∧w=w':=by
 obtain⟨b,bo,sl,rfl,hb,_,c0,c1,hsl⟩:=hx
 rw[show((x:Int)).natAbs=x from rfl] at hsl
 have hw:=hsl.wsl
 obtain⟨p,cap,rfl,hcap,hrow⟩:=hw
 have h2:=words_len_two h64
 have hx2:=wat_two h64
 have l0:=wat_lt (wok_words x) 0
 have l1:=wat_lt (wok_words x) 1
 clear hsl
 by_cases hz:x=0
 ·subst hz
  rw[words_zero] at c1
  clear hx2 l0 l1
  go_enter Tryz.func160,Tryz.ntmps160
  go_wp2
  go_ret
  exact⟨rfl,rfl⟩
 ·have hm0:0<(words x).length:=List.length_pos_iff.2 (fun h=>hz (words_eq_nil.1 h))
  obtain⟨bb,ob,rfl,hbb,hcell⟩:=hrow (List.length_pos_iff.1 hm0)
  have d0:w.cell? ⟨bb,ob,none⟩=some (.int .u32 ((wat (words x) 0:Nat):Int)):=hcell 0 hm0
  by_cases h1:(words x).length=1
  ·have hq:wat (words x) 1=0:=wat_out (by omega)
   rw[hq] at hx2
   rw[h1] at c1
   generalize wat (words x) 0=y at *
   have hy:x=y:=by omega
   subst hy
   have hor:bits .or .u64 0 (x:Int)=(x:Int):=by
    have:=bits_or_u64_nat 0 x (by decide) (by omega)
    rw[Nat.zero_or] at this
    exact this
   clear hcell hrow hz h1 hq h2 hcap hm0 hx2
   go_enter Tryz.func160,Tryz.ntmps160
   go_wp2
   go_ret
   exact⟨rfl,rfl⟩
  ·have hl:(words x).length=2:=by omega
   have d1:w.cell? ⟨bb,ob+1,none⟩=some (.int .u32 ((wat (words x) 1:Nat):Int)):=hcell 1 (by omega)
   rw[hl] at c1
   generalize wat (words x) 0=y at *
   generalize wat (words x) 1=z at *
   have hor:bits .or .u64 ((z:Int)*4294967296) (y:Int)=(x:Int):=by
    have:=or_high l0 l1
    have e:=bits_or_u64_nat y (z*4294967296) (by omega) (by omega)
    have e2:=bits_or_u64_nat (z*4294967296) y (by omega) (by omega)
    rw[show((z*4294967296:Nat):Int)=(z:Int)*4294967296 by simp] at e e2
    rw[e2,Nat.or_comm,←e,this,←hx2]
   clear hcell hrow hz h1 hl h2 hcap hm0 hx2 h64
   go_enter Tryz.func160,Tryz.ntmps160
   go_wp2
   go_ret
   exact⟨rfl,rfl⟩
theorem Uint64_any(x:Nat)(h64:x<18446744073709551616)(vx:Value)(A:Nat→Prop)(w:World)(hx:IntP (x:Int) vx w A) :
  Calls Tryz.prog 96 #[vx] w fun e w'=>e=.returned (.int .u64 (x:Int))∧w=w':=by
 have HL:=Lib.hid (low_any x h64 vx A w hx)
 go_enter Tryz.func96,Tryz.ntmps96
 go_wp2_with (go_at_call 160; refine HL.out.mono ?_; rintro e w' ⟨rfl,rfl⟩)
 go_ret
 exact⟨rfl,rfl⟩
theorem bits_one{n M N:Nat}(h1:BitsOf n M)(h2:BitsOf n N):M=N:=by
 have key:∀{a b:Nat},BitsOf n a→BitsOf n b→a≤b:=fun{a b} ha hb=>by
  rcases ha.2 with h0|h0
  ·omega
  ·rcases Nat.lt_or_ge b a with c|c
   ·exfalso
    have:=Nat.pow_le_pow_right (show 0<2 by decide) (show b≤a - 1 by omega)
    have:=hb.1
    omega
   ·exact c
 exact Nat.le_antisymm (key h1 h2) (key h2 h1)
end Go.Proofs.YthklnbaddobieaaGreat
