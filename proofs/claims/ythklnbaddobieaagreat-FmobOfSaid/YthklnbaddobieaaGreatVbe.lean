/- Laws for the walk. -/
import Derived.Test.YthklnbaddobieaaGreatVbd
import Derived.ChangeKeysEq
set_option linter.unusedVariables false
set_option maxHeartbeats 4000000
namespace Go.Proofs.YthklnbaddobieaaGreat
open Go.RowKit Tr
theorem tI{p:Prop}(h:p):true=true↔p:=⟨fun _=>h,fun _=>rfl⟩
theorem fI{p:Prop}(h:¬p):false=true↔p:=⟨fun e=>(by cases e),fun e=>absurd e h⟩
def gr(q:Rat):GF where
 R:=RatP q
 int:=false
 keeps:=RatP.keeps q
 cell:=fun v w A h=>by obtain⟨b,rfl,_⟩:=h; rfl
 noint:=fun _ v w A h k x=>by obtain⟨b,rfl,_⟩:=h; simp
 ex:=none
 exact:=fun u e=>by cases e
def gro(q:Rat):GF where
 R:=RatO q
 int:=false
 keeps:=RatO.keeps q
 cell:=fun v w A h=>by rcases h with⟨rfl,_⟩|⟨b,rfl,_⟩<;>rfl
 noint:=fun _ v w A h k x=>by rcases h with⟨rfl,_⟩|⟨b,rfl,_⟩<;>simp
 ex:=none
 exact:=fun u e=>by cases e
def rF(q:Rat):List GF:=[gx (.bool (decide (q.num<0))),gx (.string (strN q.num.natAbs)),gx (.bool false),gx (.string (strN q.den))]
def rG(z:QC):List GF:=rF z.re++rF z.im
def cq(z:QC):List GF:=[gr z.re,gr z.im]
def cn(z:QC):List GF:=[gro z.re,gro z.im]
section
variable{w:World}{A:Nat→Prop}{v:Value}
theorem okg_cons{g:GF}{l:List GF}{vs:List Value}:okg (g :: l) vs w A↔∃ u us,vs=u :: us∧g.R u w A∧okg l us w A:=by
 cases vs with
 | nil=>exact⟨fun h=>h.elim,fun⟨_,_,e,_⟩=>by cases e⟩
 | cons u us=>exact⟨fun h=>⟨u,us,rfl,h.1,h.2⟩,fun⟨_,_,e,h⟩=>by cases e; exact h⟩
theorem okg_nil{vs:List Value}:okg [] vs w A↔vs=[]:=by
 cases vs with
 | nil=>exact⟨fun _=>rfl,fun _=>trivial⟩
 | cons u us=>exact⟨fun h=>h.elim,fun e=>by cases e⟩
theorem cn_iff{z:QC}:(FR.row (cn z)).R v w A↔NumO z.re z.im v w A:=by
 constructor
 ·rintro⟨vs,rfl,h⟩
  obtain⟨u1,_,rfl,h1,h⟩:=okg_cons.1 h
  obtain⟨u2,_,rfl,h2,h⟩:=okg_cons.1 h
  cases okg_nil.1 h
  exact⟨u1,u2,rfl,h1,h2⟩
 ·rintro⟨u1,u2,rfl,h1,h2⟩
  exact⟨[u1,u2],rfl,h1,h2,trivial⟩
end
def RawG.Sz(g:RawG):Prop:=g.s1.size≤1000000000∧g.s2.size≤1000000000∧g.s3.size≤1000000000∧g.s4.size≤1000000000
def RawP.Sz(p:RawP):Prop:=p.g.Sz
def flA(l:List (List AC)):List AC:=l.flatten
def gR(n:Nat):List AC:=[.sym n,.sym (n+1),.lit (.bool false),.sym (n+2),.sym (n+3),.sym (n+4),.lit (.bool false),.sym (n+5)]
def gL:List Nat→List AC
 | []=>[]
 | n :: l=>gR n++gL l
def B1(b:Bool):FV:=.r (.c (gx (.bool b)))
theorem pGMay(g:RawG)(hs:g.Sz)(r:Bool)(hr:r=true↔GOk g.val):SpecC Tryz.prog true 128 [.row g.cells] (B1 r) :=
 spec1 eo128 fun w A u _ _ hu=>by
  obtain⟨l1,l2,l3,l4⟩:=hs
  rw[(FR.val_ok (u:=g.val) (x:=.row g.cells) (by kernel_rfl)).1 hu]
  refine(GMay_any g.n1 g.n2 g.n3 g.n4 g.s1 g.s2 g.s3 g.s4 (by omega) (by omega) (by omega) (by omega) w).mono fun r' w' h=>⟨_,h.1,?_,h.2⟩
  show Value.bool _=Value.bool r
  congr 1
  rw[Bool.eq_iff_iff,hr,gOk_iff,Bool.and_eq_true,okB_iff,okB_iff]
section
variable{L:List GF}
def bGn(x y:AR)(g h:RawG)(r:Bool)(hr:r=true↔g=h)(hx:x.gv L=some g.val:=by kernel_rfl)(hy:y.gv L=some h.val:=by kernel_rfl):GB Tryz.prog L :=
 gb .neq 50 x y (.lit (.bool !r)) (agg_neq (by kernel_rfl) (fun w=>run_eql_rg w g h r (by rw[hr]; exact⟨fun e=>by rw[e],rawG_inj⟩))) hx hy rfl
end
theorem sz_short{z:QC}(h:ShortZ z):(rawQ z).Sz:=by
 obtain⟨⟨h1,h2⟩,h3,h4⟩:=h
 exact⟨Nat.le_trans h1 (by decide),Nat.le_trans h2 (by decide),Nat.le_trans h3 (by decide),Nat.le_trans h4 (by decide)⟩
theorem rawQ_inj{z w:QC}:rawQ z=rawQ w↔z=w:=⟨fun h=>encQ_inj' (by rw[←rawQ_val,←rawQ_val,h]),fun h=>by rw[h]⟩
end Go.Proofs.YthklnbaddobieaaGreat
namespace Go.Proofs.YthklnbaddobieaaGreat
open Go.RowKit Tr
def G1(z:QC):FR:=.row (rG z)
theorem rGMay(g:RawG)(r:Bool)(hr:r=true↔GOk g.val):SpecC Tryz.prog false 130 [.row g.cells] (B1 r):=spec_pure eo130 (gmay g r hr) (by kernel_rfl) (by kernel_rfl)
theorem rZero(z:QC)(r:Bool)(hr:r=true↔z=⟨0,0⟩):SpecC Tryz.prog false 133 [G1 z] (B1 r):=spec_pure eo133 (gzero z r hr) (by kernel_rfl) (by kernel_rfl)
theorem rInt(a b:Int)(a1:-9223372036854775808≤a)(a2:a<9223372036854775808)(b1:-9223372036854775808≤b)(b2:b<9223372036854775808):SpecC Tryz.prog false 187 [.c (gx (.int .i64 a)),.c (gx (.int .i64 b))] (.r (G1 ⟨(a:Rat),(b:Rat)⟩)):=spec_pure eo187 (gint a b a1 a2 b1 b2) (by kernel_rfl) (by kernel_rfl)
theorem rTimes(x y:QC)(hx:ZL x 33554432)(hy:ZL y 33554432):SpecC Tryz.prog false 189 [G1 x,G1 y] (.r (G1 (x*y))):=spec_pure eo189 (gtimes x y hx hy) (by kernel_rfl) (by kernel_rfl)
theorem rMinus(x y:QC)(hx:ZL x 134217728)(hy:ZL y 134217728):SpecC Tryz.prog false 188 [G1 x,G1 y] (.r (G1 (x - y))):=spec_pure eo188 (gminus x y hx hy) (by kernel_rfl) (by kernel_rfl)
end Go.Proofs.YthklnbaddobieaaGreat
namespace Go.Proofs.YthklnbaddobieaaGreat
open Go.RowKit Tr
def Sz(s:ByteArray):Int:=(s.size:Nat)
end Go.Proofs.YthklnbaddobieaaGreat
namespace Go.Proofs.YthklnbaddobieaaGreat
open Go.RowKit Tr
theorem RatO.shape{q:Rat}{v:Value}{w:World}{A:Nat→Prop}(h:RatO q v w A):∃ p,v=.pointer p:=by
 rcases h with⟨rfl,_⟩|h
 ·exact⟨none,rfl⟩
 ·obtain⟨m,rfl⟩:=h.shape
  exact⟨_,rfl⟩
theorem put_numO{a b:Rat}{v1 v2:Value}{w w1:World}{A:Nat→Prop}{n:Nat}(hb:Below w.heap.size w w1)(h1:RatO a v1 w1 (Mo A n))(h2:RatO b v2 w1 (Mo A n))(hn:w.heap.size≤n) :
  ∃ u,Ending.returned (.agg #[v1,v2])=.returned u∧Below w.heap.size w ((w1.setCell ⟨n,0,none⟩ v1).setCell ⟨n,1,none⟩ v2)∧NumO a b u ((w1.setCell ⟨n,0,none⟩ v1).setCell ⟨n,1,none⟩ v2) A:=by
 refine⟨_,rfl,(hb.setCell (p:=⟨n,0,none⟩) hn _).setCell (p:=⟨n,1,none⟩) hn _,v1,v2,rfl,?_,?_⟩
 ·exact more_less _ (RatO.keeps a) (keep_set _ (RatO.keeps a) (keep_set _ (RatO.keeps a) h1))
 ·exact more_less _ (RatO.keeps b) (keep_set _ (RatO.keeps b) (keep_set _ (RatO.keeps b) h2))
def MayF(v:Value):Fact:=fun u w A=>(¬FracOk v∧u=.pointer none)∨∃ q,v=encF q∧FracOk v∧RatP q u w A
theorem MayF.keeps(v:Value):(MayF v).Keeps:=fun u w w' A A' hs hk h=>h.imp id (fun⟨q,e,f,h⟩=>⟨q,e,f,RatP.keeps q u w w' A A' hs hk h⟩)
theorem MayR.mayF{v u:Value}{w w':World}{A:Nat→Prop}(h:MayR v w.heap.size u w' NoA)(hb:Below w.heap.size w w')(hA:Rcv A w):MayF v u w' A:=by
 rcases h with h|⟨q,e,f,h⟩
 ·exact .inl h
 ·exact .inr ⟨q,e,f,(h.new hb (Nat.le_refl _)).2 A hA⟩
def NQ(z:QC):Fact:=NumO z.re z.im
theorem NQ.keeps(z:QC):(NQ z).Keeps:=NumO.keeps _ _
def GaussOk(v:Value):Prop:=∃ z:QC,v=encG z.re z.im∧ShortF z.re∧ShortF z.im
theorem gaussOk_iff{n1 n2 n3 n4:Bool}{s1 s2 s3 s4:ByteArray}:GaussOk (.agg #[.bool n1,.string s1,.bool n2,.string s2,.bool n3,.string s3,.bool n4,.string s4])↔FracOk (.agg #[.bool n1,.string s1,.bool n2,.string s2])∧FracOk (.agg #[.bool n3,.string s3,.bool n4,.string s4]):=by
 constructor
 ·rintro⟨z,e,h1,h2⟩
  unfold encG at e
  simp only[Value.agg.injEq,Array.mk.injEq,List.cons.injEq,Value.bool.injEq,Value.string.injEq,and_true] at e
  obtain⟨e1,e2,e3,e4,e5,e6,e7,e8⟩:=e
  subst e1 e2 e3 e4 e5 e6 e7 e8
  exact⟨⟨z.re,rfl,h1⟩,⟨z.im,rfl,h2⟩⟩
 ·rintro⟨⟨a,e1,h1⟩,⟨b,e2,h2⟩⟩
  obtain⟨rfl,rfl,rfl,rfl⟩:=encF_parts e1
  obtain⟨rfl,rfl,rfl,rfl⟩:=encF_parts e2
  exact⟨⟨a,b⟩,rfl,h1,h2⟩
end Go.Proofs.YthklnbaddobieaaGreat
namespace Go.Proofs.YthklnbaddobieaaGreat
open Go.RowKit Tr
theorem obox(w:World)(a0 a1 a2 a3 a4 a5 a6 a7:Value) :
  ∃ W,Hid (W=(w.alloc (.cells #[a0,a1,a2,a3,a4,a5,a6,a7] 50)).alloc (.cells #[.pointer none,.pointer none] 167)∧Below w.heap.size w W∧W.heap.size=w.heap.size+2∧∀ w1,Below W.heap.size W w1→(w1.cell? ⟨w.heap.size,0,none⟩=some (a0)∧w1.cell? ⟨w.heap.size,1,none⟩=some (a1)∧w1.cell? ⟨w.heap.size,2,none⟩=some (a2)∧w1.cell? ⟨w.heap.size,3,none⟩=some (a3)∧w1.cell? ⟨w.heap.size,4,none⟩=some (a4)∧w1.cell? ⟨w.heap.size,5,none⟩=some (a5)∧w1.cell? ⟨w.heap.size,6,none⟩=some (a6)∧w1.cell? ⟨w.heap.size,7,none⟩=some (a7)) ∧
   (w1.cell? ⟨w.heap.size+1,0,none⟩=some (.pointer none)∧w1.cell? ⟨w.heap.size+1,1,none⟩=some (.pointer none)∧w1.frozen? ⟨w.heap.size+1,0,none⟩=false∧w1.frozen? ⟨w.heap.size+1,1,none⟩=false)):=by
 obtain⟨w1,hw1⟩:∃ w1,w1=w.alloc (.cells #[a0,a1,a2,a3,a4,a5,a6,a7] 50):=⟨_,rfl⟩
 have hz1:w1.heap.size=w.heap.size+1:=by rw[hw1]; simp
 have hb1:Below w.heap.size w w1:=by rw[hw1]; exact br.alloc (Nat.le_refl _) _
 obtain⟨w2,hw2⟩:∃ w2,w2=w1.alloc (.cells #[.pointer none,.pointer none] 167):=⟨_,rfl⟩
 have hz2:w2.heap.size=w.heap.size+2:=by rw[hw2]; simp[hz1]
 have hb2:Below w1.heap.size w1 w2:=by rw[hw2]; exact br.alloc (Nat.le_refl _) _
 have t2:Below w2.heap.size w2 w2:=Below.refl _ _
 have t1:Below w1.heap.size w1 w2:=hb2.trans (t2.mono hb2.size)
 refine⟨w2,Lib.hid ⟨by rw[hw2,hw1],hb1.trans (t1.mono hb1.size),hz2,fun w' h=>?_⟩⟩
 have e0:=(t1.trans (h.mono t1.size)).block w.heap.size (by rw[hw1]; simp)
 rw[hw1,heap_alloc_new] at e0
 have e1:=(t2.trans (h.mono t2.size)).block w1.heap.size (by rw[hw2]; simp)
 rw[hw2,heap_alloc_new] at e1
 rw[hz1] at e1
 refine⟨?_,?_⟩<;>simp[World.cell?,World.frozen?,e0,e1]
def OfF(v0:Value):Fact:=fun u w A=>∃ z,NQ z u w A∧(GaussOk v0→v0=encG z.re z.im)
theorem OfF.keeps(v0:Value):(OfF v0).Keeps:=fun u w w' A A' hs hk ⟨z,h,e⟩=>⟨z,NQ.keeps z u w w' A A' hs hk h,e⟩
theorem rcv_num{w:World}{A:Nat→Prop}{n:Nat}{W:World}(hA:Rcv A w)(hb:Below w.heap.size w W)(hn:W.heap[n]?=some (.cells #[.pointer none,.pointer none] 167 (0,0))):Rcv (Mo A n) W :=
 fun b h=>h.elim (fun h=>(hA.below hb) b h) (fun h=>by subst h; exact⟨_,hn,noW_num _ _ ⟨_,rfl⟩ ⟨_,rfl⟩ _⟩)
set_option maxRecDepth 100000 in
theorem EOf_any(n1 n2 n3 n4:Bool)(s1 s2 s3 s4:ByteArray)(l1:s1.size<274877906944)(l2:s2.size<274877906944)(l3:s3.size<274877906944)(l4:s4.size<274877906944)(A:Nat→Prop)(w:World)(hA:Rcv A w)(r:Bool)(hr:r=true↔GaussOk (.agg #[.bool n1,.string s1,.bool n2,.string s2,.bool n3,.string s3,.bool n4,.string s4])) :
  Calls Tryz.prog 181 #[.agg #[.bool n1,.string s1,.bool n2,.string s2,.bool n3,.string s3,.bool n4,.string s4]] w fun e w'=>∃ u,e=.returned (.tuple #[u,.bool r])∧Below w.heap.size w w'∧OfF (.agg #[.bool n1,.string s1,.bool n2,.string s2,.bool n3,.string s3,.bool n4,.string s4]) u w' A:=by
 obtain⟨W,HV⟩:=obox w (.bool n1) (.string s1) (.bool n2) (.string s2) (.bool n3) (.string s3) (.bool n4) (.string s4)
 have H1:=Lib.hid (fun w=>ERat_any n1 n2 s1 s2 l1 l2 w)
 have H2:=Lib.hid (fun w=>ERat_any n3 n4 s3 s4 l3 l4 w)
 have hs0:w.heap.size<W.heap.size:=by have:=HV.out.2.2.1; omega
 obtain⟨⟨e0,e1,e2,e3,e4,e5,e6,e7⟩,_⟩:=HV.out.2.2.2 W br
 have hR:Rcv (Mo A (w.heap.size+1)) W:=rcv_num hA HV.out.2.1 (by
  rw[HV.out.1]
  have:=heap_alloc_new (w.alloc (.cells #[.bool n1,.string s1,.bool n2,.string s2,.bool n3,.string s3,.bool n4,.string s4] 50)) (.cells #[.pointer none,.pointer none] 167 (0,0))
  simpa using this)
 have HR:=Lib.hid (And.intro hR hr)
 clear hA hr hR
 go_enter Tryz.func181,Tryz.ntmps181
 go_wp2_with fail
 rw[←HV.out.1]
 refine wp_region_inv [(.lit,[]),(.lit,[]),(.val,[]),(.lit,[]),(.lit,[]),(.val,[])]
  (pickF [(2,FactU (Mo A (w.heap.size+1)) (MayF (.agg #[.bool n1,.string s1,.bool n2,.string s2]))),(5,FactU (Mo A (w.heap.size+1)) (MayF (.agg #[.bool n3,.string s3,.bool n4,.string s4])))]) (by kernel_rfl) ?_ ?_ (by simp) (by simp) (by kernel_rfl)
 ·exact keeps_pick (by simp only[List.mem_cons,List.not_mem_nil,or_false]; rintro p (rfl|rfl)<;>exact FactU.keeps (MayF.keeps _))
 ·repeat (refine⟨_,fun f w1 h1=>by(have d0:=ct h1 hs0 e0; have d1:=ct h1 hs0 e1; have d2:=ct h1 hs0 e2; have d3:=ct h1 hs0 e3; have d4:=ct h1 hs0 e4; have d5:=ct h1 hs0 e5; have d6:=ct h1 hs0 e6; have d7:=ct h1 hs0 e7; go_simp; rfl),?_⟩)
  simp only[Act.put,nrA,nrB,nrC,Nat.reduceAdd]
  refine⟨fun f w1 A1 k1 hA hN hd K hK=>by
   go_simp
   refine(H1.out w1).mono ?_
   rintro e w' ⟨u,rfl,hm,hb⟩
   exact hK _ _ hb (hm.mayF hb (rcv_un (HR.out.1.below (br.drew.trans k1)) hA)),?_⟩
  repeat (refine⟨_,fun f w1 h1=>by(have d0:=ct h1 hs0 e0; have d1:=ct h1 hs0 e1; have d2:=ct h1 hs0 e2; have d3:=ct h1 hs0 e3; have d4:=ct h1 hs0 e4; have d5:=ct h1 hs0 e5; have d6:=ct h1 hs0 e6; have d7:=ct h1 hs0 e7; go_simp; rfl),?_⟩)
  simp only[Act.put,nrA,nrB,nrC,Nat.reduceAdd]
  refine⟨fun f w1 A1 k1 hA hN hd K hK=>by
   go_simp
   refine(H2.out w1).mono ?_
   rintro e w' ⟨u,rfl,hm,hb⟩
   exact hK _ _ hb (hm.mayF hb (rcv_un (HR.out.1.below (br.drew.trans k1)) hA)),?_⟩
  intro f w1 k1 hF
  have i2:MayF (.agg #[.bool n1,.string s1,.bool n2,.string s2]) (f 2) w1 (Mo A (w.heap.size+1)):=FactU.done (MayF.keeps _) hF.1.2
  have i5:MayF (.agg #[.bool n3,.string s3,.bool n4,.string s4]) (f 5) w1 (Mo A (w.heap.size+1)):=FactU.done (MayF.keeps _) hF.2
  clear hF
  simp only[Act.put,nrA,nrB,nrC]
  generalize f 2=x2 at *
  generalize f 5=x5 at *
  have hb1:Below W.heap.size W w1:=br.drew.trans k1
  obtain⟨_,c0,c1,f0,f1⟩:=HV.out.2.2.2 w1 hb1
  have HB:=Lib.hid (HV.out.2.1.trans (hb1.mono HV.out.2.1.size))
  clear e0 e1 e2 e3 e4 e5 e6 e7 k1 hb1 H1 H2
  rcases i2 with⟨hn1,rfl⟩|⟨q1,eq1,ok1,r1⟩
  ·have hrf:r=false:=by
    cases h:r
    ·rfl
    ·exact absurd (gaussOk_iff.1 (HR.out.2.1 h)).1 hn1
   subst hrf
   have HG:=Lib.hid (show ¬GaussOk (.agg #[.bool n1,.string s1,.bool n2,.string s2,.bool n3,.string s3,.bool n4,.string s4]) from fun h=>hn1 (gaussOk_iff.1 h).1)
   have j5:∃ b,RatO b x5 w1 (Mo A (w.heap.size+1)):=by
    rcases i5 with⟨_,rfl⟩|⟨q2,_,_,r2⟩
    ·exact⟨0,.inl ⟨rfl,rfl⟩⟩
    ·exact⟨q2,.inr r2⟩
   obtain⟨b,j5⟩:=j5
   obtain⟨p5,rfl⟩:=j5.shape
   have HJ:=Lib.hid j5
   clear i5 j5 hn1
   go_wp2_with fail
   refine bodyPost_ret (v:=.tuple #[.agg #[.pointer none,.pointer p5],.bool false]) (by simp[results,Tryz.results181,go_sem,c0,c1]) rfl ?_
   obtain⟨u,hu,hb,hz⟩:=put_numO HB.out (.inl ⟨rfl,rfl⟩:RatO 0 (.pointer none) w1 (Mo A (w.heap.size+1))) HJ.out (by omega)
   cases hu
   exact⟨_,rfl,hb,⟨⟨0,b⟩,hz,fun h=>absurd h HG.out⟩⟩
  ·obtain⟨m1,rfl⟩:=r1.shape
   rcases i5 with⟨hn2,rfl⟩|⟨q2,eq2,ok2,r2⟩
   ·have hrf:r=false:=by
     cases h:r
     ·rfl
     ·exact absurd (gaussOk_iff.1 (HR.out.2.1 h)).2 hn2
    subst hrf
    have HG:=Lib.hid (show ¬GaussOk (.agg #[.bool n1,.string s1,.bool n2,.string s2,.bool n3,.string s3,.bool n4,.string s4]) from fun h=>hn2 (gaussOk_iff.1 h).2)
    have HJ:=Lib.hid r1
    clear r1 hn2 eq1 ok1
    go_wp2_with fail
    refine bodyPost_ret (v:=.tuple #[.agg #[.pointer (some ⟨m1,0,none⟩),.pointer none],.bool false]) (by simp[results,Tryz.results181,go_sem,c0,c1]) rfl ?_
    obtain⟨u,hu,hb,hz⟩:=put_numO HB.out (.inr HJ.out) (.inl ⟨rfl,rfl⟩:RatO 0 (.pointer none) w1 (Mo A (w.heap.size+1))) (by omega)
    cases hu
    exact⟨_,rfl,hb,⟨⟨q1,0⟩,hz,fun h=>absurd h HG.out⟩⟩
   ·obtain⟨m2,rfl⟩:=r2.shape
    have hrt:r=true:=HR.out.2.2 (gaussOk_iff.2 ⟨ok1,ok2⟩)
    subst hrt
    have HJ:=Lib.hid (And.intro r1 r2)
    have HG:=Lib.hid (show .agg #[.bool n1,.string s1,.bool n2,.string s2,.bool n3,.string s3,.bool n4,.string s4]=encG q1 q2 by
     obtain⟨rfl,rfl,rfl,rfl⟩:=encF_parts eq1
     obtain⟨rfl,rfl,rfl,rfl⟩:=encF_parts eq2
     rfl)
    clear r1 r2 eq1 eq2 ok1 ok2
    go_wp2_with fail
    refine bodyPost_ret (v:=.tuple #[.agg #[.pointer (some ⟨m1,0,none⟩),.pointer (some ⟨m2,0,none⟩)],.bool true]) (by simp[results,Tryz.results181,go_sem,c0,c1]) rfl ?_
    obtain⟨u,hu,hb,hz⟩:=put_numO HB.out (.inr HJ.out.1) (.inr HJ.out.2) (by omega)
    cases hu
    exact⟨_,rfl,hb,⟨⟨q1,q2⟩,hz,fun _=>HG.out⟩⟩
end Go.Proofs.YthklnbaddobieaaGreat
namespace Go.Proofs.YthklnbaddobieaaGreat
open Go.RowKit Tr
def cmpR(x y:Rat):Int:=if x<y then -1 else if x=y then 0 else 1
theorem cmpR_int(x y:Rat):cmpI (x.num*(y.den:Int)) (y.num*(x.den:Int))=cmpR x y:=by
 unfold cmpI cmpR
 have h1:x<y↔x.num*(y.den:Int)<y.num*(x.den:Int):=Rat.lt_iff x y
 have h2:y<x↔y.num*(x.den:Int)<x.num*(y.den:Int):=Rat.lt_iff y x
 by_cases hxy:x<y
 ·rw[if_pos (h1.1 hxy),if_pos hxy]
 ·rw[if_neg (fun h=>hxy (h1.2 h)),if_neg hxy]
  by_cases hyx:y<x
  ·rw[if_pos (h2.1 hyx),if_neg (fun e=>by subst e; exact hxy hyx)]
  ·rw[if_neg (fun h=>hyx (h2.2 h)),if_pos (Rat.le_antisymm (Rat.not_lt.1 hyx) (Rat.not_lt.1 hxy))]
end Go.Proofs.YthklnbaddobieaaGreat
set_option linter.unusedSimpArgs false
namespace Go.Proofs.YthklnbaddobieaaGreat
open Go.RowKit Tr
theorem qc_ext{x y:QC}(h1:x.re=y.re)(h2:x.im=y.im):x=y:=by cases x; cases y; simp at h1 h2; rw[h1,h2]
theorem qsr(x y:QC):(x - y).re=x.re - y.re:=rfl
theorem qsi(x y:QC):(x - y).im=x.im - y.im:=rfl
def frm8(cs:List Int)(a b n:BitVec 3):BitVec 3×BitVec 3×BitVec 3:=cs.foldl (fun s c=>(s.1*a - s.2.1*b+BitVec.ofInt 3 c*s.2.2,s.1*b+s.2.1*a,s.2.2*n)) (0,0,1)
def NoRoot(cs:List Int):Prop:=∀ a b n:BitVec 3,(frm8 cs a b n).1=0→(frm8 cs a b n).2.1=0→a.toNat % 2=0∧b.toNat % 2=0∧n.toNat % 2=0
instance (cs:List Int):Decidable (NoRoot cs):=by unfold NoRoot; infer_instance
def fg(s:QC):Nat→QC×QC
 | 0=>(⟨1,0⟩,⟨0,0⟩)
 | k+1=>(s*((fg s k).1 - (fg s k).2) - (fg s k).1,(fg s k).1 - (fg s k).2)
theorem qc_sub0{x y:QC}:x - y=⟨0,0⟩↔x=y:=by
 constructor
 ·intro h
  have h1:x.re - y.re=0:=congrArg QC.re h
  have h2:x.im - y.im=0:=congrArg QC.im h
  apply qc_ext<;>grind
 ·rintro rfl; apply qc_ext<;>simp only[qsr,qsi]<;>grind
def cj(z:QC):QC:=⟨z.re,-z.im⟩
end Go.Proofs.YthklnbaddobieaaGreat
namespace Tr
end Tr
namespace Go.Proofs.YthklnbaddobieaaGreat
open Go.RowKit Tr
end Go.Proofs.YthklnbaddobieaaGreat
namespace Go.Proofs.YthklnbaddobieaaGreat
open Go.RowKit Tr
def HasR(q:Rat):Prop:=∃ r,0≤r∧r*r=q
open Classical in
noncomputable def sqr(q:Rat):Rat:=if h:HasR q then h.choose else 0
def IsRt(z r:QC):Prop:=r*r=z∧(0<r.re∨r.re=0∧0≤r.im)
def HasQ(z:QC):Prop:=∃ r,IsRt z r
open Classical in
noncomputable def rt(z:QC):QC:=if h:HasQ z then h.choose else⟨0,0⟩
def nm(z:QC):Rat:=z.re*z.re+z.im*z.im
end Go.Proofs.YthklnbaddobieaaGreat
namespace Go.Proofs.YthklnbaddobieaaGreat
open Go.RowKit Tr
end Go.Proofs.YthklnbaddobieaaGreat
namespace Go.Proofs.YthklnbaddobieaaGreat
open Go.RowKit Tr
theorem scmp(x y:Int)(hx:WL x.natAbs 1073741824)(hy:WL y.natAbs 1073741824):PureC Tryz.prog 109 [encZ x,encZ y] (.int .i64 (cmpI x y)):=by
  have sx:=ssign x
  have sy:=ssign y
  have hu:=gUnder x.natAbs y.natAbs (hx.mono (by decide))
  rcases Int.lt_trichotomy x 0 with h1|h1|h1<;>rcases Int.lt_trichotomy y 0 with h2|h2|h2
  · rw[Int.sign_eq_neg_one_of_neg h1] at sx; rw[Int.sign_eq_neg_one_of_neg h2] at sy
    rcases(by omega:x.natAbs<y.natAbs∨x.natAbs=y.natAbs∨y.natAbs<x.natAbs) with h3|h3|h3
    · rw[show cmpZ x.natAbs y.natAbs=-1 by unfold cmpZ; rw[if_pos (by omega)]] at hu
      rw[show cmpI x y=1 by unfold cmpI; rw[if_neg (by omega),if_pos (by omega)]]
      exact ev_pure (hp := true) (L := cz x ++ cz y ++ [gw (words x.natAbs),gw (words y.natAbs)]) tys_ok mixed
          [gp 106 [.row [.sym 0,.sym 1]] (.r (.c (.lit (.int .i64 (-1))))) eo106 sx rfl rfl,gp 106 [.row [.sym 2,.sym 3]] (.r (.c (.lit (.int .i64 (-1))))) eo106 sy rfl rfl,gm1 169 (.c (.sym 1)) (.r (.c (.sym 4))) eo169 (gWords x.natAbs (hx.mono (by decide))),gm1 169 (.c (.sym 3)) (.r (.c (.sym 5))) eo169 (gWords y.natAbs (hy.mono (by decide))),gm2x 171 (.c (.sym 4)) (.c (.sym 5)) (.r (.c (.lit (.int .i64 (-1))))) eo171 hu] [] []
          Tryz.func109 100 [.row [.sym 0,.sym 1],.row [.sym 2,.sym 3]] (.r (.c (.lit (.int .i64 1)))) (by kernel_rfl) rfl rfl
    · rw[show cmpZ x.natAbs y.natAbs=0 by unfold cmpZ; rw[if_neg (by omega),if_neg (by omega)]] at hu
      rw[show cmpI x y=0 by unfold cmpI; rw[if_neg (by omega),if_neg (by omega)]]
      exact ev_pure (hp := true) (L := cz x ++ cz y ++ [gw (words x.natAbs),gw (words y.natAbs)]) tys_ok mixed
          [gp 106 [.row [.sym 0,.sym 1]] (.r (.c (.lit (.int .i64 (-1))))) eo106 sx rfl rfl,gp 106 [.row [.sym 2,.sym 3]] (.r (.c (.lit (.int .i64 (-1))))) eo106 sy rfl rfl,gm1 169 (.c (.sym 1)) (.r (.c (.sym 4))) eo169 (gWords x.natAbs (hx.mono (by decide))),gm1 169 (.c (.sym 3)) (.r (.c (.sym 5))) eo169 (gWords y.natAbs (hy.mono (by decide))),gm2x 171 (.c (.sym 4)) (.c (.sym 5)) (.r (.c (.lit (.int .i64 0)))) eo171 hu] [] []
          Tryz.func109 100 [.row [.sym 0,.sym 1],.row [.sym 2,.sym 3]] (.r (.c (.lit (.int .i64 0)))) (by kernel_rfl) rfl rfl
    · rw[show cmpZ x.natAbs y.natAbs=1 by unfold cmpZ; rw[if_neg (by omega),if_pos (by omega)]] at hu
      rw[show cmpI x y=-1 by unfold cmpI; rw[if_pos (by omega)]]
      exact ev_pure (hp := true) (L := cz x ++ cz y ++ [gw (words x.natAbs),gw (words y.natAbs)]) tys_ok mixed
          [gp 106 [.row [.sym 0,.sym 1]] (.r (.c (.lit (.int .i64 (-1))))) eo106 sx rfl rfl,gp 106 [.row [.sym 2,.sym 3]] (.r (.c (.lit (.int .i64 (-1))))) eo106 sy rfl rfl,gm1 169 (.c (.sym 1)) (.r (.c (.sym 4))) eo169 (gWords x.natAbs (hx.mono (by decide))),gm1 169 (.c (.sym 3)) (.r (.c (.sym 5))) eo169 (gWords y.natAbs (hy.mono (by decide))),gm2x 171 (.c (.sym 4)) (.c (.sym 5)) (.r (.c (.lit (.int .i64 1)))) eo171 hu] [] []
          Tryz.func109 100 [.row [.sym 0,.sym 1],.row [.sym 2,.sym 3]] (.r (.c (.lit (.int .i64 (-1))))) (by kernel_rfl) rfl rfl
  · rw[Int.sign_eq_neg_one_of_neg h1] at sx; rw[(by rw[h2]; rfl:y.sign=0)] at sy
    rw[show cmpI x y=-1 by unfold cmpI; rw[if_pos (by omega)]]
    exact ev_pure (hp := true) (L := cz x ++ cz y ++ [gw (words x.natAbs),gw (words y.natAbs)]) tys_ok mixed
          [gp 106 [.row [.sym 0,.sym 1]] (.r (.c (.lit (.int .i64 (-1))))) eo106 sx rfl rfl,gp 106 [.row [.sym 2,.sym 3]] (.r (.c (.lit (.int .i64 0)))) eo106 sy rfl rfl] [] []
          Tryz.func109 100 [.row [.sym 0,.sym 1],.row [.sym 2,.sym 3]] (.r (.c (.lit (.int .i64 (-1))))) (by kernel_rfl) rfl rfl
  · rw[Int.sign_eq_neg_one_of_neg h1] at sx; rw[Int.sign_eq_one_of_pos h2] at sy
    rw[show cmpI x y=-1 by unfold cmpI; rw[if_pos (by omega)]]
    exact ev_pure (hp := true) (L := cz x ++ cz y ++ [gw (words x.natAbs),gw (words y.natAbs)]) tys_ok mixed
          [gp 106 [.row [.sym 0,.sym 1]] (.r (.c (.lit (.int .i64 (-1))))) eo106 sx rfl rfl,gp 106 [.row [.sym 2,.sym 3]] (.r (.c (.lit (.int .i64 1)))) eo106 sy rfl rfl] [] []
          Tryz.func109 100 [.row [.sym 0,.sym 1],.row [.sym 2,.sym 3]] (.r (.c (.lit (.int .i64 (-1))))) (by kernel_rfl) rfl rfl
  · rw[(by rw[h1]; rfl:x.sign=0)] at sx; rw[Int.sign_eq_neg_one_of_neg h2] at sy
    rw[show cmpI x y=1 by unfold cmpI; rw[if_neg (by omega),if_pos (by omega)]]
    exact ev_pure (hp := true) (L := cz x ++ cz y ++ [gw (words x.natAbs),gw (words y.natAbs)]) tys_ok mixed
          [gp 106 [.row [.sym 0,.sym 1]] (.r (.c (.lit (.int .i64 0)))) eo106 sx rfl rfl,gp 106 [.row [.sym 2,.sym 3]] (.r (.c (.lit (.int .i64 (-1))))) eo106 sy rfl rfl] [] []
          Tryz.func109 100 [.row [.sym 0,.sym 1],.row [.sym 2,.sym 3]] (.r (.c (.lit (.int .i64 1)))) (by kernel_rfl) rfl rfl
  · rw[(by rw[h1]; rfl:x.sign=0)] at sx; rw[(by rw[h2]; rfl:y.sign=0)] at sy
    rw[show cmpZ x.natAbs y.natAbs=0 by unfold cmpZ; rw[if_neg (by omega),if_neg (by omega)]] at hu
    rw[show cmpI x y=0 by unfold cmpI; rw[if_neg (by omega),if_neg (by omega)]]
    exact ev_pure (hp := true) (L := cz x ++ cz y ++ [gw (words x.natAbs),gw (words y.natAbs)]) tys_ok mixed
          [gp 106 [.row [.sym 0,.sym 1]] (.r (.c (.lit (.int .i64 0)))) eo106 sx rfl rfl,gp 106 [.row [.sym 2,.sym 3]] (.r (.c (.lit (.int .i64 0)))) eo106 sy rfl rfl,gm1 169 (.c (.sym 1)) (.r (.c (.sym 4))) eo169 (gWords x.natAbs (hx.mono (by decide))),gm1 169 (.c (.sym 3)) (.r (.c (.sym 5))) eo169 (gWords y.natAbs (hy.mono (by decide))),gm2x 171 (.c (.sym 4)) (.c (.sym 5)) (.r (.c (.lit (.int .i64 0)))) eo171 hu] [] []
          Tryz.func109 100 [.row [.sym 0,.sym 1],.row [.sym 2,.sym 3]] (.r (.c (.lit (.int .i64 0)))) (by kernel_rfl) rfl rfl
  · rw[(by rw[h1]; rfl:x.sign=0)] at sx; rw[Int.sign_eq_one_of_pos h2] at sy
    rw[show cmpI x y=-1 by unfold cmpI; rw[if_pos (by omega)]]
    exact ev_pure (hp := true) (L := cz x ++ cz y ++ [gw (words x.natAbs),gw (words y.natAbs)]) tys_ok mixed
          [gp 106 [.row [.sym 0,.sym 1]] (.r (.c (.lit (.int .i64 0)))) eo106 sx rfl rfl,gp 106 [.row [.sym 2,.sym 3]] (.r (.c (.lit (.int .i64 1)))) eo106 sy rfl rfl] [] []
          Tryz.func109 100 [.row [.sym 0,.sym 1],.row [.sym 2,.sym 3]] (.r (.c (.lit (.int .i64 (-1))))) (by kernel_rfl) rfl rfl
  · rw[Int.sign_eq_one_of_pos h1] at sx; rw[Int.sign_eq_neg_one_of_neg h2] at sy
    rw[show cmpI x y=1 by unfold cmpI; rw[if_neg (by omega),if_pos (by omega)]]
    exact ev_pure (hp := true) (L := cz x ++ cz y ++ [gw (words x.natAbs),gw (words y.natAbs)]) tys_ok mixed
          [gp 106 [.row [.sym 0,.sym 1]] (.r (.c (.lit (.int .i64 1)))) eo106 sx rfl rfl,gp 106 [.row [.sym 2,.sym 3]] (.r (.c (.lit (.int .i64 (-1))))) eo106 sy rfl rfl] [] []
          Tryz.func109 100 [.row [.sym 0,.sym 1],.row [.sym 2,.sym 3]] (.r (.c (.lit (.int .i64 1)))) (by kernel_rfl) rfl rfl
  · rw[Int.sign_eq_one_of_pos h1] at sx; rw[(by rw[h2]; rfl:y.sign=0)] at sy
    rw[show cmpI x y=1 by unfold cmpI; rw[if_neg (by omega),if_pos (by omega)]]
    exact ev_pure (hp := true) (L := cz x ++ cz y ++ [gw (words x.natAbs),gw (words y.natAbs)]) tys_ok mixed
          [gp 106 [.row [.sym 0,.sym 1]] (.r (.c (.lit (.int .i64 1)))) eo106 sx rfl rfl,gp 106 [.row [.sym 2,.sym 3]] (.r (.c (.lit (.int .i64 0)))) eo106 sy rfl rfl] [] []
          Tryz.func109 100 [.row [.sym 0,.sym 1],.row [.sym 2,.sym 3]] (.r (.c (.lit (.int .i64 1)))) (by kernel_rfl) rfl rfl
  · rw[Int.sign_eq_one_of_pos h1] at sx; rw[Int.sign_eq_one_of_pos h2] at sy
    rcases(by omega:x.natAbs<y.natAbs∨x.natAbs=y.natAbs∨y.natAbs<x.natAbs) with h3|h3|h3
    · rw[show cmpZ x.natAbs y.natAbs=-1 by unfold cmpZ; rw[if_pos (by omega)]] at hu
      rw[show cmpI x y=-1 by unfold cmpI; rw[if_pos (by omega)]]
      exact ev_pure (hp := true) (L := cz x ++ cz y ++ [gw (words x.natAbs),gw (words y.natAbs)]) tys_ok mixed
          [gp 106 [.row [.sym 0,.sym 1]] (.r (.c (.lit (.int .i64 1)))) eo106 sx rfl rfl,gp 106 [.row [.sym 2,.sym 3]] (.r (.c (.lit (.int .i64 1)))) eo106 sy rfl rfl,gm1 169 (.c (.sym 1)) (.r (.c (.sym 4))) eo169 (gWords x.natAbs (hx.mono (by decide))),gm1 169 (.c (.sym 3)) (.r (.c (.sym 5))) eo169 (gWords y.natAbs (hy.mono (by decide))),gm2x 171 (.c (.sym 4)) (.c (.sym 5)) (.r (.c (.lit (.int .i64 (-1))))) eo171 hu] [] []
          Tryz.func109 100 [.row [.sym 0,.sym 1],.row [.sym 2,.sym 3]] (.r (.c (.lit (.int .i64 (-1))))) (by kernel_rfl) rfl rfl
    · rw[show cmpZ x.natAbs y.natAbs=0 by unfold cmpZ; rw[if_neg (by omega),if_neg (by omega)]] at hu
      rw[show cmpI x y=0 by unfold cmpI; rw[if_neg (by omega),if_neg (by omega)]]
      exact ev_pure (hp := true) (L := cz x ++ cz y ++ [gw (words x.natAbs),gw (words y.natAbs)]) tys_ok mixed
          [gp 106 [.row [.sym 0,.sym 1]] (.r (.c (.lit (.int .i64 1)))) eo106 sx rfl rfl,gp 106 [.row [.sym 2,.sym 3]] (.r (.c (.lit (.int .i64 1)))) eo106 sy rfl rfl,gm1 169 (.c (.sym 1)) (.r (.c (.sym 4))) eo169 (gWords x.natAbs (hx.mono (by decide))),gm1 169 (.c (.sym 3)) (.r (.c (.sym 5))) eo169 (gWords y.natAbs (hy.mono (by decide))),gm2x 171 (.c (.sym 4)) (.c (.sym 5)) (.r (.c (.lit (.int .i64 0)))) eo171 hu] [] []
          Tryz.func109 100 [.row [.sym 0,.sym 1],.row [.sym 2,.sym 3]] (.r (.c (.lit (.int .i64 0)))) (by kernel_rfl) rfl rfl
    · rw[show cmpZ x.natAbs y.natAbs=1 by unfold cmpZ; rw[if_neg (by omega),if_pos (by omega)]] at hu
      rw[show cmpI x y=1 by unfold cmpI; rw[if_neg (by omega),if_pos (by omega)]]
      exact ev_pure (hp := true) (L := cz x ++ cz y ++ [gw (words x.natAbs),gw (words y.natAbs)]) tys_ok mixed
          [gp 106 [.row [.sym 0,.sym 1]] (.r (.c (.lit (.int .i64 1)))) eo106 sx rfl rfl,gp 106 [.row [.sym 2,.sym 3]] (.r (.c (.lit (.int .i64 1)))) eo106 sy rfl rfl,gm1 169 (.c (.sym 1)) (.r (.c (.sym 4))) eo169 (gWords x.natAbs (hx.mono (by decide))),gm1 169 (.c (.sym 3)) (.r (.c (.sym 5))) eo169 (gWords y.natAbs (hy.mono (by decide))),gm2x 171 (.c (.sym 4)) (.c (.sym 5)) (.r (.c (.lit (.int .i64 1)))) eo171 hu] [] []
          Tryz.func109 100 [.row [.sym 0,.sym 1],.row [.sym 2,.sym 3]] (.r (.c (.lit (.int .i64 1)))) (by kernel_rfl) rfl rfl
theorem fcmp(x y:Rat)(hx:RL x 134217728)(hy:RL y 134217728):PureC Tryz.prog 46 [encF x,encF y] (.int .i64 (cmpR x y)):=by
  have hc:=scmp (x.num*(y.den:Int)) (y.num*(x.den:Int)) ((WL.mul hx.wn hy.wd.i).mono (by decide)) ((WL.mul hy.wn hx.wd.i).mono (by decide))
  rw[cmpR_int] at hc
  exact ev_pure (hp:=false) (L:=cF (x)++cF (y)++cz (x.num*(y.den:Int))++cz (y.num*(x.den:Int))++[gx (.int .i64 (cmpR x y))]) tys_ok mixed
    [gp 110 [.row [.sym 0,.sym 1],.row [.lit (.bool false),.sym 5]] (.r (.row [.sym 6,.sym 7])) eo110 (stimes_zn _ _ (hx.wn.mono (by decide)) (hy.wd.mono (by decide))) rfl rfl,gp 110 [.row [.sym 3,.sym 4],.row [.lit (.bool false),.sym 2]] (.r (.row [.sym 8,.sym 9])) eo110 (stimes_zn _ _ (hy.wn.mono (by decide)) (hx.wd.mono (by decide))) rfl rfl,gp 109 [.row [.sym 6,.sym 7],.row [.sym 8,.sym 9]] (.r (.c (.sym 10))) eo109 hc rfl rfl]
    [] []
    Tryz.func46 100 [.row [.sym 0,.sym 1,.lit (.bool false),.sym 2],.row [.sym 3,.sym 4,.lit (.bool false),.sym 5]] (.r (.c (.sym 10))) (by kernel_rfl) rfl rfl
end Go.Proofs.YthklnbaddobieaaGreat
namespace Go.Proofs.YthklnbaddobieaaGreat
open Go.RowKit Tr
def N1(z:QC):FR:=.row (cn z)
def R1(q:Rat):FR:=.c (gr q)
theorem qc0{z:QC}:z=⟨0,0⟩↔z.re=0∧z.im=0:=⟨fun h=>by rw[h]; exact⟨rfl,rfl⟩,fun h=>qc_ext h.1 h.2⟩
theorem ZL_int(i j:Int)(a1:-9223372036854775808≤i)(a2:i<9223372036854775808)(b1:-9223372036854775808≤j)(b2:j<9223372036854775808):ZL ⟨(i:Rat),(j:Rat)⟩ 2:=⟨RL_i64 i a1 a2,RL_i64 j b1 b2⟩
theorem pNMul(x y:QC){m l:Nat}(hx:ZL x m)(hy:ZL y l)(hb:m+l+(m+l)<137438953472):SpecC Tryz.prog true 215 [N1 x,N1 y] (.r (N1 (x*y))) :=
 spec2 eo215 fun w A u v hR _ hu hv=>(NMul_any x.re x.im y.re y.im u v A w (cn_iff.1 hu) (cn_iff.1 hv) (hR rfl) m l hx.1 hx.2 hy.1 hy.2 hb).mono fun e w' ⟨z,h1,h2,h3⟩=>⟨z,h1,cn_iff.2 h3,h2⟩
theorem pNSub(x y:QC){m l:Nat}(hx:ZL x m)(hy:ZL y l)(hb:m+l+(m+l)<137438953472):SpecC Tryz.prog true 216 [N1 x,N1 y] (.r (N1 (x - y))) :=
 spec2 eo216 fun w A u v hR _ hu hv=>(NSub_any x.re x.im y.re y.im u v A w (cn_iff.1 hu) (cn_iff.1 hv) (hR rfl) m l hx.1 hx.2 hy.1 hy.2 hb).mono fun e w' ⟨z,h1,h2,h3⟩=>⟨z,h1,cn_iff.2 h3,h2⟩
theorem pNZero(x:QC)(r:Bool)(hr:r=true↔x=⟨0,0⟩):SpecC Tryz.prog true 183 [N1 x] (B1 r) :=
 spec1 eo183 fun w A u hR _ hu=>(NZero_any x.re x.im u A w (cn_iff.1 hu) r (hr.trans qc0)).mono fun e w' h=>⟨_,h.1,rfl,h.2⟩
theorem pNInt(i j:Int)(a1:-9223372036854775808≤i)(a2:i<9223372036854775808)(b1:-9223372036854775808≤j)(b2:j<9223372036854775808):SpecC Tryz.prog true 184 [.c (gx (.int .i64 i)),.c (gx (.int .i64 j))] (.r (N1 ⟨(i:Rat),(j:Rat)⟩)) :=
 spec2 eo184 fun w A u v hR _ hu hv=>by
  cases(hu:u=_); cases(hv:v=_)
  exact(EInt_any i j a1 a2 b1 b2 A w (hR rfl)).mono fun e w' ⟨z,h1,h2,h3⟩=>⟨z,h1,cn_iff.2 h3,h2⟩
theorem pEOf(z:QC)(h:ShortZ z):SpecC Tryz.prog true 181 [.row (rawQ z).cells] (.tup [N1 z,.c (gl (.bool true))]) :=
 spec1 eo181 fun w A u hR _ hu=>by
  rw[(FR.val_ok (u:=(rawQ z).val) (x:=.row (rawQ z).cells) (by kernel_rfl)).1 hu]
  obtain⟨l1,l2,l3,l4⟩:=sz_short h
  have hg:GaussOk (rawQ z).val:=⟨z,by rw[rawQ_val]; rfl,h.1,h.2⟩
  refine(EOf_any _ _ _ _ _ _ _ _ (Nat.lt_of_le_of_lt l1 (by decide)) (Nat.lt_of_le_of_lt l2 (by decide)) (Nat.lt_of_le_of_lt l3 (by decide)) (Nat.lt_of_le_of_lt l4 (by decide)) A w (hR rfl) true ⟨fun _=>hg,fun _=>rfl⟩).mono ?_
  rintro e w' ⟨u,h1,h2,z',h3,h4⟩
  have h5:=h4 hg
  have h6:z=z':=encQ_inj' ((rawQ_val z).symm.trans h5)
  subst h6
  exact⟨_,h1,⟨[u,.bool true],rfl,cn_iff.2 h3,rfl,trivial⟩,h2⟩
theorem pEOfR(g:RawG)(hs:g.Sz)(r:Bool)(hr:r=true↔GOk g.val):SpecC Tryz.prog true 181 [.row g.cells] (.tup [.row [ga,ga],.c (gx (.bool r))]) :=
 spec1 eo181 fun w A u hR _ hu=>by
  rw[(FR.val_ok (u:=g.val) (x:=.row g.cells) (by kernel_rfl)).1 hu]
  obtain⟨l1,l2,l3,l4⟩:=hs
  refine(EOf_any _ _ _ _ _ _ _ _ (Nat.lt_of_le_of_lt l1 (by decide)) (Nat.lt_of_le_of_lt l2 (by decide)) (Nat.lt_of_le_of_lt l3 (by decide)) (Nat.lt_of_le_of_lt l4 (by decide)) A w (hR rfl) r hr).mono ?_
  rintro e w' ⟨u,h1,h2,z',h3,h4⟩
  obtain⟨vs,rfl,h5⟩:=(cn_iff.2 h3:(FR.row (cn z')).R u w' A)
  exact⟨_,h1,⟨[_,.bool r],rfl,⟨vs,rfl,okg_any h5⟩,rfl,trivial⟩,h2⟩
def F1(q:Rat):FR:=.row (rF q)
end Go.Proofs.YthklnbaddobieaaGreat
namespace Go.Proofs.YthklnbaddobieaaGreat
open Go.RowKit Tr
section
variable{L:List GF}
end
def ng(z:QC):QC:=⟨-z.re,-z.im⟩
end Go.Proofs.YthklnbaddobieaaGreat
namespace Tr
open Go Go.RowKit
structure Fn where
 f:FuncId
 fn:Func
 fuel:Nat
def idx(b:Nat):List Nat→Option Nat
 | []=>none
 | c :: l=>if c == b then some 0 else(idx b l).map (·+1)
section
variable{T:Nat→Fact}{cx cx':Cx}{A0 M:Nat→Prop}{w0:World}{σs σ σ1 σ2:Sg}{s:AS}{a:Act}{w w':World}{P:Program}{bl:Nat→Option BK}{ρ:Nat→Option Nat}{A:Nat→Prop}
end
end Tr
namespace Tr
open Go Go.RowKit
section
variable{T:Nat→Fact}{cx cx':Cx}{A0 M:Nat→Prop}{w0:World}{σs σ σ1:Sg}{s:AS}{a:Act}{w w':World}{P:Program}{bl:Nat→Option BK}
end
end Tr
namespace Tr
open Go Go.RowKit
section
variable{P:Program}{L:List GF}{hp:Bool}
def FnsOk(P:Program)(fs:List Fn):Prop:=∀ q∈fs,P.funcs[q.f]?=some q.fn∧Enters P q.f
theorem FnsOk.nil:FnsOk P []:=fun q h=>by cases h
theorem FnsOk.cons{f:FuncId}{fn:Func}{n:Nat}{fs:List Fn}(h:P.funcs[f]?=some fn)(e:Enters P f)(k:FnsOk P fs):FnsOk P (⟨f,fn,n⟩ :: fs):=fun q hq=>by
 rcases List.mem_cons.1 hq with hq|hq
 ·subst hq; exact⟨h,e⟩
 ·exact k q hq
end
end Tr
