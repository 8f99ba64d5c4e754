/- Laws for the walk. -/
import Derived.Test.YtplakbflfckldaaGreatZax
import Derived.ChangeKeysEq
set_option linter.unusedVariables false
set_option maxHeartbeats 4000000
namespace Go.Proofs.YtplakbflfckldaaGreat
open Go.RowKit Tr
theorem tI{p:Prop}(h:p):true=true↔p:=⟨fun _=>h,fun _=>rfl⟩
theorem fI{p:Prop}(h:¬p):false=true↔p:=⟨fun e=>(by cases e),fun e=>absurd e h⟩
def gr(q:Rat):GF where
 R:=RatP q
 int:=false
 keeps:=RatP.keeps q
 cell:=fun v w A h=>by obtain⟨b,rfl,_⟩:=h; rfl
 noint:=fun _ v w A h k x=>by obtain⟨b,rfl,_⟩:=h; simp
 ex:=none
 exact:=fun u e=>by cases e
def gro(q:Rat):GF where
 R:=RatO q
 int:=false
 keeps:=RatO.keeps q
 cell:=fun v w A h=>by rcases h with⟨rfl,_⟩|⟨b,rfl,_⟩<;>rfl
 noint:=fun _ v w A h k x=>by rcases h with⟨rfl,_⟩|⟨b,rfl,_⟩<;>simp
 ex:=none
 exact:=fun u e=>by cases e
def rF(q:Rat):List GF:=[gx (.bool (decide (q.num<0))),gx (.string (strN q.num.natAbs)),gx (.bool false),gx (.string (strN q.den))]
def rG(z:QC):List GF:=rF z.re++rF z.im
def cq(z:QC):List GF:=[gr z.re,gr z.im]
def cn(z:QC):List GF:=[gro z.re,gro z.im]
section
variable{w:World}{A:Nat→Prop}{v:Value}
theorem okg_cons{g:GF}{l:List GF}{vs:List Value}:okg (g :: l) vs w A↔∃ u us,vs=u :: us∧g.R u w A∧okg l us w A:=by
 cases vs with
 | nil=>exact⟨fun h=>h.elim,fun⟨_,_,e,_⟩=>by cases e⟩
 | cons u us=>exact⟨fun h=>⟨u,us,rfl,h.1,h.2⟩,fun⟨_,_,e,h⟩=>by cases e; exact h⟩
theorem okg_nil{vs:List Value}:okg [] vs w A↔vs=[]:=by
 cases vs with
 | nil=>exact⟨fun _=>rfl,fun _=>trivial⟩
 | cons u us=>exact⟨fun h=>h.elim,fun e=>by cases e⟩
theorem cn_iff{z:QC}:(FR.row (cn z)).R v w A↔NumO z.re z.im v w A:=by
 constructor
 ·rintro⟨vs,rfl,h⟩
  obtain⟨u1,_,rfl,h1,h⟩:=okg_cons.1 h
  obtain⟨u2,_,rfl,h2,h⟩:=okg_cons.1 h
  cases okg_nil.1 h
  exact⟨u1,u2,rfl,h1,h2⟩
 ·rintro⟨u1,u2,rfl,h1,h2⟩
  exact⟨[u1,u2],rfl,h1,h2,trivial⟩
end
def RawG.Sz(g:RawG):Prop:=g.s1.size≤1000000000∧g.s2.size≤1000000000∧g.s3.size≤1000000000∧g.s4.size≤1000000000
def RawP.Sz(p:RawP):Prop:=p.g.Sz
def flA(l:List (List AC)):List AC:=l.flatten
def zFA:List AC:=[.lit (.bool false),.lit .str0,.lit (.bool false),.lit .str0]
def zGA:List AC:=zFA++zFA
def gR(n:Nat):List AC:=[.sym n,.sym (n+1),.lit (.bool false),.sym (n+2),.sym (n+3),.sym (n+4),.lit (.bool false),.sym (n+5)]
def gL:List Nat→List AC
 | []=>[]
 | n :: l=>gR n++gL l
def zFG:List GF:=[gl (.bool false),gl .str0,gl (.bool false),gl .str0]
def zGG:List GF:=zFG++zFG
def B1(b:Bool):FV:=.r (.c (gx (.bool b)))
theorem pGInt(i j:Int)(a1:-9223372036854775808≤i)(a2:i<9223372036854775808)(b1:-9223372036854775808≤j)(b2:j<9223372036854775808):SpecC Tryz.prog false 24 [.c (gx (.int .i64 i)),.c (gx (.int .i64 j))] (.r (.row (rawQ ⟨(i:Rat),(j:Rat)⟩).cells)) :=
 spec_pure eo24 (vs:=[.int .i64 i,.int .i64 j]) (v:=encG (i:Rat) (j:Rat)) (fun w=>GInt_any i j a1 a2 b1 b2 w) (by kernel_rfl) (by kernel_rfl)
def bI{P:Program}{L:List GF}(op:BinOp)(t:TypeId)(x y:AC)(a b:Int)(c:Bool)(h:cmpB op a b=some c)(hx:x.gv L=some (.int .i64 a):=by kernel_rfl)(hy:y.gv L=some (.int .i64 b):=by kernel_rfl):GB P L:=gbInt op t .i64 x y a b c h hx hy
section
variable{L:List GF}
def bG(x y:AR)(g h:RawG)(r:Bool)(hr:r=true↔g=h)(hx:x.gv L=some g.val:=by kernel_rfl)(hy:y.gv L=some h.val:=by kernel_rfl):GB Tryz.prog L :=
 gb .eql 36 x y (.lit (.bool r)) (agg_eql (by kernel_rfl) (fun w=>run_eql_rg w g h r (by rw[hr]; exact⟨fun e=>by rw[e],rawG_inj⟩))) hx hy rfl
def bP(x y:AR)(p q:RawP)(r:Bool)(hr:r=true↔p=q)(hx:x.gv L=some p.val:=by kernel_rfl)(hy:y.gv L=some q.val:=by kernel_rfl):GB Tryz.prog L :=
 gb .eql 38 x y (.lit (.bool r)) (agg_eql (by kernel_rfl) (fun w=>run_eql_rp w p q r (by rw[hr]; exact⟨fun e=>by rw[e],rawP_inj⟩))) hx hy rfl
end
theorem shortF_lt{q:Rat}(h1:q.num.natAbs<256 ^ 1024)(h2:q.den<256 ^ 1024):ShortF q:=⟨by rw[size_strN]; exact byteLE_le h1,by rw[size_strN]; exact byteLE_le h2⟩
theorem short_c{z:QC}(h:(z.re.num.natAbs<256 ^ 1024∧z.re.den<256 ^ 1024)∧z.im.num.natAbs<256 ^ 1024∧z.im.den<256 ^ 1024):ShortZ z:=⟨shortF_lt h.1.1 h.1.2,shortF_lt h.2.1 h.2.2⟩
theorem sz_short{z:QC}(h:ShortZ z):(rawQ z).Sz:=by
 obtain⟨⟨h1,h2⟩,h3,h4⟩:=h
 exact⟨Nat.le_trans h1 (by decide),Nat.le_trans h2 (by decide),Nat.le_trans h3 (by decide),Nat.le_trans h4 (by decide)⟩
theorem rawQ_inj{z w:QC}:rawQ z=rawQ w↔z=w:=⟨fun h=>encQ_inj' (by rw[←rawQ_val,←rawQ_val,h]),fun h=>by rw[h]⟩
end Go.Proofs.YtplakbflfckldaaGreat
namespace Go.Proofs.YtplakbflfckldaaGreat
open Go.RowKit Tr
def G1(z:QC):FR:=.row (rG z)
theorem rInt(a b:Int)(a1:-9223372036854775808≤a)(a2:a<9223372036854775808)(b1:-9223372036854775808≤b)(b2:b<9223372036854775808):SpecC Tryz.prog false 56 [.c (gx (.int .i64 a)),.c (gx (.int .i64 b))] (.r (G1 ⟨(a:Rat),(b:Rat)⟩)):=spec_pure eo56 (gint a b a1 a2 b1 b2) (by kernel_rfl) (by kernel_rfl)
end Go.Proofs.YtplakbflfckldaaGreat
namespace Go.Proofs.YtplakbflfckldaaGreat
open Go.RowKit Tr
def Sz(s:ByteArray):Int:=(s.size:Nat)
def lS{L:List GF}(x:AC)(s:ByteArray)(res:AC)(hn:x.noown=true:=by kernel_rfl)(hx:x.gv L=some (.string s):=by kernel_rfl)(hr:res.gv L=some (.int .i64 (Sz s)):=by kernel_rfl):GO Tryz.prog L :=
 goLenS 9 Tryz.underlying9 x s res hn hx hr
end Go.Proofs.YtplakbflfckldaaGreat
namespace Go.Proofs.YtplakbflfckldaaGreat
open Go.RowKit Tr
theorem RatO.shape{q:Rat}{v:Value}{w:World}{A:Nat→Prop}(h:RatO q v w A):∃ p,v=.pointer p:=by
 rcases h with⟨rfl,_⟩|h
 ·exact⟨none,rfl⟩
 ·obtain⟨m,rfl⟩:=h.shape
  exact⟨_,rfl⟩
theorem put_numO{a b:Rat}{v1 v2:Value}{w w1:World}{A:Nat→Prop}{n:Nat}(hb:Below w.heap.size w w1)(h1:RatO a v1 w1 (Mo A n))(h2:RatO b v2 w1 (Mo A n))(hn:w.heap.size≤n) :
  ∃ u,Ending.returned (.agg #[v1,v2])=.returned u∧Below w.heap.size w ((w1.setCell ⟨n,0,none⟩ v1).setCell ⟨n,1,none⟩ v2)∧NumO a b u ((w1.setCell ⟨n,0,none⟩ v1).setCell ⟨n,1,none⟩ v2) A:=by
 refine⟨_,rfl,(hb.setCell (p:=⟨n,0,none⟩) hn _).setCell (p:=⟨n,1,none⟩) hn _,v1,v2,rfl,?_,?_⟩
 ·exact more_less _ (RatO.keeps a) (keep_set _ (RatO.keeps a) (keep_set _ (RatO.keeps a) h1))
 ·exact more_less _ (RatO.keeps b) (keep_set _ (RatO.keeps b) (keep_set _ (RatO.keeps b) h2))
set_option maxRecDepth 100000 in
theorem NDiv_any(a b c d n:Rat)(hn:n=c*c+d*d)(hn0:n≠0)(v v':Value)(A:Nat→Prop)(w:World)(hv:NumO a b v w A)(hv':NumO c d v' w A)(hA:Rcv A w)(k l:Nat)(hla:RL a k)(hlb:RL b k)(hlc:RL c l)(hld:RL d l)(hkl:(k+l+(k+l)+1)+(l+l+(l+l)+1)<137438953472) :
  Calls Tryz.prog 92 #[v,v'] w fun e w'=>∃ u,e=.returned u∧Below w.heap.size w w'∧NumO ((a*c - b*(-d))*n⁻¹) ((a*(-d)+b*c)*n⁻¹) u w' A:=by
 have hv0:=new_more (NumO.keeps a b) (n:=w.heap.size+2) br (by omega) hv
 have hv0':=new_more (NumO.keeps c d) (n:=w.heap.size+2) br (by omega) hv'
 obtain⟨u1,u2,rfl,h1,h2⟩:=hv
 obtain⟨u3,u4,rfl,h3,h4⟩:=hv'
 clear h1 h2 h3 h4
 obtain⟨W,HV,hs1,hs2,e0,e1,e2,e3⟩:=box_two w u1 u2 u3 u4 A hA
 have hx:=Fact.Keeps.below (FactU.keeps (NumO.keeps a b)) HV.out.2.1 hv0
 have hy:=Fact.Keeps.below (FactU.keeps (NumO.keeps c d)) HV.out.2.1 hv0'
 have HN:=Lib.hid (And.intro hn hn0)
 clear hA hv0 hv0' hn hn0
 have lm1:RL (a*c - b*(-d)) (k+l+(k+l)+1):=RL_sub (RL_mul hla hlc) (RL_mul hlb (RL_neg hld))
 have lm2:RL (a*(-d)+b*c) (k+l+(k+l)+1):=RL_add (RL_mul hla (RL_neg hld)) (RL_mul hlb hlc)
 have ln:RL n (l+l+(l+l)+1):=by rw[HN.out.1]; exact RL_add (RL_mul hlc hlc) (RL_mul hld hld)
 have li:RL n⁻¹ (l+l+(l+l)+1):=RL_inv HN.out.2 ln
 go_enter Tryz.func92,Tryz.ntmps92
 go_wp2_with fail
 rw[←HV.out.1]
 refine wp_region_inv [(.lit,[]),(.lit,[]),(.val,[]),(.val,[2]),(.new zR,[]),(.lit,[]),(.val,[]),(.on 4 zR,[6]),(.val,[3,7])]
  (pickF [(2,FactU (Mo A (w.heap.size+2)) (NumO c (-d))),(3,FactU (Mo A (w.heap.size+2)) (NumO (a*c - b*(-d)) (a*(-d)+b*c))),(6,FactU (Mo A (w.heap.size+2)) (RatP n)),(7,FactU (Mo A (w.heap.size+2)) (RatP n⁻¹)),(8,FactU (Mo A (w.heap.size+2)) (NumO ((a*c - b*(-d))*n⁻¹) ((a*(-d)+b*c)*n⁻¹)))]) (by kernel_rfl) ?_ ?_ (by simp[noW_zRat]) (by simp) (by kernel_rfl)
 ·exact keeps_pick (by simp only[List.mem_cons,List.not_mem_nil,or_false]; rintro p (rfl|rfl|rfl|rfl|rfl)<;>first|exact FactU.keeps (RatP.keeps _)|exact FactU.keeps (NumO.keeps _ _))
 ·refine⟨_,fun f w1 h1=>by(have d0:=ct h1 hs1 e0; have d1:=ct h1 hs1 e1; have d2:=ct h1 hs2 e2; have d3:=ct h1 hs2 e3; go_simp; rfl),?_⟩
  refine⟨_,fun f w1 h1=>by(have d0:=ct h1 hs1 e0; have d1:=ct h1 hs1 e1; have d2:=ct h1 hs2 e2; have d3:=ct h1 hs2 e3; go_simp; rfl),?_⟩
  simp only[Act.put,nrA,nrB,nrC,Nat.reduceAdd]
  refine⟨fun f w1 A1 k1 hA hN hd K hK=>by
   go_simp
   refine(NConj_any c d _ (Un (Mo A (w.heap.size+2)) A1) w1 (later (FactU.keeps (NumO.keeps _ _)) hy k1 hN) (rcv_un (HV.out.2.2.1.below (br.drew.trans k1)) hA) (hld.mono (by omega))).mono ?_
   rintro e w' ⟨v,rfl,hb,hr⟩
   exact hK _ _ hb hr,?_⟩
  simp only[Act.put,nrA,nrB,nrC,Nat.reduceAdd]
  refine⟨fun f w1 A1 k1 hA hN hd K hK=>by
   have i2:NumO c (-d) (f 2) w1 (Un (Mo A (w.heap.size+2)) A1):=hd 2 (by simp)
   go_simp
   refine(NMul_any a b c (-d) _ _ (Un (Mo A (w.heap.size+2)) A1) w1 (later (FactU.keeps (NumO.keeps _ _)) hx k1 hN) i2 (rcv_un (HV.out.2.2.1.below (br.drew.trans k1)) hA) k l hla hlb hlc (RL_neg hld) (by omega)).mono ?_
   rintro e w' ⟨v,rfl,hb,hr⟩
   exact hK _ _ hb hr,?_⟩
  refine⟨fun f w1=>by go_simp,?_⟩
  refine⟨_,fun f w1 h1=>by(have d0:=ct h1 hs1 e0; have d1:=ct h1 hs1 e1; have d2:=ct h1 hs2 e2; have d3:=ct h1 hs2 e3; go_simp; rfl),?_⟩
  simp only[Act.put,nrA,nrB,nrC,Nat.reduceAdd]
  refine⟨fun f w1 A1 k1 hA hN hd K hK=>by
   go_simp
   refine(NNorm_any c d _ (Un (Mo A (w.heap.size+2)) A1) w1 (later (FactU.keeps (NumO.keeps _ _)) hy k1 hN) (rcv_un (HV.out.2.2.1.below (br.drew.trans k1)) hA) l hlc hld (by omega)).mono ?_
   rintro e w' ⟨v,rfl,hb,hr⟩
   rw[←HN.out.1] at hr
   exact hK _ _ hb hr,?_⟩
  simp only[Act.put,nrA,nrB,nrC,Nat.reduceAdd]
  refine⟨fun f w1 A1 m1 k1 hA hN hAm hm0 e hz hd K hK=>by
   simp only[e] at hK ⊢
   have i6:RatP n (f 6) w1 (Un (Mo A (w.heap.size+2)) A1):=hd 6 (by simp)
   go_simp
   refine(RInv_any m1 _ n HN.out.2 _ _ w1 hz (by decide) noW_zRat i6 _ ln (by omega)).mono ?_
   rintro e w' ⟨rfl,hp⟩
   exact hK _ w' hp.1 (hp.ratU (HV.out.2.2.1.below (br.drew.trans k1)) hA hm0 (fun b hb=>HV.out.2.2.1.lt hb)),?_⟩
  simp only[Act.put,nrA,nrB,nrC,Nat.reduceAdd]
  refine⟨fun f w1 A1 k1 hA hN hd K hK=>by
   have i3:NumO (a*c - b*(-d)) (a*(-d)+b*c) (f 3) w1 (Un (Mo A (w.heap.size+2)) A1):=hd 3 (by simp)
   have i7:RatP n⁻¹ (f 7) w1 (Un (Mo A (w.heap.size+2)) A1):=hd 7 (by simp)
   go_simp
   refine(NScale_any _ _ _ _ _ (Un (Mo A (w.heap.size+2)) A1) w1 i3 (.inr i7) (rcv_un (HV.out.2.2.1.below (br.drew.trans k1)) hA) _ _ lm1 lm2 li hkl).mono ?_
   rintro e w' ⟨v,rfl,hb,hr⟩
   exact hK _ _ hb hr,?_⟩
  intro f w1 k1 hF
  have i8:NumO ((a*c - b*(-d))*n⁻¹) ((a*(-d)+b*c)*n⁻¹) (f 8) w1 (Mo A (w.heap.size+2)):=FactU.done (NumO.keeps _ _) hF.2
  clear hF
  simp only[Act.put,nrA,nrB,nrC]
  generalize f 2=x2
  generalize f 3=x3
  generalize f 6=x6
  generalize f 7=x7
  generalize f 8=x8 at *
  obtain⟨y1,y2,rfl,j1,j2⟩:=i8
  have hb1:Below W.heap.size W w1:=br.drew.trans k1
  obtain⟨c0,c1,f0,f1⟩:=HV.out.2.2.2 w1 hb1
  have HE:=Lib.hid (And.intro j1 (And.intro j2 (HV.out.2.1.trans (hb1.mono HV.out.2.1.size))))
  obtain⟨m1,rfl⟩:=j1.shape
  obtain⟨m2,rfl⟩:=j2.shape
  clear e0 e1 e2 e3 j1 j2 hb1 k1 hx hy lm1 lm2 ln li
  go_wp2_with fail
  refine bodyPost_ret (v:=.agg #[.pointer m1,.pointer m2]) (by simp[results,Tryz.results92,go_sem,c0,c1]) rfl ?_
  exact put_numO HE.out.2.2 HE.out.1 HE.out.2.1 (by omega)
set_option maxRecDepth 100000 in
theorem NTold_any(a b:Rat)(v:Value)(A:Nat→Prop)(w:World)(hv:NumO a b v w A)(hla:RL a 137438953472)(hlb:RL b 137438953472) :
  Calls Tryz.prog 70 #[v] w fun e w'=>e=.returned (.tuple #[outG a b,.int .i64 (outGC a b)])∧Below w.heap.size w w':=by
 obtain⟨u1,u2,rfl,h1,h2⟩:=hv
 obtain⟨b1,t1,b2,t2,ea⟩:=outF_four a
 obtain⟨b3,t3,b4,t4,eb⟩:=outF_four b
 obtain⟨k1,hk1⟩:∃ k1,k1=outC a:=⟨_,rfl⟩
 obtain⟨k2,hk2⟩:∃ k2,k2=outC b:=⟨_,rfl⟩
 obtain⟨W0,hW0⟩:∃ W0,W0=w.alloc (.cells #[u1,u2] 98):=⟨_,rfl⟩
 have hz0:W0.heap.size=w.heap.size+1:=by rw[hW0]; simp
 obtain⟨W,hW⟩:∃ W,W=W0.alloc (.cells #[.bool false,.string ⟨#[]⟩,.bool false,.string ⟨#[]⟩,.bool false,.string ⟨#[]⟩,.bool false,.string ⟨#[]⟩] 36):=⟨_,rfl⟩
 have hb0:Below w.heap.size w W0:=by rw[hW0]; exact br.alloc (Nat.le_refl _) _
 have hb1:Below W0.heap.size W0 W:=by rw[hW]; exact br.alloc (Nat.le_refl _) _
 have hb:=hb0.trans (hb1.mono hb0.size)
 obtain⟨e0,e1,_⟩:=new_two w u1 u2 98 (w1:=W) (by rw[←hW0]; exact hb1)
 have hlt:w.heap.size<W.heap.size:=by have:=hb1.size; omega
 have H1:=Lib.hid (EFrac_any a u1 A W (h1.below hb) hla)
 have H2:=Lib.hid (fun w' (h:Below W.heap.size W w')=>EFrac_any b u2 A w' ((h2.below hb).below h) hlb)
 rw[ea,←hk1] at H1
 rw[eb,←hk2] at H2
 have HK:=Lib.hid (And.intro (show k1=0↔ShortF a by rw[hk1]; exact outC_zero) (And.intro (show k2=0↔ShortF b by rw[hk2]; exact outC_zero) (And.intro ea eb)))
 have HV:=Lib.hid (And.intro (hW.trans (by rw[hW0])) (And.intro hb (fun w1 (h:Below W.heap.size W w1)=>And.intro (new_eight W0 _ _ _ _ _ _ _ _ _ (w1:=w1) (by rw[←hW]; exact h)) (frozen_eight W0 _ _ _ _ _ _ _ _ _ (w1:=w1) (by rw[←hW]; exact h)))))
 rw[hz0] at HV
 clear hk1 hk2 ea eb hW hW0 hz0 hb hb0 hb1 h1 h2
 go_enter Tryz.func70,Tryz.ntmps70
 go_wp2_with fail
 rw[←HV.out.1]
 refine H1.out.mono ?_
 rintro e w1 ⟨rfl,hb1⟩
 have e0:=(hb1.cell (p:=⟨w.heap.size,0,none⟩) hlt).trans e0
 have e1:=(hb1.cell (p:=⟨w.heap.size,1,none⟩) hlt).trans e1
 have hlt1:w.heap.size<w1.heap.size:=Nat.lt_of_lt_of_le hlt hb1.size
 have HB1:=Lib.hid hb1
 clear hb1
 go_wp2_with fail
 have hal:=(Below.refl w1.heap.size w1).alloc (Nat.le_refl _) (.cells #[.bool b1,.string t1,.bool b2,.string t2] 34)
 refine(H2.out _ (HB1.out.trans (hal.mono HB1.out.size))).mono ?_
 rintro e w3 ⟨rfl,hb3⟩
 obtain⟨g0,g1,g2,g3,_⟩:=new_four w1 _ _ _ _ _ hb3
 have hb13:=hal.trans (hb3.mono hal.size)
 have hbW3:=HB1.out.trans (hb13.mono HB1.out.size)
 obtain⟨⟨c0,c1,c2,c3,c4,c5,c6,c7⟩,f0,f1,f2,f3,f4,f5,f6,f7⟩:=HV.out.2.2 w3 hbW3
 have hne:w1.heap.size<w3.heap.size:=by have:=hb3.size; simp at this; omega
 have hn2:w.heap.size+1<w3.heap.size:=by omega
 have hF:=HV.out.2.1.trans (hbW3.mono HV.out.2.1.size)
 have HF:=Lib.hid hF
 have HO:=Lib.hid (fun(h:¬(ShortF a∧ShortF b))=>show zG=outG a b∧(4:Int)=outGC a b by unfold outG outGC; rw[if_neg h,if_neg h]; exact⟨rfl,rfl⟩)
 clear e0 e1 hb3 hal hb13 hbW3 hF H1 H2
 by_cases x1:k1=0
 ·by_cases x2:k2=0
  ·have HG:=Lib.hid (And.intro (outG_of (HK.out.1.1 x1) (HK.out.2.1.1 x2) HK.out.2.2.1 HK.out.2.2.2) (show outGC a b=0 by unfold outGC; rw[if_pos ⟨HK.out.1.1 x1,HK.out.2.1.1 x2⟩]))
   subst x1 x2
   go_wp2_with fail
   refine bodyPost_ret (v:=.tuple #[.agg #[.bool b1,.string t1,.bool b2,.string t2,.bool b3,.string t3,.bool b4,.string t4],.int .i64 0]) (by simp[results,Tryz.results70,go_sem,c0,c1,c2,c3,c4,c5,c6,c7,hn2,cell_alloc_lt]) rfl ⟨by rw[HG.out.1,HG.out.2],?_⟩
   exact Below.alloc ((((((((HF.out.setCell (p:=⟨w.heap.size+1,0,none⟩) (Nat.le_succ _) _).setCell (p:=⟨w.heap.size+1,1,none⟩) (Nat.le_succ _) _).setCell (p:=⟨w.heap.size+1,2,none⟩) (Nat.le_succ _) _).setCell (p:=⟨w.heap.size+1,3,none⟩) (Nat.le_succ _) _).setCell (p:=⟨w.heap.size+1,4,none⟩) (Nat.le_succ _) _).setCell (p:=⟨w.heap.size+1,5,none⟩) (Nat.le_succ _) _).setCell (p:=⟨w.heap.size+1,6,none⟩) (Nat.le_succ _) _).setCell (p:=⟨w.heap.size+1,7,none⟩) (Nat.le_succ _) _) (by simp only[setCell_size]; exact(HF.out.size)) _
  ·have hx2:(k2 != 0)=true:=by simpa using x2
   have HN:=Lib.hid (HO.out (fun h=>x2 (HK.out.2.1.2 h.2)))
   subst x1
   go_wp2_with fail
   refine bodyPost_ret (v:=.tuple #[zG,.int .i64 4]) (by unfold zG; simp[results,Tryz.results70,go_sem,c0,c1,c2,c3,c4,c5,c6,c7,hn2,cell_alloc_lt]) rfl ⟨by rw[HN.out.1,HN.out.2],?_⟩
   exact Below.alloc ((((((((HF.out.setCell (p:=⟨w.heap.size+1,0,none⟩) (Nat.le_succ _) _).setCell (p:=⟨w.heap.size+1,1,none⟩) (Nat.le_succ _) _).setCell (p:=⟨w.heap.size+1,2,none⟩) (Nat.le_succ _) _).setCell (p:=⟨w.heap.size+1,3,none⟩) (Nat.le_succ _) _).setCell (p:=⟨w.heap.size+1,4,none⟩) (Nat.le_succ _) _).setCell (p:=⟨w.heap.size+1,5,none⟩) (Nat.le_succ _) _).setCell (p:=⟨w.heap.size+1,6,none⟩) (Nat.le_succ _) _).setCell (p:=⟨w.heap.size+1,7,none⟩) (Nat.le_succ _) _) (by simp only[setCell_size]; exact(HF.out.size)) _
 ·have hx1:(k1 != 0)=true:=by simpa using x1
  have HN:=Lib.hid (HO.out (fun h=>x1 (HK.out.1.2 h.1)))
  go_wp2_with fail
  refine bodyPost_ret (v:=.tuple #[zG,.int .i64 4]) (by unfold zG; simp[results,Tryz.results70,go_sem,c0,c1,c2,c3,c4,c5,c6,c7,hn2,cell_alloc_lt]) rfl ⟨by rw[HN.out.1,HN.out.2],?_⟩
  exact Below.alloc ((((((((HF.out.setCell (p:=⟨w.heap.size+1,0,none⟩) (Nat.le_succ _) _).setCell (p:=⟨w.heap.size+1,1,none⟩) (Nat.le_succ _) _).setCell (p:=⟨w.heap.size+1,2,none⟩) (Nat.le_succ _) _).setCell (p:=⟨w.heap.size+1,3,none⟩) (Nat.le_succ _) _).setCell (p:=⟨w.heap.size+1,4,none⟩) (Nat.le_succ _) _).setCell (p:=⟨w.heap.size+1,5,none⟩) (Nat.le_succ _) _).setCell (p:=⟨w.heap.size+1,6,none⟩) (Nat.le_succ _) _).setCell (p:=⟨w.heap.size+1,7,none⟩) (Nat.le_succ _) _) (by simp only[setCell_size]; exact(HF.out.size)) _
def MayF(v:Value):Fact:=fun u w A=>(¬FracOk v∧u=.pointer none)∨∃ q,v=encF q∧FracOk v∧RatP q u w A
theorem MayF.keeps(v:Value):(MayF v).Keeps:=fun u w w' A A' hs hk h=>h.imp id (fun⟨q,e,f,h⟩=>⟨q,e,f,RatP.keeps q u w w' A A' hs hk h⟩)
theorem MayR.mayF{v u:Value}{w w':World}{A:Nat→Prop}(h:MayR v w.heap.size u w' NoA)(hb:Below w.heap.size w w')(hA:Rcv A w):MayF v u w' A:=by
 rcases h with h|⟨q,e,f,h⟩
 ·exact .inl h
 ·exact .inr ⟨q,e,f,(h.new hb (Nat.le_refl _)).2 A hA⟩
def NQ(z:QC):Fact:=NumO z.re z.im
theorem NQ.keeps(z:QC):(NQ z).Keeps:=NumO.keeps _ _
def GaussOk(v:Value):Prop:=∃ z:QC,v=encG z.re z.im∧ShortF z.re∧ShortF z.im
theorem gaussOk_iff{n1 n2 n3 n4:Bool}{s1 s2 s3 s4:ByteArray}:GaussOk (.agg #[.bool n1,.string s1,.bool n2,.string s2,.bool n3,.string s3,.bool n4,.string s4])↔FracOk (.agg #[.bool n1,.string s1,.bool n2,.string s2])∧FracOk (.agg #[.bool n3,.string s3,.bool n4,.string s4]):=by
 constructor
 ·rintro⟨z,e,h1,h2⟩
  unfold encG at e
  simp only[Value.agg.injEq,Array.mk.injEq,List.cons.injEq,Value.bool.injEq,Value.string.injEq,and_true] at e
  obtain⟨e1,e2,e3,e4,e5,e6,e7,e8⟩:=e
  subst e1 e2 e3 e4 e5 e6 e7 e8
  exact⟨⟨z.re,rfl,h1⟩,⟨z.im,rfl,h2⟩⟩
 ·rintro⟨⟨a,e1,h1⟩,⟨b,e2,h2⟩⟩
  obtain⟨rfl,rfl,rfl,rfl⟩:=encF_parts e1
  obtain⟨rfl,rfl,rfl,rfl⟩:=encF_parts e2
  exact⟨⟨a,b⟩,rfl,h1,h2⟩
end Go.Proofs.YtplakbflfckldaaGreat
namespace Go.Proofs.YtplakbflfckldaaGreat
open Go.RowKit Tr
theorem obox(w:World)(a0 a1 a2 a3 a4 a5 a6 a7:Value) :
  ∃ W,Hid (W=(w.alloc (.cells #[a0,a1,a2,a3,a4,a5,a6,a7] 36)).alloc (.cells #[.pointer none,.pointer none] 98)∧Below w.heap.size w W∧W.heap.size=w.heap.size+2∧∀ w1,Below W.heap.size W w1→(w1.cell? ⟨w.heap.size,0,none⟩=some (a0)∧w1.cell? ⟨w.heap.size,1,none⟩=some (a1)∧w1.cell? ⟨w.heap.size,2,none⟩=some (a2)∧w1.cell? ⟨w.heap.size,3,none⟩=some (a3)∧w1.cell? ⟨w.heap.size,4,none⟩=some (a4)∧w1.cell? ⟨w.heap.size,5,none⟩=some (a5)∧w1.cell? ⟨w.heap.size,6,none⟩=some (a6)∧w1.cell? ⟨w.heap.size,7,none⟩=some (a7)) ∧
   (w1.cell? ⟨w.heap.size+1,0,none⟩=some (.pointer none)∧w1.cell? ⟨w.heap.size+1,1,none⟩=some (.pointer none)∧w1.frozen? ⟨w.heap.size+1,0,none⟩=false∧w1.frozen? ⟨w.heap.size+1,1,none⟩=false)):=by
 obtain⟨w1,hw1⟩:∃ w1,w1=w.alloc (.cells #[a0,a1,a2,a3,a4,a5,a6,a7] 36):=⟨_,rfl⟩
 have hz1:w1.heap.size=w.heap.size+1:=by rw[hw1]; simp
 have hb1:Below w.heap.size w w1:=by rw[hw1]; exact br.alloc (Nat.le_refl _) _
 obtain⟨w2,hw2⟩:∃ w2,w2=w1.alloc (.cells #[.pointer none,.pointer none] 98):=⟨_,rfl⟩
 have hz2:w2.heap.size=w.heap.size+2:=by rw[hw2]; simp[hz1]
 have hb2:Below w1.heap.size w1 w2:=by rw[hw2]; exact br.alloc (Nat.le_refl _) _
 have t2:Below w2.heap.size w2 w2:=Below.refl _ _
 have t1:Below w1.heap.size w1 w2:=hb2.trans (t2.mono hb2.size)
 refine⟨w2,Lib.hid ⟨by rw[hw2,hw1],hb1.trans (t1.mono hb1.size),hz2,fun w' h=>?_⟩⟩
 have e0:=(t1.trans (h.mono t1.size)).block w.heap.size (by rw[hw1]; simp)
 rw[hw1,heap_alloc_new] at e0
 have e1:=(t2.trans (h.mono t2.size)).block w1.heap.size (by rw[hw2]; simp)
 rw[hw2,heap_alloc_new] at e1
 rw[hz1] at e1
 refine⟨?_,?_⟩<;>simp[World.cell?,World.frozen?,e0,e1]
def OfF(v0:Value):Fact:=fun u w A=>∃ z,NQ z u w A∧(GaussOk v0→v0=encG z.re z.im)
theorem OfF.keeps(v0:Value):(OfF v0).Keeps:=fun u w w' A A' hs hk ⟨z,h,e⟩=>⟨z,NQ.keeps z u w w' A A' hs hk h,e⟩
theorem rcv_num{w:World}{A:Nat→Prop}{n:Nat}{W:World}(hA:Rcv A w)(hb:Below w.heap.size w W)(hn:W.heap[n]?=some (.cells #[.pointer none,.pointer none] 98 (0,0))):Rcv (Mo A n) W :=
 fun b h=>h.elim (fun h=>(hA.below hb) b h) (fun h=>by subst h; exact⟨_,hn,noW_num _ _ ⟨_,rfl⟩ ⟨_,rfl⟩ _⟩)
set_option maxRecDepth 100000 in
theorem EOf_any(n1 n2 n3 n4:Bool)(s1 s2 s3 s4:ByteArray)(l1:s1.size<274877906944)(l2:s2.size<274877906944)(l3:s3.size<274877906944)(l4:s4.size<274877906944)(A:Nat→Prop)(w:World)(hA:Rcv A w)(r:Bool)(hr:r=true↔GaussOk (.agg #[.bool n1,.string s1,.bool n2,.string s2,.bool n3,.string s3,.bool n4,.string s4])) :
  Calls Tryz.prog 109 #[.agg #[.bool n1,.string s1,.bool n2,.string s2,.bool n3,.string s3,.bool n4,.string s4]] w fun e w'=>∃ u,e=.returned (.tuple #[u,.bool r])∧Below w.heap.size w w'∧OfF (.agg #[.bool n1,.string s1,.bool n2,.string s2,.bool n3,.string s3,.bool n4,.string s4]) u w' A:=by
 obtain⟨W,HV⟩:=obox w (.bool n1) (.string s1) (.bool n2) (.string s2) (.bool n3) (.string s3) (.bool n4) (.string s4)
 have H1:=Lib.hid (fun w=>ERat_any n1 n2 s1 s2 l1 l2 w)
 have H2:=Lib.hid (fun w=>ERat_any n3 n4 s3 s4 l3 l4 w)
 have hs0:w.heap.size<W.heap.size:=by have:=HV.out.2.2.1; omega
 obtain⟨⟨e0,e1,e2,e3,e4,e5,e6,e7⟩,_⟩:=HV.out.2.2.2 W br
 have hR:Rcv (Mo A (w.heap.size+1)) W:=rcv_num hA HV.out.2.1 (by
  rw[HV.out.1]
  have:=heap_alloc_new (w.alloc (.cells #[.bool n1,.string s1,.bool n2,.string s2,.bool n3,.string s3,.bool n4,.string s4] 36)) (.cells #[.pointer none,.pointer none] 98 (0,0))
  simpa using this)
 have HR:=Lib.hid (And.intro hR hr)
 clear hA hr hR
 go_enter Tryz.func109,Tryz.ntmps109
 go_wp2_with fail
 rw[←HV.out.1]
 refine wp_region_inv [(.lit,[]),(.lit,[]),(.val,[]),(.lit,[]),(.lit,[]),(.val,[])]
  (pickF [(2,FactU (Mo A (w.heap.size+1)) (MayF (.agg #[.bool n1,.string s1,.bool n2,.string s2]))),(5,FactU (Mo A (w.heap.size+1)) (MayF (.agg #[.bool n3,.string s3,.bool n4,.string s4])))]) (by kernel_rfl) ?_ ?_ (by simp) (by simp) (by kernel_rfl)
 ·exact keeps_pick (by simp only[List.mem_cons,List.not_mem_nil,or_false]; rintro p (rfl|rfl)<;>exact FactU.keeps (MayF.keeps _))
 ·repeat (refine⟨_,fun f w1 h1=>by(have d0:=ct h1 hs0 e0; have d1:=ct h1 hs0 e1; have d2:=ct h1 hs0 e2; have d3:=ct h1 hs0 e3; have d4:=ct h1 hs0 e4; have d5:=ct h1 hs0 e5; have d6:=ct h1 hs0 e6; have d7:=ct h1 hs0 e7; go_simp; rfl),?_⟩)
  simp only[Act.put,nrA,nrB,nrC,Nat.reduceAdd]
  refine⟨fun f w1 A1 k1 hA hN hd K hK=>by
   go_simp
   refine(H1.out w1).mono ?_
   rintro e w' ⟨u,rfl,hm,hb⟩
   exact hK _ _ hb (hm.mayF hb (rcv_un (HR.out.1.below (br.drew.trans k1)) hA)),?_⟩
  repeat (refine⟨_,fun f w1 h1=>by(have d0:=ct h1 hs0 e0; have d1:=ct h1 hs0 e1; have d2:=ct h1 hs0 e2; have d3:=ct h1 hs0 e3; have d4:=ct h1 hs0 e4; have d5:=ct h1 hs0 e5; have d6:=ct h1 hs0 e6; have d7:=ct h1 hs0 e7; go_simp; rfl),?_⟩)
  simp only[Act.put,nrA,nrB,nrC,Nat.reduceAdd]
  refine⟨fun f w1 A1 k1 hA hN hd K hK=>by
   go_simp
   refine(H2.out w1).mono ?_
   rintro e w' ⟨u,rfl,hm,hb⟩
   exact hK _ _ hb (hm.mayF hb (rcv_un (HR.out.1.below (br.drew.trans k1)) hA)),?_⟩
  intro f w1 k1 hF
  have i2:MayF (.agg #[.bool n1,.string s1,.bool n2,.string s2]) (f 2) w1 (Mo A (w.heap.size+1)):=FactU.done (MayF.keeps _) hF.1.2
  have i5:MayF (.agg #[.bool n3,.string s3,.bool n4,.string s4]) (f 5) w1 (Mo A (w.heap.size+1)):=FactU.done (MayF.keeps _) hF.2
  clear hF
  simp only[Act.put,nrA,nrB,nrC]
  generalize f 2=x2 at *
  generalize f 5=x5 at *
  have hb1:Below W.heap.size W w1:=br.drew.trans k1
  obtain⟨_,c0,c1,f0,f1⟩:=HV.out.2.2.2 w1 hb1
  have HB:=Lib.hid (HV.out.2.1.trans (hb1.mono HV.out.2.1.size))
  clear e0 e1 e2 e3 e4 e5 e6 e7 k1 hb1 H1 H2
  rcases i2 with⟨hn1,rfl⟩|⟨q1,eq1,ok1,r1⟩
  ·have hrf:r=false:=by
    cases h:r
    ·rfl
    ·exact absurd (gaussOk_iff.1 (HR.out.2.1 h)).1 hn1
   subst hrf
   have HG:=Lib.hid (show ¬GaussOk (.agg #[.bool n1,.string s1,.bool n2,.string s2,.bool n3,.string s3,.bool n4,.string s4]) from fun h=>hn1 (gaussOk_iff.1 h).1)
   have j5:∃ b,RatO b x5 w1 (Mo A (w.heap.size+1)):=by
    rcases i5 with⟨_,rfl⟩|⟨q2,_,_,r2⟩
    ·exact⟨0,.inl ⟨rfl,rfl⟩⟩
    ·exact⟨q2,.inr r2⟩
   obtain⟨b,j5⟩:=j5
   obtain⟨p5,rfl⟩:=j5.shape
   have HJ:=Lib.hid j5
   clear i5 j5 hn1
   go_wp2_with fail
   refine bodyPost_ret (v:=.tuple #[.agg #[.pointer none,.pointer p5],.bool false]) (by simp[results,Tryz.results109,go_sem,c0,c1]) rfl ?_
   obtain⟨u,hu,hb,hz⟩:=put_numO HB.out (.inl ⟨rfl,rfl⟩:RatO 0 (.pointer none) w1 (Mo A (w.heap.size+1))) HJ.out (by omega)
   cases hu
   exact⟨_,rfl,hb,⟨⟨0,b⟩,hz,fun h=>absurd h HG.out⟩⟩
  ·obtain⟨m1,rfl⟩:=r1.shape
   rcases i5 with⟨hn2,rfl⟩|⟨q2,eq2,ok2,r2⟩
   ·have hrf:r=false:=by
     cases h:r
     ·rfl
     ·exact absurd (gaussOk_iff.1 (HR.out.2.1 h)).2 hn2
    subst hrf
    have HG:=Lib.hid (show ¬GaussOk (.agg #[.bool n1,.string s1,.bool n2,.string s2,.bool n3,.string s3,.bool n4,.string s4]) from fun h=>hn2 (gaussOk_iff.1 h).2)
    have HJ:=Lib.hid r1
    clear r1 hn2 eq1 ok1
    go_wp2_with fail
    refine bodyPost_ret (v:=.tuple #[.agg #[.pointer (some ⟨m1,0,none⟩),.pointer none],.bool false]) (by simp[results,Tryz.results109,go_sem,c0,c1]) rfl ?_
    obtain⟨u,hu,hb,hz⟩:=put_numO HB.out (.inr HJ.out) (.inl ⟨rfl,rfl⟩:RatO 0 (.pointer none) w1 (Mo A (w.heap.size+1))) (by omega)
    cases hu
    exact⟨_,rfl,hb,⟨⟨q1,0⟩,hz,fun h=>absurd h HG.out⟩⟩
   ·obtain⟨m2,rfl⟩:=r2.shape
    have hrt:r=true:=HR.out.2.2 (gaussOk_iff.2 ⟨ok1,ok2⟩)
    subst hrt
    have HJ:=Lib.hid (And.intro r1 r2)
    have HG:=Lib.hid (show .agg #[.bool n1,.string s1,.bool n2,.string s2,.bool n3,.string s3,.bool n4,.string s4]=encG q1 q2 by
     obtain⟨rfl,rfl,rfl,rfl⟩:=encF_parts eq1
     obtain⟨rfl,rfl,rfl,rfl⟩:=encF_parts eq2
     rfl)
    clear r1 r2 eq1 eq2 ok1 ok2
    go_wp2_with fail
    refine bodyPost_ret (v:=.tuple #[.agg #[.pointer (some ⟨m1,0,none⟩),.pointer (some ⟨m2,0,none⟩)],.bool true]) (by simp[results,Tryz.results109,go_sem,c0,c1]) rfl ?_
    obtain⟨u,hu,hb,hz⟩:=put_numO HB.out (.inr HJ.out.1) (.inr HJ.out.2) (by omega)
    cases hu
    exact⟨_,rfl,hb,⟨⟨q1,q2⟩,hz,fun _=>HG.out⟩⟩
end Go.Proofs.YtplakbflfckldaaGreat
namespace Go.Proofs.YtplakbflfckldaaGreat
open Go.RowKit Tr
def cmpR(x y:Rat):Int:=if x<y then -1 else if x=y then 0 else 1
theorem cmpR_int(x y:Rat):cmpI (x.num*(y.den:Int)) (y.num*(x.den:Int))=cmpR x y:=by
 unfold cmpI cmpR
 have h1:x<y↔x.num*(y.den:Int)<y.num*(x.den:Int):=Rat.lt_iff x y
 have h2:y<x↔y.num*(x.den:Int)<x.num*(y.den:Int):=Rat.lt_iff y x
 by_cases hxy:x<y
 ·rw[if_pos (h1.1 hxy),if_pos hxy]
 ·rw[if_neg (fun h=>hxy (h1.2 h)),if_neg hxy]
  by_cases hyx:y<x
  ·rw[if_pos (h2.1 hyx),if_neg (fun e=>by subst e; exact hxy hyx)]
  ·rw[if_neg (fun h=>hyx (h2.2 h)),if_pos (Rat.le_antisymm (Rat.not_lt.1 hyx) (Rat.not_lt.1 hxy))]
set_option maxRecDepth 100000 in
theorem RCmp_any(x y:Rat)(vx vy:Value)(A:Nat→Prop)(w:World)(hx:RatP x vx w A)(hy:RatP y vy w A)(k l:Nat)(hlx:RL x k)(hly:RL y l)(hkl:k+l<137438953472) :
  Calls Tryz.prog 183 #[vx,vy] w fun e w'=>e=.returned (.int .i64 (cmpR x y))∧Below w.heap.size w w':=by
 have hx:=hx.noA
 have hy:=hy.noA
 obtain⟨b,rfl⟩:=hx.shape
 obtain⟨b2,rfl⟩:=hy.shape
 obtain⟨_,eb,hxn,_⟩:=id hx
 cases eb
 obtain⟨_,eb,hyn,_⟩:=id hy
 cases eb
 have l1:(words (x.num*(y.den:Int)).natAbs).length≤k+l:=by rw[Int.natAbs_mul]; exact wl_mul hlx.1 (by simpa using hly.2)
 have l2:(words (y.num*(x.den:Int)).natAbs).length≤k+l:=by rw[Int.natAbs_mul,Nat.add_comm]; exact wl_mul hly.1 (by simpa using hlx.2)
 obtain⟨cz,hcz⟩:∃ cz,cz=cmpR x y:=⟨_,rfl⟩
 rw[←hcz]
 have HZ:=Lib.hid hcz
 clear hcz
 go_enter Tryz.func183,Tryz.ntmps183
 go_wp2_with fail
 refine wp_region_inv [(.new zI,[]),(.lit,[]),(.lit,[]),(.lit,[]),(.lit,[]),(.val,[]),(.on 0 zI,[5]),(.new zI,[]),(.lit,[]),(.lit,[]),(.lit,[]),(.lit,[]),(.val,[]),(.on 7 zI,[12]),(.val,[6,13])]
  (pickF [(5,IntP y.den),(6,IntP (x.num*(y.den:Int))),(12,IntP x.den),(13,IntP (y.num*(x.den:Int))),(14,fun v _ _=>v=.int .i64 cz)]) (by kernel_rfl) ?_ ?_ (by simp[noW_zInt]) (by simp) (by kernel_rfl)
 ·exact keeps_pick (by simp[IntP.keeps,keeps_pure])
 ·refine⟨fun f w1=>by go_simp,?_⟩
  refine⟨_,fun f w1 h1=>by go_simp; rfl,?_⟩
  refine⟨_,fun f w1 h1=>by go_simp; rfl,?_⟩
  refine⟨_,fun f w1 h1=>by go_simp; rfl,?_⟩
  refine⟨_,fun f w1 h1=>by go_simp; rfl,?_⟩
  simp only[Act.put,nrA,nrB,nrC,Nat.reduceAdd]
  refine⟨fun f w1 A1 h1 hA hN hd K hK=>by
   go_simp
   refine(den_any y _ A1 w1 (later (RatP.keeps _) hy h1 hN) hA).mono ?_
   rintro e w' ⟨v,rfl,hb,hi⟩
   exact hK _ _ hb hi,?_⟩
  simp only[Act.put,nrA,nrB,nrC,Nat.reduceAdd]
  refine⟨fun f w1 A1 m1 h1 hA hN hAm hm0 e hz hd K hK=>by
   simp only[e] at hK ⊢
   have i1:IntP y.den (f 5) w1 A1:=hd 5 (by simp)
   go_simp
   refine(mul_any m1 0 _ _ x.num y.den _ _ A1 w1 hz (by decide) noW_zInt (later (IntP.keeps _) hxn h1 hN) i1 (by have:=hlx.1; omega) (by have:=hly.2; simp; omega)).mono ?_
   rintro e w' ⟨rfl,hp⟩
   exact hK _ w' hp.1 (hp.intP (by decide) hA),?_⟩
  refine⟨fun f w1=>by go_simp,?_⟩
  refine⟨_,fun f w1 h1=>by go_simp; rfl,?_⟩
  refine⟨_,fun f w1 h1=>by go_simp; rfl,?_⟩
  refine⟨_,fun f w1 h1=>by go_simp; rfl,?_⟩
  refine⟨_,fun f w1 h1=>by go_simp; rfl,?_⟩
  simp only[Act.put,nrA,nrB,nrC,Nat.reduceAdd]
  refine⟨fun f w1 A1 h1 hA hN hd K hK=>by
   go_simp
   refine(den_any x _ A1 w1 (later (RatP.keeps _) hx h1 hN) hA).mono ?_
   rintro e w' ⟨v,rfl,hb,hi⟩
   exact hK _ _ hb hi,?_⟩
  simp only[Act.put,nrA,nrB,nrC,Nat.reduceAdd]
  refine⟨fun f w1 A1 m1 h1 hA hN hAm hm0 e hz hd K hK=>by
   simp only[e] at hK ⊢
   have i1:IntP x.den (f 12) w1 A1:=hd 12 (by simp)
   go_simp
   refine(mul_any m1 0 _ _ y.num x.den _ _ A1 w1 hz (by decide) noW_zInt (later (IntP.keeps _) hyn h1 hN) i1 (by have:=hly.1; omega) (by have:=hlx.2; simp; omega)).mono ?_
   rintro e w' ⟨rfl,hp⟩
   exact hK _ w' hp.1 (hp.intP (by decide) hA),?_⟩
  simp only[Act.put,nrA,nrB,nrC,Nat.reduceAdd]
  refine⟨fun f w1 A1 h1 hA hN hd K hK=>by
   have i1:IntP (x.num*(y.den:Int)) (f 6) w1 A1:=hd 6 (by simp)
   have i2:IntP (y.num*(x.den:Int)) (f 13) w1 A1:=hd 13 (by simp)
   go_simp
   refine(Cmp_any _ _ _ _ A1 w1 i1 i2 (by omega) (by omega)).mono ?_
   rintro e w' ⟨rfl,hb⟩
   rw[cmpR_int,←HZ.out]
   exact hK _ _ hb rfl,?_⟩
  intro f w1 h1 hF
  have hv:f 14=.int .i64 cz:=hF.2
  clear hF
  simp only[Act.put,nrA,nrB,nrC]
  rw[hv]
  generalize f 5=v5
  generalize f 6=v6
  generalize f 12=v12
  generalize f 13=v13
  clear hv hx hy hxn hyn
  go_wp2
  go_ret
  exact⟨rfl,br.drew.trans h1⟩
end Go.Proofs.YtplakbflfckldaaGreat
set_option linter.unusedSimpArgs false
namespace Go.Proofs.YtplakbflfckldaaGreat
open Go.RowKit Tr
theorem qc_ext{x y:QC}(h1:x.re=y.re)(h2:x.im=y.im):x=y:=by cases x; cases y; simp at h1 h2; rw[h1,h2]
theorem qsr(x y:QC):(x - y).re=x.re - y.re:=rfl
theorem qsi(x y:QC):(x - y).im=x.im - y.im:=rfl
def frm8(cs:List Int)(a b n:BitVec 3):BitVec 3×BitVec 3×BitVec 3:=cs.foldl (fun s c=>(s.1*a - s.2.1*b+BitVec.ofInt 3 c*s.2.2,s.1*b+s.2.1*a,s.2.2*n)) (0,0,1)
def NoRoot(cs:List Int):Prop:=∀ a b n:BitVec 3,(frm8 cs a b n).1=0→(frm8 cs a b n).2.1=0→a.toNat % 2=0∧b.toNat % 2=0∧n.toNat % 2=0
instance (cs:List Int):Decidable (NoRoot cs):=by unfold NoRoot; infer_instance
def fg(s:QC):Nat→QC×QC
 | 0=>(⟨1,0⟩,⟨0,0⟩)
 | k+1=>(s*((fg s k).1 - (fg s k).2) - (fg s k).1,(fg s k).1 - (fg s k).2)
theorem qc_sub0{x y:QC}:x - y=⟨0,0⟩↔x=y:=by
 constructor
 ·intro h
  have h1:x.re - y.re=0:=congrArg QC.re h
  have h2:x.im - y.im=0:=congrArg QC.im h
  apply qc_ext<;>grind
 ·rintro rfl; apply qc_ext<;>simp only[qsr,qsi]<;>grind
def cj(z:QC):QC:=⟨z.re,-z.im⟩
end Go.Proofs.YtplakbflfckldaaGreat
namespace Go.Proofs.YtplakbflfckldaaGreat
open Go.RowKit Tr
theorem natAbs_shl(x:Int)(N:Nat):(x*2 ^ N).natAbs=x.natAbs*2 ^ N:=by
 rw[Int.natAbs_mul]; congr 1
theorem neg_shl(x:Int)(N:Nat):decide (x*2 ^ N<0)=(decide (x<0) && decide (wv (words (x*2 ^ N).natAbs)≠0)):=by
 rw[wv_words,natAbs_shl]
 have hp:(0:Int)<2 ^ N:=Int.pow_pos (by decide)
 have hn:0<2 ^ N:=Nat.two_pow_pos N
 by_cases h:x<0
 ·have h1:x*2 ^ N<0:=Int.mul_neg_of_neg_of_pos h hp
  have h2:x.natAbs*2 ^ N≠0:=Nat.ne_of_gt (Nat.mul_pos (by omega) hn)
  simp[h,h1]; omega
 ·have h1:¬x*2 ^ N<0:=Int.not_lt.2 (Int.mul_nonneg (by omega) (Int.le_of_lt hp))
  simp[h,h1]
theorem Lsh_any(m o:Nat)(C:Array Value)(T:TypeId)(x:Int)(vx:Value)(N:Nat)(A:Nat→Prop)(w:World)(hm:w.heap[m]?=some (.cells C T (0,0)))(ho:o+1<C.size)(hC:NoW (.cells C T (0,0)))(hx:IntP x vx w A)(hn:(words x.natAbs).length<274877906944)(hN:N<1099511627776)(hl:(words (x.natAbs*2 ^ N)).length<1099511627776) :
  Calls Tryz.prog 215 #[.pointer (some ⟨m,o,none⟩),vx,.int .u64 N] w fun e w'=>e=.returned (.pointer (some ⟨m,o,none⟩))∧Put m o C T (x*2 ^ N) w w':=by
 obtain⟨b,bo,sl,rfl,hb,_,c0,c1,hsl⟩:=hx
 have hw:=hsl.wsl
 have hmlt:m<w.heap.size:=(Array.getElem?_eq_some_iff.1 hm).1
 have eN:IntKind.i64.wrap (N:Int)=(N:Int):=by rw[IntKind.wrap_i64]; omega
 have hleft:=fun(w1:World) (h1:Below w.heap.size w w1)=>left_any (words x.natAbs) N sl w1 (wok_words _) (hw.below h1) (by omega) hN
 rw[wv_words] at hleft
 have HL:=Lib.hid hleft
 have HN:=Lib.hid (And.intro hl eN)
 clear hleft hl eN
 go_enter Tryz.func215,Tryz.ntmps215
 go_wp2_with fail
 refine wp_region_inv [(.lit,[]),(.lit,[]),(.lit,[]),(.lit,[]),(.lit,[]),(.lit,[]),(.lit,[]),(.lit,[]),(.lit,[]),(.lit,[]),(.lit,[]),(.val,[])] (pickF [(11,fun v w A=>WSlA A w v (words (x.natAbs*2 ^ N)))]) (by kernel_rfl) ?_ ?_ (by simp) (by simp) (by kernel_rfl)
 ·exact keeps_pick (by simp[keeps_wsla])
 ·refine⟨_,fun f w1 h1=>by go_simp; rfl,?_⟩
  refine⟨_,fun f w1 h1=>by go_simp; rfl,?_⟩
  refine⟨_,fun f w1 h1=>by go_simp; rfl,?_⟩
  refine⟨_,fun f w1 h1=>by go_simp; rfl,?_⟩
  refine⟨_,fun f w1 h1=>by have:=ct h1 hb c0; go_simp; rfl,?_⟩
  refine⟨_,fun f w1 h1=>by go_simp; rfl,?_⟩
  refine⟨_,fun f w1 h1=>by go_simp; rfl,?_⟩
  refine⟨_,fun f w1 h1=>by go_simp; rfl,?_⟩
  refine⟨_,fun f w1 h1=>by have:=ct h1 hb c1; go_simp; rfl,?_⟩
  refine⟨_,fun f w1 h1=>by go_simp; rfl,?_⟩
  refine⟨.int .i64 N,fun f w1 h1=>by have:=HN.out.2; go_simp,?_⟩
  simp only[Act.put,nrA,nrB,nrC,Nat.reduceAdd]
  refine⟨fun f w1 A1 h1 hA hN' hd K hK=>?_,?_⟩
  ·go_simp
   refine(HL.out w1 (br.drew.trans h1)).mono ?_
   rintro e w' ⟨v',rfl,hv,hb'⟩
   exact hK v' w' hb' (hv.avoids (hA.below hb'))
  ·intro f w1 h1 hF
   have hv:WSlA NoA w1 (f 11) (words (x.natAbs*2 ^ N)):=hF.2
   have hv:=hv.wsl
   clear hF
   simp only[Act.put,nrA,nrB,nrC]
   generalize f 11=v9 at *
   have h1':Below w.heap.size w w1:=br.drew.trans h1
   have his:=is_put m o C T (decide (x<0)) (words (x.natAbs*2 ^ N)) v9 w1 (x*2 ^ N) ((h1.block m hmlt).trans hm) ho hC (wok_words _) hv HN.out.1 (by rw[wv_words]; exact natAbs_shl x N) (by rw[←natAbs_shl]; exact neg_shl x N)
   have HI:=Lib.hid his
   clear his hm hC c0 c1
   go_wp2_with (go_at_call 211; refine HI.out.mono ?_; rintro e w' ⟨rfl,hp⟩)
   go_ret
   exact⟨rfl,hp.below h1'⟩
theorem nonneg_shr(n N:Nat):decide (((n / 2 ^ N:Nat):Int)<0)=(false && decide (wv (words (n / 2 ^ N))≠0)):=by
 have:=Int.natCast_nonneg (n / 2 ^ N)
 simp only[Bool.false_and,decide_eq_false_iff_not]; omega
theorem Rsh_any(m o:Nat)(C:Array Value)(T:TypeId)(n:Nat)(vx:Value)(N:Nat)(A:Nat→Prop)(w:World)(hm:w.heap[m]?=some (.cells C T (0,0)))(ho:o+1<C.size)(hC:NoW (.cells C T (0,0)))(hx:IntP (n:Int) vx w A)(hn:(words n).length<274877906944)(hN:N<1099511627776) :
  Calls Tryz.prog 216 #[.pointer (some ⟨m,o,none⟩),vx,.int .u64 N] w fun e w'=>e=.returned (.pointer (some ⟨m,o,none⟩))∧Put m o C T ((n / 2 ^ N:Nat):Int) w w':=by
 obtain⟨b,bo,sl,rfl,hb,_,c0,c1,hsl⟩:=hx
 rw[show((n:Int)).natAbs=n from rfl] at hsl
 rw[show decide ((n:Int)<0)=false by simp] at c0
 have hw:=hsl.wsl
 have hmlt:m<w.heap.size:=(Array.getElem?_eq_some_iff.1 hm).1
 have eN:IntKind.i64.wrap (N:Int)=(N:Int):=by rw[IntKind.wrap_i64]; omega
 have hright:=right_any (words n) N sl w (wok_words _) hw (by omega) hN
 rw[wv_words] at hright
 have hwl:(words (n / 2 ^ N)).length<1099511627776:=by
  have h1:=lt_words n
  have h2:n / 2 ^ N<4294967296 ^ (words n).length:=Nat.lt_of_le_of_lt (Nat.div_le_self _ _) h1
  have:=words_length_le h2; omega
 have his:=fun(w1:World) (h1:Below w.heap.size w w1) v (hv:WSl w1 v (words (n / 2 ^ N)))=>is_put m o C T false (words (n / 2 ^ N)) v w1 ((n / 2 ^ N:Nat):Int) ((h1.block m hmlt).trans hm) ho hC (wok_words _) hv hwl (by rw[wv_words]; rfl) (nonneg_shr n N)
 have hcell:=fun(w1:World) (h1:Below w.heap.size w w1)=>(h1.cell (p:=⟨b,bo,none⟩) hb).trans c0
 have HR:=Lib.hid hright
 have HI:=Lib.hid his
 have HC:=Lib.hid hcell
 clear hright his hm hC hw hsl hcell
 go_enter Tryz.func216,Tryz.ntmps216
 go_wp2_with (go_at_call 240; refine HR.out.mono ?_; rintro e w1 ⟨v7,rfl,hv,hb1⟩; have d0:=HC.out w1 hb1; have d1:∀ k,(w1.drewN k).cell? ⟨b,bo,none⟩=some (.bool false):=fun _=>d0; have HV:=Lib.hid hv; clear hv)
 have hbn:∀ k,Below w.heap.size w (w1.drewN k):=fun k=>hb1.trans ⟨rfl,rfl,rfl,Nat.le_refl _,fun _ _=>rfl⟩
 have hX:=fun k=>HI.out (w1.drewN k) (hbn k) v7 HV.out
 have HX:=Lib.hid hX
 clear hX
 go_quiet (fail)
 go_wp2_with (go_at_call 211; refine(HX.out _).mono ?_; rintro e w' ⟨rfl,hp⟩)
 go_ret
 exact⟨rfl,hp.below (hbn _)⟩
end Go.Proofs.YtplakbflfckldaaGreat
