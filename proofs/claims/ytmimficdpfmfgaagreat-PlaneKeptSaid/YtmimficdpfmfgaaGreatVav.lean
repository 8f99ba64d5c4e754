/- Laws for the walk. -/
import Derived.Test.YtmimficdpfmfgaaGreatVau
set_option linter.unusedVariables false
set_option maxHeartbeats 4000000
set_option maxRecDepth 100000
namespace Go.Proofs.YtmimficdpfmfgaaGreat
open Go.RowKit Tr
abbrev Un(A0 A:Nat→Prop):Nat→Prop:=fun b=>A b∨A0 b
theorem Qeg{A0 A:Nat→Prop}{w:World}(h0:Rcv A0 w)(h:Rcv A w):Rcv (Un A0 A) w:=fun b hb=>hb.elim (h b) (h0 b)
def Qas(A0:Nat→Prop)(R:Qcl):Qcl:=fun v w A=>R v w (Un A0 A)
theorem Qas.keeps{A0:Nat→Prop}{R:Qcl}(h:R.Keeps):(Qas A0 R).Keeps:=by
 intro v w w' A A' hs hk hR
 refine h v w w' _ _ hs (fun b hb hn=>?_) hR
 obtain⟨k1,k2⟩:=hk b hb (fun h=>hn (.inl h))
 exact⟨k1,fun h=>h.elim k2 (fun h=>hn (.inr h))⟩
theorem Qas.start{A0:Nat→Prop}{R:Qcl}(h:R.Keeps){v:Value}{w:World}(hR:R v w A0):Qas A0 R v w NoA :=
 h v w w A0 _ (Nat.le_refl _) (fun b _ hn=>⟨rfl,fun h=>h.elim (fun h=>h.elim) hn⟩) hR
theorem Qas.done{A0:Nat→Prop}{R:Qcl}(h:R.Keeps){v:Value}{w:World}(hR:Qas A0 R v w NoA):R v w A0 :=
 h v w w _ A0 (Nat.le_refl _) (fun b _ hn=>⟨rfl,fun h=>hn (.inr h)⟩) hR
theorem PutR.ratU{m base:Nat}{q:Rat}{w w':World}(h:PutR m q w w'){A0 A:Nat→Prop}(hA0:Rcv A0 w)(hA:Rcv A w)(hm:base≤m)(h0:∀ b,A0 b→b<base):Qas A0 (Qbb q) (.pointer (some ⟨m,0,none⟩)) w' (fun b=>A b∧b≠m) :=
 (h.ratP (Qeg hA0 hA)).wider fun b hb=>hb.elim (fun h=>⟨.inl h.1,h.2⟩) (fun h=>⟨.inr h,fun e=>by have:=h0 b h; omega⟩)
def Qef(q:Rat):Qcl:=fun v w A=>(v=.pointer none∧q=0)∨Qbb q v w A
theorem Qef.keeps(q:Rat):(Qef q).Keeps:=fun v w w' A A' hs hk h=>h.imp id (Qbb.keeps q v w w' A A' hs hk)
theorem Qef.below{q:Rat}{v:Value}{w w':World}{A:Nat→Prop}(h:Qef q v w A)(hb:Below w.heap.size w w'):Qef q v w' A:=Qcl.Keeps.below (Qef.keeps q) hb h
theorem Qbb.zero{m:Nat}{w:World}{A:Nat→Prop}(h:w.heap[m]?=some zR)(hA:¬A m):Qbb 0 (.pointer (some ⟨m,0,none⟩)) w A:=by
 have hlt:=(Array.getElem?_eq_some_iff.1 h).1
 have hn:WSlA A w (.slice none 0 0) (Qac 0):=by rw[Qaq]; exact⟨none,0,rfl,Nat.le_refl _,fun h=>absurd rfl h⟩
 refine⟨m,rfl,⟨m,0,.slice none 0 0,rfl,hlt,hA,by simp[World.cell?,h],by simp[World.cell?,h],hn⟩,.inr ⟨rfl,m,2,.slice none 0 0,rfl,hlt,hA,by simp[World.cell?,h],by simp[World.cell?,h],hn⟩⟩
theorem Qdu(q:Rat)(v:Value)(A:Nat→Prop)(w:World)(hx:Qef q v w A)(hA:Rcv A w) :
  Calls Tryz.prog 209 #[v] w fun e w'=>∃ u,e=.returned u∧Below w.heap.size w w'∧Qbb q u w' A:=by
 rcases hx with⟨rfl,rfl⟩|hx
 ·have hb:=(Below.refl w.heap.size w).alloc (Nat.le_refl _) zR
  go_enter Tryz.func209,Tryz.ntmps209
  go_wp2
  go_ret
  exact⟨_,rfl,hb,Qbb.zero (heap_alloc_new w _) (fun h=>by have:=hA.lt h; omega)⟩
 ·obtain⟨b,rfl⟩:=hx.shape
  have HX:=Lib.hid hx
  clear hx
  go_enter Tryz.func209,Tryz.ntmps209
  go_wp2
  go_ret
  exact⟨_,rfl,Below.refl _ _,HX.out⟩
theorem Qgn(x y:Rat)(vx vy:Value)(A:Nat→Prop)(w:World)(hx:Qef x vx w A)(hy:Qef y vy w A)(hA:Rcv A w)(k l:Nat)(hlx:RL x k)(hly:RL y l)(hkl:k+l<137438953472) :
  Calls Tryz.prog 178 #[vx,vy] w fun e w'=>∃ u,e=.returned u∧Below w.heap.size w w'∧Qbb (x*y) u w' A:=by
 have hal:=(Below.refl w.heap.size w).alloc (Nat.le_refl _) zR
 have HA:=Lib.hid (And.intro hA hal)
 have H1:=Lib.hid (Qdu x vx A (w.alloc zR) (hx.below hal) (hA.below hal))
 have HY:=Lib.hid hy
 clear hx hy hal hA
 go_enter Tryz.func178,Tryz.ntmps178
 go_wp2_with fail
 refine H1.out.mono ?_
 rintro e w1 ⟨u1,rfl,hb1,hr1⟩
 have hb01:Below w.heap.size w w1:=HA.out.2.trans (hb1.mono (by simp))
 have H2:=Lib.hid (Qdu y vy A w1 (HY.out.below hb01) (HA.out.1.below hb01))
 have HR1:=Lib.hid hr1
 clear hr1
 go_wp2_with fail
 refine H2.out.mono ?_
 rintro e w2 ⟨u2,rfl,hb2,hr2⟩
 have hm:w2.heap[w.heap.size]?=some zR:=(hb2.block _ (by have:=hb1.size; simp at this; omega)).trans ((hb1.block _ (by simp)).trans (heap_alloc_new w _))
 have HM:=Lib.hid (RMul_any w.heap.size _ x y u1 u2 A w2 hm (by decide) Qdb (HR1.out.below hb2) hr2 k l hlx hly hkl)
 have HB:=Lib.hid (hb01.trans (hb2.mono hb01.size))
 clear H1 H2 HR1 hb1 hb2 hb01 hr2 hm
 go_wp2_with fail
 refine HM.out.mono ?_
 rintro e w3 ⟨rfl,hp⟩
 have hn:=hp.newAt HB.out (Nat.le_refl _)
 have HN:=Lib.hid hn
 clear hn hp HM
 go_wp2
 go_ret
 exact⟨_,rfl,HN.out.1,HN.out.2 A HA.out.1⟩
def Qho(a b:Rat):Qcl:=fun v w A=>∃ u1 u2,v=.agg #[u1,u2]∧Qef a u1 w A∧Qef b u2 w A
theorem Qho.keeps(a b:Rat):(Qho a b).Keeps:=fun v w w' A A' hs hk ⟨u1,u2,h1,h2,h3⟩=>⟨u1,u2,h1,Qef.keeps a _ _ _ _ _ hs hk h2,Qef.keeps b _ _ _ _ _ hs hk h3⟩
theorem Qho.below{a b:Rat}{v:Value}{w w':World}{A:Nat→Prop}(h:Qho a b v w A)(hb:Below w.heap.size w w'):Qho a b v w' A:=Qcl.Keeps.below (Qho.keeps a b) hb h
abbrev Mo(A:Nat→Prop)(n:Nat):Nat→Prop:=fun b=>A b∨b=n
theorem Qhy(R:Qcl)(hR:R.Keeps){n o:Nat}{A:Nat→Prop}{x y:Value}{w:World}(h:R x w (Mo A n)):R x (w.setCell ⟨n,o,none⟩ y) (Mo A n) :=
 hR _ _ _ _ _ (by simp[World.setCell]) (fun b _ hn=>⟨Below.heap_setCell _ _ _ _ (fun e=>hn (.inr e)),hn⟩) h
theorem more_less(R:Qcl)(hR:R.Keeps){n:Nat}{A:Nat→Prop}{x:Value}{w:World}(h:R x w (Mo A n)):R x w A :=
 hR _ _ _ _ _ (Nat.le_refl _) (fun b _ hn=>⟨rfl,fun h=>hn (.inl h)⟩) h
theorem put_num{a b:Rat}{v1 v2:Value}{w w1:World}{A:Nat→Prop}{n:Nat}(hb:Below w.heap.size w w1)(h1:Qbb a v1 w1 (Mo A n))(h2:Qbb b v2 w1 (Mo A n))(hn:w.heap.size≤n) :
  ∃ u,Ending.returned (.agg #[v1,v2])=.returned u∧Below w.heap.size w ((w1.setCell ⟨n,0,none⟩ v1).setCell ⟨n,1,none⟩ v2)∧Qho a b u ((w1.setCell ⟨n,0,none⟩ v1).setCell ⟨n,1,none⟩ v2) A:=by
 refine⟨_,rfl,(hb.setCell (p:=⟨n,0,none⟩) hn _).setCell (p:=⟨n,1,none⟩) hn _,v1,v2,rfl,.inr ?_,.inr ?_⟩
 ·exact more_less _ (Qbb.keeps a) (Qhy _ (Qbb.keeps a) (Qhy _ (Qbb.keeps a) h1))
 ·exact more_less _ (Qbb.keeps b) (Qhy _ (Qbb.keeps b) (Qhy _ (Qbb.keeps b) h2))
theorem Qdh{R:Qcl}(hR:R.Keeps){n:Nat}{A:Nat→Prop}{x:Value}{w w1:World}(hb:Below w.heap.size w w1)(hn:w.heap.size≤n)(h:R x w A):Qas (Mo A n) R x w1 NoA :=
 hR _ _ _ _ _ hb.size (fun b hlt hna=>⟨hb.block b hlt,fun h=>h.elim (fun h=>h) (fun h=>h.elim hna (fun e=>by omega))⟩) h
theorem noW_num(v1 v2:Value)(h1:∃ p,v1=.pointer p)(h2:∃ p,v2=.pointer p)(T:TypeId):NoW (.cells #[v1,v2] T (0,0)):=by
 obtain⟨p,rfl⟩:=h1
 obtain⟨q,rfl⟩:=h2
 intro cs T fr e i k x
 cases e
 rcases i with _|_|i<;>simp
theorem box_one(w:World)(u1 u2:Value)(A:Nat→Prop)(hA:Rcv A w) :
  ∃ W,Hid (W=(w.alloc (.cells #[u1,u2] 116)).alloc (.cells #[.pointer none,.pointer none] 116)∧Below w.heap.size w W∧Rcv (Mo A (w.heap.size+1)) W∧∀ w1,Below W.heap.size W w1→w1.cell? ⟨w.heap.size+1,0,none⟩=some (.pointer none)∧w1.cell? ⟨w.heap.size+1,1,none⟩=some (.pointer none)∧w1.frozen? ⟨w.heap.size+1,0,none⟩=false∧w1.frozen? ⟨w.heap.size+1,1,none⟩=false)∧w.heap.size<W.heap.size∧W.cell? ⟨w.heap.size,0,none⟩=some u1∧W.cell? ⟨w.heap.size,1,none⟩=some u2:=by
 have hb1:=(Below.refl (w.alloc (.cells #[u1,u2] 116)).heap.size (w.alloc (.cells #[u1,u2] 116))).alloc (Nat.le_refl _) (.cells #[.pointer none,.pointer none] 116)
 have hb:Below w.heap.size w ((w.alloc (.cells #[u1,u2] 116)).alloc (.cells #[.pointer none,.pointer none] 116)):=(br.alloc (Nat.le_refl _) _).alloc (by simp) _
 obtain⟨e0,e1,_⟩:=Qii w u1 u2 116 hb1
 have hz:(w.alloc (.cells #[u1,u2] 116)).heap.size=w.heap.size+1:=by simp
 have hn:=heap_alloc_new (w.alloc (.cells #[u1,u2] 116)) (.cells #[.pointer none,.pointer none] 116 (0,0))
 rw[hz] at hn
 refine⟨_,Lib.hid ⟨rfl,hb,fun b h=>h.elim (fun h=>(hA.below hb) b h) (fun h=>by subst h; exact⟨_,hn,noW_num _ _ ⟨_,rfl⟩ ⟨_,rfl⟩ _⟩),fun w1 h=>?_⟩,by simp; omega,e0,e1⟩
 have:=Qii (w.alloc (.cells #[u1,u2] 116)) (.pointer none) (.pointer none) 116 h
 rw[hz] at this
 exact this
theorem NScale_any(a b s:Rat)(v vs:Value)(A:Nat→Prop)(w:World)(hv:Qho a b v w A)(hs:Qef s vs w A)(hA:Rcv A w)(k l:Nat)(hla:RL a k)(hlb:RL b k)(hls:RL s l)(hkl:k+l<137438953472) :
  Calls Tryz.prog 80 #[v,vs] w fun e w'=>∃ u,e=.returned u∧Below w.heap.size w w'∧Qho (a*s) (b*s) u w' A:=by
 obtain⟨u1,u2,rfl,h1,h2⟩:=hv
 obtain⟨W,HV,hs2,e0,e1⟩:=box_one w u1 u2 A hA
 have h1:=Qdh (Qef.keeps a) (n:=w.heap.size+1) HV.out.2.1 (by omega) h1
 have h2:=Qdh (Qef.keeps b) (n:=w.heap.size+1) HV.out.2.1 (by omega) h2
 have hs:=Qdh (Qef.keeps s) (n:=w.heap.size+1) HV.out.2.1 (by omega) hs
 clear hA
 go_enter Tryz.func80,Tryz.ntmps80
 go_wp2_with fail
 rw[←HV.out.1]
 refine Qap [(.lit,[]),(.lit,[]),(.lit,[]),(.val,[]),(.lit,[]),(.lit,[]),(.lit,[]),(.val,[])]
  (Qex [(3,Qas (Mo A (w.heap.size+1)) (Qbb (a*s))),(7,Qas (Mo A (w.heap.size+1)) (Qbb (b*s)))]) (by kernel_rfl) ?_ ?_ (by simp) (by simp) (by kernel_rfl)
 ·exact Qax (by simp only[List.mem_cons,List.not_mem_nil,or_false]; rintro p (rfl|rfl)<;>exact Qas.keeps (Qbb.keeps _))
 ·repeat (refine⟨_,fun f w1 h1=>by(have d0:=ct h1 hs2 e0; have d1:=ct h1 hs2 e1; go_simp; rfl),?_⟩)
  simp only[Act.put,nrA,nrB,nrC,Nat.reduceAdd]
  refine⟨fun f w1 A1 k1 hA hN hd K hK=>by
   go_simp
   refine(Qgn a s u1 vs (Un (Mo A (w.heap.size+1)) A1) w1 (Qde (Qas.keeps (Qef.keeps _)) h1 k1 hN) (Qde (Qas.keeps (Qef.keeps _)) hs k1 hN) (Qeg (HV.out.2.2.1.below (br.drew.trans k1)) hA) k l hla hls hkl).mono ?_
   rintro e w' ⟨v,rfl,hb,hr⟩
   exact hK _ _ hb hr,?_⟩
  repeat (refine⟨_,fun f w1 h1=>by(have d0:=ct h1 hs2 e0; have d1:=ct h1 hs2 e1; go_simp; rfl),?_⟩)
  simp only[Act.put,nrA,nrB,nrC,Nat.reduceAdd]
  refine⟨fun f w1 A1 k1 hA hN hd K hK=>by
   go_simp
   refine(Qgn b s u2 vs (Un (Mo A (w.heap.size+1)) A1) w1 (Qde (Qas.keeps (Qef.keeps _)) h2 k1 hN) (Qde (Qas.keeps (Qef.keeps _)) hs k1 hN) (Qeg (HV.out.2.2.1.below (br.drew.trans k1)) hA) k l hlb hls hkl).mono ?_
   rintro e w' ⟨v,rfl,hb,hr⟩
   exact hK _ _ hb hr,?_⟩
  intro f w1 k1 hF
  have i1:Qbb (a*s) (f 3) w1 (Mo A (w.heap.size+1)):=Qas.done (Qbb.keeps _) hF.1.2
  have i2:Qbb (b*s) (f 7) w1 (Mo A (w.heap.size+1)):=Qas.done (Qbb.keeps _) hF.2
  clear hF
  simp only[Act.put,nrA,nrB,nrC]
  generalize f 3=v1 at *
  generalize f 7=v2 at *
  have hb1:Below W.heap.size W w1:=br.drew.trans k1
  obtain⟨c0,c1,f0,f1⟩:=HV.out.2.2.2 w1 hb1
  have hbw:=HV.out.2.1.trans (hb1.mono HV.out.2.1.size)
  have HE:=Lib.hid (And.intro i1 (And.intro i2 hbw))
  obtain⟨m1,rfl⟩:=i1.shape
  obtain⟨m2,rfl⟩:=i2.shape
  clear e0 e1 h1 h2 hs i1 i2 hbw hb1 k1
  go_wp2_with fail
  refine bodyPost_ret (v:=.agg #[.pointer (some ⟨m1,0,none⟩),.pointer (some ⟨m2,0,none⟩)]) (by simp[results,Tryz.results80,go_sem,c0,c1]) rfl ?_
  exact put_num HE.out.2.2 HE.out.1 HE.out.2.1 (by omega)
theorem box_two(w:World)(u1 u2 u3 u4:Value)(A:Nat→Prop)(hA:Rcv A w) :
  ∃ W,Hid (W=((w.alloc (.cells #[u1,u2] 116)).alloc (.cells #[u3,u4] 116)).alloc (.cells #[.pointer none,.pointer none] 116)∧Below w.heap.size w W∧Rcv (Mo A (w.heap.size+2)) W∧∀ w1,Below W.heap.size W w1→w1.cell? ⟨w.heap.size+2,0,none⟩=some (.pointer none)∧w1.cell? ⟨w.heap.size+2,1,none⟩=some (.pointer none)∧w1.frozen? ⟨w.heap.size+2,0,none⟩=false∧w1.frozen? ⟨w.heap.size+2,1,none⟩=false)∧w.heap.size<W.heap.size∧w.heap.size+1<W.heap.size∧W.cell? ⟨w.heap.size,0,none⟩=some u1∧W.cell? ⟨w.heap.size,1,none⟩=some u2∧W.cell? ⟨w.heap.size+1,0,none⟩=some u3∧W.cell? ⟨w.heap.size+1,1,none⟩=some u4:=by
 obtain⟨w1,hw1⟩:∃ w1,w1=w.alloc (.cells #[u1,u2] 116):=⟨_,rfl⟩
 have hz1:w1.heap.size=w.heap.size+1:=by rw[hw1]; simp
 obtain⟨w2,hw2⟩:∃ w2,w2=w1.alloc (.cells #[u3,u4] 116):=⟨_,rfl⟩
 have hz2:w2.heap.size=w.heap.size+2:=by rw[hw2]; simp[hz1]
 have hb01:Below w.heap.size w w1:=by rw[hw1]; exact br.alloc (Nat.le_refl _) _
 have hb12:Below w1.heap.size w1 w2:=by rw[hw2]; exact br.alloc (Nat.le_refl _) _
 have hb23:Below w2.heap.size w2 (w2.alloc (.cells #[.pointer none,.pointer none] 116)):=br.alloc (Nat.le_refl _) _
 have hb13:=hb12.trans (hb23.mono hb12.size)
 have hb:Below w.heap.size w (w2.alloc (.cells #[.pointer none,.pointer none] 116)):=hb01.trans (hb13.mono hb01.size)
 obtain⟨e0,e1,_⟩:=Qii w u1 u2 116 (by rw[←hw1]; exact hb13)
 obtain⟨e2,e3,_⟩:=Qii w1 u3 u4 116 (by rw[←hw2]; exact hb23)
 have hn:=heap_alloc_new w2 (.cells #[.pointer none,.pointer none] 116 (0,0))
 rw[hz2] at hn
 rw[hz1] at e2 e3
 refine⟨w2.alloc (.cells #[.pointer none,.pointer none] 116),Lib.hid ⟨by rw[hw2,hw1],hb,fun b h=>h.elim (fun h=>(hA.below hb) b h) (fun h=>by subst h; exact⟨_,hn,noW_num _ _ ⟨_,rfl⟩ ⟨_,rfl⟩ _⟩),fun w1 h=>?_⟩,by simp; omega,by simp; omega,e0,e1,e2,e3⟩
 have:=Qii w2 (.pointer none) (.pointer none) 116 h
 rw[hz2] at this
 exact this
theorem NNorm_any(a b:Rat)(v:Value)(A:Nat→Prop)(w:World)(hv:Qho a b v w A)(hA:Rcv A w)(k:Nat)(hla:RL a k)(hlb:RL b k)(hkl:k+k+(k+k)<137438953472) :
  Calls Tryz.prog 189 #[v] w fun e w'=>∃ u,e=.returned u∧Below w.heap.size w w'∧Qbb (a*a+b*b) u w' A:=by
 obtain⟨u1,u2,rfl,h1,h2⟩:=hv
 obtain⟨W,hW⟩:∃ W,W=w.alloc (.cells #[u1,u2] 116):=⟨_,rfl⟩
 obtain⟨e0,e1,_⟩:=Qii w u1 u2 116 br
 have hb:Below w.heap.size w W:=by rw[hW]; exact br.alloc (Nat.le_refl _) _
 have hs2:w.heap.size<W.heap.size:=by rw[hW]; simp
 rw[←hW] at e0 e1
 have HV:=Lib.hid (And.intro hW (And.intro hb (hA.below hb)))
 have h1:=Qas.start (Qef.keeps a) (h1.below hb)
 have h2:=Qas.start (Qef.keeps b) (h2.below hb)
 clear hA hW hb
 go_enter Tryz.func189,Tryz.ntmps189
 go_wp2_with fail
 rw[←HV.out.1]
 refine Qap [(.new zR,[]),(.lit,[]),(.lit,[]),(.lit,[]),(.lit,[]),(.val,[]),(.lit,[]),(.lit,[]),(.lit,[]),(.lit,[]),(.val,[]),(.on 0 zR,[5,10])]
  (Qex [(5,Qas A (Qbb (a*a))),(10,Qas A (Qbb (b*b))),(11,Qas A (Qbb (a*a+b*b)))]) (by kernel_rfl) ?_ ?_ (by simp[Qdb]) (by simp) (by kernel_rfl)
 ·exact Qax (by simp only[List.mem_cons,List.not_mem_nil,or_false]; rintro p (rfl|rfl|rfl)<;>exact Qas.keeps (Qbb.keeps _))
 ·refine⟨fun f w1=>by go_simp,?_⟩
  refine⟨_,fun f w1 h1=>by(have d0:=ct h1 hs2 e0; have d1:=ct h1 hs2 e1; go_simp; rfl),?_⟩
  refine⟨_,fun f w1 h1=>by(have d0:=ct h1 hs2 e0; have d1:=ct h1 hs2 e1; go_simp; rfl),?_⟩
  refine⟨_,fun f w1 h1=>by(have d0:=ct h1 hs2 e0; have d1:=ct h1 hs2 e1; go_simp; rfl),?_⟩
  refine⟨_,fun f w1 h1=>by(have d0:=ct h1 hs2 e0; have d1:=ct h1 hs2 e1; go_simp; rfl),?_⟩
  simp only[Act.put,nrA,nrB,nrC,Nat.reduceAdd]
  refine⟨fun f w1 A1 k1 hA hN hd K hK=>by
   go_simp
   refine(Qgn a a u1 u1 (Un A A1) w1 (Qde (Qas.keeps (Qef.keeps _)) h1 k1 hN) (Qde (Qas.keeps (Qef.keeps _)) h1 k1 hN) (Qeg (HV.out.2.2.below (br.drew.trans k1)) hA) k k hla hla (by omega)).mono ?_
   rintro e w' ⟨v,rfl,hb,hr⟩
   exact hK _ _ hb hr,?_⟩
  refine⟨_,fun f w1 h1=>by(have d0:=ct h1 hs2 e0; have d1:=ct h1 hs2 e1; go_simp; rfl),?_⟩
  refine⟨_,fun f w1 h1=>by(have d0:=ct h1 hs2 e0; have d1:=ct h1 hs2 e1; go_simp; rfl),?_⟩
  refine⟨_,fun f w1 h1=>by(have d0:=ct h1 hs2 e0; have d1:=ct h1 hs2 e1; go_simp; rfl),?_⟩
  refine⟨_,fun f w1 h1=>by(have d0:=ct h1 hs2 e0; have d1:=ct h1 hs2 e1; go_simp; rfl),?_⟩
  simp only[Act.put,nrA,nrB,nrC,Nat.reduceAdd]
  refine⟨fun f w1 A1 k1 hA hN hd K hK=>by
   go_simp
   refine(Qgn b b u2 u2 (Un A A1) w1 (Qde (Qas.keeps (Qef.keeps _)) h2 k1 hN) (Qde (Qas.keeps (Qef.keeps _)) h2 k1 hN) (Qeg (HV.out.2.2.below (br.drew.trans k1)) hA) k k hlb hlb (by omega)).mono ?_
   rintro e w' ⟨v,rfl,hb,hr⟩
   exact hK _ _ hb hr,?_⟩
  simp only[Act.put,nrA,nrB,nrC,Nat.reduceAdd]
  refine⟨fun f w1 A1 m1 k1 hA hN hAm hm0 e hz hd K hK=>by
   simp only[e] at hK ⊢
   have i1:Qbb (a*a) (f 5) w1 (Un A A1):=hd 5 (by simp)
   have i2:Qbb (b*b) (f 10) w1 (Un A A1):=hd 10 (by simp)
   go_simp
   refine(RAdd_any m1 _ _ _ _ _ _ w1 hz (by decide) Qdb i1 i2 (k+k) (k+k) (Qbp hla hla) (Qbp hlb hlb) (by omega)).mono ?_
   rintro e w' ⟨rfl,hp⟩
   exact hK _ w' hp.1 (hp.ratU (HV.out.2.2.below (br.drew.trans k1)) hA hm0 (fun b hb=>HV.out.2.2.lt hb)),?_⟩
  intro f w1 k1 hF
  have i0:Qbb (a*a) (f 5) w1 (A):=Qas.done (Qbb.keeps _) hF.1.1.2
  have i1:Qbb (b*b) (f 10) w1 (A):=Qas.done (Qbb.keeps _) hF.1.2
  have i2:Qbb (a*a+b*b) (f 11) w1 (A):=Qas.done (Qbb.keeps _) hF.2
  clear hF
  simp only[Act.put,nrA,nrB,nrC]
  generalize f 5=v0 at *
  generalize f 10=v1 at *
  generalize f 11=v2 at *
  have hb1:Below W.heap.size W w1:=br.drew.trans k1
  have hbw:=HV.out.2.1.trans (hb1.mono HV.out.2.1.size)
  have HE:=Lib.hid (And.intro i2 hbw)
  clear e0 e1 h1 h2 i0 i1 i2 hbw hb1 k1
  go_wp2_with fail
  go_ret
  exact⟨v2,rfl,HE.out.2,HE.out.1⟩
theorem NSub_any(a b c d:Rat)(v v':Value)(A:Nat→Prop)(w:World)(hv:Qho a b v w A)(hv':Qho c d v' w A)(hA:Rcv A w)(k l:Nat)(hla:RL a k)(hlb:RL b k)(hlc:RL c l)(hld:RL d l)(hkl:k+l+(k+l)<137438953472) :
  Calls Tryz.prog 128 #[v,v'] w fun e w'=>∃ u,e=.returned u∧Below w.heap.size w w'∧Qho (a - c) (b - d) u w' A:=by
 obtain⟨u1,u2,rfl,h1,h2⟩:=hv
 obtain⟨u3,u4,rfl,h3,h4⟩:=hv'
 obtain⟨W,HV,hs1,hs2,e0,e1,e2,e3⟩:=box_two w u1 u2 u3 u4 A hA
 have h1:=Qdh (Qef.keeps a) (n:=w.heap.size+2) HV.out.2.1 (by omega) h1
 have h2:=Qdh (Qef.keeps b) (n:=w.heap.size+2) HV.out.2.1 (by omega) h2
 have h3:=Qdh (Qef.keeps c) (n:=w.heap.size+2) HV.out.2.1 (by omega) h3
 have h4:=Qdh (Qef.keeps d) (n:=w.heap.size+2) HV.out.2.1 (by omega) h4
 clear hA
 go_enter Tryz.func128,Tryz.ntmps128
 go_wp2_with fail
 rw[←HV.out.1]
 refine Qap [(.new zR,[]),(.lit,[]),(.lit,[]),(.val,[]),(.lit,[]),(.lit,[]),(.val,[]),(.on 0 zR,[3,6]),(.new zR,[]),(.lit,[]),(.lit,[]),(.val,[]),(.lit,[]),(.lit,[]),(.val,[]),(.on 8 zR,[11,14])]
  (Qex [(3,Qas (Mo A (w.heap.size+2)) (Qbb (a))),(6,Qas (Mo A (w.heap.size+2)) (Qbb (c))),(7,Qas (Mo A (w.heap.size+2)) (Qbb (a - c))),(11,Qas (Mo A (w.heap.size+2)) (Qbb (b))),(14,Qas (Mo A (w.heap.size+2)) (Qbb (d))),(15,Qas (Mo A (w.heap.size+2)) (Qbb (b - d)))]) (by kernel_rfl) ?_ ?_ (by simp[Qdb]) (by simp) (by kernel_rfl)
 ·exact Qax (by simp only[List.mem_cons,List.not_mem_nil,or_false]; rintro p (rfl|rfl|rfl|rfl|rfl|rfl)<;>exact Qas.keeps (Qbb.keeps _))
 ·refine⟨fun f w1=>by go_simp,?_⟩
  refine⟨_,fun f w1 h1=>by(have d0:=ct h1 hs1 e0; have d1:=ct h1 hs1 e1; have d2:=ct h1 hs2 e2; have d3:=ct h1 hs2 e3; go_simp; rfl),?_⟩
  refine⟨_,fun f w1 h1=>by(have d0:=ct h1 hs1 e0; have d1:=ct h1 hs1 e1; have d2:=ct h1 hs2 e2; have d3:=ct h1 hs2 e3; go_simp; rfl),?_⟩
  simp only[Act.put,nrA,nrB,nrC,Nat.reduceAdd]
  refine⟨fun f w1 A1 k1 hA hN hd K hK=>by
   go_simp
   refine(Qdu a u1 (Un (Mo A (w.heap.size+2)) A1) w1 (Qde (Qas.keeps (Qef.keeps _)) h1 k1 hN) (Qeg (HV.out.2.2.1.below (br.drew.trans k1)) hA)).mono ?_
   rintro e w' ⟨v,rfl,hb,hr⟩
   exact hK _ _ hb hr,?_⟩
  refine⟨_,fun f w1 h1=>by(have d0:=ct h1 hs1 e0; have d1:=ct h1 hs1 e1; have d2:=ct h1 hs2 e2; have d3:=ct h1 hs2 e3; go_simp; rfl),?_⟩
  refine⟨_,fun f w1 h1=>by(have d0:=ct h1 hs1 e0; have d1:=ct h1 hs1 e1; have d2:=ct h1 hs2 e2; have d3:=ct h1 hs2 e3; go_simp; rfl),?_⟩
  simp only[Act.put,nrA,nrB,nrC,Nat.reduceAdd]
  refine⟨fun f w1 A1 k1 hA hN hd K hK=>by
   go_simp
   refine(Qdu c u3 (Un (Mo A (w.heap.size+2)) A1) w1 (Qde (Qas.keeps (Qef.keeps _)) h3 k1 hN) (Qeg (HV.out.2.2.1.below (br.drew.trans k1)) hA)).mono ?_
   rintro e w' ⟨v,rfl,hb,hr⟩
   exact hK _ _ hb hr,?_⟩
  simp only[Act.put,nrA,nrB,nrC,Nat.reduceAdd]
  refine⟨fun f w1 A1 m1 k1 hA hN hAm hm0 e hz hd K hK=>by
   simp only[e] at hK ⊢
   have i1:Qbb (a) (f 3) w1 (Un (Mo A (w.heap.size+2)) A1):=hd 3 (by simp)
   have i2:Qbb (c) (f 6) w1 (Un (Mo A (w.heap.size+2)) A1):=hd 6 (by simp)
   go_simp
   refine(RSub_any m1 _ _ _ _ _ _ w1 hz (by decide) Qdb i1 i2 (k) (l) hla hlc (by omega)).mono ?_
   rintro e w' ⟨rfl,hp⟩
   exact hK _ w' hp.1 (hp.ratU (HV.out.2.2.1.below (br.drew.trans k1)) hA hm0 (fun b hb=>HV.out.2.2.1.lt hb)),?_⟩
  refine⟨fun f w1=>by go_simp,?_⟩
  refine⟨_,fun f w1 h1=>by(have d0:=ct h1 hs1 e0; have d1:=ct h1 hs1 e1; have d2:=ct h1 hs2 e2; have d3:=ct h1 hs2 e3; go_simp; rfl),?_⟩
  refine⟨_,fun f w1 h1=>by(have d0:=ct h1 hs1 e0; have d1:=ct h1 hs1 e1; have d2:=ct h1 hs2 e2; have d3:=ct h1 hs2 e3; go_simp; rfl),?_⟩
  simp only[Act.put,nrA,nrB,nrC,Nat.reduceAdd]
  refine⟨fun f w1 A1 k1 hA hN hd K hK=>by
   go_simp
   refine(Qdu b u2 (Un (Mo A (w.heap.size+2)) A1) w1 (Qde (Qas.keeps (Qef.keeps _)) h2 k1 hN) (Qeg (HV.out.2.2.1.below (br.drew.trans k1)) hA)).mono ?_
   rintro e w' ⟨v,rfl,hb,hr⟩
   exact hK _ _ hb hr,?_⟩
  refine⟨_,fun f w1 h1=>by(have d0:=ct h1 hs1 e0; have d1:=ct h1 hs1 e1; have d2:=ct h1 hs2 e2; have d3:=ct h1 hs2 e3; go_simp; rfl),?_⟩
  refine⟨_,fun f w1 h1=>by(have d0:=ct h1 hs1 e0; have d1:=ct h1 hs1 e1; have d2:=ct h1 hs2 e2; have d3:=ct h1 hs2 e3; go_simp; rfl),?_⟩
  simp only[Act.put,nrA,nrB,nrC,Nat.reduceAdd]
  refine⟨fun f w1 A1 k1 hA hN hd K hK=>by
   go_simp
   refine(Qdu d u4 (Un (Mo A (w.heap.size+2)) A1) w1 (Qde (Qas.keeps (Qef.keeps _)) h4 k1 hN) (Qeg (HV.out.2.2.1.below (br.drew.trans k1)) hA)).mono ?_
   rintro e w' ⟨v,rfl,hb,hr⟩
   exact hK _ _ hb hr,?_⟩
  simp only[Act.put,nrA,nrB,nrC,Nat.reduceAdd]
  refine⟨fun f w1 A1 m1 k1 hA hN hAm hm0 e hz hd K hK=>by
   simp only[e] at hK ⊢
   have i1:Qbb (b) (f 11) w1 (Un (Mo A (w.heap.size+2)) A1):=hd 11 (by simp)
   have i2:Qbb (d) (f 14) w1 (Un (Mo A (w.heap.size+2)) A1):=hd 14 (by simp)
   go_simp
   refine(RSub_any m1 _ _ _ _ _ _ w1 hz (by decide) Qdb i1 i2 (k) (l) hlb hld (by omega)).mono ?_
   rintro e w' ⟨rfl,hp⟩
   exact hK _ w' hp.1 (hp.ratU (HV.out.2.2.1.below (br.drew.trans k1)) hA hm0 (fun b hb=>HV.out.2.2.1.lt hb)),?_⟩
  intro f w1 k1 hF
  have i0:Qbb (a) (f 3) w1 ((Mo A (w.heap.size+2))):=Qas.done (Qbb.keeps _) hF.1.1.1.1.1.2
  have i1:Qbb (c) (f 6) w1 ((Mo A (w.heap.size+2))):=Qas.done (Qbb.keeps _) hF.1.1.1.1.2
  have i2:Qbb (a - c) (f 7) w1 ((Mo A (w.heap.size+2))):=Qas.done (Qbb.keeps _) hF.1.1.1.2
  have i3:Qbb (b) (f 11) w1 ((Mo A (w.heap.size+2))):=Qas.done (Qbb.keeps _) hF.1.1.2
  have i4:Qbb (d) (f 14) w1 ((Mo A (w.heap.size+2))):=Qas.done (Qbb.keeps _) hF.1.2
  have i5:Qbb (b - d) (f 15) w1 ((Mo A (w.heap.size+2))):=Qas.done (Qbb.keeps _) hF.2
  clear hF
  simp only[Act.put,nrA,nrB,nrC]
  generalize f 3=v0 at *
  generalize f 6=v1 at *
  generalize f 7=v2 at *
  generalize f 11=v3 at *
  generalize f 14=v4 at *
  generalize f 15=v5 at *
  have hb1:Below W.heap.size W w1:=br.drew.trans k1
  obtain⟨c0,c1,f0,f1⟩:=HV.out.2.2.2 w1 hb1
  have hbw:=HV.out.2.1.trans (hb1.mono HV.out.2.1.size)
  have HE:=Lib.hid (And.intro i2 (And.intro i5 hbw))
  obtain⟨m1,rfl⟩:=i2.shape
  obtain⟨m2,rfl⟩:=i5.shape
  clear e0 e1 e2 e3 h1 h2 h3 h4 i0 i1 i2 i3 i4 i5 hbw hb1 k1
  go_wp2_with fail
  refine bodyPost_ret (v:=.agg #[.pointer (some ⟨m1,0,none⟩),.pointer (some ⟨m2,0,none⟩)]) (by simp[results,Tryz.results128,go_sem,c0,c1]) rfl ?_
  exact put_num HE.out.2.2 HE.out.1 HE.out.2.1 (by omega)
theorem NMul_any(a b c d:Rat)(v v':Value)(A:Nat→Prop)(w:World)(hv:Qho a b v w A)(hv':Qho c d v' w A)(hA:Rcv A w)(k l:Nat)(hla:RL a k)(hlb:RL b k)(hlc:RL c l)(hld:RL d l)(hkl:k+l+(k+l)<137438953472) :
  Calls Tryz.prog 129 #[v,v'] w fun e w'=>∃ u,e=.returned u∧Below w.heap.size w w'∧Qho (a*c - b*d) (a*d+b*c) u w' A:=by
 obtain⟨u1,u2,rfl,h1,h2⟩:=hv
 obtain⟨u3,u4,rfl,h3,h4⟩:=hv'
 obtain⟨W,HV,hs1,hs2,e0,e1,e2,e3⟩:=box_two w u1 u2 u3 u4 A hA
 have h1:=Qdh (Qef.keeps a) (n:=w.heap.size+2) HV.out.2.1 (by omega) h1
 have h2:=Qdh (Qef.keeps b) (n:=w.heap.size+2) HV.out.2.1 (by omega) h2
 have h3:=Qdh (Qef.keeps c) (n:=w.heap.size+2) HV.out.2.1 (by omega) h3
 have h4:=Qdh (Qef.keeps d) (n:=w.heap.size+2) HV.out.2.1 (by omega) h4
 clear hA
 go_enter Tryz.func129,Tryz.ntmps129
 go_wp2_with fail
 rw[←HV.out.1]
 refine Qap [(.new zR,[]),(.lit,[]),(.lit,[]),(.lit,[]),(.lit,[]),(.val,[]),(.lit,[]),(.lit,[]),(.lit,[]),(.lit,[]),(.val,[]),(.on 0 zR,[5,10]),(.new zR,[]),(.lit,[]),(.lit,[]),(.lit,[]),(.lit,[]),(.val,[]),(.lit,[]),(.lit,[]),(.lit,[]),(.lit,[]),(.val,[]),(.on 12 zR,[17,22])]
  (Qex [(5,Qas (Mo A (w.heap.size+2)) (Qbb (a*c))),(10,Qas (Mo A (w.heap.size+2)) (Qbb (b*d))),(11,Qas (Mo A (w.heap.size+2)) (Qbb (a*c - b*d))),(17,Qas (Mo A (w.heap.size+2)) (Qbb (a*d))),(22,Qas (Mo A (w.heap.size+2)) (Qbb (b*c))),(23,Qas (Mo A (w.heap.size+2)) (Qbb (a*d+b*c)))]) (by kernel_rfl) ?_ ?_ (by simp[Qdb]) (by simp) (by kernel_rfl)
 ·exact Qax (by simp only[List.mem_cons,List.not_mem_nil,or_false]; rintro p (rfl|rfl|rfl|rfl|rfl|rfl)<;>exact Qas.keeps (Qbb.keeps _))
 ·refine⟨fun f w1=>by go_simp,?_⟩
  refine⟨_,fun f w1 h1=>by(have d0:=ct h1 hs1 e0; have d1:=ct h1 hs1 e1; have d2:=ct h1 hs2 e2; have d3:=ct h1 hs2 e3; go_simp; rfl),?_⟩
  refine⟨_,fun f w1 h1=>by(have d0:=ct h1 hs1 e0; have d1:=ct h1 hs1 e1; have d2:=ct h1 hs2 e2; have d3:=ct h1 hs2 e3; go_simp; rfl),?_⟩
  refine⟨_,fun f w1 h1=>by(have d0:=ct h1 hs1 e0; have d1:=ct h1 hs1 e1; have d2:=ct h1 hs2 e2; have d3:=ct h1 hs2 e3; go_simp; rfl),?_⟩
  refine⟨_,fun f w1 h1=>by(have d0:=ct h1 hs1 e0; have d1:=ct h1 hs1 e1; have d2:=ct h1 hs2 e2; have d3:=ct h1 hs2 e3; go_simp; rfl),?_⟩
  simp only[Act.put,nrA,nrB,nrC,Nat.reduceAdd]
  refine⟨fun f w1 A1 k1 hA hN hd K hK=>by
   go_simp
   refine(Qgn a c u1 u3 (Un (Mo A (w.heap.size+2)) A1) w1 (Qde (Qas.keeps (Qef.keeps _)) h1 k1 hN) (Qde (Qas.keeps (Qef.keeps _)) h3 k1 hN) (Qeg (HV.out.2.2.1.below (br.drew.trans k1)) hA) k l hla hlc (by omega)).mono ?_
   rintro e w' ⟨v,rfl,hb,hr⟩
   exact hK _ _ hb hr,?_⟩
  refine⟨_,fun f w1 h1=>by(have d0:=ct h1 hs1 e0; have d1:=ct h1 hs1 e1; have d2:=ct h1 hs2 e2; have d3:=ct h1 hs2 e3; go_simp; rfl),?_⟩
  refine⟨_,fun f w1 h1=>by(have d0:=ct h1 hs1 e0; have d1:=ct h1 hs1 e1; have d2:=ct h1 hs2 e2; have d3:=ct h1 hs2 e3; go_simp; rfl),?_⟩
  refine⟨_,fun f w1 h1=>by(have d0:=ct h1 hs1 e0; have d1:=ct h1 hs1 e1; have d2:=ct h1 hs2 e2; have d3:=ct h1 hs2 e3; go_simp; rfl),?_⟩
  refine⟨_,fun f w1 h1=>by(have d0:=ct h1 hs1 e0; have d1:=ct h1 hs1 e1; have d2:=ct h1 hs2 e2; have d3:=ct h1 hs2 e3; go_simp; rfl),?_⟩
  simp only[Act.put,nrA,nrB,nrC,Nat.reduceAdd]
  refine⟨fun f w1 A1 k1 hA hN hd K hK=>by
   go_simp
   refine(Qgn b d u2 u4 (Un (Mo A (w.heap.size+2)) A1) w1 (Qde (Qas.keeps (Qef.keeps _)) h2 k1 hN) (Qde (Qas.keeps (Qef.keeps _)) h4 k1 hN) (Qeg (HV.out.2.2.1.below (br.drew.trans k1)) hA) k l hlb hld (by omega)).mono ?_
   rintro e w' ⟨v,rfl,hb,hr⟩
   exact hK _ _ hb hr,?_⟩
  simp only[Act.put,nrA,nrB,nrC,Nat.reduceAdd]
  refine⟨fun f w1 A1 m1 k1 hA hN hAm hm0 e hz hd K hK=>by
   simp only[e] at hK ⊢
   have i1:Qbb (a*c) (f 5) w1 (Un (Mo A (w.heap.size+2)) A1):=hd 5 (by simp)
   have i2:Qbb (b*d) (f 10) w1 (Un (Mo A (w.heap.size+2)) A1):=hd 10 (by simp)
   go_simp
   refine(RSub_any m1 _ _ _ _ _ _ w1 hz (by decide) Qdb i1 i2 (k+l) (k+l) (Qbp hla hlc) (Qbp hlb hld) (by omega)).mono ?_
   rintro e w' ⟨rfl,hp⟩
   exact hK _ w' hp.1 (hp.ratU (HV.out.2.2.1.below (br.drew.trans k1)) hA hm0 (fun b hb=>HV.out.2.2.1.lt hb)),?_⟩
  refine⟨fun f w1=>by go_simp,?_⟩
  refine⟨_,fun f w1 h1=>by(have d0:=ct h1 hs1 e0; have d1:=ct h1 hs1 e1; have d2:=ct h1 hs2 e2; have d3:=ct h1 hs2 e3; go_simp; rfl),?_⟩
  refine⟨_,fun f w1 h1=>by(have d0:=ct h1 hs1 e0; have d1:=ct h1 hs1 e1; have d2:=ct h1 hs2 e2; have d3:=ct h1 hs2 e3; go_simp; rfl),?_⟩
  refine⟨_,fun f w1 h1=>by(have d0:=ct h1 hs1 e0; have d1:=ct h1 hs1 e1; have d2:=ct h1 hs2 e2; have d3:=ct h1 hs2 e3; go_simp; rfl),?_⟩
  refine⟨_,fun f w1 h1=>by(have d0:=ct h1 hs1 e0; have d1:=ct h1 hs1 e1; have d2:=ct h1 hs2 e2; have d3:=ct h1 hs2 e3; go_simp; rfl),?_⟩
  simp only[Act.put,nrA,nrB,nrC,Nat.reduceAdd]
  refine⟨fun f w1 A1 k1 hA hN hd K hK=>by
   go_simp
   refine(Qgn a d u1 u4 (Un (Mo A (w.heap.size+2)) A1) w1 (Qde (Qas.keeps (Qef.keeps _)) h1 k1 hN) (Qde (Qas.keeps (Qef.keeps _)) h4 k1 hN) (Qeg (HV.out.2.2.1.below (br.drew.trans k1)) hA) k l hla hld (by omega)).mono ?_
   rintro e w' ⟨v,rfl,hb,hr⟩
   exact hK _ _ hb hr,?_⟩
  refine⟨_,fun f w1 h1=>by(have d0:=ct h1 hs1 e0; have d1:=ct h1 hs1 e1; have d2:=ct h1 hs2 e2; have d3:=ct h1 hs2 e3; go_simp; rfl),?_⟩
  refine⟨_,fun f w1 h1=>by(have d0:=ct h1 hs1 e0; have d1:=ct h1 hs1 e1; have d2:=ct h1 hs2 e2; have d3:=ct h1 hs2 e3; go_simp; rfl),?_⟩
  refine⟨_,fun f w1 h1=>by(have d0:=ct h1 hs1 e0; have d1:=ct h1 hs1 e1; have d2:=ct h1 hs2 e2; have d3:=ct h1 hs2 e3; go_simp; rfl),?_⟩
  refine⟨_,fun f w1 h1=>by(have d0:=ct h1 hs1 e0; have d1:=ct h1 hs1 e1; have d2:=ct h1 hs2 e2; have d3:=ct h1 hs2 e3; go_simp; rfl),?_⟩
  simp only[Act.put,nrA,nrB,nrC,Nat.reduceAdd]
  refine⟨fun f w1 A1 k1 hA hN hd K hK=>by
   go_simp
   refine(Qgn b c u2 u3 (Un (Mo A (w.heap.size+2)) A1) w1 (Qde (Qas.keeps (Qef.keeps _)) h2 k1 hN) (Qde (Qas.keeps (Qef.keeps _)) h3 k1 hN) (Qeg (HV.out.2.2.1.below (br.drew.trans k1)) hA) k l hlb hlc (by omega)).mono ?_
   rintro e w' ⟨v,rfl,hb,hr⟩
   exact hK _ _ hb hr,?_⟩
  simp only[Act.put,nrA,nrB,nrC,Nat.reduceAdd]
  refine⟨fun f w1 A1 m1 k1 hA hN hAm hm0 e hz hd K hK=>by
   simp only[e] at hK ⊢
   have i1:Qbb (a*d) (f 17) w1 (Un (Mo A (w.heap.size+2)) A1):=hd 17 (by simp)
   have i2:Qbb (b*c) (f 22) w1 (Un (Mo A (w.heap.size+2)) A1):=hd 22 (by simp)
   go_simp
   refine(RAdd_any m1 _ _ _ _ _ _ w1 hz (by decide) Qdb i1 i2 (k+l) (k+l) (Qbp hla hld) (Qbp hlb hlc) (by omega)).mono ?_
   rintro e w' ⟨rfl,hp⟩
   exact hK _ w' hp.1 (hp.ratU (HV.out.2.2.1.below (br.drew.trans k1)) hA hm0 (fun b hb=>HV.out.2.2.1.lt hb)),?_⟩
  intro f w1 k1 hF
  have i0:Qbb (a*c) (f 5) w1 ((Mo A (w.heap.size+2))):=Qas.done (Qbb.keeps _) hF.1.1.1.1.1.2
  have i1:Qbb (b*d) (f 10) w1 ((Mo A (w.heap.size+2))):=Qas.done (Qbb.keeps _) hF.1.1.1.1.2
  have i2:Qbb (a*c - b*d) (f 11) w1 ((Mo A (w.heap.size+2))):=Qas.done (Qbb.keeps _) hF.1.1.1.2
  have i3:Qbb (a*d) (f 17) w1 ((Mo A (w.heap.size+2))):=Qas.done (Qbb.keeps _) hF.1.1.2
  have i4:Qbb (b*c) (f 22) w1 ((Mo A (w.heap.size+2))):=Qas.done (Qbb.keeps _) hF.1.2
  have i5:Qbb (a*d+b*c) (f 23) w1 ((Mo A (w.heap.size+2))):=Qas.done (Qbb.keeps _) hF.2
  clear hF
  simp only[Act.put,nrA,nrB,nrC]
  generalize f 5=v0 at *
  generalize f 10=v1 at *
  generalize f 11=v2 at *
  generalize f 17=v3 at *
  generalize f 22=v4 at *
  generalize f 23=v5 at *
  have hb1:Below W.heap.size W w1:=br.drew.trans k1
  obtain⟨c0,c1,f0,f1⟩:=HV.out.2.2.2 w1 hb1
  have hbw:=HV.out.2.1.trans (hb1.mono HV.out.2.1.size)
  have HE:=Lib.hid (And.intro i2 (And.intro i5 hbw))
  obtain⟨m1,rfl⟩:=i2.shape
  obtain⟨m2,rfl⟩:=i5.shape
  clear e0 e1 e2 e3 h1 h2 h3 h4 i0 i1 i2 i3 i4 i5 hbw hb1 k1
  go_wp2_with fail
  refine bodyPost_ret (v:=.agg #[.pointer (some ⟨m1,0,none⟩),.pointer (some ⟨m2,0,none⟩)]) (by simp[results,Tryz.results129,go_sem,c0,c1]) rfl ?_
  exact put_num HE.out.2.2 HE.out.1 HE.out.2.1 (by omega)
theorem NConj_any(a b:Rat)(v:Value)(A:Nat→Prop)(w:World)(hv:Qho a b v w A)(hA:Rcv A w)(hlb:RL b 137438953472) :
  Calls Tryz.prog 173 #[v] w fun e w'=>∃ u,e=.returned u∧Below w.heap.size w w'∧Qho a (-b) u w' A:=by
 obtain⟨u1,u2,rfl,h1,h2⟩:=hv
 obtain⟨W,HV,hs2,e0,e1⟩:=box_one w u1 u2 A hA
 have h1:=Qdh (Qef.keeps a) (n:=w.heap.size+1) HV.out.2.1 (by omega) h1
 have h2:=Qdh (Qef.keeps b) (n:=w.heap.size+1) HV.out.2.1 (by omega) h2
 clear hA
 go_enter Tryz.func173,Tryz.ntmps173
 go_wp2_with fail
 rw[←HV.out.1]
 refine Qap [(.lit,[]),(.lit,[]),(.val,[]),(.new zR,[]),(.lit,[]),(.lit,[]),(.val,[]),(.on 3 zR,[6])]
  (Qex [(2,Qas (Mo A (w.heap.size+1)) (Qbb (a))),(6,Qas (Mo A (w.heap.size+1)) (Qbb (b))),(7,Qas (Mo A (w.heap.size+1)) (Qbb (-b)))]) (by kernel_rfl) ?_ ?_ (by simp[Qdb]) (by simp) (by kernel_rfl)
 ·exact Qax (by simp only[List.mem_cons,List.not_mem_nil,or_false]; rintro p (rfl|rfl|rfl)<;>exact Qas.keeps (Qbb.keeps _))
 ·refine⟨_,fun f w1 h1=>by(have d0:=ct h1 hs2 e0; have d1:=ct h1 hs2 e1; go_simp; rfl),?_⟩
  refine⟨_,fun f w1 h1=>by(have d0:=ct h1 hs2 e0; have d1:=ct h1 hs2 e1; go_simp; rfl),?_⟩
  simp only[Act.put,nrA,nrB,nrC,Nat.reduceAdd]
  refine⟨fun f w1 A1 k1 hA hN hd K hK=>by
   go_simp
   refine(Qdu a u1 (Un (Mo A (w.heap.size+1)) A1) w1 (Qde (Qas.keeps (Qef.keeps _)) h1 k1 hN) (Qeg (HV.out.2.2.1.below (br.drew.trans k1)) hA)).mono ?_
   rintro e w' ⟨v,rfl,hb,hr⟩
   exact hK _ _ hb hr,?_⟩
  refine⟨fun f w1=>by go_simp,?_⟩
  refine⟨_,fun f w1 h1=>by(have d0:=ct h1 hs2 e0; have d1:=ct h1 hs2 e1; go_simp; rfl),?_⟩
  refine⟨_,fun f w1 h1=>by(have d0:=ct h1 hs2 e0; have d1:=ct h1 hs2 e1; go_simp; rfl),?_⟩
  simp only[Act.put,nrA,nrB,nrC,Nat.reduceAdd]
  refine⟨fun f w1 A1 k1 hA hN hd K hK=>by
   go_simp
   refine(Qdu b u2 (Un (Mo A (w.heap.size+1)) A1) w1 (Qde (Qas.keeps (Qef.keeps _)) h2 k1 hN) (Qeg (HV.out.2.2.1.below (br.drew.trans k1)) hA)).mono ?_
   rintro e w' ⟨v,rfl,hb,hr⟩
   exact hK _ _ hb hr,?_⟩
  simp only[Act.put,nrA,nrB,nrC,Nat.reduceAdd]
  refine⟨fun f w1 A1 m1 k1 hA hN hAm hm0 e hz hd K hK=>by
   simp only[e] at hK ⊢
   have i1:Qbb (b) (f 6) w1 (Un (Mo A (w.heap.size+1)) A1):=hd 6 (by simp)
   go_simp
   refine(RNeg_any m1 _ _ _ _ w1 hz (by decide) Qdb i1 hlb).mono ?_
   rintro e w' ⟨rfl,hp⟩
   exact hK _ w' hp.1 (hp.ratU (HV.out.2.2.1.below (br.drew.trans k1)) hA hm0 (fun b hb=>HV.out.2.2.1.lt hb)),?_⟩
  intro f w1 k1 hF
  have i0:Qbb (a) (f 2) w1 ((Mo A (w.heap.size+1))):=Qas.done (Qbb.keeps _) hF.1.1.2
  have i1:Qbb (b) (f 6) w1 ((Mo A (w.heap.size+1))):=Qas.done (Qbb.keeps _) hF.1.2
  have i2:Qbb (-b) (f 7) w1 ((Mo A (w.heap.size+1))):=Qas.done (Qbb.keeps _) hF.2
  clear hF
  simp only[Act.put,nrA,nrB,nrC]
  generalize f 2=v0 at *
  generalize f 6=v1 at *
  generalize f 7=v2 at *
  have hb1:Below W.heap.size W w1:=br.drew.trans k1
  obtain⟨c0,c1,f0,f1⟩:=HV.out.2.2.2 w1 hb1
  have hbw:=HV.out.2.1.trans (hb1.mono HV.out.2.1.size)
  have HE:=Lib.hid (And.intro i0 (And.intro i2 hbw))
  obtain⟨m1,rfl⟩:=i0.shape
  obtain⟨m2,rfl⟩:=i2.shape
  clear e0 e1 h1 h2 i0 i1 i2 hbw hb1 k1
  go_wp2_with fail
  refine bodyPost_ret (v:=.agg #[.pointer (some ⟨m1,0,none⟩),.pointer (some ⟨m2,0,none⟩)]) (by simp[results,Tryz.results173,go_sem,c0,c1]) rfl ?_
  exact put_num HE.out.2.2 HE.out.1 HE.out.2.1 (by omega)
theorem NewRat_any(i j:Int)(hi0:-9223372036854775808≤i)(hi1:i<9223372036854775808)(hj0:-9223372036854775808≤j)(hj1:j<9223372036854775808)(hj:j≠0)(w:World) :
  Calls Tryz.prog 177 #[.int .i64 i,.int .i64 j] w fun e w'=>∃ v,e=.returned v∧NewR (Rat.divInt i j) v w w':=by
 have hal:=(Below.refl w.heap.size w).alloc (Nat.le_refl _) zR
 have H1:=Lib.hid (Qgu i hi0 hi1 (w.alloc zR))
 have HA:=Lib.hid hal
 have HJ:=Lib.hid hj
 have l1:(Qac i.natAbs).length<274877906944:=Nat.lt_of_le_of_lt (Qak (k:=2) (by omega)) (by decide)
 have l2:(Qac j.natAbs).length<274877906944:=Nat.lt_of_le_of_lt (Qak (k:=2) (by omega)) (by decide)
 have HL:=Lib.hid (And.intro l1 l2)
 clear hal hj l1 l2
 go_enter Tryz.func177,Tryz.ntmps177
 go_wp2_with fail
 refine H1.out.mono ?_
 rintro e w1 ⟨v1,rfl,hn1⟩
 have H2:=Lib.hid (Qgu j hj0 hj1 w1)
 have HN1:=Lib.hid hn1
 clear hn1
 go_wp2_with fail
 refine H2.out.mono ?_
 rintro e w2 ⟨v2,rfl,hn2⟩
 have hb1:=HN1.out.1
 have hm:w2.heap[w.heap.size]?=some zR:=(hn2.1.block _ (by have:=hb1.size; simp at this; omega)).trans ((hb1.block _ (by simp)).trans (heap_alloc_new w _))
 have hb02:Below w.heap.size w w2:=HA.out.trans ((hb1.trans (hn2.1.mono hb1.size)).mono (by simp))
 have HS:=Lib.hid (Qeo w.heap.size _ i j HJ.out v1 v2 NoA w2 hm (by decide) Qdb ((HN1.out.2 NoA (Qbm _)).below hn2.1) (hn2.2 NoA (Qbm _)) HL.out.1 HL.out.2)
 have HB:=Lib.hid hb02
 clear hb1 hm hb02 hn2 H1 H2
 go_wp2_with fail
 refine HS.out.mono ?_
 rintro e w3 ⟨rfl,hp⟩
 have HN:=Lib.hid (hp.newAt HB.out (Nat.le_refl _))
 clear hp HS
 go_wp2
 go_ret
 exact⟨_,rfl,HN.out⟩
theorem Qjl{q:Rat}:q.num.sign=0↔q=0:=by
 rw[Int.sign_eq_zero_iff_zero,Rat.num_eq_zero]
theorem NZero_any(a b:Rat)(v:Value)(A:Nat→Prop)(w:World)(hv:Qho a b v w A)(r:Bool)(hr:r=true↔a=0∧b=0) :
  Calls Tryz.prog 170 #[v] w fun e w'=>e=.returned (.bool r)∧Below w.heap.size w w':=by
 obtain⟨u1,u2,rfl,h1,h2⟩:=hv
 have hal:Below w.heap.size w (w.alloc (.cells #[u1,u2] 116)):=br.alloc (Nat.le_refl _) _
 have H1:=Lib.hid (Qdu a u1 NoA (w.alloc (.cells #[u1,u2] 116)) ((Qcl.Keeps.noA (Qef.keeps a) h1).below hal) (Qbm _))
 have HB:=Lib.hid (And.intro hal (And.intro hr (Qcl.Keeps.noA (Qef.keeps b) h2)))
 clear hal hr h1 h2
 go_enter Tryz.func170,Tryz.ntmps170
 go_wp2_with fail
 refine H1.out.mono ?_
 rintro e w1 ⟨v1,rfl,hb1,hr1⟩
 have HS:=Lib.hid (Qgv a v1 NoA w1 hr1)
 obtain⟨e0,e1,_⟩:=Qii w _ _ _ hb1
 obtain⟨sg,hsg⟩:∃ sg,sg=a.num.sign:=⟨_,rfl⟩
 rw[←hsg] at HS
 have HG:=Lib.hid hsg
 clear hsg hr1
 go_wp2_with fail
 refine HS.out.mono ?_
 rintro e w2 ⟨rfl,rfl⟩
 by_cases c:sg=0
 ·have ha:a=0:=Qjl.1 (by rw[←HG.out]; exact c)
  subst c
  have H2:=Lib.hid (Qdu b u2 NoA w1 ((HB.out.2.2.below HB.out.1).below hb1) (Qbm _))
  have HB1:=Lib.hid (HB.out.1.trans (hb1.mono (by simp)))
  clear hb1
  go_wp2_with fail
  refine H2.out.mono ?_
  rintro e w3 ⟨v3,rfl,hb3,hr3⟩
  have HS2:=Lib.hid (Qgv b v3 NoA w3 hr3)
  obtain⟨sg2,hsg2⟩:∃ sg2,sg2=b.num.sign:=⟨_,rfl⟩
  rw[←hsg2] at HS2
  have HG2:=Lib.hid (And.intro hsg2 (HB1.out.trans (hb3.mono HB1.out.size)))
  clear hsg2 hr3 hb3 e0 e1
  go_wp2_with fail
  refine HS2.out.mono ?_
  rintro e w4 ⟨rfl,rfl⟩
  go_wp2
  go_ret
  refine⟨?_,HG2.out.2⟩
  have:r=decide (sg2=0):=by
   have h:=HB.out.2.1
   rw[←Qjl (q:=b),←HG2.out.1] at h
   by_cases h2:sg2=0
   ·rw[decide_eq_true h2]; exact h.2 ⟨ha,h2⟩
   ·rw[decide_eq_false h2]; cases hr:r
    ·rfl
    ·exact absurd (h.1 hr).2 h2
  rw[this]
  first|rfl|(simp; done)|(show Ending.returned (.bool (sg2 == 0))=_; rfl)
 ·have hc:(sg == 0)=false:=by simpa using c
  have hr:r=false:=by
   cases hr:r
   ·rfl
   ·exact absurd (by rw[HG.out]; exact Qjl.2 (HB.out.2.1.1 hr).1) c
  have HB1:=Lib.hid (HB.out.1.trans (hb1.mono (by simp)))
  clear hb1
  go_wp2
  all_goals go_ret
  all_goals exact⟨by rw[hr]; rfl,HB1.out⟩
end Go.Proofs.YtmimficdpfmfgaaGreat
