/- Laws for the walk. -/
import Derived.Test.YtplakbflfckldaaGreatYav
set_option linter.unusedVariables false
set_option maxHeartbeats 4000000
namespace Go.Proofs.YtplakbflfckldaaGreat
open Go.RowKit Tr
theorem add_more1{R:Fact}(hR:R.Keeps){n:Nat}{A:Nat→Prop}{x:Value}{w w1:World}(hb:Below w.heap.size w w1)(hn:w.heap.size≤n)(h:FactU A R x w NoA):FactU (Mo A n) R x w1 NoA :=
 hR _ _ _ _ _ hb.size (fun b hlt hna=>⟨hb.block b hlt,fun h=>h.elim (fun h=>h) (fun h=>h.elim (fun h=>hna (.inr h)) (fun e=>by omega))⟩) h
set_option maxRecDepth 100000 in
theorem XMul_any(a b c d:Rat)(v v':Value)(A:Nat→Prop)(w:World)(hv:CP a b v w A)(hv':CP c d v' w A)(hA:Rcv A w)(k l:Nat)(hla:RL a k)(hlb:RL b k)(hlc:RL c l)(hld:RL d l)(hkl:k+l+(k+l)<137438953472) :
  Calls Tryz.prog 163 #[v,v'] w fun e w'=>∃ u,e=.returned u∧Below w.heap.size w w'∧CP (a*c - b*d) (a*d+b*c) u w' A:=by
 obtain⟨u1,u2,rfl,h1,h2⟩:=hv
 obtain⟨u3,u4,rfl,h3,h4⟩:=hv'
 obtain⟨W,HV,hs1,hs2,e0,e1,e2,e3⟩:=xbox_two w u1 u2 u3 u4 A hA
 have h1:=new_more (RatP.keeps a) (n:=w.heap.size+2) HV.out.2.1 (by omega) h1
 have h2:=new_more (RatP.keeps b) (n:=w.heap.size+2) HV.out.2.1 (by omega) h2
 have h3:=new_more (RatP.keeps c) (n:=w.heap.size+2) HV.out.2.1 (by omega) h3
 have h4:=new_more (RatP.keeps d) (n:=w.heap.size+2) HV.out.2.1 (by omega) h4
 clear hA
 go_enter Tryz.func163,Tryz.ntmps163
 go_wp2_with fail
 rw[←HV.out.1]
 refine wp_region_inv [(.new zR,[]),(.lit,[]),(.lit,[]),(.lit,[]),(.lit,[]),(.on 0 zR,[]),(.new zR,[]),(.lit,[]),(.lit,[]),(.lit,[]),(.lit,[]),(.on 6 zR,[])]
  (pickF [(5,FactU (Mo A (w.heap.size+2)) (RatB W.heap.size (a*c))),(11,FactU (Mo A (w.heap.size+2)) (RatP (b*d)))]) (by kernel_rfl) ?_ ?_ (by simp[noW_zRat]) (by simp) (by kernel_rfl)
 ·exact keeps_pick (by simp only[List.mem_cons,List.not_mem_nil,or_false]; rintro p (rfl|rfl)<;>first|exact FactU.keeps (RatP.keeps _)|exact FactU.keeps (RatB.keeps _ _)|exact FactU.keeps (CP.keeps _ _))
 ·refine⟨fun f w1=>by go_simp,?_⟩
  refine⟨_,fun f w1 h1=>by(have d0:=ct h1 hs1 e0; have d1:=ct h1 hs1 e1; have d2:=ct h1 hs2 e2; have d3:=ct h1 hs2 e3; go_simp; rfl),?_⟩
  refine⟨_,fun f w1 h1=>by(have d0:=ct h1 hs1 e0; have d1:=ct h1 hs1 e1; have d2:=ct h1 hs2 e2; have d3:=ct h1 hs2 e3; go_simp; rfl),?_⟩
  refine⟨_,fun f w1 h1=>by(have d0:=ct h1 hs1 e0; have d1:=ct h1 hs1 e1; have d2:=ct h1 hs2 e2; have d3:=ct h1 hs2 e3; go_simp; rfl),?_⟩
  refine⟨_,fun f w1 h1=>by(have d0:=ct h1 hs1 e0; have d1:=ct h1 hs1 e1; have d2:=ct h1 hs2 e2; have d3:=ct h1 hs2 e3; go_simp; rfl),?_⟩
  simp only[Act.put,nrA,nrB,nrC,Nat.reduceAdd]
  refine⟨fun f w1 A1 m1 k1 hA hN hAm hm0 e hz hd K hK=>by
   simp only[e] at hK ⊢
   go_simp
   refine(RMul_any m1 _ _ _ _ _ _ w1 hz (by decide) noW_zRat (later (FactU.keeps (RatP.keeps _)) h1 k1 hN) (later (FactU.keeps (RatP.keeps _)) h3 k1 hN) (k) (l) hla hlc (by omega)).mono ?_
   rintro e w' ⟨rfl,hp⟩
   exact hK _ w' hp.1 (hp.ratB (HV.out.2.2.1.below (br.drew.trans k1)) hA hm0 (fun b hb=>HV.out.2.2.1.lt hb)),?_⟩
  refine⟨fun f w1=>by go_simp,?_⟩
  refine⟨_,fun f w1 h1=>by(have d0:=ct h1 hs1 e0; have d1:=ct h1 hs1 e1; have d2:=ct h1 hs2 e2; have d3:=ct h1 hs2 e3; go_simp; rfl),?_⟩
  refine⟨_,fun f w1 h1=>by(have d0:=ct h1 hs1 e0; have d1:=ct h1 hs1 e1; have d2:=ct h1 hs2 e2; have d3:=ct h1 hs2 e3; go_simp; rfl),?_⟩
  refine⟨_,fun f w1 h1=>by(have d0:=ct h1 hs1 e0; have d1:=ct h1 hs1 e1; have d2:=ct h1 hs2 e2; have d3:=ct h1 hs2 e3; go_simp; rfl),?_⟩
  refine⟨_,fun f w1 h1=>by(have d0:=ct h1 hs1 e0; have d1:=ct h1 hs1 e1; have d2:=ct h1 hs2 e2; have d3:=ct h1 hs2 e3; go_simp; rfl),?_⟩
  simp only[Act.put,nrA,nrB,nrC,Nat.reduceAdd]
  refine⟨fun f w1 A1 m1 k1 hA hN hAm hm0 e hz hd K hK=>by
   simp only[e] at hK ⊢
   go_simp
   refine(RMul_any m1 _ _ _ _ _ _ w1 hz (by decide) noW_zRat (later (FactU.keeps (RatP.keeps _)) h2 k1 hN) (later (FactU.keeps (RatP.keeps _)) h4 k1 hN) (k) (l) hlb hld (by omega)).mono ?_
   rintro e w' ⟨rfl,hp⟩
   exact hK _ w' hp.1 (hp.ratU (HV.out.2.2.1.below (br.drew.trans k1)) hA hm0 (fun b hb=>HV.out.2.2.1.lt hb)),?_⟩
  intro f w1 k1 hF
  have i0:(RatB W.heap.size (a*c)) (f 5) w1 ((Mo A (w.heap.size+2))):=FactU.done (RatB.keeps _ _) hF.1.2
  have i1:(RatP (b*d)) (f 11) w1 ((Mo A (w.heap.size+2))):=FactU.done (RatP.keeps _) hF.2
  clear hF
  simp only[Act.put,nrA,nrB,nrC]
  generalize f 5=vi0 at *
  generalize f 11=vi1 at *
  have hbw1:Below W.heap.size W w1:=br.drew.trans k1
  obtain⟨m1,C1,rfl,hmb,hna,hm,hC4,hC,hr0⟩:=i0
  obtain⟨m2,rfl⟩:=i1.shape
  -- the second pair keeps clear of the first's block as well
  have hR1:Rcv (Mo (Mo A (w.heap.size+2)) m1) w1:=fun b h=>h.elim (fun h=>(HV.out.2.2.1.below hbw1) b h) (fun h=>by subst h; exact⟨_,hm,hC⟩)
  have h1':=add_more1 (RatP.keeps a) (n:=m1) hbw1 hmb h1
  have h2':=add_more1 (RatP.keeps b) (n:=m1) hbw1 hmb h2
  have h3':=add_more1 (RatP.keeps c) (n:=m1) hbw1 hmb h3
  have h4':=add_more1 (RatP.keeps d) (n:=m1) hbw1 hmb h4
  have t1:=(hbw1.cell (p:=⟨w.heap.size,0,none⟩) hs1).trans e0
  have t2:=(hbw1.cell (p:=⟨w.heap.size,1,none⟩) hs1).trans e1
  have t3:=(hbw1.cell (p:=⟨w.heap.size+1,0,none⟩) hs2).trans e2
  have t4:=(hbw1.cell (p:=⟨w.heap.size+1,1,none⟩) hs2).trans e3
  have l1:w.heap.size<w1.heap.size:=Nat.lt_of_lt_of_le hs1 hbw1.size
  have l2:w.heap.size+1<w1.heap.size:=Nat.lt_of_lt_of_le hs2 hbw1.size
  have HE:=Lib.hid (And.intro hbw1 (And.intro hmb (And.intro hna (And.intro hm (And.intro hC4 (And.intro hC (And.intro hr0 (And.intro i1 hR1))))))))
  clear e0 e1 e2 e3 h1 h2 h3 h4 i1 hr0 hm hC hC4 hbw1 k1 hmb hna hR1
  go_wp2_with fail
  refine wp_region_inv [(.new zR,[]),(.lit,[]),(.lit,[]),(.lit,[]),(.lit,[]),(.on 0 zR,[]),(.new zR,[]),(.lit,[]),(.lit,[]),(.lit,[]),(.lit,[]),(.on 6 zR,[])]
   (pickF [(5,FactU (Mo (Mo A (w.heap.size+2)) m1) (RatB w1.heap.size (a*d))),(11,FactU (Mo (Mo A (w.heap.size+2)) m1) (RatP (b*c)))]) (by kernel_rfl) ?_ ?_ (by simp[noW_zRat]) (by simp) (by kernel_rfl)
  ·exact keeps_pick (by simp only[List.mem_cons,List.not_mem_nil,or_false]; rintro p (rfl|rfl)<;>first|exact FactU.keeps (RatP.keeps _)|exact FactU.keeps (RatB.keeps _ _)|exact FactU.keeps (CP.keeps _ _))
  ·refine⟨fun f w1=>by go_simp,?_⟩
   refine⟨_,fun f w1 h1=>by(have d0:=ct h1 l1 t1; have d1:=ct h1 l1 t2; have d2:=ct h1 l2 t3; have d3:=ct h1 l2 t4; go_simp; rfl),?_⟩
   refine⟨_,fun f w1 h1=>by(have d0:=ct h1 l1 t1; have d1:=ct h1 l1 t2; have d2:=ct h1 l2 t3; have d3:=ct h1 l2 t4; go_simp; rfl),?_⟩
   refine⟨_,fun f w1 h1=>by(have d0:=ct h1 l1 t1; have d1:=ct h1 l1 t2; have d2:=ct h1 l2 t3; have d3:=ct h1 l2 t4; go_simp; rfl),?_⟩
   refine⟨_,fun f w1 h1=>by(have d0:=ct h1 l1 t1; have d1:=ct h1 l1 t2; have d2:=ct h1 l2 t3; have d3:=ct h1 l2 t4; go_simp; rfl),?_⟩
   simp only[Act.put,nrA,nrB,nrC,Nat.reduceAdd]
   refine⟨fun f w1 A1 m1 k1 hA hN hAm hm0 e hz hd K hK=>by
    simp only[e] at hK ⊢
    go_simp
    refine(RMul_any m1 _ _ _ _ _ _ w1 hz (by decide) noW_zRat (later (FactU.keeps (RatP.keeps _)) h1' k1 hN) (later (FactU.keeps (RatP.keeps _)) h4' k1 hN) (k) (l) hla hld (by omega)).mono ?_
    rintro e w' ⟨rfl,hp⟩
    exact hK _ w' hp.1 (hp.ratB (HE.out.2.2.2.2.2.2.2.2.below (br.drew.trans k1)) hA hm0 (fun b hb=>HE.out.2.2.2.2.2.2.2.2.lt hb)),?_⟩
   refine⟨fun f w1=>by go_simp,?_⟩
   refine⟨_,fun f w1 h1=>by(have d0:=ct h1 l1 t1; have d1:=ct h1 l1 t2; have d2:=ct h1 l2 t3; have d3:=ct h1 l2 t4; go_simp; rfl),?_⟩
   refine⟨_,fun f w1 h1=>by(have d0:=ct h1 l1 t1; have d1:=ct h1 l1 t2; have d2:=ct h1 l2 t3; have d3:=ct h1 l2 t4; go_simp; rfl),?_⟩
   refine⟨_,fun f w1 h1=>by(have d0:=ct h1 l1 t1; have d1:=ct h1 l1 t2; have d2:=ct h1 l2 t3; have d3:=ct h1 l2 t4; go_simp; rfl),?_⟩
   refine⟨_,fun f w1 h1=>by(have d0:=ct h1 l1 t1; have d1:=ct h1 l1 t2; have d2:=ct h1 l2 t3; have d3:=ct h1 l2 t4; go_simp; rfl),?_⟩
   simp only[Act.put,nrA,nrB,nrC,Nat.reduceAdd]
   refine⟨fun f w1 A1 m1 k1 hA hN hAm hm0 e hz hd K hK=>by
    simp only[e] at hK ⊢
    go_simp
    refine(RMul_any m1 _ _ _ _ _ _ w1 hz (by decide) noW_zRat (later (FactU.keeps (RatP.keeps _)) h2' k1 hN) (later (FactU.keeps (RatP.keeps _)) h3' k1 hN) (k) (l) hlb hlc (by omega)).mono ?_
    rintro e w' ⟨rfl,hp⟩
    exact hK _ w' hp.1 (hp.ratU (HE.out.2.2.2.2.2.2.2.2.below (br.drew.trans k1)) hA hm0 (fun b hb=>HE.out.2.2.2.2.2.2.2.2.lt hb)),?_⟩
   intro g w2 k2 hF
   have j0:(RatB w1.heap.size (a*d)) (g 5) w2 ((Mo (Mo A (w.heap.size+2)) m1)):=FactU.done (RatB.keeps _ _) hF.1.2
   have j1:(RatP (b*c)) (g 11) w2 ((Mo (Mo A (w.heap.size+2)) m1)):=FactU.done (RatP.keeps _) hF.2
   clear hF
   simp only[Act.put,nrA,nrB,nrC]
   generalize g 5=vj0 at *
   generalize g 11=vj1 at *
   have hbw2:Below w1.heap.size w1 w2:=br.drew.trans k2
   obtain⟨m3,C3,rfl,hmb3,hna3,hm3,hC43,hC3,hr3⟩:=j0
   obtain⟨m4,rfl⟩:=j1.shape
   have hm13:m3≠m1:=fun e=>hna3 (.inr e)
   have hM1:=Lib.hid (RSub_any m1 C1 _ _ _ _ (Mo A (w.heap.size+2)) w2 ((hbw2.block m1 (Array.getElem?_eq_some_iff.1 HE.out.2.2.2.1).1).trans HE.out.2.2.2.1) HE.out.2.2.2.2.1 HE.out.2.2.2.2.2.1 (HE.out.2.2.2.2.2.2.1.below hbw2) (HE.out.2.2.2.2.2.2.2.1.below hbw2) (k+l) (k+l) (RL_mul hla hlc) (RL_mul hlb hld) hkl)
   have HG:=Lib.hid (And.intro hbw2 (And.intro hmb3 (And.intro hna3 (And.intro hm3 (And.intro hC43 (And.intro hC3 (And.intro hr3 (And.intro j1 hm13))))))))
   clear t1 t2 t3 t4 l1 l2 h1' h2' h3' h4' j1 hr3 hm3 hC3 hC43 hbw2 k2 hmb3 hna3 hm13
   go_wp2_with fail
   refine hM1.out.mono ?_
   rintro e w3 ⟨rfl,hp1⟩
   -- what stays where m1 is written
   have hk3:∀ R:Fact,R.Keeps→∀ v,R v w2 (Mo (Mo A (w.heap.size+2)) m1)→R v w3 (Mo A (w.heap.size+2)):=fun R hR v h =>
    hR _ _ _ _ _ hp1.1.size (fun b hb hn=>⟨hp1.1.block b hb (fun e=>hn (.inr e)),fun h=>hn (.inl h)⟩) h
   have hm3':w3.heap[m3]?=some (.cells C3 187 (0,0)):=(hp1.1.block m3 (Array.getElem?_eq_some_iff.1 HG.out.2.2.2.1).1 HG.out.2.2.2.2.2.2.2.2).trans HG.out.2.2.2.1
   have hM2:=Lib.hid (RAdd_any m3 C3 _ _ _ _ (Mo A (w.heap.size+2)) w3 hm3' HG.out.2.2.2.2.1 HG.out.2.2.2.2.2.1 (hk3 _ (RatP.keeps _) _ HG.out.2.2.2.2.2.2.1) (hk3 _ (RatP.keeps _) _ HG.out.2.2.2.2.2.2.2.1) (k+l) (k+l) (RL_mul hla hld) (RL_mul hlb hlc) hkl)
   -- the first result,clear of the second's block
   have hR2:Rcv (Mo (Mo A (w.heap.size+2)) m3) w2:=fun b h=>h.elim (fun h=>HV.out.2.2.1.below (HE.out.1.trans (HG.out.1.mono HE.out.1.size)) b h) (fun h=>by subst h; exact⟨_,HG.out.2.2.2.1,HG.out.2.2.2.2.2.1⟩)
   have hq1:RatP (a*c - b*d) (.pointer (some ⟨m1,0,none⟩)) w3 (Mo (Mo A (w.heap.size+2)) m3):=(hp1.ratP hR2).wider fun b hb=>⟨hb,fun e=>hb.elim (fun h=>HE.out.2.2.1 (e▸h)) (fun h=>HG.out.2.2.2.2.2.2.2.2 (h.symm.trans e))⟩
   have HP1:=Lib.hid (And.intro hp1 hq1)
   clear hp1 hk3 hm3' hR2 hq1 hM1
   go_wp2_with fail
   refine hM2.out.mono ?_
   rintro e w4 ⟨rfl,hp2⟩
   have hq1':RatP (a*c - b*d) (.pointer (some ⟨m1,0,none⟩)) w4 (Mo A (w.heap.size+2)):=RatP.keeps _ _ _ _ _ _ hp2.1.size (fun b hb hn=>⟨hp2.1.block b hb (fun e=>hn (.inr e)),fun h=>hn (.inl h)⟩) HP1.out.2
   have hs3:=HP1.out.1.1.size
   have hR3:Rcv (Mo A (w.heap.size+2)) w3:=fun b h=>by
    obtain⟨z,hz,hn⟩:=(HV.out.2.2.1.below (HE.out.1.trans (HG.out.1.mono HE.out.1.size))) b h
    exact⟨z,(HP1.out.1.1.block b (Array.getElem?_eq_some_iff.1 hz).1 (fun e=>HE.out.2.2.1 (e▸h))).trans hz,hn⟩
   have hq2:RatP (a*d+b*c) (.pointer (some ⟨m3,0,none⟩)) w4 (Mo A (w.heap.size+2)):=(hp2.ratP hR3).wider fun b hb=>⟨hb,fun e=>HG.out.2.2.1 (.inl (e▸hb))⟩
   have hB02:Below W.heap.size W w2:=HE.out.1.trans (HG.out.1.mono HE.out.1.size)
   have hB03:Below W.heap.size W w3:=hB02.trans (HP1.out.1.1.below HE.out.2.1 hB02.size)
   have hB04:Below W.heap.size W w4:=hB03.trans (hp2.1.below (Nat.le_trans HE.out.1.size HG.out.2.1) hB03.size)
   obtain⟨c0,c1,f0,f1⟩:=HV.out.2.2.2 w4 hB04
   have HF:=Lib.hid (And.intro hq1' (And.intro hq2 (HV.out.2.1.trans (hB04.mono HV.out.2.1.size))))
   clear hq1' hq2 hR3 hB02 hB03 hB04 hp2 hM2 hs3
   go_wp2_with fail
   refine bodyPost_ret (v:=.agg #[.pointer (some ⟨m1,0,none⟩),.pointer (some ⟨m3,0,none⟩)]) (by simp[results,Tryz.results163,go_sem,c0,c1]) rfl ?_
   exact put_c HF.out.2.2 HF.out.1 HF.out.2.1 (by omega)
end Go.Proofs.YtplakbflfckldaaGreat
namespace Go.Proofs.YtplakbflfckldaaGreat
open Go.RowKit Tr
set_option maxRecDepth 100000 in
theorem XRat_any(n1 n2:Bool)(s1 s2:ByteArray)(hd0:numS s2≠0)(h1:s1.size<274877906944)(h2:s2.size<274877906944)(w:World) :
  Calls Tryz.prog 166 #[.agg #[.bool n1,.string s1,.bool n2,.string s2]] w fun e w'=>∃ v,e=.returned v∧NewR (Rat.divInt (sgn n1 (numS s1)) (sgn n2 (numS s2))) v w w':=by
 have hdz:sgn n2 (numS s2)≠0:=by unfold sgn; cases n2<;>simp<;>omega
 have HZ:=Lib.hid hdz
 have l1:(words (sgn n1 (numS s1)).natAbs).length<274877906944:=by rw[natAbs_sgn]; exact Nat.lt_of_le_of_lt (words_length_le (k:=s1.size) (Nat.lt_of_lt_of_le (numS_lt s1) (Nat.pow_le_pow_left (by decide) _))) h1
 have l2:(words (sgn n2 (numS s2)).natAbs).length<274877906944:=by rw[natAbs_sgn]; exact Nat.lt_of_le_of_lt (words_length_le (k:=s2.size) (Nat.lt_of_lt_of_le (numS_lt s2) (Nat.pow_le_pow_left (by decide) _))) h2
 have HL:=Lib.hid (And.intro l1 l2)
 clear hdz hd0 l1 l2
 go_enter Tryz.func166,Tryz.ntmps166
 go_wp2_with fail
 obtain⟨W,hW⟩:∃ W,W=w.alloc (.cells #[.bool n1,.string s1,.bool n2,.string s2] 34):=⟨_,rfl⟩
 have hB:Below w.heap.size w W:=by rw[hW]; exact br.alloc (Nat.le_refl _) _
 have hWs:w.heap.size<W.heap.size:=by rw[hW]; simp
 obtain⟨e0,e1,e2,e3,_⟩:=new_four w (.bool n1) (.string s1) (.bool n2) (.string s2) 34 br
 rw[←hW] at e0 e1 e2 e3 ⊢
 clear hW
 refine wp_region_inv [(.new zR,[]),(.lit,[]),(.lit,[]),(.val,[]),(.lit,[]),(.lit,[]),(.val,[]),(.on 0 zR,[3,6])]
  (pickF [(3,IntP (sgn n1 (numS s1))),(6,IntP (sgn n2 (numS s2))),(7,RatM W.heap.size (Rat.divInt (sgn n1 (numS s1)) (sgn n2 (numS s2))))]) (by kernel_rfl) ?_ ?_ (by simp[noW_zRat]) (by simp) (by kernel_rfl)
 ·exact keeps_pick (by simp[IntP.keeps,RatM.keeps])
 ·refine⟨fun f w1=>by go_simp,?_⟩
  repeat (refine⟨_,fun f w1 h1=>by(have d0:=ct h1 hWs e0; have d1:=ct h1 hWs e1; have d2:=ct h1 hWs e2; have d3:=ct h1 hWs e3; go_simp; rfl),?_⟩)
  simp only[Act.put,nrA,nrB,nrC,Nat.reduceAdd]
  refine⟨fun f w1 A1 k1 hA hN hd K hK=>by
   go_simp
   refine(xnumber_any n1 s1 h1 w1).mono ?_
   rintro e w' ⟨v,rfl,hn⟩
   exact hK _ _ hn.1 (hn.2 A1 hA),?_⟩
  repeat (refine⟨_,fun f w1 h1=>by(have d0:=ct h1 hWs e0; have d1:=ct h1 hWs e1; have d2:=ct h1 hWs e2; have d3:=ct h1 hWs e3; go_simp; rfl),?_⟩)
  simp only[Act.put,nrA,nrB,nrC,Nat.reduceAdd]
  refine⟨fun f w1 A1 k1 hA hN hd K hK=>by
   go_simp
   refine(xnumber_any n2 s2 h2 w1).mono ?_
   rintro e w' ⟨v,rfl,hn⟩
   exact hK _ _ hn.1 (hn.2 A1 hA),?_⟩
  simp only[Act.put,nrA,nrB,nrC,Nat.reduceAdd]
  refine⟨fun f w1 A1 m1 k1 hA hN hAm hm0 e hz hd K hK=>by
   simp only[e] at hK ⊢
   have i1:IntP (sgn n1 (numS s1)) (f 3) w1 A1:=hd 3 (by simp)
   have i2:IntP (sgn n2 (numS s2)) (f 6) w1 A1:=hd 6 (by simp)
   go_simp
   refine(SetFrac_any m1 _ _ _ HZ.out _ _ A1 w1 hz (by decide) noW_zRat i1 i2 HL.out.1 HL.out.2).mono ?_
   rintro e w' ⟨rfl,hp⟩
   exact hK _ w' hp.1 (hp.ratM hm0 hA),?_⟩
  intro f w1 k1 hF
  have i1:RatM W.heap.size (Rat.divInt (sgn n1 (numS s1)) (sgn n2 (numS s2))) (f 7) w1 NoA:=hF.2
  clear hF
  simp only[Act.put,nrA,nrB,nrC]
  generalize f 3=v3
  generalize f 6=v6
  generalize f 7=v7 at *
  have hbw:Below W.heap.size W w1:=br.drew.trans k1
  have hn:=i1.new (hB.trans (hbw.mono hB.size)) hB.size
  have HN:=Lib.hid hn
  clear hn i1
  go_wp2
  go_ret
  exact⟨v7,rfl,HN.out⟩
set_option maxRecDepth 100000 in
theorem XZero_any(a b:Rat)(v:Value)(A:Nat→Prop)(w:World)(hv:CP a b v w A)(r:Bool)(hr:r=true↔a=0∧b=0) :
  Calls Tryz.prog 167 #[v] w fun e w'=>e=.returned (.bool r)∧Below w.heap.size w w':=by
 obtain⟨u1,u2,rfl,h1,h2⟩:=hv
 have hal:Below w.heap.size w (w.alloc (.cells #[u1,u2] 175)):=br.alloc (Nat.le_refl _) _
 have HS:=Lib.hid (RSign_any a u1 NoA (w.alloc (.cells #[u1,u2] 175)) (h1.noA.below hal))
 have HS2:=Lib.hid (RSign_any b u2 NoA (w.alloc (.cells #[u1,u2] 175)) (h2.noA.below hal))
 obtain⟨sg,hsg⟩:∃ sg,sg=a.num.sign:=⟨_,rfl⟩
 obtain⟨sg2,hsg2⟩:∃ sg2,sg2=b.num.sign:=⟨_,rfl⟩
 rw[←hsg] at HS
 rw[←hsg2] at HS2
 have HG:=Lib.hid (And.intro hsg (And.intro hsg2 (And.intro hr hal)))
 clear hsg hsg2 hr hal h1 h2
 go_enter Tryz.func167,Tryz.ntmps167
 go_wp2_with fail
 refine HS.out.mono ?_
 rintro e w2 ⟨rfl,rfl⟩
 by_cases c:sg=0
 ·have ha:a=0:=num_sign_zero.1 (by rw[←HG.out.1]; exact c)
  subst c
  go_wp2_with fail
  refine HS2.out.mono ?_
  rintro e w4 ⟨rfl,rfl⟩
  go_wp2
  go_ret
  refine⟨?_,HG.out.2.2.2⟩
  have:r=decide (sg2=0):=by
   have h:=HG.out.2.2.1
   rw[←num_sign_zero (q:=b),←HG.out.2.1] at h
   by_cases h2:sg2=0
   ·rw[decide_eq_true h2]; exact h.2 ⟨ha,h2⟩
   ·rw[decide_eq_false h2]; cases hr:r
    ·rfl
    ·exact absurd (h.1 hr).2 h2
  rw[this]
  first|rfl|(simp; done)|(show Ending.returned (.bool (sg2 == 0))=_; rfl)
 ·have hc:(sg == 0)=false:=by simpa using c
  have hr:r=false:=by
   cases hr:r
   ·rfl
   ·exact absurd (by rw[HG.out.1]; exact num_sign_zero.2 (HG.out.2.2.1.1 hr).1) c
  go_wp2
  all_goals go_ret
  all_goals exact⟨by rw[hr]; rfl,HG.out.2.2.2⟩
theorem sub_zero_iff{a b:Rat}:a - b=0↔a=b:=by
 constructor
 ·intro h
  have:a - b+b=0+b:=by rw[h]
  rwa[Rat.sub_add_cancel,Rat.zero_add] at this
 ·rintro rfl; exact Rat.sub_self
set_option maxRecDepth 100000 in
theorem XSame_any(a b c d:Rat)(v v':Value)(A:Nat→Prop)(w:World)(hv:CP a b v w A)(hv':CP c d v' w A)(k l:Nat)(hla:RL a k)(hlb:RL b k)(hlc:RL c l)(hld:RL d l)(hkl:k+l<137438953472)(r:Bool)(hr:r=true↔a=c∧b=d) :
  Calls Tryz.prog 200 #[v,v'] w fun e w'=>e=.returned (.bool r)∧Below w.heap.size w w':=by
 have hv:=Fact.Keeps.noA (CP.keeps _ _) hv
 have hv':=Fact.Keeps.noA (CP.keeps _ _) hv'
 obtain⟨u1,u2,rfl,h1,h2⟩:=hv
 obtain⟨u3,u4,rfl,h3,h4⟩:=hv'
 obtain⟨W,hW⟩:∃ W,W=(w.alloc (.cells #[u1,u2] 175)).alloc (.cells #[u3,u4] 175):=⟨_,rfl⟩
 have hB:Below w.heap.size w W:=by rw[hW]; exact(br.alloc (Nat.le_refl _) _).alloc (by simp) _
 obtain⟨e0,e1,_⟩:=new_two w u1 u2 175 (w1:=W) (by rw[hW]; exact br.alloc (Nat.le_refl _) _)
 have e23:=new_two (w.alloc (.cells #[u1,u2] 175)) u3 u4 175 (w1:=W) (by rw[hW]; exact Below.refl _ _)
 rw[show(w.alloc (.cells #[u1,u2] 175)).heap.size=w.heap.size+1 by simp] at e23
 obtain⟨e2,e3,_⟩:=e23
 have HS:=Lib.hid (XSub_any a b c d (.agg #[u1,u2]) (.agg #[u3,u4]) NoA W ⟨u1,u2,rfl,h1.below hB,h2.below hB⟩ ⟨u3,u4,rfl,h3.below hB,h4.below hB⟩ (rcv_noA _) k l hla hlb hlc hld hkl)
 have HW:=Lib.hid (And.intro hW (And.intro hB hr))
 clear hr hB h1 h2 h3 h4 hW
 go_enter Tryz.func200,Tryz.ntmps200
 go_wp2_with fail
 rw[←HW.out.1]
 refine HS.out.mono ?_
 rintro e w1 ⟨v1,rfl,hb1,hc1⟩
 have HZ:=Lib.hid (XZero_any (a - c) (b - d) v1 NoA w1 hc1 r (by rw[sub_zero_iff,sub_zero_iff]; exact HW.out.2.2))
 have HB:=Lib.hid (HW.out.2.1.trans (hb1.mono HW.out.2.1.size))
 clear hb1 hc1
 go_wp2_with fail
 refine HZ.out.mono ?_
 rintro e w2 ⟨rfl,hb2⟩
 have HB2:=Lib.hid (HB.out.trans (hb2.mono HB.out.size))
 clear hb2
 go_wp2
 go_ret
 exact⟨rfl,HB2.out⟩
set_option maxRecDepth 100000 in
theorem XOf_any(n1 n2 n3 n4:Bool)(s1 s2 s3 s4:ByteArray)(hd1:numS s2≠0)(hd2:numS s4≠0)(l1:s1.size<274877906944)(l2:s2.size<274877906944)(l3:s3.size<274877906944)(l4:s4.size<274877906944)(A:Nat→Prop)(w:World)(hA:Rcv A w) :
  Calls Tryz.prog 105 #[.agg #[.bool n1,.string s1,.bool n2,.string s2,.bool n3,.string s3,.bool n4,.string s4]] w fun e w'=>∃ u,e=.returned u∧Below w.heap.size w w'∧CP (Rat.divInt (sgn n1 (numS s1)) (sgn n2 (numS s2))) (Rat.divInt (sgn n3 (numS s3)) (sgn n4 (numS s4))) u w' A:=by
 obtain⟨q1,hq1⟩:∃ q1,q1=Rat.divInt (sgn n1 (numS s1)) (sgn n2 (numS s2)):=⟨_,rfl⟩
 obtain⟨q2,hq2⟩:∃ q2,q2=Rat.divInt (sgn n3 (numS s3)) (sgn n4 (numS s4)):=⟨_,rfl⟩
 have H1:=Lib.hid (fun w=>XRat_any n1 n2 s1 s2 hd1 l1 l2 w)
 have H2:=Lib.hid (fun w=>XRat_any n3 n4 s3 s4 hd2 l3 l4 w)
 rw[←hq1] at H1 ⊢
 rw[←hq2] at H2 ⊢
 clear hq1 hq2 hd1 hd2 l1 l2 l3 l4
 obtain⟨W0,hW0⟩:∃ W0,W0=w.alloc (.cells #[.bool n1,.string s1,.bool n2,.string s2,.bool n3,.string s3,.bool n4,.string s4] 36):=⟨_,rfl⟩
 have hz0:W0.heap.size=w.heap.size+1:=by rw[hW0]; simp
 obtain⟨W,hW⟩:∃ W,W=W0.alloc (.cells #[.pointer none,.pointer none] 175):=⟨_,rfl⟩
 have hb0:Below w.heap.size w W0:=by rw[hW0]; exact br.alloc (Nat.le_refl _) _
 have hb1:Below W0.heap.size W0 W:=by rw[hW]; exact br.alloc (Nat.le_refl _) _
 have hb:=hb0.trans (hb1.mono hb0.size)
 have hn:=heap_alloc_new W0 (.cells #[.pointer none,.pointer none] 175 (0,0))
 have hR:Rcv (Mo A (w.heap.size+1)) W:=fun b h=>h.elim (fun h=>(hA.below hb) b h) (fun h=>by subst h; rw[hz0,←hW] at hn; exact⟨_,hn,noW_num _ _ ⟨_,rfl⟩ ⟨_,rfl⟩ _⟩)
 have hc:∀ i,W.cell? ⟨w.heap.size,i,none⟩=W0.cell? ⟨w.heap.size,i,none⟩:=fun i=>hb1.cell (p:=⟨w.heap.size,i,none⟩) (by show w.heap.size<_; omega)
 have e0:W.cell? ⟨w.heap.size,0,none⟩=some (.bool n1):=(hc 0).trans (by rw[hW0]; simp[go_sem])
 have e1:W.cell? ⟨w.heap.size,1,none⟩=some (.string s1):=(hc 1).trans (by rw[hW0]; simp[go_sem])
 have e2:W.cell? ⟨w.heap.size,2,none⟩=some (.bool n2):=(hc 2).trans (by rw[hW0]; simp[go_sem])
 have e3:W.cell? ⟨w.heap.size,3,none⟩=some (.string s2):=(hc 3).trans (by rw[hW0]; simp[go_sem])
 have e4:W.cell? ⟨w.heap.size,4,none⟩=some (.bool n3):=(hc 4).trans (by rw[hW0]; simp[go_sem])
 have e5:W.cell? ⟨w.heap.size,5,none⟩=some (.string s3):=(hc 5).trans (by rw[hW0]; simp[go_sem])
 have e6:W.cell? ⟨w.heap.size,6,none⟩=some (.bool n4):=(hc 6).trans (by rw[hW0]; simp[go_sem])
 have e7:W.cell? ⟨w.heap.size,7,none⟩=some (.string s4):=(hc 7).trans (by rw[hW0]; simp[go_sem])
 have hs2:w.heap.size<W.heap.size:=by have:=hb1.size; omega
 have HV:=Lib.hid (And.intro (hW.trans (by rw[hW0])) (And.intro hb (And.intro hR (fun w1 (h:Below W.heap.size W w1)=>new_two W0 (.pointer none) (.pointer none) 175 (w1:=w1) (by rw[←hW]; exact h)))))
 rw[hz0] at HV
 clear hc hn hb hb1 hb0 hR hW hW0 hA
 go_enter Tryz.func105,Tryz.ntmps105
 go_wp2_with fail
 rw[←HV.out.1]
 refine wp_region_inv [(.lit,[]),(.lit,[]),(.val,[]),(.lit,[]),(.lit,[]),(.val,[])]
  (pickF [(2,FactU (Mo A (w.heap.size+1)) (RatP q1)),(5,FactU (Mo A (w.heap.size+1)) (RatP q2))]) (by kernel_rfl) ?_ ?_ (by simp) (by simp) (by kernel_rfl)
 ·exact keeps_pick (by simp only[List.mem_cons,List.not_mem_nil,or_false]; rintro p (rfl|rfl)<;>exact FactU.keeps (RatP.keeps _))
 ·repeat (refine⟨_,fun f w1 h1=>by(have d0:=ct h1 hs2 e0; have d1:=ct h1 hs2 e1; have d2:=ct h1 hs2 e2; have d3:=ct h1 hs2 e3; have d4:=ct h1 hs2 e4; have d5:=ct h1 hs2 e5; have d6:=ct h1 hs2 e6; have d7:=ct h1 hs2 e7; go_simp; rfl),?_⟩)
  simp only[Act.put,nrA,nrB,nrC,Nat.reduceAdd]
  refine⟨fun f w1 A1 k1 hA hN hd K hK=>by
   go_simp
   refine(H1.out w1).mono ?_
   rintro e w' ⟨v,rfl,hn⟩
   exact hK _ _ hn.1 (hn.2 (Un (Mo A (w.heap.size+1)) A1) (rcv_un (HV.out.2.2.1.below (br.drew.trans k1)) hA)),?_⟩
  repeat (refine⟨_,fun f w1 h1=>by(have d0:=ct h1 hs2 e0; have d1:=ct h1 hs2 e1; have d2:=ct h1 hs2 e2; have d3:=ct h1 hs2 e3; have d4:=ct h1 hs2 e4; have d5:=ct h1 hs2 e5; have d6:=ct h1 hs2 e6; have d7:=ct h1 hs2 e7; go_simp; rfl),?_⟩)
  simp only[Act.put,nrA,nrB,nrC,Nat.reduceAdd]
  refine⟨fun f w1 A1 k1 hA hN hd K hK=>by
   go_simp
   refine(H2.out w1).mono ?_
   rintro e w' ⟨v,rfl,hn⟩
   exact hK _ _ hn.1 (hn.2 (Un (Mo A (w.heap.size+1)) A1) (rcv_un (HV.out.2.2.1.below (br.drew.trans k1)) hA)),?_⟩
  intro f w1 k1 hF
  have i1:RatP q1 (f 2) w1 (Mo A (w.heap.size+1)):=FactU.done (RatP.keeps _) hF.1.2
  have i2:RatP q2 (f 5) w1 (Mo A (w.heap.size+1)):=FactU.done (RatP.keeps _) hF.2
  clear hF
  simp only[Act.put,nrA,nrB,nrC]
  generalize f 2=v1 at *
  generalize f 5=v2 at *
  have hb1:Below W.heap.size W w1:=br.drew.trans k1
  obtain⟨c0,c1,f0,f1⟩:=HV.out.2.2.2 w1 hb1
  have hbw:=HV.out.2.1.trans (hb1.mono HV.out.2.1.size)
  have HE:=Lib.hid (And.intro i1 (And.intro i2 hbw))
  obtain⟨m1,rfl⟩:=i1.shape
  obtain⟨m2,rfl⟩:=i2.shape
  clear e0 e1 e2 e3 e4 e5 e6 e7 i1 i2 hbw hb1 k1
  go_wp2_with fail
  refine bodyPost_ret (v:=.agg #[.pointer (some ⟨m1,0,none⟩),.pointer (some ⟨m2,0,none⟩)]) (by simp[results,Tryz.results105,go_sem,c0,c1]) rfl ?_
  exact put_c HE.out.2.2 HE.out.1 HE.out.2.1 (by omega)
end Go.Proofs.YtplakbflfckldaaGreat
namespace Go.Proofs.YtplakbflfckldaaGreat
open Go.RowKit Tr
theorem xback_any(z:Int)(vx:Value)(A:Nat→Prop)(w:World)(hx:IntP z vx w A)(hn:(words z.natAbs).length<274877906944) :
  Calls Tryz.prog 230 #[vx] w fun e w'=>e=.returned (encZ z)∧Below w.heap.size w w':=by
 have hal:Below w.heap.size w (w.alloc (.cells #[.bool false,.string ⟨#[]⟩] 32)):=br.alloc (Nat.le_refl _) _
 obtain⟨sg,hsg⟩:∃ sg,sg=z.sign:=⟨_,rfl⟩
 have HS:=Lib.hid (Sign_any z vx A _ (hx.below hal))
 have HB:=Lib.hid (Bytes_any z vx A _ (hx.below hal) hn)
 rw[←hsg] at HS
 have HG:Hid (decide (sg<0)=decide (z<0)):=Lib.hid (by rw[hsg,sign_lt])
 clear hsg hx hal
 go_enter Tryz.func230,Tryz.ntmps230
 go_wp2_with fail
 refine HS.out.mono ?_
 rintro e w0 ⟨rfl,rfl⟩
 go_wp2_with fail
 refine HB.out.mono ?_
 rintro e w1 ⟨v,rfl,hv,hb⟩
 obtain⟨e0,e1,f0,f1⟩:=new_two w _ _ _ hb
 have hr:=run_conv_str w1 v _ hv
 have hbw:Below w.heap.size w w1:=(br.alloc (Nat.le_refl _) _).trans (hb.mono (by simp))
 obtain⟨st,hst⟩:∃ st,st=strN z.natAbs:=⟨_,rfl⟩
 rw[←hst] at hr
 have HST:=Lib.hid hst
 clear hb hv hst HS HB
 go_wp2_with fail
 refine bodyPost_ret (v:=.agg #[.bool (decide (sg<0)),.string st]) (by simp[results,Tryz.results230,go_sem,e0,e1]) rfl ⟨?_,?_⟩
 ·rw[HG.out,HST.out]; rfl
 ·exact((hbw.setCell (p:=⟨w.heap.size,0,none⟩) (Nat.le_refl _) _).setCell (p:=⟨w.heap.size,1,none⟩) (Nat.le_refl _) _)
set_option maxRecDepth 100000 in
theorem XInt_any(i j:Int)(hi0:-9223372036854775808≤i)(hi1:i<9223372036854775808)(hj0:-9223372036854775808≤j)(hj1:j<9223372036854775808)(A:Nat→Prop)(w:World)(hA:Rcv A w) :
  Calls Tryz.prog 165 #[.int .i64 i,.int .i64 j] w fun e w'=>∃ u,e=.returned u∧Below w.heap.size w w'∧CP i j u w' A:=by
 obtain⟨W,hW⟩:∃ W,W=w.alloc (.cells #[.pointer none,.pointer none] 175):=⟨_,rfl⟩
 have hWs:W.heap.size=w.heap.size+1:=by rw[hW]; simp
 have hBW:Below w.heap.size w W:=by rw[hW]; exact br.alloc (Nat.le_refl _) _
 have hAW:Rcv (Mo A w.heap.size) W:=fun b h=>h.elim (fun h=>(hA.below hBW) b h) (fun h=>by subst h; rw[hW]; exact⟨_,heap_alloc_new w _,noW_num _ _ ⟨_,rfl⟩ ⟨_,rfl⟩ _⟩)
 have HS:=Lib.hid (RSetInt64_any W.heap.size _ i hi0 hi1 (W.alloc zR) (heap_alloc_new W _) (by decide) noW_zRat)
 have HA:=Lib.hid (And.intro hW (And.intro hBW (And.intro hAW hWs)))
 rw[hWs] at HS
 clear hBW hAW hA hWs
 go_enter Tryz.func165,Tryz.ntmps165
 go_wp2_with fail
 rw[←hW]
 clear hW
 refine HS.out.mono ?_
 rintro e w1 ⟨rfl,hp1⟩
 have hn1:=hp1.newAt ((Below.refl W.heap.size W).alloc (Nat.le_refl _) zR) (by have:=HA.out.2.2.2; omega)
 have hr1:=hn1.2 _ HA.out.2.2.1
 have hal:=(Below.refl w1.heap.size w1).alloc (Nat.le_refl _) zR
 have HS2:=Lib.hid (RSetInt64_any w1.heap.size _ j hj0 hj1 (w1.alloc zR) (heap_alloc_new w1 _) (by decide) noW_zRat)
 have HN1:=Lib.hid (And.intro hn1.1 (And.intro hr1 hal))
 clear hp1 hn1 hr1 hal HS
 go_wp2_with fail
 refine HS2.out.mono ?_
 rintro e w2 ⟨rfl,hp2⟩
 have hn2:=hp2.newAt HN1.out.2.2 (Nat.le_refl _)
 have hr1:=HN1.out.2.1.below hn2.1
 have hr2:=hn2.2 _ (HA.out.2.2.1.below HN1.out.1)
 have hb2:=HN1.out.1.trans (hn2.1.mono HN1.out.1.size)
 obtain⟨c0,c1,f0,f1⟩:=new_two w (.pointer none) (.pointer none) 175 (by rw[←HA.out.1]; exact hb2)
 have HE:=Lib.hid (And.intro hr1 (And.intro hr2 (HA.out.2.1.trans (hb2.mono HA.out.2.1.size))))
 clear hr1 hr2 hb2 hn2 hp2 HS2 HN1
 go_wp2_with fail
 refine bodyPost_ret (v:=.agg #[.pointer (some ⟨w.heap.size+1,0,none⟩),.pointer (some ⟨w1.heap.size,0,none⟩)]) (by simp[results,Tryz.results165,go_sem,c0,c1]) rfl ?_
 exact put_c HE.out.2.2 HE.out.1 HE.out.2.1 (Nat.le_refl _)
theorem cell_alloc_lt{X:World}{o:Obj}{n i:Nat}(h:n<X.heap.size):(X.alloc o).cell? ⟨n,i,none⟩=X.cell? ⟨n,i,none⟩ :=
 ((Below.refl X.heap.size X).alloc (Nat.le_refl _) o).cell (p:=⟨n,i,none⟩) h
theorem setCell_size(X:World)(a:Addr)(v:Value):(X.setCell a v).heap.size=X.heap.size:=by simp[World.setCell]
set_option maxRecDepth 100000 in
theorem XFrac_any(q:Rat)(u:Value)(A:Nat→Prop)(w:World)(hx:RatP q u w A)(hl:RL q 137438953472) :
  Calls Tryz.prog 206 #[u] w fun e w'=>e=.returned (.tuple #[outF q,.int .i64 (outC q)])∧Below w.heap.size w w':=by
 have hal:Below w.heap.size w (w.alloc (.cells #[.bool false,.string ⟨#[]⟩,.bool false,.string ⟨#[]⟩] 34)):=br.alloc (Nat.le_refl _) _
 have hln:(words q.num.natAbs).length<274877906944:=by have:=hl.1; omega
 have hld:(words (q.den:Int).natAbs).length<274877906944:=by have:=hl.2; simp; omega
 have HL:=Lib.hid (And.intro hln hld)
 have HX:=Lib.hid (hx.below hal)
 have HN:=Lib.hid (Num_any q u A _ HX.out hl)
 have HAL:=Lib.hid hal
 clear hx hal hln hld
 go_enter Tryz.func206,Tryz.ntmps206
 go_wp2_with fail
 refine HN.out.mono ?_
 rintro e w1 ⟨v1,rfl,hn1⟩
 have HK:=Lib.hid (xback_any q.num v1 NoA w1 (hn1.2 NoA (rcv_noA _)) HL.out.1)
 go_wp2_with fail
 refine HK.out.mono ?_
 rintro e w2 ⟨rfl,hb2⟩
 have HD:=Lib.hid (Denom_any q u A w2 ((HX.out.below hn1.1).below hb2) hl)
 go_wp2_with fail
 refine HD.out.mono ?_
 rintro e w3 ⟨v3,rfl,hn3⟩
 have HK2:=Lib.hid (xback_any q.den v3 NoA w3 (hn3.2 NoA (rcv_noA _)) HL.out.2)
 go_wp2_with fail
 refine HK2.out.mono ?_
 rintro e w4 ⟨rfl,hb4⟩
 have hb14:=hn1.1.trans ((hb2.trans ((hn3.1.trans (hb4.mono hn3.1.size)).mono hb2.size)).mono hn1.1.size)
 obtain⟨c0,c1,c2,c3,f0,f1,f2,f3⟩:=new_four w _ _ _ _ _ hb14
 have hlt:w.heap.size<w4.heap.size:=by have:=hb14.size; simp at this; omega
 obtain⟨b1,hb1⟩:∃ b1,b1=decide (q.num<0):=⟨_,rfl⟩
 obtain⟨t1,ht1⟩:∃ t1,t1=strN q.num.natAbs:=⟨_,rfl⟩
 obtain⟨t2,ht2⟩:∃ t2,t2=strN q.den:=⟨_,rfl⟩
 have ez1:encZ q.num=.agg #[.bool b1,.string t1]:=by rw[hb1,ht1]; rfl
 have ez2:encZ (q.den:Int)=.agg #[.bool false,.string t2]:=by rw[ht2]; unfold encZ; simp
 have HG:=Lib.hid (show encF q=.agg #[.bool b1,.string t1,.bool false,.string t2] by unfold encF; rw[hb1,ht1,ht2])
 have HT:=Lib.hid (And.intro ht1 (And.intro ht2 (HAL.out.trans (hb14.mono (by simp)))))
 rw[ez1,ez2]
 have HZ:=Lib.hid (fun(h:¬ShortF q)=>show zF=outF q∧(4:Int)=outC q by unfold outF outC; rw[if_neg h,if_neg h]; exact⟨rfl,rfl⟩)
 have HY:=Lib.hid (fun(h:ShortF q)=>show encF q=outF q∧(0:Int)=outC q by unfold outF outC; rw[if_pos h,if_pos h]; exact⟨rfl,rfl⟩)
 clear hn1 hb2 hn3 hb4 hb14 hb1 ht1 ht2 ez1 ez2 HK HK2 HD HN HAL HX
 by_cases g1:(1024:Int)<(t1.size:Int)
 ·have HNO:=Lib.hid (show ¬ShortF q from fun h=>by have h1:=h.1; rw[←HT.out.1] at h1; omega)
  go_wp2_with fail
  refine bodyPost_ret (v:=.tuple #[zF,.int .i64 4]) (by unfold zF; simp[results,Tryz.results206,go_sem,c0,c1,c2,c3,hlt,cell_alloc_lt]) rfl ⟨by rw[(HZ.out HNO.out).1,(HZ.out HNO.out).2],?_⟩
  exact Below.alloc ((((HT.out.2.2.setCell (p:=⟨w.heap.size,0,none⟩) (Nat.le_refl _) _).setCell (p:=⟨w.heap.size,1,none⟩) (Nat.le_refl _) _).setCell (p:=⟨w.heap.size,2,none⟩) (Nat.le_refl _) _).setCell (p:=⟨w.heap.size,3,none⟩) (Nat.le_refl _) _) (by simp only[setCell_size]; omega) _
 ·by_cases g2:(1024:Int)<(t2.size:Int)
  ·have HNO:=Lib.hid (show ¬ShortF q from fun h=>by have h2:=h.2; rw[←HT.out.2.1] at h2; omega)
   go_wp2_with fail
   refine bodyPost_ret (v:=.tuple #[zF,.int .i64 4]) (by unfold zF; simp[results,Tryz.results206,go_sem,c0,c1,c2,c3,hlt,cell_alloc_lt]) rfl ⟨by rw[(HZ.out HNO.out).1,(HZ.out HNO.out).2],?_⟩
   exact Below.alloc ((((HT.out.2.2.setCell (p:=⟨w.heap.size,0,none⟩) (Nat.le_refl _) _).setCell (p:=⟨w.heap.size,1,none⟩) (Nat.le_refl _) _).setCell (p:=⟨w.heap.size,2,none⟩) (Nat.le_refl _) _).setCell (p:=⟨w.heap.size,3,none⟩) (Nat.le_refl _) _) (by simp only[setCell_size]; omega) _
  ·have HYES:=Lib.hid (show ShortF q from⟨by rw[←HT.out.1]; omega,by rw[←HT.out.2.1]; omega⟩)
   go_wp2_with fail
   refine bodyPost_ret (v:=.tuple #[.agg #[.bool b1,.string t1,.bool false,.string t2],.int .i64 0]) (by simp[results,Tryz.results206,go_sem,c0,c1,c2,c3,hlt,cell_alloc_lt]) rfl ⟨by rw[←HG.out,(HY.out HYES.out).1,(HY.out HYES.out).2],?_⟩
   exact Below.alloc ((((HT.out.2.2.setCell (p:=⟨w.heap.size,0,none⟩) (Nat.le_refl _) _).setCell (p:=⟨w.heap.size,1,none⟩) (Nat.le_refl _) _).setCell (p:=⟨w.heap.size,2,none⟩) (Nat.le_refl _) _).setCell (p:=⟨w.heap.size,3,none⟩) (Nat.le_refl _) _) (by simp only[setCell_size]; omega) _
end Go.Proofs.YtplakbflfckldaaGreat
namespace Go.Proofs.YtplakbflfckldaaGreat
open Go.RowKit Tr
set_option maxRecDepth 100000 in
theorem XDiv_any(a b c d n:Rat)(hn:n=c*c+d*d)(hn0:n≠0)(v v':Value)(A:Nat→Prop)(w:World)(hv:CP a b v w A)(hv':CP c d v' w A)(hA:Rcv A w)(k l:Nat)(hla:RL a k)(hlb:RL b k)(hlc:RL c l)(hld:RL d l)(hkl:(k+l+(k+l)+1)+(l+l+(l+l)+1)<137438953472) :
  Calls Tryz.prog 168 #[v,v'] w fun e w'=>∃ u,e=.returned u∧Below w.heap.size w w'∧CP ((a*c - b*(-d))*n⁻¹) ((a*(-d)+b*c)*n⁻¹) u w' A:=by
 have hv0:=new_more (CP.keeps a b) (n:=w.heap.size+2) br (by omega) hv
 have hv0':=new_more (CP.keeps c d) (n:=w.heap.size+2) br (by omega) hv'
 obtain⟨u1,u2,rfl,h1,h2⟩:=hv
 obtain⟨u3,u4,rfl,h3,h4⟩:=hv'
 clear h1 h2 h3 h4
 obtain⟨W,HV,hs1,hs2,e0,e1,e2,e3⟩:=xbox_two w u1 u2 u3 u4 A hA
 have hx:=Fact.Keeps.below (FactU.keeps (CP.keeps a b)) HV.out.2.1 hv0
 have hy:=Fact.Keeps.below (FactU.keeps (CP.keeps c d)) HV.out.2.1 hv0'
 have HN:=Lib.hid (And.intro hn hn0)
 clear hA hv0 hv0' hn hn0
 have lm1:RL (a*c - b*(-d)) (k+l+(k+l)+1):=RL_sub (RL_mul hla hlc) (RL_mul hlb (RL_neg hld))
 have lm2:RL (a*(-d)+b*c) (k+l+(k+l)+1):=RL_add (RL_mul hla (RL_neg hld)) (RL_mul hlb hlc)
 have ln:RL n (l+l+(l+l)+1):=by rw[HN.out.1]; exact RL_add (RL_mul hlc hlc) (RL_mul hld hld)
 have li:RL n⁻¹ (l+l+(l+l)+1):=RL_inv HN.out.2 ln
 go_enter Tryz.func168,Tryz.ntmps168
 go_wp2_with fail
 rw[←HV.out.1]
 refine wp_region_inv [(.lit,[]),(.lit,[]),(.val,[]),(.val,[2]),(.new zR,[]),(.lit,[]),(.val,[]),(.on 4 zR,[6]),(.val,[3,7])]
  (pickF [(2,FactU (Mo A (w.heap.size+2)) (CP c (-d))),(3,FactU (Mo A (w.heap.size+2)) (CP (a*c - b*(-d)) (a*(-d)+b*c))),(6,FactU (Mo A (w.heap.size+2)) (RatP n)),(7,FactU (Mo A (w.heap.size+2)) (RatP n⁻¹)),(8,FactU (Mo A (w.heap.size+2)) (CP ((a*c - b*(-d))*n⁻¹) ((a*(-d)+b*c)*n⁻¹)))]) (by kernel_rfl) ?_ ?_ (by simp[noW_zRat]) (by simp) (by kernel_rfl)
 ·exact keeps_pick (by simp only[List.mem_cons,List.not_mem_nil,or_false]; rintro p (rfl|rfl|rfl|rfl|rfl)<;>first|exact FactU.keeps (RatP.keeps _)|exact FactU.keeps (CP.keeps _ _))
 ·refine⟨_,fun f w1 h1=>by(have d0:=ct h1 hs1 e0; have d1:=ct h1 hs1 e1; have d2:=ct h1 hs2 e2; have d3:=ct h1 hs2 e3; go_simp; rfl),?_⟩
  refine⟨_,fun f w1 h1=>by(have d0:=ct h1 hs1 e0; have d1:=ct h1 hs1 e1; have d2:=ct h1 hs2 e2; have d3:=ct h1 hs2 e3; go_simp; rfl),?_⟩
  simp only[Act.put,nrA,nrB,nrC,Nat.reduceAdd]
  refine⟨fun f w1 A1 k1 hA hN hd K hK=>by
   go_simp
   refine(XConj_any c d _ (Un (Mo A (w.heap.size+2)) A1) w1 (later (FactU.keeps (CP.keeps _ _)) hy k1 hN) (rcv_un (HV.out.2.2.1.below (br.drew.trans k1)) hA) (hld.mono (by omega))).mono ?_
   rintro e w' ⟨v,rfl,hb,hr⟩
   exact hK _ _ hb hr,?_⟩
  simp only[Act.put,nrA,nrB,nrC,Nat.reduceAdd]
  refine⟨fun f w1 A1 k1 hA hN hd K hK=>by
   have i2:CP c (-d) (f 2) w1 (Un (Mo A (w.heap.size+2)) A1):=hd 2 (by simp)
   go_simp
   refine(XMul_any a b c (-d) _ _ (Un (Mo A (w.heap.size+2)) A1) w1 (later (FactU.keeps (CP.keeps _ _)) hx k1 hN) i2 (rcv_un (HV.out.2.2.1.below (br.drew.trans k1)) hA) k l hla hlb hlc (RL_neg hld) (by omega)).mono ?_
   rintro e w' ⟨v,rfl,hb,hr⟩
   exact hK _ _ hb hr,?_⟩
  refine⟨fun f w1=>by go_simp,?_⟩
  refine⟨_,fun f w1 h1=>by(have d0:=ct h1 hs1 e0; have d1:=ct h1 hs1 e1; have d2:=ct h1 hs2 e2; have d3:=ct h1 hs2 e3; go_simp; rfl),?_⟩
  simp only[Act.put,nrA,nrB,nrC,Nat.reduceAdd]
  refine⟨fun f w1 A1 k1 hA hN hd K hK=>by
   go_simp
   refine(XNorm_any c d _ (Un (Mo A (w.heap.size+2)) A1) w1 (later (FactU.keeps (CP.keeps _ _)) hy k1 hN) (rcv_un (HV.out.2.2.1.below (br.drew.trans k1)) hA) l hlc hld (by omega)).mono ?_
   rintro e w' ⟨v,rfl,hb,hr⟩
   rw[←HN.out.1] at hr
   exact hK _ _ hb hr,?_⟩
  simp only[Act.put,nrA,nrB,nrC,Nat.reduceAdd]
  refine⟨fun f w1 A1 m1 k1 hA hN hAm hm0 e hz hd K hK=>by
   simp only[e] at hK ⊢
   have i6:RatP n (f 6) w1 (Un (Mo A (w.heap.size+2)) A1):=hd 6 (by simp)
   go_simp
   refine(RInv_any m1 _ n HN.out.2 _ _ w1 hz (by decide) noW_zRat i6 _ ln (by omega)).mono ?_
   rintro e w' ⟨rfl,hp⟩
   exact hK _ w' hp.1 (hp.ratU (HV.out.2.2.1.below (br.drew.trans k1)) hA hm0 (fun b hb=>HV.out.2.2.1.lt hb)),?_⟩
  simp only[Act.put,nrA,nrB,nrC,Nat.reduceAdd]
  refine⟨fun f w1 A1 k1 hA hN hd K hK=>by
   have i3:CP (a*c - b*(-d)) (a*(-d)+b*c) (f 3) w1 (Un (Mo A (w.heap.size+2)) A1):=hd 3 (by simp)
   have i7:RatP n⁻¹ (f 7) w1 (Un (Mo A (w.heap.size+2)) A1):=hd 7 (by simp)
   go_simp
   refine(XScale_any _ _ _ _ _ (Un (Mo A (w.heap.size+2)) A1) w1 i3 i7 (rcv_un (HV.out.2.2.1.below (br.drew.trans k1)) hA) _ _ lm1 lm2 li hkl).mono ?_
   rintro e w' ⟨v,rfl,hb,hr⟩
   exact hK _ _ hb hr,?_⟩
  intro f w1 k1 hF
  have i8:CP ((a*c - b*(-d))*n⁻¹) ((a*(-d)+b*c)*n⁻¹) (f 8) w1 (Mo A (w.heap.size+2)):=FactU.done (CP.keeps _ _) hF.2
  clear hF
  simp only[Act.put,nrA,nrB,nrC]
  generalize f 2=x2
  generalize f 3=x3
  generalize f 6=x6
  generalize f 7=x7
  generalize f 8=x8 at *
  obtain⟨y1,y2,rfl,j1,j2⟩:=i8
  have hb1:Below W.heap.size W w1:=br.drew.trans k1
  obtain⟨c0,c1,f0,f1⟩:=HV.out.2.2.2 w1 hb1
  have HE:=Lib.hid (And.intro j1 (And.intro j2 (HV.out.2.1.trans (hb1.mono HV.out.2.1.size))))
  obtain⟨m1,rfl⟩:=j1.shape
  obtain⟨m2,rfl⟩:=j2.shape
  clear e0 e1 e2 e3 j1 j2 hb1 k1 hx hy lm1 lm2 ln li
  go_wp2_with fail
  refine bodyPost_ret (v:=.agg #[.pointer (some ⟨m1,0,none⟩),.pointer (some ⟨m2,0,none⟩)]) (by simp[results,Tryz.results168,go_sem,c0,c1]) rfl ?_
  exact put_c HE.out.2.2 HE.out.1 HE.out.2.1 (by omega)
end Go.Proofs.YtplakbflfckldaaGreat
