/- Laws for the walk. -/
import Derived.Test.YtjlhiaafnpompaaGreatZay
set_option linter.unusedVariables false
set_option maxHeartbeats 4000000
namespace Go.Proofs.YtjlhiaafnpompaaGreat
open Go.RowKit Tr
theorem obox(w:World)(a0 a1 a2 a3 a4 a5 a6 a7:Value) :
  ∃ W,Hid (W=(w.alloc (.cells #[a0,a1,a2,a3,a4,a5,a6,a7] 27)).alloc (.cells #[.pointer none,.pointer none] 61)∧Below w.heap.size w W∧W.heap.size=w.heap.size+2∧∀ w1,Below W.heap.size W w1→(w1.cell? ⟨w.heap.size,0,none⟩=some (a0)∧w1.cell? ⟨w.heap.size,1,none⟩=some (a1)∧w1.cell? ⟨w.heap.size,2,none⟩=some (a2)∧w1.cell? ⟨w.heap.size,3,none⟩=some (a3)∧w1.cell? ⟨w.heap.size,4,none⟩=some (a4)∧w1.cell? ⟨w.heap.size,5,none⟩=some (a5)∧w1.cell? ⟨w.heap.size,6,none⟩=some (a6)∧w1.cell? ⟨w.heap.size,7,none⟩=some (a7)) ∧
   (w1.cell? ⟨w.heap.size+1,0,none⟩=some (.pointer none)∧w1.cell? ⟨w.heap.size+1,1,none⟩=some (.pointer none)∧w1.frozen? ⟨w.heap.size+1,0,none⟩=false∧w1.frozen? ⟨w.heap.size+1,1,none⟩=false)):=by
 obtain⟨w1,hw1⟩:∃ w1,w1=w.alloc (.cells #[a0,a1,a2,a3,a4,a5,a6,a7] 27):=⟨_,rfl⟩
 have hz1:w1.heap.size=w.heap.size+1:=by rw[hw1]; simp
 have hb1:Below w.heap.size w w1:=by rw[hw1]; exact br.alloc (Nat.le_refl _) _
 obtain⟨w2,hw2⟩:∃ w2,w2=w1.alloc (.cells #[.pointer none,.pointer none] 61):=⟨_,rfl⟩
 have hz2:w2.heap.size=w.heap.size+2:=by rw[hw2]; simp[hz1]
 have hb2:Below w1.heap.size w1 w2:=by rw[hw2]; exact br.alloc (Nat.le_refl _) _
 have t2:Below w2.heap.size w2 w2:=Below.refl _ _
 have t1:Below w1.heap.size w1 w2:=hb2.trans (t2.mono hb2.size)
 refine⟨w2,Lib.hid ⟨by rw[hw2,hw1],hb1.trans (t1.mono hb1.size),hz2,fun w' h=>?_⟩⟩
 have e0:=(t1.trans (h.mono t1.size)).block w.heap.size (by rw[hw1]; simp)
 rw[hw1,heap_alloc_new] at e0
 have e1:=(t2.trans (h.mono t2.size)).block w1.heap.size (by rw[hw2]; simp)
 rw[hw2,heap_alloc_new] at e1
 rw[hz1] at e1
 refine⟨?_,?_⟩<;>simp[World.cell?,World.frozen?,e0,e1]
def OfF(v0:Value):Fact:=fun u w A=>∃ z,NQ z u w A∧(GaussOk v0→v0=encG z.re z.im)
theorem OfF.keeps(v0:Value):(OfF v0).Keeps:=fun u w w' A A' hs hk ⟨z,h,e⟩=>⟨z,NQ.keeps z u w w' A A' hs hk h,e⟩
theorem rcv_num{w:World}{A:Nat→Prop}{n:Nat}{W:World}(hA:Rcv A w)(hb:Below w.heap.size w W)(hn:W.heap[n]?=some (.cells #[.pointer none,.pointer none] 61 (0,0))):Rcv (Mo A n) W :=
 fun b h=>h.elim (fun h=>(hA.below hb) b h) (fun h=>by subst h; exact⟨_,hn,noW_num _ _ ⟨_,rfl⟩ ⟨_,rfl⟩ _⟩)
set_option maxRecDepth 100000 in
theorem EOf_any(n1 n2 n3 n4:Bool)(s1 s2 s3 s4:ByteArray)(l1:s1.size<274877906944)(l2:s2.size<274877906944)(l3:s3.size<274877906944)(l4:s4.size<274877906944)(A:Nat→Prop)(w:World)(hA:Rcv A w)(r:Bool)(hr:r=true↔GaussOk (.agg #[.bool n1,.string s1,.bool n2,.string s2,.bool n3,.string s3,.bool n4,.string s4])) :
  Calls Tryz.prog 58 #[.agg #[.bool n1,.string s1,.bool n2,.string s2,.bool n3,.string s3,.bool n4,.string s4]] w fun e w'=>∃ u,e=.returned (.tuple #[u,.bool r])∧Below w.heap.size w w'∧OfF (.agg #[.bool n1,.string s1,.bool n2,.string s2,.bool n3,.string s3,.bool n4,.string s4]) u w' A:=by
 obtain⟨W,HV⟩:=obox w (.bool n1) (.string s1) (.bool n2) (.string s2) (.bool n3) (.string s3) (.bool n4) (.string s4)
 have H1:=Lib.hid (fun w=>ERat_any n1 n2 s1 s2 l1 l2 w)
 have H2:=Lib.hid (fun w=>ERat_any n3 n4 s3 s4 l3 l4 w)
 have hs0:w.heap.size<W.heap.size:=by have:=HV.out.2.2.1; omega
 obtain⟨⟨e0,e1,e2,e3,e4,e5,e6,e7⟩,_⟩:=HV.out.2.2.2 W br
 have hR:Rcv (Mo A (w.heap.size+1)) W:=rcv_num hA HV.out.2.1 (by
  rw[HV.out.1]
  have:=heap_alloc_new (w.alloc (.cells #[.bool n1,.string s1,.bool n2,.string s2,.bool n3,.string s3,.bool n4,.string s4] 27)) (.cells #[.pointer none,.pointer none] 61 (0,0))
  simpa using this)
 have HR:=Lib.hid (And.intro hR hr)
 clear hA hr hR
 go_enter Tryz.func58,Tryz.ntmps58
 go_wp2_with fail
 rw[←HV.out.1]
 refine wp_region_inv [(.lit,[]),(.lit,[]),(.val,[]),(.lit,[]),(.lit,[]),(.val,[])]
  (pickF [(2,FactU (Mo A (w.heap.size+1)) (MayF (.agg #[.bool n1,.string s1,.bool n2,.string s2]))),(5,FactU (Mo A (w.heap.size+1)) (MayF (.agg #[.bool n3,.string s3,.bool n4,.string s4])))]) (by kernel_rfl) ?_ ?_ (by simp) (by simp) (by kernel_rfl)
 ·exact keeps_pick (by simp only[List.mem_cons,List.not_mem_nil,or_false]; rintro p (rfl|rfl)<;>exact FactU.keeps (MayF.keeps _))
 ·repeat (refine⟨_,fun f w1 h1=>by(have d0:=ct h1 hs0 e0; have d1:=ct h1 hs0 e1; have d2:=ct h1 hs0 e2; have d3:=ct h1 hs0 e3; have d4:=ct h1 hs0 e4; have d5:=ct h1 hs0 e5; have d6:=ct h1 hs0 e6; have d7:=ct h1 hs0 e7; go_simp; rfl),?_⟩)
  simp only[Act.put,nrA,nrB,nrC,Nat.reduceAdd]
  refine⟨fun f w1 A1 k1 hA hN hd K hK=>by
   go_simp
   refine(H1.out w1).mono ?_
   rintro e w' ⟨u,rfl,hm,hb⟩
   exact hK _ _ hb (hm.mayF hb (rcv_un (HR.out.1.below (br.drew.trans k1)) hA)),?_⟩
  repeat (refine⟨_,fun f w1 h1=>by(have d0:=ct h1 hs0 e0; have d1:=ct h1 hs0 e1; have d2:=ct h1 hs0 e2; have d3:=ct h1 hs0 e3; have d4:=ct h1 hs0 e4; have d5:=ct h1 hs0 e5; have d6:=ct h1 hs0 e6; have d7:=ct h1 hs0 e7; go_simp; rfl),?_⟩)
  simp only[Act.put,nrA,nrB,nrC,Nat.reduceAdd]
  refine⟨fun f w1 A1 k1 hA hN hd K hK=>by
   go_simp
   refine(H2.out w1).mono ?_
   rintro e w' ⟨u,rfl,hm,hb⟩
   exact hK _ _ hb (hm.mayF hb (rcv_un (HR.out.1.below (br.drew.trans k1)) hA)),?_⟩
  intro f w1 k1 hF
  have i2:MayF (.agg #[.bool n1,.string s1,.bool n2,.string s2]) (f 2) w1 (Mo A (w.heap.size+1)):=FactU.done (MayF.keeps _) hF.1.2
  have i5:MayF (.agg #[.bool n3,.string s3,.bool n4,.string s4]) (f 5) w1 (Mo A (w.heap.size+1)):=FactU.done (MayF.keeps _) hF.2
  clear hF
  simp only[Act.put,nrA,nrB,nrC]
  generalize f 2=x2 at *
  generalize f 5=x5 at *
  have hb1:Below W.heap.size W w1:=br.drew.trans k1
  obtain⟨_,c0,c1,f0,f1⟩:=HV.out.2.2.2 w1 hb1
  have HB:=Lib.hid (HV.out.2.1.trans (hb1.mono HV.out.2.1.size))
  clear e0 e1 e2 e3 e4 e5 e6 e7 k1 hb1 H1 H2
  rcases i2 with⟨hn1,rfl⟩|⟨q1,eq1,ok1,r1⟩
  ·have hrf:r=false:=by
    cases h:r
    ·rfl
    ·exact absurd (gaussOk_iff.1 (HR.out.2.1 h)).1 hn1
   subst hrf
   have HG:=Lib.hid (show ¬GaussOk (.agg #[.bool n1,.string s1,.bool n2,.string s2,.bool n3,.string s3,.bool n4,.string s4]) from fun h=>hn1 (gaussOk_iff.1 h).1)
   have j5:∃ b,RatO b x5 w1 (Mo A (w.heap.size+1)):=by
    rcases i5 with⟨_,rfl⟩|⟨q2,_,_,r2⟩
    ·exact⟨0,.inl ⟨rfl,rfl⟩⟩
    ·exact⟨q2,.inr r2⟩
   obtain⟨b,j5⟩:=j5
   obtain⟨p5,rfl⟩:=j5.shape
   have HJ:=Lib.hid j5
   clear i5 j5 hn1
   go_wp2_with fail
   refine bodyPost_ret (v:=.tuple #[.agg #[.pointer none,.pointer p5],.bool false]) (by simp[results,Tryz.results58,go_sem,c0,c1]) rfl ?_
   obtain⟨u,hu,hb,hz⟩:=put_numO HB.out (.inl ⟨rfl,rfl⟩:RatO 0 (.pointer none) w1 (Mo A (w.heap.size+1))) HJ.out (by omega)
   cases hu
   exact⟨_,rfl,hb,⟨⟨0,b⟩,hz,fun h=>absurd h HG.out⟩⟩
  ·obtain⟨m1,rfl⟩:=r1.shape
   rcases i5 with⟨hn2,rfl⟩|⟨q2,eq2,ok2,r2⟩
   ·have hrf:r=false:=by
     cases h:r
     ·rfl
     ·exact absurd (gaussOk_iff.1 (HR.out.2.1 h)).2 hn2
    subst hrf
    have HG:=Lib.hid (show ¬GaussOk (.agg #[.bool n1,.string s1,.bool n2,.string s2,.bool n3,.string s3,.bool n4,.string s4]) from fun h=>hn2 (gaussOk_iff.1 h).2)
    have HJ:=Lib.hid r1
    clear r1 hn2 eq1 ok1
    go_wp2_with fail
    refine bodyPost_ret (v:=.tuple #[.agg #[.pointer (some ⟨m1,0,none⟩),.pointer none],.bool false]) (by simp[results,Tryz.results58,go_sem,c0,c1]) rfl ?_
    obtain⟨u,hu,hb,hz⟩:=put_numO HB.out (.inr HJ.out) (.inl ⟨rfl,rfl⟩:RatO 0 (.pointer none) w1 (Mo A (w.heap.size+1))) (by omega)
    cases hu
    exact⟨_,rfl,hb,⟨⟨q1,0⟩,hz,fun h=>absurd h HG.out⟩⟩
   ·obtain⟨m2,rfl⟩:=r2.shape
    have hrt:r=true:=HR.out.2.2 (gaussOk_iff.2 ⟨ok1,ok2⟩)
    subst hrt
    have HJ:=Lib.hid (And.intro r1 r2)
    have HG:=Lib.hid (show .agg #[.bool n1,.string s1,.bool n2,.string s2,.bool n3,.string s3,.bool n4,.string s4]=encG q1 q2 by
     obtain⟨rfl,rfl,rfl,rfl⟩:=encF_parts eq1
     obtain⟨rfl,rfl,rfl,rfl⟩:=encF_parts eq2
     rfl)
    clear r1 r2 eq1 eq2 ok1 ok2
    go_wp2_with fail
    refine bodyPost_ret (v:=.tuple #[.agg #[.pointer (some ⟨m1,0,none⟩),.pointer (some ⟨m2,0,none⟩)],.bool true]) (by simp[results,Tryz.results58,go_sem,c0,c1]) rfl ?_
    obtain⟨u,hu,hb,hz⟩:=put_numO HB.out (.inr HJ.out.1) (.inr HJ.out.2) (by omega)
    cases hu
    exact⟨_,rfl,hb,⟨⟨q1,q2⟩,hz,fun _=>HG.out⟩⟩
end Go.Proofs.YtjlhiaafnpompaaGreat
namespace Go.Proofs.YtjlhiaafnpompaaGreat
open Go.RowKit Tr
def cmpR(x y:Rat):Int:=if x<y then -1 else if x=y then 0 else 1
theorem cmpR_int(x y:Rat):cmpI (x.num*(y.den:Int)) (y.num*(x.den:Int))=cmpR x y:=by
 unfold cmpI cmpR
 have h1:x<y↔x.num*(y.den:Int)<y.num*(x.den:Int):=Rat.lt_iff x y
 have h2:y<x↔y.num*(x.den:Int)<x.num*(y.den:Int):=Rat.lt_iff y x
 by_cases hxy:x<y
 ·rw[if_pos (h1.1 hxy),if_pos hxy]
 ·rw[if_neg (fun h=>hxy (h1.2 h)),if_neg hxy]
  by_cases hyx:y<x
  ·rw[if_pos (h2.1 hyx),if_neg (fun e=>by subst e; exact hxy hyx)]
  ·rw[if_neg (fun h=>hyx (h2.2 h)),if_pos (Rat.le_antisymm (Rat.not_lt.1 hyx) (Rat.not_lt.1 hxy))]
set_option maxRecDepth 100000 in
theorem RCmp_any(x y:Rat)(vx vy:Value)(A:Nat→Prop)(w:World)(hx:RatP x vx w A)(hy:RatP y vy w A)(k l:Nat)(hlx:RL x k)(hly:RL y l)(hkl:k+l<137438953472) :
  Calls Tryz.prog 36 #[vx,vy] w fun e w'=>e=.returned (.int .i64 (cmpR x y))∧Below w.heap.size w w':=by
 have hx:=hx.noA
 have hy:=hy.noA
 obtain⟨b,rfl⟩:=hx.shape
 obtain⟨b2,rfl⟩:=hy.shape
 obtain⟨_,eb,hxn,_⟩:=id hx
 cases eb
 obtain⟨_,eb,hyn,_⟩:=id hy
 cases eb
 have l1:(words (x.num*(y.den:Int)).natAbs).length≤k+l:=by rw[Int.natAbs_mul]; exact wl_mul hlx.1 (by simpa using hly.2)
 have l2:(words (y.num*(x.den:Int)).natAbs).length≤k+l:=by rw[Int.natAbs_mul,Nat.add_comm]; exact wl_mul hly.1 (by simpa using hlx.2)
 obtain⟨cz,hcz⟩:∃ cz,cz=cmpR x y:=⟨_,rfl⟩
 rw[←hcz]
 have HZ:=Lib.hid hcz
 clear hcz
 go_enter Tryz.func36,Tryz.ntmps36
 go_wp2_with fail
 refine wp_region_inv [(.new zI,[]),(.lit,[]),(.lit,[]),(.lit,[]),(.lit,[]),(.val,[]),(.on 0 zI,[5]),(.new zI,[]),(.lit,[]),(.lit,[]),(.lit,[]),(.lit,[]),(.val,[]),(.on 7 zI,[12]),(.val,[6,13])]
  (pickF [(5,IntP y.den),(6,IntP (x.num*(y.den:Int))),(12,IntP x.den),(13,IntP (y.num*(x.den:Int))),(14,fun v _ _=>v=.int .i64 cz)]) (by kernel_rfl) ?_ ?_ (by simp[noW_zInt]) (by simp) (by kernel_rfl)
 ·exact keeps_pick (by simp[IntP.keeps,keeps_pure])
 ·refine⟨fun f w1=>by go_simp,?_⟩
  refine⟨_,fun f w1 h1=>by go_simp; rfl,?_⟩
  refine⟨_,fun f w1 h1=>by go_simp; rfl,?_⟩
  refine⟨_,fun f w1 h1=>by go_simp; rfl,?_⟩
  refine⟨_,fun f w1 h1=>by go_simp; rfl,?_⟩
  simp only[Act.put,nrA,nrB,nrC,Nat.reduceAdd]
  refine⟨fun f w1 A1 h1 hA hN hd K hK=>by
   go_simp
   refine(den_any y _ A1 w1 (later (RatP.keeps _) hy h1 hN) hA).mono ?_
   rintro e w' ⟨v,rfl,hb,hi⟩
   exact hK _ _ hb hi,?_⟩
  simp only[Act.put,nrA,nrB,nrC,Nat.reduceAdd]
  refine⟨fun f w1 A1 m1 h1 hA hN hAm hm0 e hz hd K hK=>by
   simp only[e] at hK ⊢
   have i1:IntP y.den (f 5) w1 A1:=hd 5 (by simp)
   go_simp
   refine(mul_any m1 0 _ _ x.num y.den _ _ A1 w1 hz (by decide) noW_zInt (later (IntP.keeps _) hxn h1 hN) i1 (by have:=hlx.1; omega) (by have:=hly.2; simp; omega)).mono ?_
   rintro e w' ⟨rfl,hp⟩
   exact hK _ w' hp.1 (hp.intP (by decide) hA),?_⟩
  refine⟨fun f w1=>by go_simp,?_⟩
  refine⟨_,fun f w1 h1=>by go_simp; rfl,?_⟩
  refine⟨_,fun f w1 h1=>by go_simp; rfl,?_⟩
  refine⟨_,fun f w1 h1=>by go_simp; rfl,?_⟩
  refine⟨_,fun f w1 h1=>by go_simp; rfl,?_⟩
  simp only[Act.put,nrA,nrB,nrC,Nat.reduceAdd]
  refine⟨fun f w1 A1 h1 hA hN hd K hK=>by
   go_simp
   refine(den_any x _ A1 w1 (later (RatP.keeps _) hx h1 hN) hA).mono ?_
   rintro e w' ⟨v,rfl,hb,hi⟩
   exact hK _ _ hb hi,?_⟩
  simp only[Act.put,nrA,nrB,nrC,Nat.reduceAdd]
  refine⟨fun f w1 A1 m1 h1 hA hN hAm hm0 e hz hd K hK=>by
   simp only[e] at hK ⊢
   have i1:IntP x.den (f 12) w1 A1:=hd 12 (by simp)
   go_simp
   refine(mul_any m1 0 _ _ y.num x.den _ _ A1 w1 hz (by decide) noW_zInt (later (IntP.keeps _) hyn h1 hN) i1 (by have:=hly.1; omega) (by have:=hlx.2; simp; omega)).mono ?_
   rintro e w' ⟨rfl,hp⟩
   exact hK _ w' hp.1 (hp.intP (by decide) hA),?_⟩
  simp only[Act.put,nrA,nrB,nrC,Nat.reduceAdd]
  refine⟨fun f w1 A1 h1 hA hN hd K hK=>by
   have i1:IntP (x.num*(y.den:Int)) (f 6) w1 A1:=hd 6 (by simp)
   have i2:IntP (y.num*(x.den:Int)) (f 13) w1 A1:=hd 13 (by simp)
   go_simp
   refine(Cmp_any _ _ _ _ A1 w1 i1 i2 (by omega) (by omega)).mono ?_
   rintro e w' ⟨rfl,hb⟩
   rw[cmpR_int,←HZ.out]
   exact hK _ _ hb rfl,?_⟩
  intro f w1 h1 hF
  have hv:f 14=.int .i64 cz:=hF.2
  clear hF
  simp only[Act.put,nrA,nrB,nrC]
  rw[hv]
  generalize f 5=v5
  generalize f 6=v6
  generalize f 12=v12
  generalize f 13=v13
  clear hv hx hy hxn hyn
  go_wp2
  go_ret
  exact⟨rfl,br.drew.trans h1⟩
end Go.Proofs.YtjlhiaafnpompaaGreat
set_option linter.unusedSimpArgs false
namespace Go.Proofs.YtjlhiaafnpompaaGreat
open Go.RowKit Tr
theorem qc_ext{x y:QC}(h1:x.re=y.re)(h2:x.im=y.im):x=y:=by cases x; cases y; simp at h1 h2; rw[h1,h2]
theorem qmr(x y:QC):(x*y).re=x.re*y.re - x.im*y.im:=rfl
theorem qmi(x y:QC):(x*y).im=x.re*y.im+x.im*y.re:=rfl
theorem qar(x y:QC):(x+y).re=x.re+y.re:=rfl
theorem qai(x y:QC):(x+y).im=x.im+y.im:=rfl
theorem qsr(x y:QC):(x - y).re=x.re - y.re:=rfl
theorem qsi(x y:QC):(x - y).im=x.im - y.im:=rfl
def pol(cs:List Int)(z:QC):QC:=cs.foldl (fun s c=>s*z+⟨c,0⟩) ⟨0,0⟩
def frm(cs:List Int)(a b n:Int):Int×Int×Int:=cs.foldl (fun s c=>(s.1*a - s.2.1*b+c*s.2.2,s.1*b+s.2.1*a,s.2.2*n)) (0,0,1)
def frm8(cs:List Int)(a b n:BitVec 3):BitVec 3×BitVec 3×BitVec 3:=cs.foldl (fun s c=>(s.1*a - s.2.1*b+BitVec.ofInt 3 c*s.2.2,s.1*b+s.2.1*a,s.2.2*n)) (0,0,1)
theorem frm_step8(cs:List Int)(a b n:Int):∀(s:Int×Int×Int),
  (cs.foldl (fun s c=>(s.1*BitVec.ofInt 3 a - s.2.1*BitVec.ofInt 3 b+BitVec.ofInt 3 c*s.2.2,s.1*BitVec.ofInt 3 b+s.2.1*BitVec.ofInt 3 a,s.2.2*BitVec.ofInt 3 n)) (BitVec.ofInt 3 s.1,BitVec.ofInt 3 s.2.1,BitVec.ofInt 3 s.2.2):BitVec 3×BitVec 3×BitVec 3) =
  (let r:=cs.foldl (fun s c=>(s.1*a - s.2.1*b+c*s.2.2,s.1*b+s.2.1*a,s.2.2*n)) s; (BitVec.ofInt 3 r.1,BitVec.ofInt 3 r.2.1,BitVec.ofInt 3 r.2.2)):=by
 induction cs with
 | nil=>intro s; rfl
 | cons c cs ih =>
  intro s
  simp only[List.foldl_cons]
  rw[←ih]
  congr 1
  simp only[BitVec.ofInt_add,BitVec.ofInt_mul,Int.sub_eq_add_neg,BitVec.ofInt_neg,BitVec.sub_eq_add_neg]
theorem frm_mod(cs:List Int)(a b n:Int):frm8 cs (BitVec.ofInt 3 a) (BitVec.ofInt 3 b) (BitVec.ofInt 3 n)=(BitVec.ofInt 3 (frm cs a b n).1,BitVec.ofInt 3 (frm cs a b n).2.1,BitVec.ofInt 3 (frm cs a b n).2.2):=frm_step8 cs a b n (0,0,1)
def NoRoot(cs:List Int):Prop:=∀ a b n:BitVec 3,(frm8 cs a b n).1=0→(frm8 cs a b n).2.1=0→a.toNat % 2=0∧b.toNat % 2=0∧n.toNat % 2=0
instance (cs:List Int):Decidable (NoRoot cs):=by unfold NoRoot; infer_instance
theorem nr1:NoRoot [1,-3,1]:=by decide +kernel
theorem nr2:NoRoot [1,-5,6,-1]:=by decide +kernel
theorem nr3:NoRoot [1,-4,2]:=by decide +kernel
theorem nr4:NoRoot [1,-6,9,-1]:=by decide +kernel
theorem nr5:NoRoot [1,-5,5]:=by decide +kernel
theorem nr6:NoRoot [1,-9,28,-35,15,-1]:=by decide +kernel
theorem nr7:NoRoot [1,-4,1]:=by decide +kernel
theorem even_of(a:Int)(h:(BitVec.ofInt 3 a).toNat % 2=0):a % 2=0:=by
 rw[BitVec.toNat_ofInt] at h
 simp at h
 omega
theorem frm_pol (cs : List Int) (z : QC) (a b n : Int) (ha : z.re * n = a) (hb : z.im * n = b) : ∀ (s : QC) (t : Int × Int × Int),(t.1 : Rat) * n = t.2.2 * s.re → (t.2.1 : Rat) * n = t.2.2 * s.im →
    (((cs.foldl (fun s c=>(s.1*a - s.2.1*b+c*s.2.2,s.1*b+s.2.1*a,s.2.2*n)) t).1:Rat)*n=(cs.foldl (fun s c=>(s.1*a - s.2.1*b+c*s.2.2,s.1*b+s.2.1*a,s.2.2*n)) t).2.2*(cs.foldl (fun s c=>s*z+⟨(c:Int),0⟩) s).re ∧
     ((cs.foldl (fun s c=>(s.1*a - s.2.1*b+c*s.2.2,s.1*b+s.2.1*a,s.2.2*n)) t).2.1:Rat)*n=(cs.foldl (fun s c=>(s.1*a - s.2.1*b+c*s.2.2,s.1*b+s.2.1*a,s.2.2*n)) t).2.2*(cs.foldl (fun s c=>s*z+⟨(c:Int),0⟩) s).im):=by
  induction cs with
  | nil=>intro s t h1 h2; exact⟨h1,h2⟩
  | cons c cs ih =>
    intro s t h1 h2
    simp only[List.foldl_cons]
    apply ih
    · simp only[qmr,qmi,qar,qai,Rat.intCast_add,Rat.intCast_sub,Rat.intCast_mul,←ha,←hb]
      grind
    · simp only[qmr,qmi,qar,qai,Rat.intCast_add,Rat.intCast_sub,Rat.intCast_mul,←ha,←hb]
      grind
theorem no_root{cs:List Int}(h:NoRoot cs)(z:QC):∀(k:Nat) (a b n:Int),n.natAbs≤k→n≠0→z.re*n=a→z.im*n=b→pol cs z≠⟨0,0⟩:=by
 intro k
 induction k with
 | zero=>intro a b n h1 h2; omega
 | succ k ih =>
  intro a b n h1 h2 ha hb h0
  obtain⟨e1,e2⟩:=frm_pol cs z a b n ha hb ⟨0,0⟩ (0,0,1) (by simp) (by simp)
  have hn:(n:Rat)≠0:=by exact_mod_cast h2
  have f1:(frm cs a b n).1=0:=by
   have:((frm cs a b n).1:Rat)*n=0:=by
    refine e1.trans ?_
    rw[show cs.foldl (fun s c=>s*z+(⟨(c:Int),0⟩:QC)) ⟨0,0⟩=⟨0,0⟩ from h0]
    simp
   rcases Rat.mul_eq_zero.1 this with h|h
   ·exact_mod_cast h
   ·exact absurd h hn
  have f2:(frm cs a b n).2.1=0:=by
   have:((frm cs a b n).2.1:Rat)*n=0:=by
    refine e2.trans ?_
    rw[show cs.foldl (fun s c=>s*z+(⟨(c:Int),0⟩:QC)) ⟨0,0⟩=⟨0,0⟩ from h0]
    simp
   rcases Rat.mul_eq_zero.1 this with h|h
   ·exact_mod_cast h
   ·exact absurd h hn
  obtain⟨p1,p2,p3⟩:=h (BitVec.ofInt 3 a) (BitVec.ofInt 3 b) (BitVec.ofInt 3 n) (by rw[frm_mod,f1]; rfl) (by rw[frm_mod,f2]; rfl)
  have p1:=even_of a p1
  have p2:=even_of b p2
  have p3:=even_of n p3
  have c1:a=2*(a / 2):=by omega
  have c2:b=2*(b / 2):=by omega
  have c3:n=2*(n / 2):=by omega
  refine ih (a / 2) (b / 2) (n / 2) (by omega) (by omega) ?_ ?_ h0
  ·rw[c1,c3,Rat.intCast_mul,Rat.intCast_mul] at ha
   have:((2:Int):Rat)=2:=rfl
   rw[this] at ha
   grind
  ·rw[c2,c3,Rat.intCast_mul,Rat.intCast_mul] at hb
   have:((2:Int):Rat)=2:=rfl
   rw[this] at hb
   grind
theorem num_den(q:Rat):q*((q.den:Int):Rat)=q.num:=by
 have h:=Rat.num_divInt_den q
 rw[Rat.divInt_eq_div] at h
 have hd:((q.den:Int):Rat)≠0:=by exact_mod_cast q.den_nz
 have key:∀(x n d:Rat),n / d=x→d≠0→x*d=n:=by intros; grind
 exact key _ _ _ h hd
theorem no_root_any{cs:List Int}(h:NoRoot cs)(z:QC):pol cs z≠⟨0,0⟩:=by
 refine no_root h z _ (z.re.num*z.im.den) (z.im.num*z.re.den) (z.re.den*z.im.den) (Nat.le_refl _) ?_ ?_ ?_
 ·have:=z.re.den_nz; have:=z.im.den_nz
  exact Int.mul_ne_zero (by omega) (by omega)
 ·rw[Rat.intCast_mul,Rat.intCast_mul,←num_den z.re]
  grind
 ·rw[Rat.intCast_mul,Rat.intCast_mul,←num_den z.im]
  grind
theorem qmul0{x y:QC}:x*y=⟨0,0⟩↔x=⟨0,0⟩∨y=⟨0,0⟩:=by
 constructor
 ·intro h
  have h1:x.re*y.re - x.im*y.im=0:=congrArg QC.re h
  have h2:x.re*y.im+x.im*y.re=0:=congrArg QC.im h
  have h3:(x.re*x.re+x.im*x.im)*(y.re*y.re+y.im*y.im)=0:=by grind
  rcases Rat.mul_eq_zero.1 h3 with h|h
  ·have:=sq_nonneg x.re; have:=sq_nonneg x.im
   have e1:x.re*x.re=0:=by grind
   have e2:x.im*x.im=0:=by grind
   exact .inl (qc_ext (by rcases Rat.mul_eq_zero.1 e1 with h|h<;>exact h) (by rcases Rat.mul_eq_zero.1 e2 with h|h<;>exact h))
  ·have:=sq_nonneg y.re; have:=sq_nonneg y.im
   have e1:y.re*y.re=0:=by grind
   have e2:y.im*y.im=0:=by grind
   exact .inr (qc_ext (by rcases Rat.mul_eq_zero.1 e1 with h|h<;>exact h) (by rcases Rat.mul_eq_zero.1 e2 with h|h<;>exact h))
 ·rintro(rfl|rfl)<;>apply qc_ext<;>simp only[qmr,qmi]<;>grind
def rp(t d:QC):Nat→QC×QC
 | 0=>(⟨1,0⟩,⟨0,0⟩)
 | n+1=>(t*(rp t d n).1 - d*(rp t d n).2,(rp t d n).1)
def fg(s:QC):Nat→QC×QC
 | 0=>(⟨1,0⟩,⟨0,0⟩)
 | k+1=>(s*((fg s k).1 - (fg s k).2) - (fg s k).1,(fg s k).1 - (fg s k).2)
def dp(d:QC):Nat→QC
 | 0=>⟨1,0⟩
 | k+1=>d*dp d k
theorem rp_fg(t d s:QC)(h:s*d=t*t)(k:Nat):(rp t d (2*k)).1=dp d k*(fg s k).1∧(rp t d (2*k+1)).1=t*(dp d k*(fg s (k+1)).2):=by
 have h1:s.re*d.re - s.im*d.im=t.re*t.re - t.im*t.im:=congrArg QC.re h
 have h2:s.re*d.im+s.im*d.re=t.re*t.im+t.im*t.re:=congrArg QC.im h
 induction k with
 | zero=>constructor<;>apply qc_ext<;>simp only[rp,fg,dp,qmr,qmi,qsr,qsi]<;>grind
 | succ k ih =>
  obtain⟨i1,i2⟩:=ih
  have j1:(rp t d (2*(k+1))).1=dp d (k+1)*(fg s (k+1)).1:=by
   show t*(rp t d (2*k+1)).1 - d*(rp t d (2*k)).1=_
   rw[i1,i2]
   simp only[fg,dp]
   generalize fg s k=p
   generalize dp d k=q
   obtain⟨f,g⟩:=p
   apply qc_ext<;>simp only[qmr,qmi,qsr,qsi]<;>grind
  refine⟨j1,?_⟩
  show t*(rp t d (2*(k+1))).1 - d*(rp t d (2*k+1)).1=_
  rw[j1,i2]
  simp only[fg,dp]
  generalize fg s k=p
  generalize dp d k=q
  obtain⟨f,g⟩:=p
  apply qc_ext<;>simp only[qmr,qmi,qsr,qsi]<;>grind
theorem dp_ne{d:QC}(h:d≠⟨0,0⟩):∀ k,dp d k≠⟨0,0⟩
 | 0=>by intro e; have:=congrArg QC.re e; simp[dp] at this
 | k+1=>fun e=>by exact(qmul0.1 e).elim h (dp_ne h k)
theorem pol_lin(s:QC)(c:Int):pol [1,c] s=⟨0,0⟩↔s=⟨(-c:Int),0⟩:=by
 have e:pol [1,c] s=⟨s.re+c,s.im⟩:=by apply qc_ext<;>simp only[pol,List.foldl_cons,List.foldl_nil,qmr,qmi,qar,qai]<;>grind
 rw[e]
 constructor
 ·intro h
  have h1:s.re+c=0:=congrArg QC.re h
  have h2:s.im=0:=congrArg QC.im h
  apply qc_ext
  ·simp only[Rat.intCast_neg]; grind
  ·exact h2
 ·rintro rfl; simp only[Rat.intCast_neg]; congr 1; grind
theorem fg_tab(s:QC):(fg s 1).1=pol [1,-1] s∧(fg s 2).2=pol [1,-2] s∧(fg s 2).1=pol [1,-3,1] s∧(fg s 3).2=pol [1,-1] s*pol [1,-3] s∧(fg s 3).1=pol [1,-5,6,-1] s ∧
  (fg s 4).2=pol [1,-2] s*pol [1,-4,2] s∧(fg s 4).1=pol [1,-1] s*pol [1,-6,9,-1] s∧(fg s 5).2=pol [1,-3,1] s*pol [1,-5,5] s∧(fg s 5).1=pol [1,-9,28,-35,15,-1] s ∧
  (fg s 6).2=pol [1,-1] s*(pol [1,-2] s*(pol [1,-3] s*pol [1,-4,1] s)):=by
 obtain⟨x,y⟩:=s
 refine⟨?_,?_,?_,?_,?_,?_,?_,?_,?_,?_⟩<;>apply qc_ext<;>simp only[pol,fg,List.foldl_cons,List.foldl_nil,qmr,qmi,qar,qai,qsr,qsi]<;>grind
noncomputable def ordS(s:QC):Nat:=open Classical in if s=⟨0,0⟩ then 2 else if s=⟨1,0⟩ then 3 else if s=⟨2,0⟩ then 4 else if s=⟨3,0⟩ then 6 else 0
theorem rp_zero{t d s:QC}(h:s*d=t*t)(hd:d≠⟨0,0⟩)(k:Nat)(hk:k<12):(rp t d k).1=⟨0,0⟩↔ordS s≠0∧(k+1) % ordS s=0:=by
 obtain⟨f1,g2,f2,g3,f3,g4,f4,g5,f5,g6⟩:=fg_tab s
 have f0:(fg s 0).1≠⟨0,0⟩:=by intro e; have:=congrArg QC.re e; simp[fg] at this
 have g1:(fg s 1).2≠⟨0,0⟩:=by
  have e:(fg s 1).2=⟨1,0⟩:=by apply qc_ext<;>simp only[fg,qsr,qsi]<;>grind
  rw[e]; intro e; have:=congrArg QC.re e; simp at this
 have l1:pol [1,-1] s=⟨0,0⟩↔s=⟨1,0⟩:=pol_lin s (-1)
 have l2:pol [1,-2] s=⟨0,0⟩↔s=⟨2,0⟩:=pol_lin s (-2)
 have l3:pol [1,-3] s=⟨0,0⟩↔s=⟨3,0⟩:=pol_lin s (-3)
 have n1:=no_root_any nr1 s
 have n2:=no_root_any nr2 s
 have n3:=no_root_any nr3 s
 have n4:=no_root_any nr4 s
 have n5:=no_root_any nr5 s
 have n6:=no_root_any nr6 s
 have n7:=no_root_any nr7 s
 have ht:t=⟨0,0⟩↔s=⟨0,0⟩:=by
  constructor
  ·rintro rfl
   have:s*d=⟨0,0⟩:=h.trans (qmul0.2 (.inl rfl))
   exact(qmul0.1 this).resolve_right hd
  ·rintro rfl
   have:t*t=⟨0,0⟩:=h.symm.trans (qmul0.2 (.inl rfl))
   exact(qmul0.1 this).elim id id
 have even:∀ j,(rp t d (2*j)).1=⟨0,0⟩↔(fg s j).1=⟨0,0⟩:=fun j=>by
  rw[(rp_fg t d s h j).1,qmul0]; exact⟨fun e=>e.resolve_left (dp_ne hd j),.inr⟩
 have odd:∀ j,(rp t d (2*j+1)).1=⟨0,0⟩↔s=⟨0,0⟩∨(fg s (j+1)).2=⟨0,0⟩:=fun j=>by
  rw[(rp_fg t d s h j).2,qmul0,qmul0,ht]; exact⟨fun e=>e.imp_right (fun e=>e.resolve_left (dp_ne hd j)),fun e=>e.imp_right .inr⟩
 have d01:¬(⟨0,0⟩:QC)=⟨1,0⟩:=by intro e; have:=congrArg QC.re e; simp at this
 have cs:∀ a b:Rat,a≠b→¬(⟨a,0⟩:QC)=⟨b,0⟩:=fun a b hab e=>hab (congrArg QC.re e)
 rcases(by omega:k=0∨k=1∨k=2∨k=3∨k=4∨k=5∨k=6∨k=7∨k=8∨k=9∨k=10∨k=11) with rfl|rfl|rfl|rfl|rfl|rfl|rfl|rfl|rfl|rfl|rfl|rfl
 all_goals first
  | (rw[even 0])
  | (rw[even 1,f1,l1])|(rw[even 2,f2])|(rw[even 3,f3])|(rw[even 4,f4,qmul0,l1])|(rw[even 5,f5])
  | (rw[odd 0])|(rw[odd 1,g2,l2])|(rw[odd 2,g3,qmul0,l1,l3])|(rw[odd 3,g4,qmul0,l2])|(rw[odd 4,g5,qmul0])|(rw[odd 5,g6,qmul0,qmul0,qmul0,l1,l2,l3])
 all_goals
  try simp only[f0,g1,n1,n2,n3,n4,n5,n6,n7,or_false]
  unfold ordS
  by_cases e0:s=⟨0,0⟩
  ·simp[e0]
  by_cases e1:s=⟨1,0⟩
  ·simp[e1]
  by_cases e2:s=⟨2,0⟩
  ·simp[e2]
  by_cases e3:s=⟨3,0⟩
  ·simp[e3]
  simp[e0,e1,e2,e3]
def mp(a b c d:QC):Nat→QC×QC×QC×QC
 | 0=>(a,b,c,d)
 | n+1=>let p:=mp a b c d n; (a*p.1+b*p.2.2.1,a*p.2.1+b*p.2.2.2,c*p.1+d*p.2.2.1,c*p.2.1+d*p.2.2.2)
def Scal(p:QC×QC×QC×QC):Prop:=p.2.1=⟨0,0⟩∧p.2.2.1=⟨0,0⟩∧p.1=p.2.2.2
theorem mp_rp(a b c d:QC)(k:Nat):mp a b c d k=((rp (a+d) (a*d - b*c) k).1*a - (a*d - b*c)*(rp (a+d) (a*d - b*c) k).2,(rp (a+d) (a*d - b*c) k).1*b,(rp (a+d) (a*d - b*c) k).1*c,(rp (a+d) (a*d - b*c) k).1*d - (a*d - b*c)*(rp (a+d) (a*d - b*c) k).2):=by
 induction k with
 | zero =>
  simp only[mp,rp]
  refine Prod.ext ?_ (Prod.ext ?_ (Prod.ext ?_ ?_))<;>apply qc_ext<;>simp only[qmr,qmi,qar,qai,qsr,qsi]<;>grind
 | succ k ih =>
  simp only[mp,rp]
  rw[ih]
  generalize rp (a+d) (a*d - b*c) k=r
  obtain⟨r,q⟩:=r
  refine Prod.ext ?_ (Prod.ext ?_ (Prod.ext ?_ ?_))<;>apply qc_ext<;>simp only[qmr,qmi,qar,qai,qsr,qsi]<;>grind
theorem qc_sub0{x y:QC}:x - y=⟨0,0⟩↔x=y:=by
 constructor
 ·intro h
  have h1:x.re - y.re=0:=congrArg QC.re h
  have h2:x.im - y.im=0:=congrArg QC.im h
  apply qc_ext<;>grind
 ·rintro rfl; apply qc_ext<;>simp only[qsr,qsi]<;>grind
theorem still_pow{a b c d s:QC}(hs:¬Scal (a,b,c,d))(hd:a*d - b*c≠⟨0,0⟩)(h:s*(a*d - b*c)=(a+d)*(a+d))(k:Nat)(hk:k<12):Scal (mp a b c d k)↔ordS s≠0∧(k+1) % ordS s=0:=by
 rw[←rp_zero h hd k hk,mp_rp]
 generalize rp (a+d) (a*d - b*c) k=r
 obtain⟨r,q⟩:=r
 simp only[Scal]
 rw[qmul0,qmul0]
 have e:(r*a - (a*d - b*c)*q=r*d - (a*d - b*c)*q)↔r=⟨0,0⟩∨a=d:=by
  rw[←qc_sub0,←@qc_sub0 a d,←qmul0]
  have:r*a - (a*d - b*c)*q - (r*d - (a*d - b*c)*q)=r*(a - d):=by apply qc_ext<;>simp only[qmr,qmi,qar,qai,qsr,qsi]<;>grind
  rw[this]
 rw[e]
 constructor
 ·rintro⟨h1,h2,h3⟩
  rcases h1 with h|h1
  ·exact h
  rcases h2 with h|h2
  ·exact h
  rcases h3 with h|h3
  ·exact h
  exact absurd ⟨h1,h2,h3⟩ hs
 ·intro h; exact⟨.inl h,.inl h,.inl h⟩
def cj(z:QC):QC:=⟨z.re,-z.im⟩
def mtn(a b c d:QC):Nat→QC×QC×QC×QC
 | 0=>(a,b,c,d)
 | n+1=>let p:=mtn a b c d n; (a*cj p.1+b*cj p.2.2.1,a*cj p.2.1+b*cj p.2.2.2,c*cj p.1+d*cj p.2.2.1,c*cj p.2.1+d*cj p.2.2.2)
theorem mtn_mp(a b c d:QC)(j:Nat):mtn a b c d (2*j+1)=mp (a*cj a+b*cj c) (a*cj b+b*cj d) (c*cj a+d*cj c) (c*cj b+d*cj d) j:=by
 induction j with
 | zero=>rfl
 | succ j ih =>
  show mtn a b c d (2*j+1+1+1)=_
  simp only[mtn]
  simp only[mtn] at ih
  rw[mp,←ih]
  generalize mtn a b c d (2*j)=p
  obtain⟨p,q,r,s⟩:=p
  simp only[cj]
  refine Prod.ext ?_ (Prod.ext ?_ (Prod.ext ?_ ?_))<;>apply qc_ext<;>simp only[qmr,qmi,qar,qai]<;>grind
end Go.Proofs.YtjlhiaafnpompaaGreat
namespace Go.Proofs.YtjlhiaafnpompaaGreat
open Go.RowKit Tr
theorem natAbs_shl(x:Int)(N:Nat):(x*2 ^ N).natAbs=x.natAbs*2 ^ N:=by
 rw[Int.natAbs_mul]; congr 1
theorem neg_shl(x:Int)(N:Nat):decide (x*2 ^ N<0)=(decide (x<0) && decide (wv (words (x*2 ^ N).natAbs)≠0)):=by
 rw[wv_words,natAbs_shl]
 have hp:(0:Int)<2 ^ N:=Int.pow_pos (by decide)
 have hn:0<2 ^ N:=Nat.two_pow_pos N
 by_cases h:x<0
 ·have h1:x*2 ^ N<0:=Int.mul_neg_of_neg_of_pos h hp
  have h2:x.natAbs*2 ^ N≠0:=Nat.ne_of_gt (Nat.mul_pos (by omega) hn)
  simp[h,h1]; omega
 ·have h1:¬x*2 ^ N<0:=Int.not_lt.2 (Int.mul_nonneg (by omega) (Int.le_of_lt hp))
  simp[h,h1]
theorem Lsh_any(m o:Nat)(C:Array Value)(T:TypeId)(x:Int)(vx:Value)(N:Nat)(A:Nat→Prop)(w:World)(hm:w.heap[m]?=some (.cells C T (0,0)))(ho:o+1<C.size)(hC:NoW (.cells C T (0,0)))(hx:IntP x vx w A)(hn:(words x.natAbs).length<274877906944)(hN:N<1099511627776)(hl:(words (x.natAbs*2 ^ N)).length<1099511627776) :
  Calls Tryz.prog 139 #[.pointer (some ⟨m,o,none⟩),vx,.int .u64 N] w fun e w'=>e=.returned (.pointer (some ⟨m,o,none⟩))∧Put m o C T (x*2 ^ N) w w':=by
 obtain⟨b,bo,sl,rfl,hb,_,c0,c1,hsl⟩:=hx
 have hw:=hsl.wsl
 have hmlt:m<w.heap.size:=(Array.getElem?_eq_some_iff.1 hm).1
 have eN:IntKind.i64.wrap (N:Int)=(N:Int):=by rw[IntKind.wrap_i64]; omega
 have hleft:=fun(w1:World) (h1:Below w.heap.size w w1)=>left_any (words x.natAbs) N sl w1 (wok_words _) (hw.below h1) (by omega) hN
 rw[wv_words] at hleft
 have HL:=Lib.hid hleft
 have HN:=Lib.hid (And.intro hl eN)
 clear hleft hl eN
 go_enter Tryz.func139,Tryz.ntmps139
 go_wp2_with fail
 refine wp_region_inv [(.lit,[]),(.lit,[]),(.lit,[]),(.lit,[]),(.lit,[]),(.lit,[]),(.lit,[]),(.lit,[]),(.lit,[]),(.lit,[]),(.lit,[]),(.val,[])] (pickF [(11,fun v w A=>WSlA A w v (words (x.natAbs*2 ^ N)))]) (by kernel_rfl) ?_ ?_ (by simp) (by simp) (by kernel_rfl)
 ·exact keeps_pick (by simp[keeps_wsla])
 ·refine⟨_,fun f w1 h1=>by go_simp; rfl,?_⟩
  refine⟨_,fun f w1 h1=>by go_simp; rfl,?_⟩
  refine⟨_,fun f w1 h1=>by go_simp; rfl,?_⟩
  refine⟨_,fun f w1 h1=>by go_simp; rfl,?_⟩
  refine⟨_,fun f w1 h1=>by have:=ct h1 hb c0; go_simp; rfl,?_⟩
  refine⟨_,fun f w1 h1=>by go_simp; rfl,?_⟩
  refine⟨_,fun f w1 h1=>by go_simp; rfl,?_⟩
  refine⟨_,fun f w1 h1=>by go_simp; rfl,?_⟩
  refine⟨_,fun f w1 h1=>by have:=ct h1 hb c1; go_simp; rfl,?_⟩
  refine⟨_,fun f w1 h1=>by go_simp; rfl,?_⟩
  refine⟨.int .i64 N,fun f w1 h1=>by have:=HN.out.2; go_simp,?_⟩
  simp only[Act.put,nrA,nrB,nrC,Nat.reduceAdd]
  refine⟨fun f w1 A1 h1 hA hN' hd K hK=>?_,?_⟩
  ·go_simp
   refine(HL.out w1 (br.drew.trans h1)).mono ?_
   rintro e w' ⟨v',rfl,hv,hb'⟩
   exact hK v' w' hb' (hv.avoids (hA.below hb'))
  ·intro f w1 h1 hF
   have hv:WSlA NoA w1 (f 11) (words (x.natAbs*2 ^ N)):=hF.2
   have hv:=hv.wsl
   clear hF
   simp only[Act.put,nrA,nrB,nrC]
   generalize f 11=v9 at *
   have h1':Below w.heap.size w w1:=br.drew.trans h1
   have his:=is_put m o C T (decide (x<0)) (words (x.natAbs*2 ^ N)) v9 w1 (x*2 ^ N) ((h1.block m hmlt).trans hm) ho hC (wok_words _) hv HN.out.1 (by rw[wv_words]; exact natAbs_shl x N) (by rw[←natAbs_shl]; exact neg_shl x N)
   have HI:=Lib.hid his
   clear his hm hC c0 c1
   go_wp2_with (go_at_call 108; refine HI.out.mono ?_; rintro e w' ⟨rfl,hp⟩)
   go_ret
   exact⟨rfl,hp.below h1'⟩
theorem nonneg_shr(n N:Nat):decide (((n / 2 ^ N:Nat):Int)<0)=(false && decide (wv (words (n / 2 ^ N))≠0)):=by
 have:=Int.natCast_nonneg (n / 2 ^ N)
 simp only[Bool.false_and,decide_eq_false_iff_not]; omega
theorem Rsh_any(m o:Nat)(C:Array Value)(T:TypeId)(n:Nat)(vx:Value)(N:Nat)(A:Nat→Prop)(w:World)(hm:w.heap[m]?=some (.cells C T (0,0)))(ho:o+1<C.size)(hC:NoW (.cells C T (0,0)))(hx:IntP (n:Int) vx w A)(hn:(words n).length<274877906944)(hN:N<1099511627776) :
  Calls Tryz.prog 140 #[.pointer (some ⟨m,o,none⟩),vx,.int .u64 N] w fun e w'=>e=.returned (.pointer (some ⟨m,o,none⟩))∧Put m o C T ((n / 2 ^ N:Nat):Int) w w':=by
 obtain⟨b,bo,sl,rfl,hb,_,c0,c1,hsl⟩:=hx
 rw[show((n:Int)).natAbs=n from rfl] at hsl
 rw[show decide ((n:Int)<0)=false by simp] at c0
 have hw:=hsl.wsl
 have hmlt:m<w.heap.size:=(Array.getElem?_eq_some_iff.1 hm).1
 have eN:IntKind.i64.wrap (N:Int)=(N:Int):=by rw[IntKind.wrap_i64]; omega
 have hright:=right_any (words n) N sl w (wok_words _) hw (by omega) hN
 rw[wv_words] at hright
 have hwl:(words (n / 2 ^ N)).length<1099511627776:=by
  have h1:=lt_words n
  have h2:n / 2 ^ N<4294967296 ^ (words n).length:=Nat.lt_of_le_of_lt (Nat.div_le_self _ _) h1
  have:=words_length_le h2; omega
 have his:=fun(w1:World) (h1:Below w.heap.size w w1) v (hv:WSl w1 v (words (n / 2 ^ N)))=>is_put m o C T false (words (n / 2 ^ N)) v w1 ((n / 2 ^ N:Nat):Int) ((h1.block m hmlt).trans hm) ho hC (wok_words _) hv hwl (by rw[wv_words]; rfl) (nonneg_shr n N)
 have hcell:=fun(w1:World) (h1:Below w.heap.size w w1)=>(h1.cell (p:=⟨b,bo,none⟩) hb).trans c0
 have HR:=Lib.hid hright
 have HI:=Lib.hid his
 have HC:=Lib.hid hcell
 clear hright his hm hC hw hsl hcell
 go_enter Tryz.func140,Tryz.ntmps140
 go_wp2_with (go_at_call 138; refine HR.out.mono ?_; rintro e w1 ⟨v7,rfl,hv,hb1⟩; have d0:=HC.out w1 hb1; have d1:∀ k,(w1.drewN k).cell? ⟨b,bo,none⟩=some (.bool false):=fun _=>d0; have HV:=Lib.hid hv; clear hv)
 have hbn:∀ k,Below w.heap.size w (w1.drewN k):=fun k=>hb1.trans ⟨rfl,rfl,rfl,Nat.le_refl _,fun _ _=>rfl⟩
 have hX:=fun k=>HI.out (w1.drewN k) (hbn k) v7 HV.out
 have HX:=Lib.hid hX
 clear hX
 go_quiet (fail)
 go_wp2_with (go_at_call 108; refine(HX.out _).mono ?_; rintro e w' ⟨rfl,hp⟩)
 go_ret
 exact⟨rfl,hp.below (hbn _)⟩
end Go.Proofs.YtjlhiaafnpompaaGreat
