/- Laws for the walk. -/
import Derived.Test.YthklnbaddobieaaGreatYbd
set_option linter.unusedVariables false
set_option maxHeartbeats 4000000
namespace Go.Proofs.YthklnbaddobieaaGreat
open Go.RowKit Tr
theorem obox(w:World)(a0 a1 a2 a3 a4 a5 a6 a7:Value) :
  ∃ W,Hid (W=(w.alloc (.cells #[a0,a1,a2,a3,a4,a5,a6,a7] 50)).alloc (.cells #[.pointer none,.pointer none] 167)∧Below w.heap.size w W∧W.heap.size=w.heap.size+2∧∀ w1,Below W.heap.size W w1→(w1.cell? ⟨w.heap.size,0,none⟩=some (a0)∧w1.cell? ⟨w.heap.size,1,none⟩=some (a1)∧w1.cell? ⟨w.heap.size,2,none⟩=some (a2)∧w1.cell? ⟨w.heap.size,3,none⟩=some (a3)∧w1.cell? ⟨w.heap.size,4,none⟩=some (a4)∧w1.cell? ⟨w.heap.size,5,none⟩=some (a5)∧w1.cell? ⟨w.heap.size,6,none⟩=some (a6)∧w1.cell? ⟨w.heap.size,7,none⟩=some (a7)) ∧
   (w1.cell? ⟨w.heap.size+1,0,none⟩=some (.pointer none)∧w1.cell? ⟨w.heap.size+1,1,none⟩=some (.pointer none)∧w1.frozen? ⟨w.heap.size+1,0,none⟩=false∧w1.frozen? ⟨w.heap.size+1,1,none⟩=false)):=by
 obtain⟨w1,hw1⟩:∃ w1,w1=w.alloc (.cells #[a0,a1,a2,a3,a4,a5,a6,a7] 50):=⟨_,rfl⟩
 have hz1:w1.heap.size=w.heap.size+1:=by rw[hw1]; simp
 have hb1:Below w.heap.size w w1:=by rw[hw1]; exact br.alloc (Nat.le_refl _) _
 obtain⟨w2,hw2⟩:∃ w2,w2=w1.alloc (.cells #[.pointer none,.pointer none] 167):=⟨_,rfl⟩
 have hz2:w2.heap.size=w.heap.size+2:=by rw[hw2]; simp[hz1]
 have hb2:Below w1.heap.size w1 w2:=by rw[hw2]; exact br.alloc (Nat.le_refl _) _
 have t2:Below w2.heap.size w2 w2:=Below.refl _ _
 have t1:Below w1.heap.size w1 w2:=hb2.trans (t2.mono hb2.size)
 refine⟨w2,Lib.hid ⟨by rw[hw2,hw1],hb1.trans (t1.mono hb1.size),hz2,fun w' h=>?_⟩⟩
 have e0:=(t1.trans (h.mono t1.size)).block w.heap.size (by rw[hw1]; simp)
 rw[hw1,heap_alloc_new] at e0
 have e1:=(t2.trans (h.mono t2.size)).block w1.heap.size (by rw[hw2]; simp)
 rw[hw2,heap_alloc_new] at e1
 rw[hz1] at e1
 refine⟨?_,?_⟩<;>simp[World.cell?,World.frozen?,e0,e1]
def OfF(v0:Value):Fact:=fun u w A=>∃ z,NQ z u w A∧(GaussOk v0→v0=encG z.re z.im)
theorem OfF.keeps(v0:Value):(OfF v0).Keeps:=fun u w w' A A' hs hk ⟨z,h,e⟩=>⟨z,NQ.keeps z u w w' A A' hs hk h,e⟩
theorem rcv_num{w:World}{A:Nat→Prop}{n:Nat}{W:World}(hA:Rcv A w)(hb:Below w.heap.size w W)(hn:W.heap[n]?=some (.cells #[.pointer none,.pointer none] 167 (0,0))):Rcv (Mo A n) W :=
 fun b h=>h.elim (fun h=>(hA.below hb) b h) (fun h=>by subst h; exact⟨_,hn,noW_num _ _ ⟨_,rfl⟩ ⟨_,rfl⟩ _⟩)
set_option maxRecDepth 100000 in
theorem EOf_any(n1 n2 n3 n4:Bool)(s1 s2 s3 s4:ByteArray)(l1:s1.size<274877906944)(l2:s2.size<274877906944)(l3:s3.size<274877906944)(l4:s4.size<274877906944)(A:Nat→Prop)(w:World)(hA:Rcv A w)(r:Bool)(hr:r=true↔GaussOk (.agg #[.bool n1,.string s1,.bool n2,.string s2,.bool n3,.string s3,.bool n4,.string s4])) :
  Calls Tryz.prog 181 #[.agg #[.bool n1,.string s1,.bool n2,.string s2,.bool n3,.string s3,.bool n4,.string s4]] w fun e w'=>∃ u,e=.returned (.tuple #[u,.bool r])∧Below w.heap.size w w'∧OfF (.agg #[.bool n1,.string s1,.bool n2,.string s2,.bool n3,.string s3,.bool n4,.string s4]) u w' A:=by
 obtain⟨W,HV⟩:=obox w (.bool n1) (.string s1) (.bool n2) (.string s2) (.bool n3) (.string s3) (.bool n4) (.string s4)
 have H1:=Lib.hid (fun w=>ERat_any n1 n2 s1 s2 l1 l2 w)
 have H2:=Lib.hid (fun w=>ERat_any n3 n4 s3 s4 l3 l4 w)
 have hs0:w.heap.size<W.heap.size:=by have:=HV.out.2.2.1; omega
 obtain⟨⟨e0,e1,e2,e3,e4,e5,e6,e7⟩,_⟩:=HV.out.2.2.2 W br
 have hR:Rcv (Mo A (w.heap.size+1)) W:=rcv_num hA HV.out.2.1 (by
  rw[HV.out.1]
  have:=heap_alloc_new (w.alloc (.cells #[.bool n1,.string s1,.bool n2,.string s2,.bool n3,.string s3,.bool n4,.string s4] 50)) (.cells #[.pointer none,.pointer none] 167 (0,0))
  simpa using this)
 have HR:=Lib.hid (And.intro hR hr)
 clear hA hr hR
 go_enter Tryz.func181,Tryz.ntmps181
 go_wp2_with fail
 rw[←HV.out.1]
 refine wp_region_inv [(.lit,[]),(.lit,[]),(.val,[]),(.lit,[]),(.lit,[]),(.val,[])]
  (pickF [(2,FactU (Mo A (w.heap.size+1)) (MayF (.agg #[.bool n1,.string s1,.bool n2,.string s2]))),(5,FactU (Mo A (w.heap.size+1)) (MayF (.agg #[.bool n3,.string s3,.bool n4,.string s4])))]) (by kernel_rfl) ?_ ?_ (by simp) (by simp) (by kernel_rfl)
 ·exact keeps_pick (by simp only[List.mem_cons,List.not_mem_nil,or_false]; rintro p (rfl|rfl)<;>exact FactU.keeps (MayF.keeps _))
 ·repeat (refine⟨_,fun f w1 h1=>by(have d0:=ct h1 hs0 e0; have d1:=ct h1 hs0 e1; have d2:=ct h1 hs0 e2; have d3:=ct h1 hs0 e3; have d4:=ct h1 hs0 e4; have d5:=ct h1 hs0 e5; have d6:=ct h1 hs0 e6; have d7:=ct h1 hs0 e7; go_simp; rfl),?_⟩)
  simp only[Act.put,nrA,nrB,nrC,Nat.reduceAdd]
  refine⟨fun f w1 A1 k1 hA hN hd K hK=>by
   go_simp
   refine(H1.out w1).mono ?_
   rintro e w' ⟨u,rfl,hm,hb⟩
   exact hK _ _ hb (hm.mayF hb (rcv_un (HR.out.1.below (br.drew.trans k1)) hA)),?_⟩
  repeat (refine⟨_,fun f w1 h1=>by(have d0:=ct h1 hs0 e0; have d1:=ct h1 hs0 e1; have d2:=ct h1 hs0 e2; have d3:=ct h1 hs0 e3; have d4:=ct h1 hs0 e4; have d5:=ct h1 hs0 e5; have d6:=ct h1 hs0 e6; have d7:=ct h1 hs0 e7; go_simp; rfl),?_⟩)
  simp only[Act.put,nrA,nrB,nrC,Nat.reduceAdd]
  refine⟨fun f w1 A1 k1 hA hN hd K hK=>by
   go_simp
   refine(H2.out w1).mono ?_
   rintro e w' ⟨u,rfl,hm,hb⟩
   exact hK _ _ hb (hm.mayF hb (rcv_un (HR.out.1.below (br.drew.trans k1)) hA)),?_⟩
  intro f w1 k1 hF
  have i2:MayF (.agg #[.bool n1,.string s1,.bool n2,.string s2]) (f 2) w1 (Mo A (w.heap.size+1)):=FactU.done (MayF.keeps _) hF.1.2
  have i5:MayF (.agg #[.bool n3,.string s3,.bool n4,.string s4]) (f 5) w1 (Mo A (w.heap.size+1)):=FactU.done (MayF.keeps _) hF.2
  clear hF
  simp only[Act.put,nrA,nrB,nrC]
  generalize f 2=x2 at *
  generalize f 5=x5 at *
  have hb1:Below W.heap.size W w1:=br.drew.trans k1
  obtain⟨_,c0,c1,f0,f1⟩:=HV.out.2.2.2 w1 hb1
  have HB:=Lib.hid (HV.out.2.1.trans (hb1.mono HV.out.2.1.size))
  clear e0 e1 e2 e3 e4 e5 e6 e7 k1 hb1 H1 H2
  rcases i2 with⟨hn1,rfl⟩|⟨q1,eq1,ok1,r1⟩
  ·have hrf:r=false:=by
    cases h:r
    ·rfl
    ·exact absurd (gaussOk_iff.1 (HR.out.2.1 h)).1 hn1
   subst hrf
   have HG:=Lib.hid (show ¬GaussOk (.agg #[.bool n1,.string s1,.bool n2,.string s2,.bool n3,.string s3,.bool n4,.string s4]) from fun h=>hn1 (gaussOk_iff.1 h).1)
   have j5:∃ b,RatO b x5 w1 (Mo A (w.heap.size+1)):=by
    rcases i5 with⟨_,rfl⟩|⟨q2,_,_,r2⟩
    ·exact⟨0,.inl ⟨rfl,rfl⟩⟩
    ·exact⟨q2,.inr r2⟩
   obtain⟨b,j5⟩:=j5
   obtain⟨p5,rfl⟩:=j5.shape
   have HJ:=Lib.hid j5
   clear i5 j5 hn1
   go_wp2_with fail
   refine bodyPost_ret (v:=.tuple #[.agg #[.pointer none,.pointer p5],.bool false]) (by simp[results,Tryz.results181,go_sem,c0,c1]) rfl ?_
   obtain⟨u,hu,hb,hz⟩:=put_numO HB.out (.inl ⟨rfl,rfl⟩:RatO 0 (.pointer none) w1 (Mo A (w.heap.size+1))) HJ.out (by omega)
   cases hu
   exact⟨_,rfl,hb,⟨⟨0,b⟩,hz,fun h=>absurd h HG.out⟩⟩
  ·obtain⟨m1,rfl⟩:=r1.shape
   rcases i5 with⟨hn2,rfl⟩|⟨q2,eq2,ok2,r2⟩
   ·have hrf:r=false:=by
     cases h:r
     ·rfl
     ·exact absurd (gaussOk_iff.1 (HR.out.2.1 h)).2 hn2
    subst hrf
    have HG:=Lib.hid (show ¬GaussOk (.agg #[.bool n1,.string s1,.bool n2,.string s2,.bool n3,.string s3,.bool n4,.string s4]) from fun h=>hn2 (gaussOk_iff.1 h).2)
    have HJ:=Lib.hid r1
    clear r1 hn2 eq1 ok1
    go_wp2_with fail
    refine bodyPost_ret (v:=.tuple #[.agg #[.pointer (some ⟨m1,0,none⟩),.pointer none],.bool false]) (by simp[results,Tryz.results181,go_sem,c0,c1]) rfl ?_
    obtain⟨u,hu,hb,hz⟩:=put_numO HB.out (.inr HJ.out) (.inl ⟨rfl,rfl⟩:RatO 0 (.pointer none) w1 (Mo A (w.heap.size+1))) (by omega)
    cases hu
    exact⟨_,rfl,hb,⟨⟨q1,0⟩,hz,fun h=>absurd h HG.out⟩⟩
   ·obtain⟨m2,rfl⟩:=r2.shape
    have hrt:r=true:=HR.out.2.2 (gaussOk_iff.2 ⟨ok1,ok2⟩)
    subst hrt
    have HJ:=Lib.hid (And.intro r1 r2)
    have HG:=Lib.hid (show .agg #[.bool n1,.string s1,.bool n2,.string s2,.bool n3,.string s3,.bool n4,.string s4]=encG q1 q2 by
     obtain⟨rfl,rfl,rfl,rfl⟩:=encF_parts eq1
     obtain⟨rfl,rfl,rfl,rfl⟩:=encF_parts eq2
     rfl)
    clear r1 r2 eq1 eq2 ok1 ok2
    go_wp2_with fail
    refine bodyPost_ret (v:=.tuple #[.agg #[.pointer (some ⟨m1,0,none⟩),.pointer (some ⟨m2,0,none⟩)],.bool true]) (by simp[results,Tryz.results181,go_sem,c0,c1]) rfl ?_
    obtain⟨u,hu,hb,hz⟩:=put_numO HB.out (.inr HJ.out.1) (.inr HJ.out.2) (by omega)
    cases hu
    exact⟨_,rfl,hb,⟨⟨q1,q2⟩,hz,fun _=>HG.out⟩⟩
end Go.Proofs.YthklnbaddobieaaGreat
namespace Go.Proofs.YthklnbaddobieaaGreat
open Go.RowKit Tr
def cmpR(x y:Rat):Int:=if x<y then -1 else if x=y then 0 else 1
theorem cmpR_int(x y:Rat):cmpI (x.num*(y.den:Int)) (y.num*(x.den:Int))=cmpR x y:=by
 unfold cmpI cmpR
 have h1:x<y↔x.num*(y.den:Int)<y.num*(x.den:Int):=Rat.lt_iff x y
 have h2:y<x↔y.num*(x.den:Int)<x.num*(y.den:Int):=Rat.lt_iff y x
 by_cases hxy:x<y
 ·rw[if_pos (h1.1 hxy),if_pos hxy]
 ·rw[if_neg (fun h=>hxy (h1.2 h)),if_neg hxy]
  by_cases hyx:y<x
  ·rw[if_pos (h2.1 hyx),if_neg (fun e=>by subst e; exact hxy hyx)]
  ·rw[if_neg (fun h=>hyx (h2.2 h)),if_pos (Rat.le_antisymm (Rat.not_lt.1 hyx) (Rat.not_lt.1 hxy))]
set_option maxRecDepth 100000 in
theorem RCmp_any(x y:Rat)(vx vy:Value)(A:Nat→Prop)(w:World)(hx:RatP x vx w A)(hy:RatP y vy w A)(k l:Nat)(hlx:RL x k)(hly:RL y l)(hkl:k+l<137438953472) :
  Calls Tryz.prog 40 #[vx,vy] w fun e w'=>e=.returned (.int .i64 (cmpR x y))∧Below w.heap.size w w':=by
 have hx:=hx.noA
 have hy:=hy.noA
 obtain⟨b,rfl⟩:=hx.shape
 obtain⟨b2,rfl⟩:=hy.shape
 obtain⟨_,eb,hxn,_⟩:=id hx
 cases eb
 obtain⟨_,eb,hyn,_⟩:=id hy
 cases eb
 have l1:(words (x.num*(y.den:Int)).natAbs).length≤k+l:=by rw[Int.natAbs_mul]; exact wl_mul hlx.1 (by simpa using hly.2)
 have l2:(words (y.num*(x.den:Int)).natAbs).length≤k+l:=by rw[Int.natAbs_mul,Nat.add_comm]; exact wl_mul hly.1 (by simpa using hlx.2)
 obtain⟨cz,hcz⟩:∃ cz,cz=cmpR x y:=⟨_,rfl⟩
 rw[←hcz]
 have HZ:=Lib.hid hcz
 clear hcz
 go_enter Tryz.func40,Tryz.ntmps40
 go_wp2_with fail
 refine wp_region_inv [(.new zI,[]),(.lit,[]),(.lit,[]),(.lit,[]),(.lit,[]),(.val,[]),(.on 0 zI,[5]),(.new zI,[]),(.lit,[]),(.lit,[]),(.lit,[]),(.lit,[]),(.val,[]),(.on 7 zI,[12]),(.val,[6,13])]
  (pickF [(5,IntP y.den),(6,IntP (x.num*(y.den:Int))),(12,IntP x.den),(13,IntP (y.num*(x.den:Int))),(14,fun v _ _=>v=.int .i64 cz)]) (by kernel_rfl) ?_ ?_ (by simp[noW_zInt]) (by simp) (by kernel_rfl)
 ·exact keeps_pick (by simp[IntP.keeps,keeps_pure])
 ·refine⟨fun f w1=>by go_simp,?_⟩
  refine⟨_,fun f w1 h1=>by go_simp; rfl,?_⟩
  refine⟨_,fun f w1 h1=>by go_simp; rfl,?_⟩
  refine⟨_,fun f w1 h1=>by go_simp; rfl,?_⟩
  refine⟨_,fun f w1 h1=>by go_simp; rfl,?_⟩
  simp only[Act.put,nrA,nrB,nrC,Nat.reduceAdd]
  refine⟨fun f w1 A1 h1 hA hN hd K hK=>by
   go_simp
   refine(den_any y _ A1 w1 (later (RatP.keeps _) hy h1 hN) hA).mono ?_
   rintro e w' ⟨v,rfl,hb,hi⟩
   exact hK _ _ hb hi,?_⟩
  simp only[Act.put,nrA,nrB,nrC,Nat.reduceAdd]
  refine⟨fun f w1 A1 m1 h1 hA hN hAm hm0 e hz hd K hK=>by
   simp only[e] at hK ⊢
   have i1:IntP y.den (f 5) w1 A1:=hd 5 (by simp)
   go_simp
   refine(mul_any m1 0 _ _ x.num y.den _ _ A1 w1 hz (by decide) noW_zInt (later (IntP.keeps _) hxn h1 hN) i1 (by have:=hlx.1; omega) (by have:=hly.2; simp; omega)).mono ?_
   rintro e w' ⟨rfl,hp⟩
   exact hK _ w' hp.1 (hp.intP (by decide) hA),?_⟩
  refine⟨fun f w1=>by go_simp,?_⟩
  refine⟨_,fun f w1 h1=>by go_simp; rfl,?_⟩
  refine⟨_,fun f w1 h1=>by go_simp; rfl,?_⟩
  refine⟨_,fun f w1 h1=>by go_simp; rfl,?_⟩
  refine⟨_,fun f w1 h1=>by go_simp; rfl,?_⟩
  simp only[Act.put,nrA,nrB,nrC,Nat.reduceAdd]
  refine⟨fun f w1 A1 h1 hA hN hd K hK=>by
   go_simp
   refine(den_any x _ A1 w1 (later (RatP.keeps _) hx h1 hN) hA).mono ?_
   rintro e w' ⟨v,rfl,hb,hi⟩
   exact hK _ _ hb hi,?_⟩
  simp only[Act.put,nrA,nrB,nrC,Nat.reduceAdd]
  refine⟨fun f w1 A1 m1 h1 hA hN hAm hm0 e hz hd K hK=>by
   simp only[e] at hK ⊢
   have i1:IntP x.den (f 12) w1 A1:=hd 12 (by simp)
   go_simp
   refine(mul_any m1 0 _ _ y.num x.den _ _ A1 w1 hz (by decide) noW_zInt (later (IntP.keeps _) hyn h1 hN) i1 (by have:=hly.1; omega) (by have:=hlx.2; simp; omega)).mono ?_
   rintro e w' ⟨rfl,hp⟩
   exact hK _ w' hp.1 (hp.intP (by decide) hA),?_⟩
  simp only[Act.put,nrA,nrB,nrC,Nat.reduceAdd]
  refine⟨fun f w1 A1 h1 hA hN hd K hK=>by
   have i1:IntP (x.num*(y.den:Int)) (f 6) w1 A1:=hd 6 (by simp)
   have i2:IntP (y.num*(x.den:Int)) (f 13) w1 A1:=hd 13 (by simp)
   go_simp
   refine(Cmp_any _ _ _ _ A1 w1 i1 i2 (by omega) (by omega)).mono ?_
   rintro e w' ⟨rfl,hb⟩
   rw[cmpR_int,←HZ.out]
   exact hK _ _ hb rfl,?_⟩
  intro f w1 h1 hF
  have hv:f 14=.int .i64 cz:=hF.2
  clear hF
  simp only[Act.put,nrA,nrB,nrC]
  rw[hv]
  generalize f 5=v5
  generalize f 6=v6
  generalize f 12=v12
  generalize f 13=v13
  clear hv hx hy hxn hyn
  go_wp2
  go_ret
  exact⟨rfl,br.drew.trans h1⟩
end Go.Proofs.YthklnbaddobieaaGreat
set_option linter.unusedSimpArgs false
namespace Go.Proofs.YthklnbaddobieaaGreat
open Go.RowKit Tr
theorem qc_ext{x y:QC}(h1:x.re=y.re)(h2:x.im=y.im):x=y:=by cases x; cases y; simp at h1 h2; rw[h1,h2]
theorem qmr(x y:QC):(x*y).re=x.re*y.re - x.im*y.im:=rfl
theorem qmi(x y:QC):(x*y).im=x.re*y.im+x.im*y.re:=rfl
theorem qar(x y:QC):(x+y).re=x.re+y.re:=rfl
theorem qai(x y:QC):(x+y).im=x.im+y.im:=rfl
theorem qsr(x y:QC):(x - y).re=x.re - y.re:=rfl
theorem qsi(x y:QC):(x - y).im=x.im - y.im:=rfl
def frm8(cs:List Int)(a b n:BitVec 3):BitVec 3×BitVec 3×BitVec 3:=cs.foldl (fun s c=>(s.1*a - s.2.1*b+BitVec.ofInt 3 c*s.2.2,s.1*b+s.2.1*a,s.2.2*n)) (0,0,1)
def NoRoot(cs:List Int):Prop:=∀ a b n:BitVec 3,(frm8 cs a b n).1=0→(frm8 cs a b n).2.1=0→a.toNat % 2=0∧b.toNat % 2=0∧n.toNat % 2=0
instance (cs:List Int):Decidable (NoRoot cs):=by unfold NoRoot; infer_instance
theorem num_den(q:Rat):q*((q.den:Int):Rat)=q.num:=by
 have h:=Rat.num_divInt_den q
 rw[Rat.divInt_eq_div] at h
 have hd:((q.den:Int):Rat)≠0:=by exact_mod_cast q.den_nz
 have key:∀(x n d:Rat),n / d=x→d≠0→x*d=n:=by intros; grind
 exact key _ _ _ h hd
def fg(s:QC):Nat→QC×QC
 | 0=>(⟨1,0⟩,⟨0,0⟩)
 | k+1=>(s*((fg s k).1 - (fg s k).2) - (fg s k).1,(fg s k).1 - (fg s k).2)
theorem qc_sub0{x y:QC}:x - y=⟨0,0⟩↔x=y:=by
 constructor
 ·intro h
  have h1:x.re - y.re=0:=congrArg QC.re h
  have h2:x.im - y.im=0:=congrArg QC.im h
  apply qc_ext<;>grind
 ·rintro rfl; apply qc_ext<;>simp only[qsr,qsi]<;>grind
def cj(z:QC):QC:=⟨z.re,-z.im⟩
end Go.Proofs.YthklnbaddobieaaGreat
namespace Tr
end Tr
namespace Go.Proofs.YthklnbaddobieaaGreat
open Go.RowKit Tr
end Go.Proofs.YthklnbaddobieaaGreat
namespace Go.Proofs.YthklnbaddobieaaGreat
open Go.RowKit Tr
def nm(z:QC):Rat:=z.re*z.re+z.im*z.im
end Go.Proofs.YthklnbaddobieaaGreat
namespace Go.Proofs.YthklnbaddobieaaGreat
open Go.RowKit Tr
end Go.Proofs.YthklnbaddobieaaGreat
namespace Go.Proofs.YthklnbaddobieaaGreat
open Go.RowKit Tr
theorem scmp(x y:Int)(hx:WL x.natAbs 1073741824)(hy:WL y.natAbs 1073741824):PureC Tryz.prog 109 [encZ x,encZ y] (.int .i64 (cmpI x y)):=by
  have sx:=ssign x
  have sy:=ssign y
  have hu:=gUnder x.natAbs y.natAbs (hx.mono (by decide))
  rcases Int.lt_trichotomy x 0 with h1|h1|h1<;>rcases Int.lt_trichotomy y 0 with h2|h2|h2
  · rw[Int.sign_eq_neg_one_of_neg h1] at sx; rw[Int.sign_eq_neg_one_of_neg h2] at sy
    rcases(by omega:x.natAbs<y.natAbs∨x.natAbs=y.natAbs∨y.natAbs<x.natAbs) with h3|h3|h3
    · rw[show cmpZ x.natAbs y.natAbs=-1 by unfold cmpZ; rw[if_pos (by omega)]] at hu
      rw[show cmpI x y=1 by unfold cmpI; rw[if_neg (by omega),if_pos (by omega)]]
      exact ev_pure (hp := true) (L := cz x ++ cz y ++ [gw (words x.natAbs),gw (words y.natAbs)]) tys_ok mixed
          [gp 106 [.row [.sym 0,.sym 1]] (.r (.c (.lit (.int .i64 (-1))))) eo106 sx rfl rfl,gp 106 [.row [.sym 2,.sym 3]] (.r (.c (.lit (.int .i64 (-1))))) eo106 sy rfl rfl,gm1 169 (.c (.sym 1)) (.r (.c (.sym 4))) eo169 (gWords x.natAbs (hx.mono (by decide))),gm1 169 (.c (.sym 3)) (.r (.c (.sym 5))) eo169 (gWords y.natAbs (hy.mono (by decide))),gm2x 171 (.c (.sym 4)) (.c (.sym 5)) (.r (.c (.lit (.int .i64 (-1))))) eo171 hu] [] []
          Tryz.func109 100 [.row [.sym 0,.sym 1],.row [.sym 2,.sym 3]] (.r (.c (.lit (.int .i64 1)))) (by kernel_rfl) rfl rfl
    · rw[show cmpZ x.natAbs y.natAbs=0 by unfold cmpZ; rw[if_neg (by omega),if_neg (by omega)]] at hu
      rw[show cmpI x y=0 by unfold cmpI; rw[if_neg (by omega),if_neg (by omega)]]
      exact ev_pure (hp := true) (L := cz x ++ cz y ++ [gw (words x.natAbs),gw (words y.natAbs)]) tys_ok mixed
          [gp 106 [.row [.sym 0,.sym 1]] (.r (.c (.lit (.int .i64 (-1))))) eo106 sx rfl rfl,gp 106 [.row [.sym 2,.sym 3]] (.r (.c (.lit (.int .i64 (-1))))) eo106 sy rfl rfl,gm1 169 (.c (.sym 1)) (.r (.c (.sym 4))) eo169 (gWords x.natAbs (hx.mono (by decide))),gm1 169 (.c (.sym 3)) (.r (.c (.sym 5))) eo169 (gWords y.natAbs (hy.mono (by decide))),gm2x 171 (.c (.sym 4)) (.c (.sym 5)) (.r (.c (.lit (.int .i64 0)))) eo171 hu] [] []
          Tryz.func109 100 [.row [.sym 0,.sym 1],.row [.sym 2,.sym 3]] (.r (.c (.lit (.int .i64 0)))) (by kernel_rfl) rfl rfl
    · rw[show cmpZ x.natAbs y.natAbs=1 by unfold cmpZ; rw[if_neg (by omega),if_pos (by omega)]] at hu
      rw[show cmpI x y=-1 by unfold cmpI; rw[if_pos (by omega)]]
      exact ev_pure (hp := true) (L := cz x ++ cz y ++ [gw (words x.natAbs),gw (words y.natAbs)]) tys_ok mixed
          [gp 106 [.row [.sym 0,.sym 1]] (.r (.c (.lit (.int .i64 (-1))))) eo106 sx rfl rfl,gp 106 [.row [.sym 2,.sym 3]] (.r (.c (.lit (.int .i64 (-1))))) eo106 sy rfl rfl,gm1 169 (.c (.sym 1)) (.r (.c (.sym 4))) eo169 (gWords x.natAbs (hx.mono (by decide))),gm1 169 (.c (.sym 3)) (.r (.c (.sym 5))) eo169 (gWords y.natAbs (hy.mono (by decide))),gm2x 171 (.c (.sym 4)) (.c (.sym 5)) (.r (.c (.lit (.int .i64 1)))) eo171 hu] [] []
          Tryz.func109 100 [.row [.sym 0,.sym 1],.row [.sym 2,.sym 3]] (.r (.c (.lit (.int .i64 (-1))))) (by kernel_rfl) rfl rfl
  · rw[Int.sign_eq_neg_one_of_neg h1] at sx; rw[(by rw[h2]; rfl:y.sign=0)] at sy
    rw[show cmpI x y=-1 by unfold cmpI; rw[if_pos (by omega)]]
    exact ev_pure (hp := true) (L := cz x ++ cz y ++ [gw (words x.natAbs),gw (words y.natAbs)]) tys_ok mixed
          [gp 106 [.row [.sym 0,.sym 1]] (.r (.c (.lit (.int .i64 (-1))))) eo106 sx rfl rfl,gp 106 [.row [.sym 2,.sym 3]] (.r (.c (.lit (.int .i64 0)))) eo106 sy rfl rfl] [] []
          Tryz.func109 100 [.row [.sym 0,.sym 1],.row [.sym 2,.sym 3]] (.r (.c (.lit (.int .i64 (-1))))) (by kernel_rfl) rfl rfl
  · rw[Int.sign_eq_neg_one_of_neg h1] at sx; rw[Int.sign_eq_one_of_pos h2] at sy
    rw[show cmpI x y=-1 by unfold cmpI; rw[if_pos (by omega)]]
    exact ev_pure (hp := true) (L := cz x ++ cz y ++ [gw (words x.natAbs),gw (words y.natAbs)]) tys_ok mixed
          [gp 106 [.row [.sym 0,.sym 1]] (.r (.c (.lit (.int .i64 (-1))))) eo106 sx rfl rfl,gp 106 [.row [.sym 2,.sym 3]] (.r (.c (.lit (.int .i64 1)))) eo106 sy rfl rfl] [] []
          Tryz.func109 100 [.row [.sym 0,.sym 1],.row [.sym 2,.sym 3]] (.r (.c (.lit (.int .i64 (-1))))) (by kernel_rfl) rfl rfl
  · rw[(by rw[h1]; rfl:x.sign=0)] at sx; rw[Int.sign_eq_neg_one_of_neg h2] at sy
    rw[show cmpI x y=1 by unfold cmpI; rw[if_neg (by omega),if_pos (by omega)]]
    exact ev_pure (hp := true) (L := cz x ++ cz y ++ [gw (words x.natAbs),gw (words y.natAbs)]) tys_ok mixed
          [gp 106 [.row [.sym 0,.sym 1]] (.r (.c (.lit (.int .i64 0)))) eo106 sx rfl rfl,gp 106 [.row [.sym 2,.sym 3]] (.r (.c (.lit (.int .i64 (-1))))) eo106 sy rfl rfl] [] []
          Tryz.func109 100 [.row [.sym 0,.sym 1],.row [.sym 2,.sym 3]] (.r (.c (.lit (.int .i64 1)))) (by kernel_rfl) rfl rfl
  · rw[(by rw[h1]; rfl:x.sign=0)] at sx; rw[(by rw[h2]; rfl:y.sign=0)] at sy
    rw[show cmpZ x.natAbs y.natAbs=0 by unfold cmpZ; rw[if_neg (by omega),if_neg (by omega)]] at hu
    rw[show cmpI x y=0 by unfold cmpI; rw[if_neg (by omega),if_neg (by omega)]]
    exact ev_pure (hp := true) (L := cz x ++ cz y ++ [gw (words x.natAbs),gw (words y.natAbs)]) tys_ok mixed
          [gp 106 [.row [.sym 0,.sym 1]] (.r (.c (.lit (.int .i64 0)))) eo106 sx rfl rfl,gp 106 [.row [.sym 2,.sym 3]] (.r (.c (.lit (.int .i64 0)))) eo106 sy rfl rfl,gm1 169 (.c (.sym 1)) (.r (.c (.sym 4))) eo169 (gWords x.natAbs (hx.mono (by decide))),gm1 169 (.c (.sym 3)) (.r (.c (.sym 5))) eo169 (gWords y.natAbs (hy.mono (by decide))),gm2x 171 (.c (.sym 4)) (.c (.sym 5)) (.r (.c (.lit (.int .i64 0)))) eo171 hu] [] []
          Tryz.func109 100 [.row [.sym 0,.sym 1],.row [.sym 2,.sym 3]] (.r (.c (.lit (.int .i64 0)))) (by kernel_rfl) rfl rfl
  · rw[(by rw[h1]; rfl:x.sign=0)] at sx; rw[Int.sign_eq_one_of_pos h2] at sy
    rw[show cmpI x y=-1 by unfold cmpI; rw[if_pos (by omega)]]
    exact ev_pure (hp := true) (L := cz x ++ cz y ++ [gw (words x.natAbs),gw (words y.natAbs)]) tys_ok mixed
          [gp 106 [.row [.sym 0,.sym 1]] (.r (.c (.lit (.int .i64 0)))) eo106 sx rfl rfl,gp 106 [.row [.sym 2,.sym 3]] (.r (.c (.lit (.int .i64 1)))) eo106 sy rfl rfl] [] []
          Tryz.func109 100 [.row [.sym 0,.sym 1],.row [.sym 2,.sym 3]] (.r (.c (.lit (.int .i64 (-1))))) (by kernel_rfl) rfl rfl
  · rw[Int.sign_eq_one_of_pos h1] at sx; rw[Int.sign_eq_neg_one_of_neg h2] at sy
    rw[show cmpI x y=1 by unfold cmpI; rw[if_neg (by omega),if_pos (by omega)]]
    exact ev_pure (hp := true) (L := cz x ++ cz y ++ [gw (words x.natAbs),gw (words y.natAbs)]) tys_ok mixed
          [gp 106 [.row [.sym 0,.sym 1]] (.r (.c (.lit (.int .i64 1)))) eo106 sx rfl rfl,gp 106 [.row [.sym 2,.sym 3]] (.r (.c (.lit (.int .i64 (-1))))) eo106 sy rfl rfl] [] []
          Tryz.func109 100 [.row [.sym 0,.sym 1],.row [.sym 2,.sym 3]] (.r (.c (.lit (.int .i64 1)))) (by kernel_rfl) rfl rfl
  · rw[Int.sign_eq_one_of_pos h1] at sx; rw[(by rw[h2]; rfl:y.sign=0)] at sy
    rw[show cmpI x y=1 by unfold cmpI; rw[if_neg (by omega),if_pos (by omega)]]
    exact ev_pure (hp := true) (L := cz x ++ cz y ++ [gw (words x.natAbs),gw (words y.natAbs)]) tys_ok mixed
          [gp 106 [.row [.sym 0,.sym 1]] (.r (.c (.lit (.int .i64 1)))) eo106 sx rfl rfl,gp 106 [.row [.sym 2,.sym 3]] (.r (.c (.lit (.int .i64 0)))) eo106 sy rfl rfl] [] []
          Tryz.func109 100 [.row [.sym 0,.sym 1],.row [.sym 2,.sym 3]] (.r (.c (.lit (.int .i64 1)))) (by kernel_rfl) rfl rfl
  · rw[Int.sign_eq_one_of_pos h1] at sx; rw[Int.sign_eq_one_of_pos h2] at sy
    rcases(by omega:x.natAbs<y.natAbs∨x.natAbs=y.natAbs∨y.natAbs<x.natAbs) with h3|h3|h3
    · rw[show cmpZ x.natAbs y.natAbs=-1 by unfold cmpZ; rw[if_pos (by omega)]] at hu
      rw[show cmpI x y=-1 by unfold cmpI; rw[if_pos (by omega)]]
      exact ev_pure (hp := true) (L := cz x ++ cz y ++ [gw (words x.natAbs),gw (words y.natAbs)]) tys_ok mixed
          [gp 106 [.row [.sym 0,.sym 1]] (.r (.c (.lit (.int .i64 1)))) eo106 sx rfl rfl,gp 106 [.row [.sym 2,.sym 3]] (.r (.c (.lit (.int .i64 1)))) eo106 sy rfl rfl,gm1 169 (.c (.sym 1)) (.r (.c (.sym 4))) eo169 (gWords x.natAbs (hx.mono (by decide))),gm1 169 (.c (.sym 3)) (.r (.c (.sym 5))) eo169 (gWords y.natAbs (hy.mono (by decide))),gm2x 171 (.c (.sym 4)) (.c (.sym 5)) (.r (.c (.lit (.int .i64 (-1))))) eo171 hu] [] []
          Tryz.func109 100 [.row [.sym 0,.sym 1],.row [.sym 2,.sym 3]] (.r (.c (.lit (.int .i64 (-1))))) (by kernel_rfl) rfl rfl
    · rw[show cmpZ x.natAbs y.natAbs=0 by unfold cmpZ; rw[if_neg (by omega),if_neg (by omega)]] at hu
      rw[show cmpI x y=0 by unfold cmpI; rw[if_neg (by omega),if_neg (by omega)]]
      exact ev_pure (hp := true) (L := cz x ++ cz y ++ [gw (words x.natAbs),gw (words y.natAbs)]) tys_ok mixed
          [gp 106 [.row [.sym 0,.sym 1]] (.r (.c (.lit (.int .i64 1)))) eo106 sx rfl rfl,gp 106 [.row [.sym 2,.sym 3]] (.r (.c (.lit (.int .i64 1)))) eo106 sy rfl rfl,gm1 169 (.c (.sym 1)) (.r (.c (.sym 4))) eo169 (gWords x.natAbs (hx.mono (by decide))),gm1 169 (.c (.sym 3)) (.r (.c (.sym 5))) eo169 (gWords y.natAbs (hy.mono (by decide))),gm2x 171 (.c (.sym 4)) (.c (.sym 5)) (.r (.c (.lit (.int .i64 0)))) eo171 hu] [] []
          Tryz.func109 100 [.row [.sym 0,.sym 1],.row [.sym 2,.sym 3]] (.r (.c (.lit (.int .i64 0)))) (by kernel_rfl) rfl rfl
    · rw[show cmpZ x.natAbs y.natAbs=1 by unfold cmpZ; rw[if_neg (by omega),if_pos (by omega)]] at hu
      rw[show cmpI x y=1 by unfold cmpI; rw[if_neg (by omega),if_pos (by omega)]]
      exact ev_pure (hp := true) (L := cz x ++ cz y ++ [gw (words x.natAbs),gw (words y.natAbs)]) tys_ok mixed
          [gp 106 [.row [.sym 0,.sym 1]] (.r (.c (.lit (.int .i64 1)))) eo106 sx rfl rfl,gp 106 [.row [.sym 2,.sym 3]] (.r (.c (.lit (.int .i64 1)))) eo106 sy rfl rfl,gm1 169 (.c (.sym 1)) (.r (.c (.sym 4))) eo169 (gWords x.natAbs (hx.mono (by decide))),gm1 169 (.c (.sym 3)) (.r (.c (.sym 5))) eo169 (gWords y.natAbs (hy.mono (by decide))),gm2x 171 (.c (.sym 4)) (.c (.sym 5)) (.r (.c (.lit (.int .i64 1)))) eo171 hu] [] []
          Tryz.func109 100 [.row [.sym 0,.sym 1],.row [.sym 2,.sym 3]] (.r (.c (.lit (.int .i64 1)))) (by kernel_rfl) rfl rfl
theorem fcmp(x y:Rat)(hx:RL x 134217728)(hy:RL y 134217728):PureC Tryz.prog 46 [encF x,encF y] (.int .i64 (cmpR x y)):=by
  have hc:=scmp (x.num*(y.den:Int)) (y.num*(x.den:Int)) ((WL.mul hx.wn hy.wd.i).mono (by decide)) ((WL.mul hy.wn hx.wd.i).mono (by decide))
  rw[cmpR_int] at hc
  exact ev_pure (hp:=false) (L:=cF (x)++cF (y)++cz (x.num*(y.den:Int))++cz (y.num*(x.den:Int))++[gx (.int .i64 (cmpR x y))]) tys_ok mixed
    [gp 110 [.row [.sym 0,.sym 1],.row [.lit (.bool false),.sym 5]] (.r (.row [.sym 6,.sym 7])) eo110 (stimes_zn _ _ (hx.wn.mono (by decide)) (hy.wd.mono (by decide))) rfl rfl,gp 110 [.row [.sym 3,.sym 4],.row [.lit (.bool false),.sym 2]] (.r (.row [.sym 8,.sym 9])) eo110 (stimes_zn _ _ (hy.wn.mono (by decide)) (hx.wd.mono (by decide))) rfl rfl,gp 109 [.row [.sym 6,.sym 7],.row [.sym 8,.sym 9]] (.r (.c (.sym 10))) eo109 hc rfl rfl]
    [] []
    Tryz.func46 100 [.row [.sym 0,.sym 1,.lit (.bool false),.sym 2],.row [.sym 3,.sym 4,.lit (.bool false),.sym 5]] (.r (.c (.sym 10))) (by kernel_rfl) rfl rfl
end Go.Proofs.YthklnbaddobieaaGreat
namespace Go.Proofs.YthklnbaddobieaaGreat
open Go.RowKit Tr
def N1(z:QC):FR:=.row (cn z)
def R1(q:Rat):FR:=.c (gr q)
theorem qc0{z:QC}:z=⟨0,0⟩↔z.re=0∧z.im=0:=⟨fun h=>by rw[h]; exact⟨rfl,rfl⟩,fun h=>qc_ext h.1 h.2⟩
theorem RL_nm{z:QC}{k:Nat}(h:ZL z k):RL (z.re*z.re+z.im*z.im) (k+k+(k+k)+1):=RL_add (RL_mul h.1 h.1) (RL_mul h.2 h.2)
theorem ZL_int(i j:Int)(a1:-9223372036854775808≤i)(a2:i<9223372036854775808)(b1:-9223372036854775808≤j)(b2:j<9223372036854775808):ZL ⟨(i:Rat),(j:Rat)⟩ 2:=⟨RL_i64 i a1 a2,RL_i64 j b1 b2⟩
theorem pNSub(x y:QC){m l:Nat}(hx:ZL x m)(hy:ZL y l)(hb:m+l+(m+l)<137438953472):SpecC Tryz.prog true 216 [N1 x,N1 y] (.r (N1 (x - y))) :=
 spec2 eo216 fun w A u v hR _ hu hv=>(NSub_any x.re x.im y.re y.im u v A w (cn_iff.1 hu) (cn_iff.1 hv) (hR rfl) m l hx.1 hx.2 hy.1 hy.2 hb).mono fun e w' ⟨z,h1,h2,h3⟩=>⟨z,h1,cn_iff.2 h3,h2⟩
theorem pNZero(x:QC)(r:Bool)(hr:r=true↔x=⟨0,0⟩):SpecC Tryz.prog true 183 [N1 x] (B1 r) :=
 spec1 eo183 fun w A u hR _ hu=>(NZero_any x.re x.im u A w (cn_iff.1 hu) r (hr.trans qc0)).mono fun e w' h=>⟨_,h.1,rfl,h.2⟩
theorem pEOf(z:QC)(h:ShortZ z):SpecC Tryz.prog true 181 [.row (rawQ z).cells] (.tup [N1 z,.c (gl (.bool true))]) :=
 spec1 eo181 fun w A u hR _ hu=>by
  rw[(FR.val_ok (u:=(rawQ z).val) (x:=.row (rawQ z).cells) (by kernel_rfl)).1 hu]
  obtain⟨l1,l2,l3,l4⟩:=sz_short h
  have hg:GaussOk (rawQ z).val:=⟨z,by rw[rawQ_val]; rfl,h.1,h.2⟩
  refine(EOf_any _ _ _ _ _ _ _ _ (Nat.lt_of_le_of_lt l1 (by decide)) (Nat.lt_of_le_of_lt l2 (by decide)) (Nat.lt_of_le_of_lt l3 (by decide)) (Nat.lt_of_le_of_lt l4 (by decide)) A w (hR rfl) true ⟨fun _=>hg,fun _=>rfl⟩).mono ?_
  rintro e w' ⟨u,h1,h2,z',h3,h4⟩
  have h5:=h4 hg
  have h6:z=z':=encQ_inj' ((rawQ_val z).symm.trans h5)
  subst h6
  exact⟨_,h1,⟨[u,.bool true],rfl,cn_iff.2 h3,rfl,trivial⟩,h2⟩
theorem pEOfR(g:RawG)(hs:g.Sz)(r:Bool)(hr:r=true↔GOk g.val):SpecC Tryz.prog true 181 [.row g.cells] (.tup [.row [ga,ga],.c (gx (.bool r))]) :=
 spec1 eo181 fun w A u hR _ hu=>by
  rw[(FR.val_ok (u:=g.val) (x:=.row g.cells) (by kernel_rfl)).1 hu]
  obtain⟨l1,l2,l3,l4⟩:=hs
  refine(EOf_any _ _ _ _ _ _ _ _ (Nat.lt_of_le_of_lt l1 (by decide)) (Nat.lt_of_le_of_lt l2 (by decide)) (Nat.lt_of_le_of_lt l3 (by decide)) (Nat.lt_of_le_of_lt l4 (by decide)) A w (hR rfl) r hr).mono ?_
  rintro e w' ⟨u,h1,h2,z',h3,h4⟩
  obtain⟨vs,rfl,h5⟩:=(cn_iff.2 h3:(FR.row (cn z')).R u w' A)
  exact⟨_,h1,⟨[_,.bool r],rfl,⟨vs,rfl,okg_any h5⟩,rfl,trivial⟩,h2⟩
theorem pRSign(q:Rat):SpecC Tryz.prog false 82 [R1 q] (.r (.c (gx (.int .i64 q.num.sign)))) :=
 spec1 eo82 fun w A u hR _ hu=>(RSign_any q u A w hu).mono fun e w' ⟨h1,h2⟩=>⟨_,h1,rfl,by subst h2; exact Below.refl _ _⟩
theorem pRCmp(x y:Rat){m l:Nat}(hx:RL x m)(hy:RL y l)(hb:m+l<137438953472):SpecC Tryz.prog true 40 [R1 x,R1 y] (.r (.c (gx (.int .i64 (cmpR x y))))) :=
 spec2 eo40 fun w A u v hR _ hu hv=>(RCmp_any x y u v A w hu hv m l hx hy hb).mono fun e w' ⟨h1,h2⟩=>⟨_,h1,rfl,h2⟩
theorem rNorm(x:QC)(hx:ZL x 33554432):SpecC Tryz.prog false 196 [G1 x] (.r (.row (rF (nm x)))):=spec_pure eo196 (gnorm x hx) (by kernel_rfl) (by kernel_rfl)
def F1(q:Rat):FR:=.row (rF q)
theorem rfSign(q:Rat):SpecC Tryz.prog false 52 [F1 q] (.r (.c (gx (.int .i64 q.num.sign)))):=spec_pure eo52 (fsign q) (by kernel_rfl) (by kernel_rfl)
theorem rfTimes(x y:Rat)(hx:RL x 134217728)(hy:RL y 134217728):SpecC Tryz.prog false 114 [F1 x,F1 y] (.r (F1 (x*y))):=spec_pure eo114 (ftimes x y hx hy) (by kernel_rfl) (by kernel_rfl)
theorem rfOver(x y:Rat)(hx:RL x 134217728)(hy:RL y 134217728)(h0:y≠0):SpecC Tryz.prog false 197 [F1 x,F1 y] (.r (F1 (x / y))):=spec_pure eo197 (fover x y hx hy h0) (by kernel_rfl) (by kernel_rfl)
end Go.Proofs.YthklnbaddobieaaGreat
namespace Go.Proofs.YthklnbaddobieaaGreat
open Go.RowKit Tr
def zRA:List AC:=[.lit (.bool false),.lit .nils,.lit (.bool false),.lit .nils]
def giveR{L:List GF}{f:FuncId}(ent:Tr.Enters Tryz.prog f)(b:Nat)(args:List AR)(res:AC)(q:Rat)(fa:List FR)
  (h:∀(m:Nat) (C:Array Value) (w:World) (A:Nat→Prop) (vs:List Value),Rcv A w→w.heap[m]?=some (.cells C 133 (0,0))→C.size=4→NoW (.cells C 133 (0,0))→okf fa vs w A →
   Calls Tryz.prog f (.pointer (some ⟨m,0,none⟩) :: vs).toArray w fun e w'=>e=.returned (.pointer (some ⟨m,0,none⟩))∧PutR m q w w')
  (ha:arsK L args=some fa:=by kernel_rfl) (hr:res.lk L=some (gr q):=by kernel_rfl):GC Tryz.prog L true :=
 ⟨{ f,args:=.c (.own b 0) :: args,res:=.r (.c res),needs:=[(b,⟨zRA,133,none⟩)],give:=some b },ent,fun σ w A us hR hA hu hn n hσ hAn=>by
  match us,hu with
  | u :: us,hu =>
   obtain⟨⟨n0,h0,rfl⟩,hu⟩:=hu
   have e0:n0=n:=by
    have:some n0=some n:=h0.symm.trans hσ
    cases this; rfl
   subst e0
   obtain⟨⟨n1,vs,h1,_,h2,h3⟩,_⟩:=hn
   have e1:n1=n0:=by
    have:some n1=some n0:=h1.symm.trans hσ
    cases this; rfl
   subst e1
   have e2:vs=[.bool false,.slice none 0 0,.bool false,.slice none 0 0]:=by
    match vs,h3 with
    | [a,b,c,d],⟨k1,k2,k3,k4,_⟩=>cases k1; cases k2; cases k3; cases k4; rfl
   subst e2
   refine(h n1 _ w A us (hR rfl) h2 rfl noW_zRat ((arsK_ok ha).1 hu)).mono ?_
   rintro e w' ⟨rfl,hp⟩
   exact⟨_,rfl,(AC.lk_ok hr).2 (hp.ratP (hR rfl)),hp.1⟩⟩
section
variable{L:List GF}
def gvAdd(x y:Rat){k l:Nat}(hx:RL x k)(hy:RL y l)(hb:k+l<137438953472)(b:Nat)(ax ay:AR)(res:AC)(ha:arsK L [ax,ay]=some [.c (gr x),.c (gr y)]:=by kernel_rfl)(hr:res.lk L=some (gr (x+y)):=by kernel_rfl):GC Tryz.prog L true :=
 giveR eo229 b [ax,ay] res (x+y) [.c (gr x),.c (gr y)] (fun m C w A vs hA hm h4 hC hu=>by
  match vs,hu with
  | [v,v'],hu=>exact RAdd_any m C x y v v' A w hm h4 hC hu.1 hu.2.1 k l hx hy hb) ha hr
def gvSub(x y:Rat){k l:Nat}(hx:RL x k)(hy:RL y l)(hb:k+l<137438953472)(b:Nat)(ax ay:AR)(res:AC)(ha:arsK L [ax,ay]=some [.c (gr x),.c (gr y)]:=by kernel_rfl)(hr:res.lk L=some (gr (x - y)):=by kernel_rfl):GC Tryz.prog L true :=
 giveR eo167 b [ax,ay] res (x - y) [.c (gr x),.c (gr y)] (fun m C w A vs hA hm h4 hC hu=>by
  match vs,hu with
  | [v,v'],hu=>exact RSub_any m C x y v v' A w hm h4 hC hu.1 hu.2.1 k l hx hy hb) ha hr
def gvMul(x y:Rat){k l:Nat}(hx:RL x k)(hy:RL y l)(hb:k+l<137438953472)(b:Nat)(ax ay:AR)(res:AC)(ha:arsK L [ax,ay]=some [.c (gr x),.c (gr y)]:=by kernel_rfl)(hr:res.lk L=some (gr (x*y)):=by kernel_rfl):GC Tryz.prog L true :=
 giveR eo230 b [ax,ay] res (x*y) [.c (gr x),.c (gr y)] (fun m C w A vs hA hm h4 hC hu=>by
  match vs,hu with
  | [v,v'],hu=>exact RMul_any m C x y v v' A w hm h4 hC hu.1 hu.2.1 k l hx hy hb) ha hr
def gvInv(x:Rat)(h0:x≠0){k:Nat}(hx:RL x k)(hb:k<137438953472)(b:Nat)(ax:AR)(res:AC)(ha:arsK L [ax]=some [.c (gr x)]:=by kernel_rfl)(hr:res.lk L=some (gr (x⁻¹)):=by kernel_rfl):GC Tryz.prog L true :=
 giveR eo226 b [ax] res x⁻¹ [.c (gr x)] (fun m C w A vs hA hm h4 hC hu=>by
  match vs,hu with
  | [v],hu=>exact RInv_any m C x h0 v A w hm h4 hC hu.1 k hx hb) ha hr
end
theorem pErat(q:Rat):SpecC Tryz.prog true 217 [.c (gro q)] (.r (.c (gr q))) :=
 spec1 eo217 fun w A u hR _ hu=>(erat_any q u A w hu (hR rfl)).mono fun e w' ⟨v,h1,h2,h3⟩=>⟨v,h1,h3,h2⟩
def ng(z:QC):QC:=⟨-z.re,-z.im⟩
theorem cq_cn{z:QC}{u:Value}{w:World}{A:Nat→Prop}(h:(FR.row (cq z)).R u w A):(FR.row (cn z)).R u w A:=by
 obtain⟨vs,rfl,h⟩:=h
 match vs,h with
 | [a,b],h=>exact⟨[a,b],rfl,.inr h.1,.inr h.2.1,trivial⟩
theorem cn_res{f:FuncId}{fa:List FR}{z:QC}(h:SpecC Tryz.prog true f fa (.r (.row (cq z)))):SpecC Tryz.prog true f fa (.r (.row (cn z))) :=
 ⟨h.ent,fun w A vs hR hA hu=>(h.ok w A vs hR hA hu).mono fun r w' ⟨v,h1,h2,h3⟩=>⟨v,h1,cq_cn h2,h3⟩⟩
end Go.Proofs.YthklnbaddobieaaGreat
