/- Laws for the walk. -/
import Derived.Test.YtmimficdpfmfgaaGreatVax
set_option linter.unusedVariables false
set_option maxHeartbeats 4000000
set_option maxRecDepth 100000
namespace Go.Proofs.YtmimficdpfmfgaaGreat
open Go.RowKit Tr
theorem obox(w:World)(a0 a1 a2 a3 a4 a5 a6 a7:Value) :
  ∃ W,Hid (W=(w.alloc (.cells #[a0,a1,a2,a3,a4,a5,a6,a7] 28)).alloc (.cells #[.pointer none,.pointer none] 116)∧Below w.heap.size w W∧W.heap.size=w.heap.size+2∧∀ w1,Below W.heap.size W w1→(w1.cell? ⟨w.heap.size,0,none⟩=some (a0)∧w1.cell? ⟨w.heap.size,1,none⟩=some (a1)∧w1.cell? ⟨w.heap.size,2,none⟩=some (a2)∧w1.cell? ⟨w.heap.size,3,none⟩=some (a3)∧w1.cell? ⟨w.heap.size,4,none⟩=some (a4)∧w1.cell? ⟨w.heap.size,5,none⟩=some (a5)∧w1.cell? ⟨w.heap.size,6,none⟩=some (a6)∧w1.cell? ⟨w.heap.size,7,none⟩=some (a7)) ∧
   (w1.cell? ⟨w.heap.size+1,0,none⟩=some (.pointer none)∧w1.cell? ⟨w.heap.size+1,1,none⟩=some (.pointer none)∧w1.frozen? ⟨w.heap.size+1,0,none⟩=false∧w1.frozen? ⟨w.heap.size+1,1,none⟩=false)):=by
 obtain⟨w1,hw1⟩:∃ w1,w1=w.alloc (.cells #[a0,a1,a2,a3,a4,a5,a6,a7] 28):=⟨_,rfl⟩
 have hz1:w1.heap.size=w.heap.size+1:=by rw[hw1]; simp
 have hb1:Below w.heap.size w w1:=by rw[hw1]; exact br.alloc (Nat.le_refl _) _
 obtain⟨w2,hw2⟩:∃ w2,w2=w1.alloc (.cells #[.pointer none,.pointer none] 116):=⟨_,rfl⟩
 have hz2:w2.heap.size=w.heap.size+2:=by rw[hw2]; simp[hz1]
 have hb2:Below w1.heap.size w1 w2:=by rw[hw2]; exact br.alloc (Nat.le_refl _) _
 have t2:Below w2.heap.size w2 w2:=Below.refl _ _
 have t1:Below w1.heap.size w1 w2:=hb2.trans (t2.mono hb2.size)
 refine⟨w2,Lib.hid ⟨by rw[hw2,hw1],hb1.trans (t1.mono hb1.size),hz2,fun w' h=>?_⟩⟩
 have e0:=(t1.trans (h.mono t1.size)).block w.heap.size (by rw[hw1]; simp)
 rw[hw1,heap_alloc_new] at e0
 have e1:=(t2.trans (h.mono t2.size)).block w1.heap.size (by rw[hw2]; simp)
 rw[hw2,heap_alloc_new] at e1
 rw[hz1] at e1
 refine⟨?_,?_⟩<;>simp[World.cell?,World.frozen?,e0,e1]
def OfF(v0:Value):Qcl:=fun u w A=>∃ z,NQ z u w A∧(GaussOk v0→v0=encG z.re z.im)
theorem OfF.keeps(v0:Value):(OfF v0).Keeps:=fun u w w' A A' hs hk ⟨z,h,e⟩=>⟨z,NQ.keeps z u w w' A A' hs hk h,e⟩
theorem rcv_num{w:World}{A:Nat→Prop}{n:Nat}{W:World}(hA:Rcv A w)(hb:Below w.heap.size w W)(hn:W.heap[n]?=some (.cells #[.pointer none,.pointer none] 116 (0,0))):Rcv (Mo A n) W :=
 fun b h=>h.elim (fun h=>(hA.below hb) b h) (fun h=>by subst h; exact⟨_,hn,noW_num _ _ ⟨_,rfl⟩ ⟨_,rfl⟩ _⟩)
theorem EOf_any(n1 n2 n3 n4:Bool)(s1 s2 s3 s4:ByteArray)(l1:s1.size<274877906944)(l2:s2.size<274877906944)(l3:s3.size<274877906944)(l4:s4.size<274877906944)(A:Nat→Prop)(w:World)(hA:Rcv A w)(r:Bool)(hr:r=true↔GaussOk (.agg #[.bool n1,.string s1,.bool n2,.string s2,.bool n3,.string s3,.bool n4,.string s4])) :
  Calls Tryz.prog 76 #[.agg #[.bool n1,.string s1,.bool n2,.string s2,.bool n3,.string s3,.bool n4,.string s4]] w fun e w'=>∃ u,e=.returned (.tuple #[u,.bool r])∧Below w.heap.size w w'∧OfF (.agg #[.bool n1,.string s1,.bool n2,.string s2,.bool n3,.string s3,.bool n4,.string s4]) u w' A:=by
 obtain⟨W,HV⟩:=obox w (.bool n1) (.string s1) (.bool n2) (.string s2) (.bool n3) (.string s3) (.bool n4) (.string s4)
 have H1:=Lib.hid (fun w=>ERat_any n1 n2 s1 s2 l1 l2 w)
 have H2:=Lib.hid (fun w=>ERat_any n3 n4 s3 s4 l3 l4 w)
 have hs0:w.heap.size<W.heap.size:=by have:=HV.out.2.2.1; omega
 obtain⟨⟨e0,e1,e2,e3,e4,e5,e6,e7⟩,_⟩:=HV.out.2.2.2 W br
 have hR:Rcv (Mo A (w.heap.size+1)) W:=rcv_num hA HV.out.2.1 (by
  rw[HV.out.1]
  have:=heap_alloc_new (w.alloc (.cells #[.bool n1,.string s1,.bool n2,.string s2,.bool n3,.string s3,.bool n4,.string s4] 28)) (.cells #[.pointer none,.pointer none] 116 (0,0))
  simpa using this)
 have HR:=Lib.hid (And.intro hR hr)
 clear hA hr hR
 go_enter Tryz.func76,Tryz.ntmps76
 go_wp2_with fail
 rw[←HV.out.1]
 refine Qap [(.lit,[]),(.lit,[]),(.val,[]),(.lit,[]),(.lit,[]),(.val,[])]
  (Qex [(2,Qas (Mo A (w.heap.size+1)) (MayF (.agg #[.bool n1,.string s1,.bool n2,.string s2]))),(5,Qas (Mo A (w.heap.size+1)) (MayF (.agg #[.bool n3,.string s3,.bool n4,.string s4])))]) (by kernel_rfl) ?_ ?_ (by simp) (by simp) (by kernel_rfl)
 ·exact Qax (by simp only[List.mem_cons,List.not_mem_nil,or_false]; rintro p (rfl|rfl)<;>exact Qas.keeps (MayF.keeps _))
 ·repeat (refine⟨_,fun f w1 h1=>by(have d0:=ct h1 hs0 e0; have d1:=ct h1 hs0 e1; have d2:=ct h1 hs0 e2; have d3:=ct h1 hs0 e3; have d4:=ct h1 hs0 e4; have d5:=ct h1 hs0 e5; have d6:=ct h1 hs0 e6; have d7:=ct h1 hs0 e7; go_simp; rfl),?_⟩)
  simp only[Act.put,nrA,nrB,nrC,Nat.reduceAdd]
  refine⟨fun f w1 A1 k1 hA hN hd K hK=>by
   go_simp
   refine(H1.out w1).mono ?_
   rintro e w' ⟨u,rfl,hm,hb⟩
   exact hK _ _ hb (hm.mayF hb (Qeg (HR.out.1.below (br.drew.trans k1)) hA)),?_⟩
  repeat (refine⟨_,fun f w1 h1=>by(have d0:=ct h1 hs0 e0; have d1:=ct h1 hs0 e1; have d2:=ct h1 hs0 e2; have d3:=ct h1 hs0 e3; have d4:=ct h1 hs0 e4; have d5:=ct h1 hs0 e5; have d6:=ct h1 hs0 e6; have d7:=ct h1 hs0 e7; go_simp; rfl),?_⟩)
  simp only[Act.put,nrA,nrB,nrC,Nat.reduceAdd]
  refine⟨fun f w1 A1 k1 hA hN hd K hK=>by
   go_simp
   refine(H2.out w1).mono ?_
   rintro e w' ⟨u,rfl,hm,hb⟩
   exact hK _ _ hb (hm.mayF hb (Qeg (HR.out.1.below (br.drew.trans k1)) hA)),?_⟩
  intro f w1 k1 hF
  have i2:MayF (.agg #[.bool n1,.string s1,.bool n2,.string s2]) (f 2) w1 (Mo A (w.heap.size+1)):=Qas.done (MayF.keeps _) hF.1.2
  have i5:MayF (.agg #[.bool n3,.string s3,.bool n4,.string s4]) (f 5) w1 (Mo A (w.heap.size+1)):=Qas.done (MayF.keeps _) hF.2
  clear hF
  simp only[Act.put,nrA,nrB,nrC]
  generalize f 2=x2 at *
  generalize f 5=x5 at *
  have hb1:Below W.heap.size W w1:=br.drew.trans k1
  obtain⟨_,c0,c1,f0,f1⟩:=HV.out.2.2.2 w1 hb1
  have HB:=Lib.hid (HV.out.2.1.trans (hb1.mono HV.out.2.1.size))
  clear e0 e1 e2 e3 e4 e5 e6 e7 k1 hb1 H1 H2
  rcases i2 with⟨hn1,rfl⟩|⟨q1,eq1,ok1,r1⟩
  ·have hrf:r=false:=by
    cases h:r
    ·rfl
    ·exact absurd (Qhd.1 (HR.out.2.1 h)).1 hn1
   subst hrf
   have HG:=Lib.hid (show ¬GaussOk (.agg #[.bool n1,.string s1,.bool n2,.string s2,.bool n3,.string s3,.bool n4,.string s4]) from fun h=>hn1 (Qhd.1 h).1)
   have j5:∃ b,Qef b x5 w1 (Mo A (w.heap.size+1)):=by
    rcases i5 with⟨_,rfl⟩|⟨q2,_,_,r2⟩
    ·exact⟨0,.inl ⟨rfl,rfl⟩⟩
    ·exact⟨q2,.inr r2⟩
   obtain⟨b,j5⟩:=j5
   obtain⟨p5,rfl⟩:=j5.shape
   have HJ:=Lib.hid j5
   clear i5 j5 hn1
   go_wp2_with fail
   refine bodyPost_ret (v:=.tuple #[.agg #[.pointer none,.pointer p5],.bool false]) (by simp[results,Tryz.results76,go_sem,c0,c1]) rfl ?_
   obtain⟨u,hu,hb,hz⟩:=put_numO HB.out (.inl ⟨rfl,rfl⟩:Qef 0 (.pointer none) w1 (Mo A (w.heap.size+1))) HJ.out (by omega)
   cases hu
   exact⟨_,rfl,hb,⟨⟨0,b⟩,hz,fun h=>absurd h HG.out⟩⟩
  ·obtain⟨m1,rfl⟩:=r1.shape
   rcases i5 with⟨hn2,rfl⟩|⟨q2,eq2,ok2,r2⟩
   ·have hrf:r=false:=by
     cases h:r
     ·rfl
     ·exact absurd (Qhd.1 (HR.out.2.1 h)).2 hn2
    subst hrf
    have HG:=Lib.hid (show ¬GaussOk (.agg #[.bool n1,.string s1,.bool n2,.string s2,.bool n3,.string s3,.bool n4,.string s4]) from fun h=>hn2 (Qhd.1 h).2)
    have HJ:=Lib.hid r1
    clear r1 hn2 eq1 ok1
    go_wp2_with fail
    refine bodyPost_ret (v:=.tuple #[.agg #[.pointer (some ⟨m1,0,none⟩),.pointer none],.bool false]) (by simp[results,Tryz.results76,go_sem,c0,c1]) rfl ?_
    obtain⟨u,hu,hb,hz⟩:=put_numO HB.out (.inr HJ.out) (.inl ⟨rfl,rfl⟩:Qef 0 (.pointer none) w1 (Mo A (w.heap.size+1))) (by omega)
    cases hu
    exact⟨_,rfl,hb,⟨⟨q1,0⟩,hz,fun h=>absurd h HG.out⟩⟩
   ·obtain⟨m2,rfl⟩:=r2.shape
    have hrt:r=true:=HR.out.2.2 (Qhd.2 ⟨ok1,ok2⟩)
    subst hrt
    have HJ:=Lib.hid (And.intro r1 r2)
    have HG:=Lib.hid (show .agg #[.bool n1,.string s1,.bool n2,.string s2,.bool n3,.string s3,.bool n4,.string s4]=encG q1 q2 by
     obtain⟨rfl,rfl,rfl,rfl⟩:=Qcy eq1
     obtain⟨rfl,rfl,rfl,rfl⟩:=Qcy eq2
     rfl)
    clear r1 r2 eq1 eq2 ok1 ok2
    go_wp2_with fail
    refine bodyPost_ret (v:=.tuple #[.agg #[.pointer (some ⟨m1,0,none⟩),.pointer (some ⟨m2,0,none⟩)],.bool true]) (by simp[results,Tryz.results76,go_sem,c0,c1]) rfl ?_
    obtain⟨u,hu,hb,hz⟩:=put_numO HB.out (.inr HJ.out.1) (.inr HJ.out.2) (by omega)
    cases hu
    exact⟨_,rfl,hb,⟨⟨q1,q2⟩,hz,fun _=>HG.out⟩⟩
def cmpR(x y:Rat):Int:=if x<y then -1 else if x=y then 0 else 1
theorem cmpR_int(x y:Rat):cmpI (x.num*(y.den:Int)) (y.num*(x.den:Int))=cmpR x y:=by
 unfold cmpI cmpR
 have h1:x<y↔x.num*(y.den:Int)<y.num*(x.den:Int):=Rat.lt_iff x y
 have h2:y<x↔y.num*(x.den:Int)<x.num*(y.den:Int):=Rat.lt_iff y x
 by_cases hxy:x<y
 ·rw[if_pos (h1.1 hxy),if_pos hxy]
 ·rw[if_neg (fun h=>hxy (h1.2 h)),if_neg hxy]
  by_cases hyx:y<x
  ·rw[if_pos (h2.1 hyx),if_neg (fun e=>by subst e; exact hxy hyx)]
  ·rw[if_neg (fun h=>hyx (h2.2 h)),if_pos (Rat.le_antisymm (Rat.not_lt.1 hyx) (Rat.not_lt.1 hxy))]
theorem RCmp_any(x y:Rat)(vx vy:Value)(A:Nat→Prop)(w:World)(hx:Qbb x vx w A)(hy:Qbb y vy w A)(k l:Nat)(hlx:RL x k)(hly:RL y l)(hkl:k+l<137438953472) :
  Calls Tryz.prog 149 #[vx,vy] w fun e w'=>e=.returned (.int .i64 (cmpR x y))∧Below w.heap.size w w':=by
 have hx:=hx.noA
 have hy:=hy.noA
 obtain⟨b,rfl⟩:=hx.shape
 obtain⟨b2,rfl⟩:=hy.shape
 obtain⟨_,eb,hxn,_⟩:=id hx
 cases eb
 obtain⟨_,eb,hyn,_⟩:=id hy
 cases eb
 have l1:(Qac (x.num*(y.den:Int)).natAbs).length≤k+l:=by rw[Int.natAbs_mul]; exact Qfg hlx.1 (by simpa using hly.2)
 have l2:(Qac (y.num*(x.den:Int)).natAbs).length≤k+l:=by rw[Int.natAbs_mul,Nat.add_comm]; exact Qfg hly.1 (by simpa using hlx.2)
 obtain⟨cz,hcz⟩:∃ cz,cz=cmpR x y:=⟨_,rfl⟩
 rw[←hcz]
 have HZ:=Lib.hid hcz
 clear hcz
 go_enter Tryz.func149,Tryz.ntmps149
 go_wp2_with fail
 refine Qap [(.new zI,[]),(.lit,[]),(.lit,[]),(.lit,[]),(.lit,[]),(.val,[]),(.on 0 zI,[5]),(.new zI,[]),(.lit,[]),(.lit,[]),(.lit,[]),(.lit,[]),(.val,[]),(.on 7 zI,[12]),(.val,[6,13])]
  (Qex [(5,Qcb y.den),(6,Qcb (x.num*(y.den:Int))),(12,Qcb x.den),(13,Qcb (y.num*(x.den:Int))),(14,fun v _ _=>v=.int .i64 cz)]) (by kernel_rfl) ?_ ?_ (by simp[Qaz]) (by simp) (by kernel_rfl)
 ·exact Qax (by simp[Qcb.keeps,Qit])
 ·refine⟨fun f w1=>by go_simp,?_⟩
  refine⟨_,fun f w1 h1=>by go_simp; rfl,?_⟩
  refine⟨_,fun f w1 h1=>by go_simp; rfl,?_⟩
  refine⟨_,fun f w1 h1=>by go_simp; rfl,?_⟩
  refine⟨_,fun f w1 h1=>by go_simp; rfl,?_⟩
  simp only[Act.put,nrA,nrB,nrC,Nat.reduceAdd]
  refine⟨fun f w1 A1 h1 hA hN hd K hK=>by
   go_simp
   refine(Qep y _ A1 w1 (Qde (Qbb.keeps _) hy h1 hN) hA).mono ?_
   rintro e w' ⟨v,rfl,hb,hi⟩
   exact hK _ _ hb hi,?_⟩
  simp only[Act.put,nrA,nrB,nrC,Nat.reduceAdd]
  refine⟨fun f w1 A1 m1 h1 hA hN hAm hm0 e hz hd K hK=>by
   simp only[e] at hK ⊢
   have i1:Qcb y.den (f 5) w1 A1:=hd 5 (by simp)
   go_simp
   refine(Qgh m1 0 _ _ x.num y.den _ _ A1 w1 hz (by decide) Qaz (Qde (Qcb.keeps _) hxn h1 hN) i1 (by have:=hlx.1; omega) (by have:=hly.2; simp; omega)).mono ?_
   rintro e w' ⟨rfl,hp⟩
   exact hK _ w' hp.1 (hp.intP (by decide) hA),?_⟩
  refine⟨fun f w1=>by go_simp,?_⟩
  refine⟨_,fun f w1 h1=>by go_simp; rfl,?_⟩
  refine⟨_,fun f w1 h1=>by go_simp; rfl,?_⟩
  refine⟨_,fun f w1 h1=>by go_simp; rfl,?_⟩
  refine⟨_,fun f w1 h1=>by go_simp; rfl,?_⟩
  simp only[Act.put,nrA,nrB,nrC,Nat.reduceAdd]
  refine⟨fun f w1 A1 h1 hA hN hd K hK=>by
   go_simp
   refine(Qep x _ A1 w1 (Qde (Qbb.keeps _) hx h1 hN) hA).mono ?_
   rintro e w' ⟨v,rfl,hb,hi⟩
   exact hK _ _ hb hi,?_⟩
  simp only[Act.put,nrA,nrB,nrC,Nat.reduceAdd]
  refine⟨fun f w1 A1 m1 h1 hA hN hAm hm0 e hz hd K hK=>by
   simp only[e] at hK ⊢
   have i1:Qcb x.den (f 12) w1 A1:=hd 12 (by simp)
   go_simp
   refine(Qgh m1 0 _ _ y.num x.den _ _ A1 w1 hz (by decide) Qaz (Qde (Qcb.keeps _) hyn h1 hN) i1 (by have:=hly.1; omega) (by have:=hlx.2; simp; omega)).mono ?_
   rintro e w' ⟨rfl,hp⟩
   exact hK _ w' hp.1 (hp.intP (by decide) hA),?_⟩
  simp only[Act.put,nrA,nrB,nrC,Nat.reduceAdd]
  refine⟨fun f w1 A1 h1 hA hN hd K hK=>by
   have i1:Qcb (x.num*(y.den:Int)) (f 6) w1 A1:=hd 6 (by simp)
   have i2:Qcb (y.num*(x.den:Int)) (f 13) w1 A1:=hd 13 (by simp)
   go_simp
   refine(Cmp_any _ _ _ _ A1 w1 i1 i2 (by omega) (by omega)).mono ?_
   rintro e w' ⟨rfl,hb⟩
   rw[cmpR_int,←HZ.out]
   exact hK _ _ hb rfl,?_⟩
  intro f w1 h1 hF
  have hv:f 14=.int .i64 cz:=hF.2
  clear hF
  simp only[Act.put,nrA,nrB,nrC]
  rw[hv]
  generalize f 5=v5
  generalize f 6=v6
  generalize f 12=v12
  generalize f 13=v13
  clear hv hx hy hxn hyn
  go_wp2
  go_ret
  exact⟨rfl,br.drew.trans h1⟩
theorem Qbv{x y:QC}(h1:x.re=y.re)(h2:x.im=y.im):x=y:=by cases x; cases y; simp at h1 h2; rw[h1,h2]
theorem qmr(x y:QC):(x*y).re=x.re*y.re - x.im*y.im:=rfl
theorem qmi(x y:QC):(x*y).im=x.re*y.im+x.im*y.re:=rfl
theorem qar(x y:QC):(x+y).re=x.re+y.re:=rfl
theorem qai(x y:QC):(x+y).im=x.im+y.im:=rfl
theorem qsr(x y:QC):(x - y).re=x.re - y.re:=rfl
theorem qsi(x y:QC):(x - y).im=x.im - y.im:=rfl
def frm8(cs:List Int)(a b n:BitVec 3):BitVec 3×BitVec 3×BitVec 3:=cs.foldl (fun s c=>(s.1*a - s.2.1*b+BitVec.ofInt 3 c*s.2.2,s.1*b+s.2.1*a,s.2.2*n)) (0,0,1)
def NoRoot(cs:List Int):Prop:=∀ a b n:BitVec 3,(frm8 cs a b n).1=0→(frm8 cs a b n).2.1=0→a.toNat % 2=0∧b.toNat % 2=0∧n.toNat % 2=0
instance (cs:List Int):Decidable (NoRoot cs):=by unfold NoRoot; infer_instance
theorem num_den(q:Rat):q*((q.den:Int):Rat)=q.num:=by
 have h:=Rat.num_divInt_den q
 rw[Rat.divInt_eq_div] at h
 have hd:((q.den:Int):Rat)≠0:=by exact_mod_cast q.den_nz
 have key:∀(x n d:Rat),n / d=x→d≠0→x*d=n:=by intros; grind
 exact key _ _ _ h hd
theorem qmul0{x y:QC}:x*y=⟨0,0⟩↔x=⟨0,0⟩∨y=⟨0,0⟩:=by
 constructor
 ·intro h
  have h1:x.re*y.re - x.im*y.im=0:=congrArg QC.re h
  have h2:x.re*y.im+x.im*y.re=0:=congrArg QC.im h
  have h3:(x.re*x.re+x.im*x.im)*(y.re*y.re+y.im*y.im)=0:=by grind
  rcases Rat.mul_eq_zero.1 h3 with h|h
  ·have:=Qiz x.re; have:=Qiz x.im
   have e1:x.re*x.re=0:=by grind
   have e2:x.im*x.im=0:=by grind
   exact .inl (Qbv (by rcases Rat.mul_eq_zero.1 e1 with h|h<;>exact h) (by rcases Rat.mul_eq_zero.1 e2 with h|h<;>exact h))
  ·have:=Qiz y.re; have:=Qiz y.im
   have e1:y.re*y.re=0:=by grind
   have e2:y.im*y.im=0:=by grind
   exact .inr (Qbv (by rcases Rat.mul_eq_zero.1 e1 with h|h<;>exact h) (by rcases Rat.mul_eq_zero.1 e2 with h|h<;>exact h))
 ·rintro(rfl|rfl)<;>apply Qbv<;>simp only[qmr,qmi]<;>grind
def fg(s:QC):Nat→QC×QC
 | 0=>(⟨1,0⟩,⟨0,0⟩)
 | k+1=>(s*((fg s k).1 - (fg s k).2) - (fg s k).1,(fg s k).1 - (fg s k).2)
theorem qc_sub0{x y:QC}:x - y=⟨0,0⟩↔x=y:=by
 constructor
 ·intro h
  have h1:x.re - y.re=0:=congrArg QC.re h
  have h2:x.im - y.im=0:=congrArg QC.im h
  apply Qbv<;>grind
 ·rintro rfl; apply Qbv<;>simp only[qsr,qsi]<;>grind
def cj(z:QC):QC:=⟨z.re,-z.im⟩
theorem natAbs_shl(x:Int)(N:Nat):(x*2 ^ N).natAbs=x.natAbs*2 ^ N:=by
 rw[Int.natAbs_mul]; congr 1
theorem neg_shl(x:Int)(N:Nat):decide (x*2 ^ N<0)=(decide (x<0) && decide (wv (Qac (x*2 ^ N).natAbs)≠0)):=by
 rw[Qam,natAbs_shl]
 have hp:(0:Int)<2 ^ N:=Int.pow_pos (by decide)
 have hn:0<2 ^ N:=Nat.two_pow_pos N
 by_cases h:x<0
 ·have h1:x*2 ^ N<0:=Int.mul_neg_of_neg_of_pos h hp
  have h2:x.natAbs*2 ^ N≠0:=Nat.ne_of_gt (Nat.mul_pos (by omega) hn)
  simp[h,h1]; omega
 ·have h1:¬x*2 ^ N<0:=Int.not_lt.2 (Int.mul_nonneg (by omega) (Int.le_of_lt hp))
  simp[h,h1]
theorem Lsh_any(m o:Nat)(C:Array Value)(T:TypeId)(x:Int)(vx:Value)(N:Nat)(A:Nat→Prop)(w:World)(hm:w.heap[m]?=some (.cells C T (0,0)))(ho:o+1<C.size)(hC:NoW (.cells C T (0,0)))(hx:Qcb x vx w A)(hn:(Qac x.natAbs).length<274877906944)(hN:N<1099511627776)(hl:(Qac (x.natAbs*2 ^ N)).length<1099511627776) :
  Calls Tryz.prog 280 #[.pointer (some ⟨m,o,none⟩),vx,.int .u64 N] w fun e w'=>e=.returned (.pointer (some ⟨m,o,none⟩))∧Put m o C T (x*2 ^ N) w w':=by
 obtain⟨b,bo,sl,rfl,hb,_,c0,c1,hsl⟩:=hx
 have hw:=hsl.wsl
 have hmlt:m<w.heap.size:=(Array.getElem?_eq_some_iff.1 hm).1
 have eN:IntKind.i64.wrap (N:Int)=(N:Int):=by rw[IntKind.wrap_i64]; omega
 have hleft:=fun(w1:World) (h1:Below w.heap.size w w1)=>left_any (Qac x.natAbs) N sl w1 (Qan _) (hw.below h1) (by omega) hN
 rw[Qam] at hleft
 have HL:=Lib.hid hleft
 have HN:=Lib.hid (And.intro hl eN)
 clear hleft hl eN
 go_enter Tryz.func280,Tryz.ntmps280
 go_wp2_with fail
 refine Qap [(.lit,[]),(.lit,[]),(.lit,[]),(.lit,[]),(.lit,[]),(.lit,[]),(.lit,[]),(.lit,[]),(.lit,[]),(.lit,[]),(.lit,[]),(.val,[])] (Qex [(11,fun v w A=>WSlA A w v (Qac (x.natAbs*2 ^ N)))]) (by kernel_rfl) ?_ ?_ (by simp) (by simp) (by kernel_rfl)
 ·exact Qax (by simp[keeps_wsla])
 ·refine⟨_,fun f w1 h1=>by go_simp; rfl,?_⟩
  refine⟨_,fun f w1 h1=>by go_simp; rfl,?_⟩
  refine⟨_,fun f w1 h1=>by go_simp; rfl,?_⟩
  refine⟨_,fun f w1 h1=>by go_simp; rfl,?_⟩
  refine⟨_,fun f w1 h1=>by have:=ct h1 hb c0; go_simp; rfl,?_⟩
  refine⟨_,fun f w1 h1=>by go_simp; rfl,?_⟩
  refine⟨_,fun f w1 h1=>by go_simp; rfl,?_⟩
  refine⟨_,fun f w1 h1=>by go_simp; rfl,?_⟩
  refine⟨_,fun f w1 h1=>by have:=ct h1 hb c1; go_simp; rfl,?_⟩
  refine⟨_,fun f w1 h1=>by go_simp; rfl,?_⟩
  refine⟨.int .i64 N,fun f w1 h1=>by have:=HN.out.2; go_simp,?_⟩
  simp only[Act.put,nrA,nrB,nrC,Nat.reduceAdd]
  refine⟨fun f w1 A1 h1 hA hN' hd K hK=>?_,?_⟩
  ·go_simp
   refine(HL.out w1 (br.drew.trans h1)).mono ?_
   rintro e w' ⟨v',rfl,hv,hb'⟩
   exact hK v' w' hb' (hv.avoids (hA.below hb'))
  ·intro f w1 h1 hF
   have hv:WSlA NoA w1 (f 11) (Qac (x.natAbs*2 ^ N)):=hF.2
   have hv:=hv.wsl
   clear hF
   simp only[Act.put,nrA,nrB,nrC]
   generalize f 11=v9 at *
   have h1':Below w.heap.size w w1:=br.drew.trans h1
   have his:=Qis m o C T (decide (x<0)) (Qac (x.natAbs*2 ^ N)) v9 w1 (x*2 ^ N) ((h1.block m hmlt).trans hm) ho hC (Qan _) hv HN.out.1 (by rw[Qam]; exact natAbs_shl x N) (by rw[←natAbs_shl]; exact neg_shl x N)
   have HI:=Lib.hid his
   clear his hm hC c0 c1
   go_wp2_with (go_at_call 265; refine HI.out.mono ?_; rintro e w' ⟨rfl,hp⟩)
   go_ret
   exact⟨rfl,hp.below h1'⟩
theorem nonneg_shr(n N:Nat):decide (((n / 2 ^ N:Nat):Int)<0)=(false && decide (wv (Qac (n / 2 ^ N))≠0)):=by
 have:=Int.natCast_nonneg (n / 2 ^ N)
 simp only[Bool.false_and,decide_eq_false_iff_not]; omega
theorem Rsh_any(m o:Nat)(C:Array Value)(T:TypeId)(n:Nat)(vx:Value)(N:Nat)(A:Nat→Prop)(w:World)(hm:w.heap[m]?=some (.cells C T (0,0)))(ho:o+1<C.size)(hC:NoW (.cells C T (0,0)))(hx:Qcb (n:Int) vx w A)(hn:(Qac n).length<274877906944)(hN:N<1099511627776) :
  Calls Tryz.prog 281 #[.pointer (some ⟨m,o,none⟩),vx,.int .u64 N] w fun e w'=>e=.returned (.pointer (some ⟨m,o,none⟩))∧Put m o C T ((n / 2 ^ N:Nat):Int) w w':=by
 obtain⟨b,bo,sl,rfl,hb,_,c0,c1,hsl⟩:=hx
 rw[show((n:Int)).natAbs=n from rfl] at hsl
 rw[show decide ((n:Int)<0)=false by simp] at c0
 have hw:=hsl.wsl
 have hmlt:m<w.heap.size:=(Array.getElem?_eq_some_iff.1 hm).1
 have eN:IntKind.i64.wrap (N:Int)=(N:Int):=by rw[IntKind.wrap_i64]; omega
 have hright:=right_any (Qac n) N sl w (Qan _) hw (by omega) hN
 rw[Qam] at hright
 have hwl:(Qac (n / 2 ^ N)).length<1099511627776:=by
  have h1:=Qbu n
  have h2:n / 2 ^ N<4294967296 ^ (Qac n).length:=Nat.lt_of_le_of_lt (Nat.div_le_self _ _) h1
  have:=Qak h2; omega
 have his:=fun(w1:World) (h1:Below w.heap.size w w1) v (hv:WSl w1 v (Qac (n / 2 ^ N)))=>Qis m o C T false (Qac (n / 2 ^ N)) v w1 ((n / 2 ^ N:Nat):Int) ((h1.block m hmlt).trans hm) ho hC (Qan _) hv hwl (by rw[Qam]; rfl) (nonneg_shr n N)
 have hcell:=fun(w1:World) (h1:Below w.heap.size w w1)=>(h1.cell (p:=⟨b,bo,none⟩) hb).trans c0
 have HR:=Lib.hid hright
 have HI:=Lib.hid his
 have HC:=Lib.hid hcell
 clear hright his hm hC hw hsl hcell
 go_enter Tryz.func281,Tryz.ntmps281
 go_wp2_with (go_at_call 298; refine HR.out.mono ?_; rintro e w1 ⟨v7,rfl,hv,hb1⟩; have d0:=HC.out w1 hb1; have d1:∀ k,(w1.drewN k).cell? ⟨b,bo,none⟩=some (.bool false):=fun _=>d0; have HV:=Lib.hid hv; clear hv)
 have hbn:∀ k,Below w.heap.size w (w1.drewN k):=fun k=>hb1.trans ⟨rfl,rfl,rfl,Nat.le_refl _,fun _ _=>rfl⟩
 have hX:=fun k=>HI.out (w1.drewN k) (hbn k) v7 HV.out
 have HX:=Lib.hid hX
 clear hX
 go_quiet (fail)
 go_wp2_with (go_at_call 265; refine(HX.out _).mono ?_; rintro e w' ⟨rfl,hp⟩)
 go_ret
 exact⟨rfl,hp.below (hbn _)⟩
end Go.Proofs.YtmimficdpfmfgaaGreat
namespace Tr
theorem newton_step{x r:Nat}(hr:0<r):x<((x / r+r) / 2+1)*((x / r+r) / 2+1):=by
 obtain⟨q,hq⟩:∃ q,q=x / r:=⟨_,rfl⟩
 have h1:x<(q+1)*r:=by
  rw[hq]
  have:=Nat.div_add_mod x r
  have h2:=Nat.mod_lt x hr
  rw[Nat.add_mul,Nat.one_mul,Nat.mul_comm]; omega
 rw[←hq]
 obtain⟨s,hs⟩:∃ s,s=(q+r) / 2+1:=⟨_,rfl⟩
 rw[←hs]
 have h2:q+r+1≤2*s:=by omega
 have h3:(q+r+1)*(q+r+1)≤(2*s)*(2*s):=Nat.mul_le_mul h2 h2
 have h4:4*((q+1)*r)≤(q+r+1)*(q+r+1):=by
  have key:∀ a b:Nat,4*(a*b)≤(a+b)*(a+b):=fun a b=>by
   rcases Nat.le_total a b with h|h
   ·obtain⟨d,rfl⟩:=Nat.exists_eq_add_of_le h
    have:(a+(a+d))*(a+(a+d))=4*(a*(a+d))+d*d:=by
     simp only[Nat.mul_add,Nat.add_mul,Nat.mul_comm d a]; omega
    omega
   ·obtain⟨d,rfl⟩:=Nat.exists_eq_add_of_le h
    have:(b+d+b)*(b+d+b)=4*((b+d)*b)+d*d:=by
     simp only[Nat.mul_add,Nat.add_mul,Nat.mul_comm d b]; omega
    omega
  have:=key (q+1) r
  rw[show q+1+r=q+r+1 by omega] at this
  exact this
 have h5:(2*s)*(2*s)=4*(s*s):=by
  rw[Nat.mul_mul_mul_comm]
 omega
theorem newton_end{x r:Nat}(h:r≤(x / r+r) / 2):r*r≤x:=by
 have h1:r≤x / r:=by omega
 exact Nat.le_trans (Nat.mul_le_mul_right r h1) (Nat.div_mul_le_self x r)
theorem newton_pos{x r:Nat}(hx:0<x)(hr:0<r):0<(x / r+r) / 2:=by
 by_cases h:r=1
 ·subst h; rw[Nat.div_one]; omega
 ·generalize x / r=q
  omega
theorem newton_first{x N:Nat}(h:x<2 ^ N):x<(2 ^ (N / 2+1)+1)*(2 ^ (N / 2+1)+1):=by
 have h1:(2:Nat) ^ N≤2 ^ (N / 2+1)*2 ^ (N / 2+1):=by
  rw[←Nat.pow_add]; exact Nat.pow_le_pow_right (by decide) (by omega)
 have h2:2 ^ (N / 2+1)*2 ^ (N / 2+1)≤(2 ^ (N / 2+1)+1)*(2 ^ (N / 2+1)+1):=Nat.mul_le_mul (by omega) (by omega)
 omega
theorem root_one{x a b:Nat}(h1:a*a≤x)(h2:x<(a+1)*(a+1))(h3:b*b≤x)(h4:x<(b+1)*(b+1)):a=b:=by
 rcases Nat.lt_trichotomy a b with h|h|h
 ·have:=Nat.mul_le_mul (show a+1≤b from h) (show a+1≤b from h); omega
 ·exact h
 ·have:=Nat.mul_le_mul (show b+1≤a from h) (show b+1≤a from h); omega
end Tr
namespace Go.Proofs.YtmimficdpfmfgaaGreat
open Go.RowKit Tr
def OwnI(B:Nat)(z:Int)(w:World):Prop:=∃ C,w.heap[B]?=some (.cells C 230 (0,0))∧0+1<C.size∧NoW (.cells C 230 (0,0))∧Qcb z (.pointer (some ⟨B,0,none⟩)) w NoA
theorem Put.own{B:Nat}{C:Array Value}{z:Int}{w w':World}(h:Put B 0 C 230 z w w')(ho:0+1<C.size)(hC:NoW (.cells C 230 (0,0))):OwnI B z w':=by
 have h1:=h.intP ho (A:=NoA) (fun _ h=>h.elim)
 obtain⟨h2,sl,h3,h4⟩:=h
 obtain⟨p,cap,rfl,_,_⟩:=id h4
 refine⟨_,h3,by simpa using ho,?_,h1.noA⟩
 intro cs T' fr e i k x hx
 cases e
 rw[Array.getElem?_setIfInBounds] at hx
 split at hx
 ·first|(split at hx<;>simp at hx; done)|(simp at hx; done)
 ·rw[Array.getElem?_setIfInBounds] at hx
  split at hx
  ·first|(split at hx<;>simp at hx; done)|(simp at hx; done)
  ·exact hC C _ (0,0) rfl i k x hx
theorem wsl_nil(w:World):WSl w (.slice none 0 0) []:=⟨none,0,rfl,Nat.le_refl _,fun h=>absurd rfl h⟩
theorem len_of_lt{n k:Nat}(h:n<4294967296 ^ k)(hk:k<274877906944):(Qac n).length<274877906944:=Nat.lt_of_le_of_lt (Qak h) hk
theorem sum_lt{a b i j:Nat}(h:a<4294967296 ^ i)(k:b<4294967296 ^ j):a+b<4294967296 ^ (i+j+1):=by
 have h1:4294967296 ^ i≤4294967296 ^ (i+j):=Nat.pow_le_pow_right (by decide) (by omega)
 have h2:4294967296 ^ j≤4294967296 ^ (i+j):=Nat.pow_le_pow_right (by decide) (by omega)
 rw[Nat.pow_succ]; omega
theorem shl_lt(k:Nat):2 ^ k<4294967296 ^ (k / 32+1):=by
 rw[show(4294967296:Nat)=2 ^ 32 by decide,←Nat.pow_mul]
 exact Nat.pow_lt_pow_right (by decide) (by omega)
theorem Sqrt_any(m o:Nat)(C:Array Value)(T:TypeId)(x R:Nat)(h1:R*R≤x)(h2:x<(R+1)*(R+1))(vx:Value)(A:Nat→Prop)(w:World)(hm:w.heap[m]?=some (.cells C T (0,0)))(ho:o+1<C.size)(hC:NoW (.cells C T (0,0)))(hx:Qcb (x:Int) vx w A)(hn:(Qac x).length<1073741824) :
  Calls Tryz.prog 251 #[.pointer (some ⟨m,o,none⟩),vx] w fun e w'=>e=.returned (.pointer (some ⟨m,o,none⟩))∧Put m o C T (R:Int) w w':=by
 have hmlt:m<w.heap.size:=(Array.getElem?_eq_some_iff.1 hm).1
 have hsign:=Sign_any (x:Int) vx A w hx
 have HS:=Lib.hid hsign
 clear hsign
 by_cases hz:x=0
 ·have hR:R=0:=by
   rcases Nat.eq_zero_or_pos R with h|h
   ·exact h
   ·have:=Nat.mul_le_mul h h; omega
  subst hR
  have his:=Qis m o C T false [] (.slice none 0 0) w 0 hm ho hC Qfw (wsl_nil w) (by simp) (by simp[wv]) (by simp)
  have HI:=Lib.hid his
  have e0:(x:Int).sign=0:=by rw[hz]; rfl
  have HE:=Lib.hid e0
  clear his hm hC hx e0
  go_enter Tryz.func251,Tryz.ntmps251
  go_wp2_with (first
   | (go_at_call 176; refine HS.out.mono ?_; rintro e w' ⟨rfl,rfl⟩; rw[HE.out])
   | (go_at_call 265; refine HI.out.mono ?_; rintro e w' ⟨rfl,hp⟩))
  go_ret
  exact⟨rfl,hp⟩
 ·have hpos:0<x:=Nat.pos_of_ne_zero hz
  have e1:(x:Int).sign=1:=Int.sign_eq_one_of_pos (by omega)
  have hx0:Qcb (x:Int) vx w NoA:=hx.noA
  have hbit:=fun(w1:World) (hb:Below w.heap.size w w1)=>BitLen_any (x:Int) vx NoA w1 (hx0.below hb) (by rw[show((x:Int)).natAbs=x from rfl]; omega)
  have HB:=Lib.hid hbit
  have HE:=Lib.hid e1
  have HM:=Lib.hid (And.intro hm hC)
  have HX:=Lib.hid hx0
  have HN:=Lib.hid hn
  clear hm hC hx hx0 e1 hbit hn hz
  go_enter Tryz.func251,Tryz.ntmps251
  go_wp2_with (first
   | (go_at_call 176; refine HS.out.mono ?_; rintro e w' ⟨rfl,rfl⟩; rw[HE.out])
   | (go_at_call 247; refine(Qgu 1 (by decide) (by decide) _).mono ?_; rintro e w2 ⟨v1,rfl,hv1⟩))
  have hb2:Below w.heap.size w w2:=(br.alloc (Nat.le_refl _) _).trans (hv1.1.mono (by simp))
  refine(HB.out w2 hb2).mono ?_
  rintro e w3 ⟨N,rfl,hN,hN2,hb3⟩
  have e2:(N:Int).tdiv 2=((N / 2:Nat):Int):=by rw[Int.tdiv_eq_ediv_of_nonneg (by omega)]; omega
  have hN3:N<34359738368:=by
   have:=HN.out
   rw[show((x:Int)).natAbs=x from rfl] at hN2; omega
  have e3:IntKind.u64.wrap (((N / 2:Nat):Int)+1)=((N / 2+1:Nat):Int):=by rw[IntKind.wrap_u64]; omega
  have e4:IntKind.i64.wrap (((N / 2:Nat):Int)+1)=((N / 2:Nat):Int)+1:=by rw[IntKind.wrap_i64]; omega
  go_wp2_with fail
  have e5:((N:Int) / 2+1)=((N / 2+1:Nat):Int):=by omega
  rw[e5]
  have k1:w2.heap[w.heap.size]?=some (.cells #[.bool false,.slice none 0 0] 230 (0,0)):=(hv1.1.block _ (by simp)).trans (heap_alloc_new w _)
  have k2:=(hb3.block w.heap.size (Array.getElem?_eq_some_iff.1 k1).1).trans k1
  have hi1:Qcb (1:Int) v1 w3 NoA:=(hv1.2 NoA (fun _ h=>h.elim)).below hb3
  have hsl:=shl_lt (N / 2+1)
  refine(Lsh_any w.heap.size 0 _ _ (1:Int) v1 (N / 2+1) NoA w3 k2 (by decide) Qaz hi1 (by rw[show(1:Int).natAbs=1 from rfl]; exact len_of_lt (k:=1) (by decide) (by decide)) (by omega) (by
   rw[show(1:Int).natAbs=1 from rfl,Nat.one_mul]
   exact Nat.lt_of_le_of_lt (Qak hsl) (by omega))).mono ?_
  rintro e w4 ⟨rfl,hp4⟩
  obtain⟨C4,_,_,_,hi4⟩:=hp4.own (by decide) Qaz
  rw[Int.one_mul,show(2:Int) ^ (N / 2+1)=((2 ^ (N / 2+1):Nat):Int) by simp] at hi4
  have hb4:Below w.heap.size w w4:=(hb2.trans (hb3.mono hb2.size)).trans (hp4.1.below (Nat.le_refl _) (Nat.le_trans hb2.size hb3.size))
  have hf:=newton_first (x:=x) hN.out.1
  have hK:N / 2<17179869184:=by omega
  obtain⟨K,hKe⟩:∃ K,K=(N / 2+1) / 32+1:=⟨_,rfl⟩
  have hK2:K<536870914:=by omega
  rw[←hKe] at hsl
  obtain⟨g0,hg0⟩:∃ g0,g0=2 ^ (N / 2+1):=⟨_,rfl⟩
  have hg1:0<g0:=by rw[hg0]; exact Nat.two_pow_pos _
  rw[←hg0] at hf hsl hi4
  have HF:=Lib.hid (And.intro hf (And.intro hsl hg1))
  clear hf hsl hN hp4 hi1 k1 k2 hv1 hb3 hb2 e3 e4 e5 e2 hK hKe hg0 hg1 hN2 hN3
  go_wp2_with fail
  go_loopg [5,6] g0 (fun g p q wr=>Qcb (g:Int) p wr NoA∧Hid (0<g)∧Hid (x<(g+1)*(g+1))∧Hid (g<4294967296 ^ K)∧Below w.heap.size w wr)
  case atStart=>exact⟨hi4,Lib.hid HF.out.2.2,Lib.hid HF.out.1,Lib.hid HF.out.2.1,hb4⟩
  case round =>
   obtain⟨hr,hg,hf,hl,hB⟩:=hrel
   have hxb:∀{w1:World},Below w.heap.size w w1→Qcb (x:Int) vx w1 NoA:=fun h=>HX.out.below h
   have hlx:(Qac ((x:Int)).natAbs).length<274877906944:=by have:=HN.out; rw[show((x:Int)).natAbs=x from rfl]; omega
   have hlg:(Qac ((gk:Int)).natAbs).length<274877906944:=len_of_lt hl.out (by omega)
   have hq:x / gk<4294967296 ^ (Qac x).length:=Nat.lt_of_le_of_lt (Nat.div_le_self _ _) (Qbu x)
   have hsum:=sum_lt hq hl.out
   have hlq:=len_of_lt hq (by have:=HN.out; omega)
   have hls:=len_of_lt hsum (by have:=HN.out; omega)
   have hlr:(Qac ((x / gk+gk) / 2 ^ 1)).length<274877906944:=len_of_lt (Nat.lt_of_le_of_lt (Nat.div_le_self _ _) hsum) (by have:=HN.out; omega)
   have hsK:(x / gk+gk) / 2 ^ 1<gk→(x / gk+gk) / 2 ^ 1<4294967296 ^ K:=fun h=>Nat.lt_trans h hl.out
   have hstep:=newton_step (x:=x) hg.out
   have hspos:=newton_pos hpos hg.out
   have hend:=newton_end (x:=x) (r:=gk)
   obtain⟨s,hs⟩:∃ s,s=(x / gk+gk) / 2 ^ 1:=⟨_,rfl⟩
   rw[show(x / gk+gk) / 2=s by rw[hs]] at hstep hspos hend
   rw[←hs] at hlr hsK
   have HS2:=Lib.hid hs
   have HL:=Lib.hid (And.intro hlx (And.intro hlg (And.intro hlq (And.intro hls hlr))))
   have HW:=Lib.hid (And.intro hstep (And.intro hspos (And.intro hend hsK)))
   have HG:=Lib.hid (show(gk:Int)≠0 by have:=hg.out; omega)
   clear hq hsum hlx hlg hlq hls hlr hsK hstep hspos hend hs
   go_wp2_with fail
   have hb0:Below wr.heap.size wr (wr.alloc (.cells #[.bool false,.slice none 0 0] 230)):=br.alloc (Nat.le_refl _) _
   refine(Quo_any wr.heap.size 0 _ _ (x:Int) (gk:Int) HG.out vx u5 NoA _ (heap_alloc_new wr _) (by decide) Qaz (hxb (hB.trans (hb0.mono hB.size))) (hr.below hb0) HL.out.1).mono ?_
   rintro e w5 ⟨rfl,hp5⟩
   rw[show((x:Int)).tdiv (gk:Int)=((x / gk:Nat):Int) from rfl] at hp5
   obtain⟨C5,a1,a2,a3,a4⟩:=hp5.own (by decide) Qaz
   have hb5:Below wr.heap.size wr w5:=hb0.trans (hp5.1.below (Nat.le_refl _) hb0.size)
   go_wp2_with fail
   refine(Add_any wr.heap.size 0 C5 _ ((x / gk:Nat):Int) (gk:Int) _ u5 NoA w5 a1 a2 a3 a4 (hr.below hb5) HL.out.2.2.1 HL.out.2.1).mono ?_
   rintro e w6 ⟨rfl,hp6⟩
   rw[show((x / gk:Nat):Int)+(gk:Int)=((x / gk+gk:Nat):Int) by omega] at hp6
   obtain⟨C6,c1,c2,c3,c4⟩:=hp6.own a2 a3
   have hb6:Below wr.heap.size wr w6:=hb5.trans (hp6.1.below (Nat.le_refl _) hb5.size)
   go_wp2_with fail
   refine(Rsh_any wr.heap.size 0 C6 _ (x / gk+gk) _ 1 NoA w6 c1 c2 c3 c4 HL.out.2.2.2.1 (by decide)).mono ?_
   rintro e w7 ⟨rfl,hp7⟩
   rw[←HS2.out] at hp7
   obtain⟨C7,d1,d2,d3,d4⟩:=hp7.own c2 c3
   have hb7:Below wr.heap.size wr w7:=hb6.trans (hp7.1.below (Nat.le_refl _) hb6.size)
   clear hp5 hp6 hp7 a1 a2 a3 a4 c1 c2 c3 c4
   go_wp2_with fail
   refine(Cmp_any (s:Int) (gk:Int) _ u5 NoA w7 d4 (hr.below hb7) HL.out.2.2.2.2 HL.out.2.1).mono ?_
   rintro e w8 ⟨rfl,hb8⟩
   have hb9:Below wr.heap.size wr w8:=hb7.trans (hb8.mono hb7.size)
   by_cases hc:s<gk
   ·rw[show cmpI (s:Int) (gk:Int)=-1 by unfold cmpI; rw[if_pos (by omega)]]
    go_wp2_with fail
    go_roundg s
    case rel=>exact⟨d4.below hb8,Lib.hid HW.out.2.1,Lib.hid HW.out.1,Lib.hid (HW.out.2.2.2 hc),hB.trans (hb9.mono hB.size)⟩
    case measure=>exact hc
   ·have hR:gk=R:=root_one (HW.out.2.2.1 (by omega)) hf.out h1 h2
    have hset:=set_any m o C T (gk:Int) u5 NoA w8 ((hb9.block m (by have:=hB.size; omega)).trans ((hB.block m hmlt).trans HM.out.1)) ho HM.out.2 (hr.below hb9) HL.out.2.1
    have HT:=Lib.hid hset
    have hfin:Below w.heap.size w w8:=hB.trans (hb9.mono hB.size)
    clear hset d1 d2 d3 d4 hr
    by_cases hc2:gk<s
    ·rw[show cmpI (s:Int) (gk:Int)=1 by unfold cmpI; rw[if_neg (by omega),if_pos (by omega)]]
     go_wp2_with (go_at_call 255; refine HT.out.mono ?_; rintro e w9 ⟨rfl,hp9⟩)
     go_ret
     rw[hR] at hp9
     exact⟨rfl,hp9.below hfin⟩
    ·rw[show cmpI (s:Int) (gk:Int)=0 by unfold cmpI; rw[if_neg (by omega),if_neg (by omega)]]
     go_wp2_with (go_at_call 255; refine HT.out.mono ?_; rintro e w9 ⟨rfl,hp9⟩)
     go_ret
     rw[hR] at hp9
     exact⟨rfl,hp9.below hfin⟩
end Go.Proofs.YtmimficdpfmfgaaGreat
namespace Tr
end Tr
namespace Go.Proofs.YtmimficdpfmfgaaGreat
open Go.RowKit Tr
theorem sq_inj{a b:Rat}(ha:0≤a)(hb:0≤b)(h:a*a=b*b):a=b:=by
 have h1:(a - b)*(a+b)=0:=by grind
 rcases Rat.mul_eq_zero.1 h1 with h|h
 ·grind
 ·have h2:a=0:=by grind
  grind
def HasR(q:Rat):Prop:=∃ r,0≤r∧r*r=q
open Classical in
noncomputable def sqr(q:Rat):Rat:=if h:HasR q then h.choose else 0
theorem sqr_ok{q:Rat}(h:HasR q):0≤sqr q∧sqr q*sqr q=q:=by
 unfold sqr; rw[dif_pos h]; exact h.choose_spec
theorem sqr_eq{q r:Rat}(h0:0≤r)(h:r*r=q):HasR q∧sqr q=r:=by
 have hh:HasR q:=⟨r,h0,h⟩
 exact⟨hh,sq_inj (sqr_ok hh).1 h0 ((sqr_ok hh).2.trans h.symm)⟩
theorem sqr_nonneg(q:Rat):0≤sqr q:=by
 unfold sqr; split
 ·rename_i h; exact h.choose_spec.1
 ·exact Rat.le_refl
def nm(z:QC):Rat:=z.re*z.re+z.im*z.im
theorem self_coprime(r:Rat):Nat.gcd (r.num*r.num).natAbs (r.den*r.den)=1:=by
 rw[Int.natAbs_mul]
 have h:Nat.Coprime r.num.natAbs r.den:=r.reduced
 exact(h.mul_left h).mul_right (h.mul_left h)
theorem sqr_parts{q:Rat}(h:HasR q):q.num=(sqr q).num*(sqr q).num∧q.den=(sqr q).den*(sqr q).den:=by
 have e:=(sqr_ok h).2
 generalize sqr q=r at *
 subst e
 have g:=self_coprime r
 constructor
 ·rw[Rat.num_mul,g]; simp
 ·rw[Rat.den_mul,g]; simp
theorem root_ex(n:Nat):∃ R,R*R≤n∧n<(R+1)*(R+1):=by
 induction n with
 | zero=>exact⟨0,by decide,by decide⟩
 | succ n ih =>
  obtain⟨R,h1,h2⟩:=ih
  by_cases h:n+1<(R+1)*(R+1)
  ·exact⟨R,by omega,h⟩
  ·refine⟨R+1,by omega,?_⟩
   have:(R+1+1)*(R+1+1)=(R+1)*(R+1)+2*R+3:=by rw[Nat.mul_add,Nat.add_mul]; omega
   omega
theorem root_sq{R S n:Nat}(h1:R*R≤n)(h2:n<(R+1)*(R+1))(h:S*S=n):R=S:=by
 subst h
 rcases Nat.lt_trichotomy R S with k|k|k
 ·exact absurd (Nat.mul_le_mul (show R+1≤S from k) (show R+1≤S from k)) (by omega)
 ·exact k
 ·exact absurd (Nat.mul_le_mul (show S+1≤R from k) (show S+1≤R from k)) (by
   have:(S+1)*(S+1)=S*S+2*S+1:=by rw[Nat.mul_add,Nat.add_mul]; omega
   omega)
theorem sqr_roots{q:Rat}(h0:0≤q){R D:Nat}(r1:R*R≤q.num.natAbs)(r2:q.num.natAbs<(R+1)*(R+1))(d1:D*D≤q.den)(d2:q.den<(D+1)*(D+1)) :
  (HasR q↔R*R=q.num.natAbs∧D*D=q.den)∧D≠0∧(HasR q→sqr q=Rat.divInt R D∧(sqr q).num=R∧(sqr q).den=D):=by
 have hD:D≠0:=by
  intro e; subst e
  have:=q.den_nz
  have:q.den<1:=d2
  omega
 have hn:(q.num.natAbs:Int)=q.num:=Int.natAbs_of_nonneg (Rat.num_nonneg.2 h0)
 have key:HasR q→(sqr q).num=R∧(sqr q).den=D:=fun h=>by
  obtain⟨e1,e2⟩:=sqr_parts h
  have hs:0≤(sqr q).num:=Rat.num_nonneg.2 (sqr_nonneg q)
  have e3:(sqr q).num.natAbs*(sqr q).num.natAbs=q.num.natAbs:=by rw[←Int.natAbs_mul,←e1]
  have e4:=root_sq r1 r2 e3
  have e5:=root_sq d1 d2 e2.symm
  exact⟨by rw[e4]; exact(Int.natAbs_of_nonneg hs).symm,e5.symm⟩
 refine⟨⟨fun h=>?_,fun⟨e1,e2⟩=>?_⟩,hD,fun h=>⟨?_,key h⟩⟩
 ·obtain⟨e1,e2⟩:=sqr_parts h
  obtain⟨k1,k2⟩:=key h
  refine⟨?_,by rw[e2,k2]⟩
  rw[e1,k1,Int.natAbs_mul,Int.natAbs_natCast]
 ·refine⟨Rat.divInt R D,?_,?_⟩
  ·exact Rat.divInt_nonneg (Int.natCast_nonneg R) (Int.natCast_nonneg D)
  ·rw[Rat.divInt_mul_divInt]
   conv=>rhs; rw[←Rat.num_divInt_den q]
   rw[←hn,←e1,←e2,Int.natCast_mul,Int.natCast_mul]
 ·obtain⟨k1,k2⟩:=key h
  conv=>lhs; rw[←Rat.num_divInt_den (sqr q)]
  rw[k1,k2]
theorem str_sz{n k:Nat}(h:(Qac n).length≤k):(Qck n).size≤4*k:=by
 rw[Qey]
 refine Qip (Nat.lt_of_lt_of_le (Qbu n) ?_)
 rw[show(4294967296:Nat)=256 ^ 4 from rfl,←Nat.pow_mul]
 exact Nat.pow_le_pow_right (by decide) (by omega)
theorem fsmall(n d:Int)(h1:-9223372036854775808≤n)(h2:n<9223372036854775808)(h3:-9223372036854775808≤d)(h4:d<9223372036854775808)(h0:d≠0):PureC Tryz.prog 69 [.int .i64 n,.int .i64 d] (Qfh (Rat.divInt n d)):=by
  have ho:=fof n d h0 (Nat.le_trans (Qak (k:=2) (by omega)) (by decide)) (Nat.le_trans (Qak (k:=2) (by omega)) (by decide))
  exact Qbi (hp:=false) (L:=[gx (.int .i64 n),gx (.int .i64 d)]++cz n++cz d++cF (Rat.divInt n d)) Qae Qai
    [gp 145 [.c (.sym 0)] (.r (.row [.sym 2,.sym 3])) eo145 (sof n h1 h2) rfl rfl,gp 145 [.c (.sym 1)] (.r (.row [.sym 4,.sym 5])) eo145 (sof d h3 h4) rfl rfl,gp 166 [.row [.sym 2,.sym 3],.row [.sym 4,.sym 5]] (.r (.row [.sym 6,.sym 7,.lit (.bool false),.sym 8])) eo166 ho rfl rfl]
    [] []
    Tryz.func69 100 [.c (.sym 0),.c (.sym 1)] (.r (.row [.sym 6,.sym 7,.lit (.bool false),.sym 8])) (by kernel_rfl) rfl rfl
end Go.Proofs.YtmimficdpfmfgaaGreat
