/- Laws for the walk. -/
import Derived.Test.YtgjkifdilflcbaaGreatZbc
import Derived.Test.YtgjkifdilflcbaaGreatZbf
set_option linter.unusedVariables false
set_option maxHeartbeats 4000000
namespace Go.Proofs.YtgjkifdilflcbaaGreat
open Go.RowKit Tr
def N1(z:QC):FR:=.row (cn z)
def R1(q:Rat):FR:=.c (gr q)
theorem qc0{z:QC}:z=⟨0,0⟩↔z.re=0∧z.im=0:=⟨fun h=>by rw[h]; exact⟨rfl,rfl⟩,fun h=>qc_ext h.1 h.2⟩
theorem qc_nz{z:QC}(h:z≠⟨0,0⟩):z.re*z.re+z.im*z.im≠0:=fun e=>h (qc0.2 (norm_zero.1 e))
theorem ZL_dv{x y:QC}{k l:Nat}(h0:y≠⟨0,0⟩)(hx:ZL x k)(hy:ZL y l):ZL (x / y) (k+l+(k+l)+1+(l+l+(l+l)+1)):=ZL_div (qc_nz h0) hx hy
theorem RL_nm{z:QC}{k:Nat}(h:ZL z k):RL (z.re*z.re+z.im*z.im) (k+k+(k+k)+1):=RL_add (RL_mul h.1 h.1) (RL_mul h.2 h.2)
theorem ZL_cj{z:QC}{k:Nat}(h:ZL z k):ZL (cj z) k:=⟨h.1,RL_neg h.2⟩
theorem ZL_int(i j:Int)(a1:-9223372036854775808≤i)(a2:i<9223372036854775808)(b1:-9223372036854775808≤j)(b2:j<9223372036854775808):ZL ⟨(i:Rat),(j:Rat)⟩ 2:=⟨RL_i64 i a1 a2,RL_i64 j b1 b2⟩
theorem pNMul(x y:QC){m l:Nat}(hx:ZL x m)(hy:ZL y l)(hb:m+l+(m+l)<137438953472):SpecC Tryz.prog true 144 [N1 x,N1 y] (.r (N1 (x*y))) :=
 spec2 eo144 fun w A u v hR _ hu hv=>(NMul_any x.re x.im y.re y.im u v A w (cn_iff.1 hu) (cn_iff.1 hv) (hR rfl) m l hx.1 hx.2 hy.1 hy.2 hb).mono fun e w' ⟨z,h1,h2,h3⟩=>⟨z,h1,cn_iff.2 h3,h2⟩
theorem pNSub(x y:QC){m l:Nat}(hx:ZL x m)(hy:ZL y l)(hb:m+l+(m+l)<137438953472):SpecC Tryz.prog true 145 [N1 x,N1 y] (.r (N1 (x - y))) :=
 spec2 eo145 fun w A u v hR _ hu hv=>(NSub_any x.re x.im y.re y.im u v A w (cn_iff.1 hu) (cn_iff.1 hv) (hR rfl) m l hx.1 hx.2 hy.1 hy.2 hb).mono fun e w' ⟨z,h1,h2,h3⟩=>⟨z,h1,cn_iff.2 h3,h2⟩
theorem pNZero(x:QC)(r:Bool)(hr:r=true↔x=⟨0,0⟩):SpecC Tryz.prog true 111 [N1 x] (B1 r) :=
 spec1 eo111 fun w A u hR _ hu=>(NZero_any x.re x.im u A w (cn_iff.1 hu) r (hr.trans qc0)).mono fun e w' h=>⟨_,h.1,rfl,h.2⟩
theorem pNDiv(x y:QC)(h0:y≠⟨0,0⟩){m l:Nat}(hx:ZL x m)(hy:ZL y l)(hb:(m+l+(m+l)+1)+(l+l+(l+l)+1)<137438953472):SpecC Tryz.prog true 147 [N1 x,N1 y] (.r (N1 (x / y))) :=
 spec2 eo147 fun w A u v hR _ hu hv=>(NDiv_any x.re x.im y.re y.im _ rfl (qc_nz h0) u v A w (cn_iff.1 hu) (cn_iff.1 hv) (hR rfl) m l hx.1 hx.2 hy.1 hy.2 hb).mono fun e w' ⟨z,h1,h2,h3⟩=>⟨z,h1,cn_iff.2 h3,h2⟩
theorem pNInt(i j:Int)(a1:-9223372036854775808≤i)(a2:i<9223372036854775808)(b1:-9223372036854775808≤j)(b2:j<9223372036854775808):SpecC Tryz.prog true 112 [.c (gx (.int .i64 i)),.c (gx (.int .i64 j))] (.r (N1 ⟨(i:Rat),(j:Rat)⟩)) :=
 spec2 eo112 fun w A u v hR _ hu hv=>by
  cases(hu:u=_); cases(hv:v=_)
  exact(EInt_any i j a1 a2 b1 b2 A w (hR rfl)).mono fun e w' ⟨z,h1,h2,h3⟩=>⟨z,h1,cn_iff.2 h3,h2⟩
theorem outG_short{z:QC}(h:ShortZ z){w:World}{A:Nat→Prop}:FV.R (.tup [.row (rawQ z).cells,.c (gl (.int .i64 0))]) (.tuple #[outG z.re z.im,.int .i64 (outGC z.re z.im)]) w A:=by
 refine(FV.val_ok (u:=.tuple #[(rawQ z).val,.int .i64 0]) (by kernel_rfl)).2 ?_
 rw[outG,outGC,if_pos (show ShortF z.re∧ShortF z.im from h),if_pos (show ShortF z.re∧ShortF z.im from h),rawQ_val]; rfl
theorem pNTold(z:QC)(hz:ZL z 137438953472)(h:ShortZ z):SpecC Tryz.prog true 115 [N1 z] (.tup [.row (rawQ z).cells,.c (gl (.int .i64 0))]) :=
 spec1 eo115 fun w A u hR _ hu=>(NTold_any z.re z.im u A w (cn_iff.1 hu) hz.1 hz.2).mono fun e w' h1=>⟨_,h1.1,outG_short h,h1.2⟩
theorem outG_zero{z:QC}(h:¬ShortZ z){w:World}{A:Nat→Prop}:FV.R (.tup [.row zGG,.c (gl (.int .i64 4))]) (.tuple #[outG z.re z.im,.int .i64 (outGC z.re z.im)]) w A:=by
 refine(FV.val_ok (u:=.tuple #[zG,.int .i64 4]) (by kernel_rfl)).2 ?_
 rw[outG,outGC,if_neg (show ¬(ShortF z.re∧ShortF z.im) from h),if_neg (show ¬(ShortF z.re∧ShortF z.im) from h)]
theorem pEOf(z:QC)(h:ShortZ z):SpecC Tryz.prog true 109 [.row (rawQ z).cells] (.tup [N1 z,.c (gl (.bool true))]) :=
 spec1 eo109 fun w A u hR _ hu=>by
  rw[(FR.val_ok (u:=(rawQ z).val) (x:=.row (rawQ z).cells) (by kernel_rfl)).1 hu]
  obtain⟨l1,l2,l3,l4⟩:=sz_short h
  have hg:GaussOk (rawQ z).val:=⟨z,by rw[rawQ_val]; rfl,h.1,h.2⟩
  refine(EOf_any _ _ _ _ _ _ _ _ (Nat.lt_of_le_of_lt l1 (by decide)) (Nat.lt_of_le_of_lt l2 (by decide)) (Nat.lt_of_le_of_lt l3 (by decide)) (Nat.lt_of_le_of_lt l4 (by decide)) A w (hR rfl) true ⟨fun _=>hg,fun _=>rfl⟩).mono ?_
  rintro e w' ⟨u,h1,h2,z',h3,h4⟩
  have h5:=h4 hg
  have h6:z=z':=encQ_inj' ((rawQ_val z).symm.trans h5)
  subst h6
  exact⟨_,h1,⟨[u,.bool true],rfl,cn_iff.2 h3,rfl,trivial⟩,h2⟩
theorem pEOfR(g:RawG)(hs:g.Sz)(r:Bool)(hr:r=true↔GOk g.val):SpecC Tryz.prog true 109 [.row g.cells] (.tup [.row [ga,ga],.c (gx (.bool r))]) :=
 spec1 eo109 fun w A u hR _ hu=>by
  rw[(FR.val_ok (u:=g.val) (x:=.row g.cells) (by kernel_rfl)).1 hu]
  obtain⟨l1,l2,l3,l4⟩:=hs
  refine(EOf_any _ _ _ _ _ _ _ _ (Nat.lt_of_le_of_lt l1 (by decide)) (Nat.lt_of_le_of_lt l2 (by decide)) (Nat.lt_of_le_of_lt l3 (by decide)) (Nat.lt_of_le_of_lt l4 (by decide)) A w (hR rfl) r hr).mono ?_
  rintro e w' ⟨u,h1,h2,z',h3,h4⟩
  obtain⟨vs,rfl,h5⟩:=(cn_iff.2 h3:(FR.row (cn z')).R u w' A)
  exact⟨_,h1,⟨[_,.bool r],rfl,⟨vs,rfl,okg_any h5⟩,rfl,trivial⟩,h2⟩
theorem pQConj(x:QC)(hx:ZL x 137438953472):SpecC Tryz.prog true 79 [Q1 x] (.r (Q1 (cj x))) :=
 spec1 eo79 fun w A u hR _ hu=>(XConj_any x.re x.im u A w (cq_iff.1 hu) (hR rfl) hx.2).mono fun e w' ⟨z,h1,h2,h3⟩=>⟨z,h1,cq_iff.2 h3,h2⟩
theorem pQDiv(x y:QC)(h0:y≠⟨0,0⟩){m l:Nat}(hx:ZL x m)(hy:ZL y l)(hb:(m+l+(m+l)+1)+(l+l+(l+l)+1)<137438953472):SpecC Tryz.prog true 45 [Q1 x,Q1 y] (.r (Q1 (x / y))) :=
 spec2 eo45 fun w A u v hR _ hu hv=>(XDiv_any x.re x.im y.re y.im _ rfl (qc_nz h0) u v A w (cq_iff.1 hu) (cq_iff.1 hv) (hR rfl) m l hx.1 hx.2 hy.1 hy.2 hb).mono fun e w' ⟨z,h1,h2,h3⟩=>⟨z,h1,cq_iff.2 h3,h2⟩
theorem pQZero(x:QC)(r:Bool)(hr:r=true↔x=⟨0,0⟩):SpecC Tryz.prog true 38 [Q1 x] (B1 r) :=
 spec1 eo38 fun w A u hR _ hu=>(XZero_any x.re x.im u A w (cq_iff.1 hu) r (hr.trans qc0)).mono fun e w' h=>⟨_,h.1,rfl,h.2⟩
theorem qc_eq{x y:QC}:x=y↔x.re=y.re∧x.im=y.im:=⟨fun h=>by rw[h]; exact⟨rfl,rfl⟩,fun h=>qc_ext h.1 h.2⟩
theorem pQSame(x y:QC){m l:Nat}(hx:ZL x m)(hy:ZL y l)(hb:m+l<137438953472)(r:Bool)(hr:r=true↔x=y):SpecC Tryz.prog true 39 [Q1 x,Q1 y] (B1 r) :=
 spec2 eo39 fun w A u v hR _ hu hv=>(XSame_any x.re x.im y.re y.im u v A w (cq_iff.1 hu) (cq_iff.1 hv) m l hx.1 hx.2 hy.1 hy.2 hb r (hr.trans qc_eq)).mono fun e w' h=>⟨_,h.1,rfl,h.2⟩
theorem pQInt(i j:Int)(a1:-9223372036854775808≤i)(a2:i<9223372036854775808)(b1:-9223372036854775808≤j)(b2:j<9223372036854775808):SpecC Tryz.prog true 40 [.c (gx (.int .i64 i)),.c (gx (.int .i64 j))] (.r (Q1 ⟨(i:Rat),(j:Rat)⟩)) :=
 spec2 eo40 fun w A u v hR _ hu hv=>by
  cases(hu:u=_); cases(hv:v=_)
  exact(XInt_any i j a1 a2 b1 b2 A w (hR rfl)).mono fun e w' ⟨z,h1,h2,h3⟩=>⟨z,h1,cq_iff.2 h3,h2⟩
theorem pQGauss(z:QC)(hz:ZL z 137438953472)(h:ShortZ z):SpecC Tryz.prog true 22 [Q1 z] (.tup [.row (rawQ z).cells,.c (gl (.int .i64 0))]) :=
 spec1 eo22 fun w A u hR _ hu=>(XGauss_any z.re z.im u A w (cq_iff.1 hu) hz.1 hz.2).mono fun e w' h1=>⟨_,h1.1,outG_short h,h1.2⟩
theorem pQGaussL(z:QC)(hz:ZL z 137438953472)(h:¬ShortZ z):SpecC Tryz.prog true 22 [Q1 z] (.tup [.row zGG,.c (gl (.int .i64 4))]) :=
 spec1 eo22 fun w A u hR _ hu=>(XGauss_any z.re z.im u A w (cq_iff.1 hu) hz.1 hz.2).mono fun e w' h1=>⟨_,h1.1,outG_zero h,h1.2⟩
theorem pRSign(q:Rat):SpecC Tryz.prog false 31 [R1 q] (.r (.c (gx (.int .i64 q.num.sign)))) :=
 spec1 eo31 fun w A u hR _ hu=>(RSign_any q u A w hu).mono fun e w' ⟨h1,h2⟩=>⟨_,h1,rfl,by subst h2; exact Below.refl _ _⟩
theorem pRCmp(x y:Rat){m l:Nat}(hx:RL x m)(hy:RL y l)(hb:m+l<137438953472):SpecC Tryz.prog true 32 [R1 x,R1 y] (.r (.c (gx (.int .i64 (cmpR x y))))) :=
 spec2 eo32 fun w A u v hR _ hu hv=>(RCmp_any x y u v A w hu hv m l hx hy hb).mono fun e w' ⟨h1,h2⟩=>⟨_,h1,rfl,h2⟩
theorem pNewRat(i j:Int)(a1:-9223372036854775808≤i)(a2:i<9223372036854775808)(b1:-9223372036854775808≤j)(b2:j<9223372036854775808)(h0:j≠0):SpecC Tryz.prog true 29 [.c (gx (.int .i64 i)),.c (gx (.int .i64 j))] (.r (R1 (Rat.divInt i j))) :=
 spec2 eo29 fun w A u v hR _ hu hv=>by
  cases(hu:u=_); cases(hv:v=_)
  exact(NewRat_any i j a1 a2 b1 b2 h0 w).mono fun e w' ⟨z,h1,h2⟩=>⟨z,h1,h2.2 A (hR rfl),h2.1⟩
theorem rOver(x y:QC)(hx:ZL x 6000000)(hy:ZL y 6000000)(h0:y≠⟨0,0⟩):SpecC Tryz.prog false 51 [G1 x,G1 y] (.r (G1 (x / y))):=spec_pure eo51 (gover x y hx hy h0) (by kernel_rfl) (by kernel_rfl)
theorem rConj(x:QC):SpecC Tryz.prog false 93 [G1 x] (.r (G1 (cj x))):=spec_pure eo93 (gconj x) (by kernel_rfl) (by kernel_rfl)
theorem rNorm(x:QC)(hx:ZL x 33554432):SpecC Tryz.prog false 95 [G1 x] (.r (.row (rF (nm x)))):=spec_pure eo95 (gnorm x hx) (by kernel_rfl) (by kernel_rfl)
theorem rFits(z:QC)(r:Bool)(hr:r=true↔ShortZ z):SpecC Tryz.prog false 26 [G1 z] (B1 r):=spec_pure eo26 (gfits z r hr) (by kernel_rfl) (by kernel_rfl)
def F1(q:Rat):FR:=.row (rF q)
theorem rfSign(q:Rat):SpecC Tryz.prog false 36 [F1 q] (.r (.c (gx (.int .i64 q.num.sign)))):=spec_pure eo36 (fsign q) (by kernel_rfl) (by kernel_rfl)
theorem rfInt(n:Int)(h1:-9223372036854775808≤n)(h2:n<9223372036854775808):SpecC Tryz.prog false 35 [.c (gx (.int .i64 n))] (.r (F1 (n:Rat))):=spec_pure eo35 (fint n h1 h2) (by kernel_rfl) (by kernel_rfl)
theorem rfCmp(x y:Rat)(hx:RL x 134217728)(hy:RL y 134217728):SpecC Tryz.prog false 34 [F1 x,F1 y] (.r (.c (gx (.int .i64 (cmpR x y))))):=spec_pure eo34 (fcmp x y hx hy) (by kernel_rfl) (by kernel_rfl)
theorem rfPlus(x y:Rat)(hx:RL x 134217728)(hy:RL y 134217728):SpecC Tryz.prog false 106 [F1 x,F1 y] (.r (F1 (x+y))):=spec_pure eo106 (fplus x y hx hy) (by kernel_rfl) (by kernel_rfl)
theorem rfTimes(x y:Rat)(hx:RL x 134217728)(hy:RL y 134217728):SpecC Tryz.prog false 108 [F1 x,F1 y] (.r (F1 (x*y))):=spec_pure eo108 (ftimes x y hx hy) (by kernel_rfl) (by kernel_rfl)
theorem rfOver(x y:Rat)(hx:RL x 134217728)(hy:RL y 134217728)(h0:y≠0):SpecC Tryz.prog false 94 [F1 x,F1 y] (.r (F1 (x / y))):=spec_pure eo94 (fover x y hx hy h0) (by kernel_rfl) (by kernel_rfl)
theorem rfHalf:SpecC Tryz.prog false 132 [.c (gl (.int .i64 1)),.c (gl (.int .i64 2))] (.r (F1 (1 / 2))):=spec_pure eo132 (v:=encF (1 / 2)) (by have:=fsmall 1 2 (by decide) (by decide) (by decide) (by decide) (by decide); rw[show Rat.divInt 1 2=1 / 2 by decide +kernel] at this; exact this) (by kernel_rfl) (by kernel_rfl)
theorem rfSqrt(x:Rat)(hx:RL x 134217728)(h:HasR x):SpecC Tryz.prog false 131 [F1 x] (.tup [F1 (sqr x),.c (gl (.bool true))]):=spec_pure eo131 ((fsqrt x hx).1 h) (by kernel_rfl) (by kernel_rfl)
theorem rfSqrtN(x:Rat)(hx:RL x 134217728)(h:¬HasR x):SpecC Tryz.prog false 131 [F1 x] (.tup [.row zFG,.c (gl (.bool false))]):=spec_pure eo131 ((fsqrt x hx).2 h) (by kernel_rfl) (by kernel_rfl)
end Go.Proofs.YtgjkifdilflcbaaGreat
namespace Go.Proofs.YtgjkifdilflcbaaGreat
open Go.RowKit Tr
theorem sign_lt0{q:Rat}(hq:q<0):decide (q.num<0)=true:=by
 have:=mt Rat.num_nonneg.1 (Rat.not_le.2 hq)
 exact decide_eq_true (by omega)
theorem sign_ge0{q:Rat}(hq:0≤q):decide (q.num<0)=false:=by
 have:=Rat.num_nonneg.2 hq
 exact decide_eq_false (by omega)
set_option maxRecDepth 100000 in
theorem square_neg(q:Rat)(hq:q<0)(vx:Value)(A:Nat→Prop)(w:World)(hx:RatP q vx w A) :
  Calls Tryz.prog 155 #[vx] w fun e w'=>e=.returned (.tuple #[.pointer none,.bool false])∧Below w.heap.size w w':=by
 have hs:=sign_lt0 hq
 have HS:=Lib.hid (RSign_any q vx A w hx)
 obtain⟨b,rfl⟩:=hx.shape
 go_enter Tryz.func155,Tryz.ntmps155
 go_wp2_with fail
 refine HS.out.mono ?_
 rintro e w' ⟨rfl,rfl⟩
 go_wp2_with fail
 refine bodyPost_ret (v:=.tuple #[.pointer none,.bool false]) (by simp[results,Tryz.results155,go_sem]) rfl ?_
 exact⟨rfl,Below.refl _ _⟩
set_option maxRecDepth 100000 in
theorem square_pos(q:Rat)(hq:0≤q)(R D:Nat)(r1:R*R≤q.num.natAbs)(r2:q.num.natAbs<(R+1)*(R+1))(d1:D*D≤q.den)(d2:q.den<(D+1)*(D+1))(hD:D≠0)(r:Bool)(hr:r=true↔Rat.divInt R D*Rat.divInt R D=q)
  (vx:Value) (A:Nat→Prop) (w:World) (hx:RatP q vx w A) (hA:Rcv A w) (k:Nat) (hl:RL q k) (hk:k≤134217728) :
  Calls Tryz.prog 155 #[vx] w fun e w'=>∃ m,e=.returned (.tuple #[.pointer (some ⟨m,0,none⟩),.bool r])∧Below w.heap.size w w'∧RatB w.heap.size (Rat.divInt R D) (.pointer (some ⟨m,0,none⟩)) w' A:=by
 have hs:=sign_ge0 hq
 have HS:=Lib.hid (RSign_any q vx A w hx)
 obtain⟨b,rfl⟩:=hx.shape
 have lR:(words R).length≤k:=wl_mono (Nat.le_trans (Nat.le_mul_self R) r1) hl.1
 have lD:(words D).length≤k:=wl_mono (Nat.le_trans (Nat.le_mul_self D) d1) hl.2
 have HX:=Lib.hid (And.intro hx hA)
 have HQ:=Lib.hid (And.intro (Int.natAbs_of_nonneg (Rat.num_nonneg.2 hq)) (And.intro hl hr))
 clear hx hA hr hq hl
 go_enter Tryz.func155,Tryz.ntmps155
 go_wp2_with fail
 refine HS.out.mono ?_
 rintro e w' ⟨rfl,rfl⟩
 go_wp2_with fail
 obtain⟨w1,hw1⟩:∃ w1,w1=w.alloc (.cells #[.bool false,.slice none 0 0] 118):=⟨_,rfl⟩
 have hb1:Below w.heap.size w w1:=by rw[hw1]; exact br.alloc (Nat.le_refl _) _
 have hs1:w1.heap.size=w.heap.size+1:=by rw[hw1]; simp
 have hn1:w1.heap[w.heap.size]?=some (.cells #[.bool false,.slice none 0 0] 118 (0,0)):=by rw[hw1]; exact heap_alloc_new w _
 rw[←hw1]
 have H1:=Lib.hid (And.intro hw1 (And.intro hb1 hn1))
 clear hw1 hb1 hn1
 refine(Num_any q _ A w1 (HX.out.1.below H1.out.2.1) (HQ.out.2.1.mono (by omega))).mono ?_
 rintro e w2 ⟨v2,rfl,hv2⟩
 have H2:=Lib.hid hv2
 clear hv2
 go_wp2_with fail
 have hm2:w2.heap[w.heap.size]?=some (.cells #[.bool false,.slice none 0 0] 118 (0,0)):=(H2.out.1.block _ (by omega)).trans H1.out.2.2
 have hi2:IntP (q.num.natAbs:Int) v2 w2 NoA:=by rw[HQ.out.1]; exact H2.out.2 NoA (rcv_noA _)
 refine(Sqrt_any w.heap.size 0 _ _ q.num.natAbs R r1 r2 v2 NoA w2 hm2 (by decide) noW_zInt hi2 (by have:=HQ.out.2.1.1; omega)).mono ?_
 rintro e w3 ⟨rfl,hp3⟩
 have hs2:=H2.out.1.size
 have hb3:Below w.heap.size w w3:=H1.out.2.1.trans ((H2.out.1.mono (by omega)).trans (hp3.1.below (Nat.le_refl _) (by omega)))
 have h3:IntP (R:Int) (.pointer (some ⟨w.heap.size,0,none⟩)) w3 NoA:=(hp3.intP (by decide) (rcv_noA _)).noA
 have hs3:=hp3.1.size
 have H3:=Lib.hid (And.intro hb3 h3)
 clear hp3 hm2 hi2 hb3 h3
 go_wp2_with fail
 obtain⟨w4,hw4⟩:∃ w4,w4=w3.alloc (.cells #[.bool false,.slice none 0 0] 118):=⟨_,rfl⟩
 have hb4:Below w3.heap.size w3 w4:=by rw[hw4]; exact br.alloc (Nat.le_refl _) _
 have hs4:w4.heap.size=w3.heap.size+1:=by rw[hw4]; simp
 have hn4:w4.heap[w3.heap.size]?=some (.cells #[.bool false,.slice none 0 0] 118 (0,0)):=by rw[hw4]; exact heap_alloc_new w3 _
 rw[←hw4]
 have H4:=Lib.hid (And.intro hw4 (And.intro hb4 hn4))
 clear hw4 hb4 hn4
 have hbw4:=H3.out.1.trans (H4.out.2.1.mono (by omega))
 refine(Denom_any q _ A w4 (HX.out.1.below hbw4) (HQ.out.2.1.mono (by omega))).mono ?_
 rintro e w5 ⟨v5,rfl,hv5⟩
 have H5:=Lib.hid hv5
 clear hv5 hbw4
 go_wp2_with fail
 have hm5:w5.heap[w3.heap.size]?=some (.cells #[.bool false,.slice none 0 0] 118 (0,0)):=(H5.out.1.block _ (by omega)).trans H4.out.2.2
 refine(Sqrt_any w3.heap.size 0 _ _ q.den D d1 d2 v5 NoA w5 hm5 (by decide) noW_zInt (H5.out.2 NoA (rcv_noA _)) (by have:=HQ.out.2.1.2; omega)).mono ?_
 rintro e w6 ⟨rfl,hp6⟩
 have hs5:=H5.out.1.size
 have hb6:Below w3.heap.size w3 w6:=H4.out.2.1.trans ((H5.out.1.mono (by omega)).trans (hp6.1.below (Nat.le_refl _) (by omega)))
 have h6:IntP (D:Int) (.pointer (some ⟨w3.heap.size,0,none⟩)) w6 NoA:=(hp6.intP (by decide) (rcv_noA _)).noA
 have hs6:=hp6.1.size
 have H6:=Lib.hid (And.intro hb6 (And.intro h6 (H3.out.2.below hb6)))
 clear hp6 hm5 hb6 h6
 go_wp2_with fail
 obtain⟨w7,hw7⟩:∃ w7,w7=w6.alloc zR:=⟨_,rfl⟩
 have hb7:Below w6.heap.size w6 w7:=by rw[hw7]; exact br.alloc (Nat.le_refl _) _
 have hs7:w7.heap.size=w6.heap.size+1:=by rw[hw7]; simp
 have hn7:w7.heap[w6.heap.size]?=some zR:=by rw[hw7]; exact heap_alloc_new w6 _
 rw[←hw7]
 have H7:=Lib.hid (And.intro hw7 (And.intro hb7 hn7))
 clear hw7 hb7 hn7
 refine(SetFrac_any w6.heap.size _ R D (by omega) _ _ NoA w7 H7.out.2.2 (by decide) noW_zRat (H6.out.2.2.below H7.out.2.1) (H6.out.2.1.below H7.out.2.1) (by rw[Int.natAbs_natCast]; omega) (by rw[Int.natAbs_natCast]; omega)).mono ?_
 rintro e w8 ⟨rfl,hp8⟩
 have hs8:=hp8.1.size
 have hb8:Below w.heap.size w w8:=H3.out.1.trans ((H6.out.1.mono (by omega)).trans ((H7.out.2.1.mono (by omega)).trans (hp8.1.below (by omega) (by omega))))
 have hA8:Rcv A w7:=HX.out.2.below (H3.out.1.trans ((H6.out.1.mono (by omega)).trans (H7.out.2.1.mono (by omega))))
 have h8:RatB w.heap.size (Rat.divInt R D) (.pointer (some ⟨w6.heap.size,0,none⟩)) w8 A:=RatB.keeps _ _ _ _ _ _ _ (Nat.le_refl _) (fun b _ hna=>⟨rfl,fun h=>hna (.inr h)⟩) (hp8.ratB hA8 (rcv_noA _) (by omega) (fun b hb=>HX.out.2.lt hb))
 have H8:=Lib.hid (And.intro hb8 (And.intro h8 (hp8.ratP (rcv_noA _)).noA))
 clear hp8 hb8 h8 hA8
 go_wp2_with fail
 obtain⟨w9,hw9⟩:∃ w9,w9=w8.alloc zR:=⟨_,rfl⟩
 have hb9:Below w8.heap.size w8 w9:=by rw[hw9]; exact br.alloc (Nat.le_refl _) _
 have hs9:w9.heap.size=w8.heap.size+1:=by rw[hw9]; simp
 have hn9:w9.heap[w8.heap.size]?=some zR:=by rw[hw9]; exact heap_alloc_new w8 _
 rw[←hw9]
 have H9:=Lib.hid (And.intro hw9 (And.intro hb9 hn9))
 clear hw9 hb9 hn9
 have lS:RL (Rat.divInt R D) k:=RL_divInt (by omega) (by rw[Int.natAbs_natCast]; exact lR) (by rw[Int.natAbs_natCast]; exact lD)
 refine(RMul_any w8.heap.size _ (Rat.divInt R D) (Rat.divInt R D) _ _ NoA w9 H9.out.2.2 (by decide) noW_zRat (H8.out.2.2.below H9.out.2.1) (H8.out.2.2.below H9.out.2.1) k k lS lS (by omega)).mono ?_
 rintro e w10 ⟨rfl,hp10⟩
 have hs10:=hp10.1.size
 have hb10:Below w8.heap.size w8 w10:=H9.out.2.1.trans (hp10.1.below (Nat.le_refl _) (by omega))
 have H10:=Lib.hid (And.intro hb10 (hp10.ratP (rcv_noA _)).noA)
 clear hp10 hb10
 go_wp2_with fail
 obtain⟨cz,hcz,hcr⟩:∃ cz,cz=cmpR (Rat.divInt R D*Rat.divInt R D) q∧(cz == 0)=r:=by
  refine⟨_,rfl,?_⟩
  rw[Bool.eq_iff_iff,HQ.out.2.2,beq_iff_eq]
  unfold cmpR
  constructor
  ·intro h
   split at h
   ·cases h
   ·split at h
    ·assumption
    ·cases h
  ·intro h
   rw[h,if_neg (Rat.lt_irrefl),if_pos rfl]
 have hc:=RCmp_any (Rat.divInt R D*Rat.divInt R D) q _ _ NoA w10 H10.out.2 (HX.out.1.below (H8.out.1.trans (H10.out.1.mono H8.out.1.size))).noA (k+k) k (RL_mul lS lS) HQ.out.2.1 (by omega)
 rw[←hcz] at hc
 have HC:=Lib.hid (And.intro hc hcr)
 clear hc hcz hcr
 refine HC.out.1.mono ?_
 rintro e w11 ⟨rfl,hb11⟩
 have H11:=Lib.hid hb11
 clear hb11
 go_wp2_with fail
 rw[HC.out.2]
 refine bodyPost_ret (v:=.tuple #[.pointer (some ⟨w6.heap.size,0,none⟩),.bool r]) (by simp[results,Tryz.results155,go_sem]) rfl ?_
 have hb11:=H10.out.1.trans (H11.out.mono H10.out.1.size)
 exact⟨_,rfl,H8.out.1.trans (hb11.mono H8.out.1.size),Fact.Keeps.below (RatB.keeps _ _) hb11 H8.out.2.1⟩
theorem square_any(q:Rat)(r:Bool)(hr:r=true↔HasR q)(vx:Value)(A:Nat→Prop)(w:World)(hx:RatP q vx w A)(hA:Rcv A w)(k:Nat)(hl:RL q k)(hk:k≤134217728) :
  Calls Tryz.prog 155 #[vx] w fun e w'=>∃ u,e=.returned (.tuple #[u,.bool r])∧Below w.heap.size w w'∧(r=true→RatB w.heap.size (sqr q) u w' A):=by
 by_cases h0:0≤q
 ·obtain⟨R,r1,r2⟩:=root_ex q.num.natAbs
  obtain⟨D,d1,d2⟩:=root_ex q.den
  obtain⟨e1,e2,e3⟩:=sqr_roots h0 r1 r2 d1 d2
  refine(square_pos q h0 R D r1 r2 d1 d2 e2 r (hr.trans ⟨fun h=>?_,fun h=>⟨_,Rat.divInt_nonneg (Int.natCast_nonneg R) (Int.natCast_nonneg D),h⟩⟩) vx A w hx hA k hl hk).mono ?_
  ·rw[←(e3 h).1]; exact(sqr_ok h).2
  ·rintro e w' ⟨m,rfl,hb,h1⟩
   exact⟨_,rfl,hb,fun h=>by rw[(e3 (hr.1 h)).1]; exact h1⟩
 ·have hn:¬HasR q:=fun⟨s,h2,h3⟩=>h0 (h3▸Rat.mul_nonneg h2 h2)
  have e:r=false:=by cases r; rfl; exact absurd (hr.1 rfl) hn
  subst e
  exact(square_neg q (Rat.not_le.1 h0) vx A w hx).mono fun e w' ⟨h1,h2⟩=>⟨_,h1,h2,fun h=>by cases h⟩
end Go.Proofs.YtgjkifdilflcbaaGreat
namespace Go.Proofs.YtgjkifdilflcbaaGreat
open Go.RowKit Tr
theorem RatB.ratP{base:Nat}{q:Rat}{v:Value}{w:World}{A:Nat→Prop}(h:RatB base q v w A):RatP q v w A:=by
 obtain⟨_,_,_,_,_,_,_,_,h⟩:=h; exact h
theorem PutR.ratA{m:Nat}{q:Rat}{w w':World}(h:PutR m q w w'){A:Nat→Prop}(hA:Rcv A w)(hm:¬A m):RatP q (.pointer (some ⟨m,0,none⟩)) w' A :=
 (h.ratP hA).wider fun b hb=>⟨hb,fun e=>hm (e▸hb)⟩
theorem half_eq:Rat.divInt 1 2=1 / 2:=by decide +kernel
set_option maxRecDepth 100000 in
theorem sqrt_any(z:QC)(v:Value)(A:Nat→Prop)(w:World)(hv:CQ z v w A)(hA:Rcv A w)(k:Nat)(hz:ZL z k)(hk:k≤1000000) :
  Calls Tryz.prog 129 #[v] w fun e w'=>Below w.heap.size w w'∧(HasQ z→∃ u,e=.returned (.tuple #[u,.bool true])∧CQ (rt z) u w' A)∧(¬HasQ z→e=.returned (.tuple #[.agg #[.pointer none,.pointer none],.bool false])):=by
 obtain⟨u1,u2,rfl,h1,h2⟩:=hv
 obtain⟨W,HV,hs2,e0,e1⟩:=xbox_one w u1 u2 A hA
 have hWs:W.heap.size=w.heap.size+2:=by rw[HV.out.1]; simp
 have h1:=new_more (RatP.keeps z.re) (n:=w.heap.size+1) HV.out.2.1 (by omega) h1
 have h2:=new_more (RatP.keeps z.im) (n:=w.heap.size+1) HV.out.2.1 (by omega) h2
 have HU:=Lib.hid (And.intro h1 (And.intro h2 (And.intro e0 e1)))
 clear hA h1 h2
 obtain⟨r1,hr1⟩:∃ r1:Bool,r1=true↔HasR (nm z):=by
  by_cases h:HasR (nm z)
  ·exact⟨true,by simp[h]⟩
  ·exact⟨false,by simp[h]⟩
 have H1:=Lib.hid hr1
 clear hr1
 go_enter Tryz.func129,Tryz.ntmps129
 go_wp2_with fail
 rw[←HV.out.1]
 go_wp2_with fail
 have hA0:=HV.out.2.2.1
 refine(XNorm_any z.re z.im _ (Mo A (w.heap.size+1)) W ⟨u1,u2,rfl,FactU.done (RatP.keeps _) HU.out.1,FactU.done (RatP.keeps _) HU.out.2.1⟩ hA0 k hz.1 hz.2 (by omega)).mono ?_
 rintro e w1 ⟨v1,rfl,hb1,hn1⟩
 have lN:RL (nm z) (k+k+(k+k)+1):=RL_add (RL_mul hz.1 hz.1) (RL_mul hz.2 hz.2)
 have hS1:=Lib.hid (square_any (nm z) r1 H1.out v1 (Mo A (w.heap.size+1)) w1 hn1 (hA0.below hb1) _ lN (by omega))
 have HB1:=Lib.hid hb1
 have hW1:=hb1.size
 clear hb1 hn1 hA0
 go_wp2_with fail
 refine hS1.out.mono ?_
 rintro e w2 ⟨u3,rfl,hb2,hr2⟩
 have HB2:=Lib.hid (And.intro (HB1.out.trans (hb2.mono HB1.out.size)) hr2)
 have hW2:=hb2.size
 clear hb2 hr2 hS1
 cases r1
 ·have hno:¬HasQ z:=fun h=>by have:=H1.out.2 (rt_prog_iff.1 h).1; cases this
  obtain⟨c0,c1,f0,f1⟩:=HV.out.2.2.2 w2 HB2.out.1
  go_wp2_with fail
  refine bodyPost_ret (v:=.tuple #[.agg #[.pointer none,.pointer none],.bool false]) (by simp[results,Tryz.results129,go_sem,c0,c1]) rfl ?_
  exact⟨(((HV.out.2.1.trans (HB2.out.1.mono HV.out.2.1.size)).setCell (p:=⟨w.heap.size+1,0,none⟩) (Nat.le_succ _) _).setCell (p:=⟨w.heap.size+1,1,none⟩) (Nat.le_succ _) _),fun h=>absurd h hno,fun _=>rfl⟩
 have hn:=sqr_ok (H1.out.1 rfl)
 have lS:RL (sqr (nm z)) (k+k+(k+k)+1):=RL_sqr lN (by omega)
 have hR2:=HB2.out.2 rfl
 have HN:=Lib.hid (And.intro hn (And.intro lS hR2))
 clear hn lS hR2 lN
 go_wp2_with fail
 refine(NewRat_any 1 2 (by decide) (by decide) (by decide) (by decide) (by decide) w2).mono ?_
 rintro e w3 ⟨v3,rfl,hn3⟩
 have hW3:=hn3.1.size
 have hA3:Rcv (Mo A (w.heap.size+1)) w2:=HV.out.2.2.1.below HB2.out.1
 have H3:=Lib.hid (And.intro (HB2.out.1.trans (hn3.1.mono (by omega))) (And.intro (hn3.2 _ hA3) (Fact.Keeps.below (RatB.keeps _ _) hn3.1 HN.out.2.2)))
 clear hn3 hA3
 obtain⟨w4,hw4⟩:∃ w4,w4=w3.alloc zR:=⟨_,rfl⟩
 obtain⟨w5,hw5⟩:∃ w5,w5=w4.alloc zR:=⟨_,rfl⟩
 have hs4:w4.heap.size=w3.heap.size+1:=by rw[hw4]; simp
 have hs5:w5.heap.size=w3.heap.size+2:=by rw[hw5]; simp[hs4]
 have hb34:Below w3.heap.size w3 w4:=by rw[hw4]; exact br.alloc (Nat.le_refl _) _
 have hb45:Below w4.heap.size w4 w5:=by rw[hw5]; exact br.alloc (Nat.le_refl _) _
 have hb35:=hb34.trans (hb45.mono hb34.size)
 have hb5:Below W.heap.size W w5:=H3.out.1.trans (hb35.mono H3.out.1.size)
 have n4:w5.heap[w3.heap.size]?=some zR:=(hb45.block _ (by omega)).trans (by rw[hw4]; exact heap_alloc_new w3 _)
 have n5:w5.heap[w3.heap.size+1]?=some zR:=by rw[hw5,←hs4]; exact heap_alloc_new w4 _
 have d0:w5.cell? ⟨w.heap.size,0,none⟩=some u1:=(hb5.cell (p:=⟨w.heap.size,0,none⟩) hs2).trans HU.out.2.2.1
 rw[hw5,hw4] at d0
 have H5:=Lib.hid (And.intro hb35 (And.intro hb5 (And.intro n4 (And.intro n5 (And.intro hw4 hw5)))))
 clear hb34 hb45 hb35 hb5 n4 n5 hw4 hw5
 go_wp2_with fail
 clear d0
 rw[←H5.out.2.2.2.2.1,←H5.out.2.2.2.2.2]
 have hlt:∀ m,W.heap.size≤m→¬(Mo A (w.heap.size+1)) m:=fun m hm h=>by have:=HV.out.2.2.1.lt h; omega
 have hA5:=HV.out.2.2.1.below H5.out.2.1
 refine(RAdd_any (w3.heap.size+1) _ (sqr (nm z)) z.re u3 u1 (Mo A (w.heap.size+1)) w5 H5.out.2.2.2.1 (by decide) noW_zRat ((RatB.ratP H3.out.2.2).below H5.out.1) ((FactU.done (RatP.keeps _) HU.out.1).below H5.out.2.1) (k+k+(k+k)+1) k HN.out.2.1 hz.1 (by omega)).mono ?_
 rintro e w6 ⟨rfl,hp6⟩
 have hs6:=hp6.1.size
 have hb56:Below w3.heap.size w5 w6:=hp6.1.below (by omega) (by omega)
 have hr6:=hp6.ratA hA5 (hlt _ (by omega))
 have n6:w6.heap[w3.heap.size]?=some zR:=(hp6.1.block _ (by omega) (by omega)).trans H5.out.2.2.1
 have H6:=Lib.hid (And.intro (H5.out.1.trans hb56) (And.intro hr6 n6))
 clear hp6 hb56 hr6 n6 hA5
 go_wp2_with fail
 have hb6:=H3.out.1.trans (H6.out.1.mono H3.out.1.size)
 have hA6:=HV.out.2.2.1.below hb6
 have l6:RL (sqr (nm z)+z.re) (k+k+(k+k)+1+k+1):=RL_add HN.out.2.1 hz.1
 have lh:RL (Rat.divInt 1 2) 1:=RL_divInt (by decide) (words_length_le (by decide)) (words_length_le (by decide))
 refine(RMul_any w3.heap.size _ (Rat.divInt 1 2) (sqr (nm z)+z.re) v3 _ (Mo A (w.heap.size+1)) w6 H6.out.2.2 (by decide) noW_zRat (H3.out.2.1.below H6.out.1) H6.out.2.1 1 _ lh l6 (by omega)).mono ?_
 rintro e w7 ⟨rfl,hp7⟩
 have hs7:=hp7.1.size
 have hb7:Below w3.heap.size w3 w7:=H6.out.1.trans (hp7.1.below (Nat.le_refl _) (by omega))
 have hr7:=hp7.ratA hA6 (hlt _ (by omega))
 obtain⟨q2,hq2⟩:∃ q2,q2=(sqr (nm z)+z.re)*(1 / 2):=⟨_,rfl⟩
 have l7:RL q2 (1+(k+k+(k+k)+1+k+1)):=by rw[hq2,Rat.mul_comm,←half_eq]; exact RL_mul lh l6
 rw[half_eq,Rat.mul_comm,←hq2] at hr7
 obtain⟨r2,hr2⟩:∃ r2:Bool,r2=true↔HasR q2:=by
  by_cases h:HasR q2
  ·exact⟨true,by simp[h]⟩
  ·exact⟨false,by simp[h]⟩
 have hb7':=H3.out.1.trans (hb7.mono H3.out.1.size)
 have hS2:=Lib.hid (square_any q2 r2 hr2 _ (Mo A (w.heap.size+1)) w7 hr7 (HV.out.2.2.1.below hb7') _ l7 (by omega))
 have H7:=Lib.hid (And.intro hb7 (And.intro hq2 (And.intro hr2 l7)))
 clear hp7 hb7 hr7 hq2 hr2 l7 hb7' hb6 hA6 l6
 go_wp2_with fail
 refine hS2.out.mono ?_
 rintro e w8 ⟨u4,rfl,hb8,hx8⟩
 have hs8:=hb8.size
 have H8:=Lib.hid (And.intro (H3.out.1.trans ((H7.out.1.trans (hb8.mono (by omega))).mono H3.out.1.size)) (And.intro (Fact.Keeps.below (RatB.keeps _ _) (H7.out.1.trans (hb8.mono (by omega))) H3.out.2.2) (And.intro (H3.out.2.1.below (H7.out.1.trans (hb8.mono (by omega)))) hx8)))
 clear hb8 hx8 hS2
 obtain⟨w9,hw9⟩:∃ w9,w9=w8.alloc zR:=⟨_,rfl⟩
 obtain⟨w10,hw10⟩:∃ w10,w10=w9.alloc zR:=⟨_,rfl⟩
 have hs9:w9.heap.size=w8.heap.size+1:=by rw[hw9]; simp
 have hs10:w10.heap.size=w8.heap.size+2:=by rw[hw10]; simp[hs9]
 have hb34:Below w8.heap.size w8 w9:=by rw[hw9]; exact br.alloc (Nat.le_refl _) _
 have hb45:Below w9.heap.size w9 w10:=by rw[hw10]; exact br.alloc (Nat.le_refl _) _
 have hb35:=hb34.trans (hb45.mono hb34.size)
 have hb5:Below W.heap.size W w10:=H8.out.1.trans (hb35.mono H8.out.1.size)
 have n4:w10.heap[w8.heap.size]?=some zR:=(hb45.block _ (by omega)).trans (by rw[hw9]; exact heap_alloc_new w8 _)
 have n5:w10.heap[w8.heap.size+1]?=some zR:=by rw[hw10,←hs9]; exact heap_alloc_new w9 _
 have d0:w10.cell? ⟨w.heap.size,0,none⟩=some u1:=(hb5.cell (p:=⟨w.heap.size,0,none⟩) hs2).trans HU.out.2.2.1
 rw[hw10,hw9] at d0
 have H10:=Lib.hid (And.intro hb35 (And.intro hb5 (And.intro n4 (And.intro n5 (And.intro hw9 hw10)))))
 clear hb34 hb45 hb35 hb5 n4 n5 hw9 hw10
 go_wp2_with fail
 clear d0
 rw[←H10.out.2.2.2.2.1,←H10.out.2.2.2.2.2]
 have hA10:=HV.out.2.2.1.below H10.out.2.1
 refine(RSub_any (w8.heap.size+1) _ (sqr (nm z)) z.re u3 u1 (Mo A (w.heap.size+1)) w10 H10.out.2.2.2.1 (by decide) noW_zRat ((RatB.ratP H8.out.2.1).below H10.out.1) ((FactU.done (RatP.keeps _) HU.out.1).below H10.out.2.1) (k+k+(k+k)+1) k HN.out.2.1 hz.1 (by omega)).mono ?_
 rintro e w11 ⟨rfl,hp6⟩
 have hs11:=hp6.1.size
 have hb56:Below w8.heap.size w10 w11:=hp6.1.below (by omega) (by omega)
 have hr6:=hp6.ratA hA10 (hlt _ (by omega))
 have n6:w11.heap[w8.heap.size]?=some zR:=(hp6.1.block _ (by omega) (by omega)).trans H10.out.2.2.1
 have H11:=Lib.hid (And.intro (H10.out.1.trans hb56) (And.intro hr6 n6))
 clear hp6 hb56 hr6 n6 hA10
 go_wp2_with fail
 have hb6:=H8.out.1.trans (H11.out.1.mono H8.out.1.size)
 have hA6:=HV.out.2.2.1.below hb6
 have l6:RL (sqr (nm z) - z.re) (k+k+(k+k)+1+k+1):=RL_sub HN.out.2.1 hz.1
 refine(RMul_any w8.heap.size _ (Rat.divInt 1 2) (sqr (nm z) - z.re) v3 _ (Mo A (w.heap.size+1)) w11 H11.out.2.2 (by decide) noW_zRat (H8.out.2.2.1.below H11.out.1) H11.out.2.1 1 _ lh l6 (by omega)).mono ?_
 rintro e w12 ⟨rfl,hp7⟩
 have hs12:=hp7.1.size
 have hb7:Below w8.heap.size w8 w12:=H11.out.1.trans (hp7.1.below (Nat.le_refl _) (by omega))
 have hr7:=hp7.ratA hA6 (hlt _ (by omega))
 obtain⟨q3,hq3⟩:∃ q3,q3=(sqr (nm z) - z.re)*(1 / 2):=⟨_,rfl⟩
 have l7:RL q3 (1+(k+k+(k+k)+1+k+1)):=by rw[hq3,Rat.mul_comm,←half_eq]; exact RL_mul lh l6
 rw[half_eq,Rat.mul_comm,←hq3] at hr7
 obtain⟨r3,hr3⟩:∃ r3:Bool,r3=true↔HasR q3:=by
  by_cases h:HasR q3
  ·exact⟨true,by simp[h]⟩
  ·exact⟨false,by simp[h]⟩
 have hb7':=H8.out.1.trans (hb7.mono H8.out.1.size)
 have hS3:=Lib.hid (square_any q3 r3 hr3 _ (Mo A (w.heap.size+1)) w12 hr7 (HV.out.2.2.1.below hb7') _ l7 (by omega))
 have H12:=Lib.hid (And.intro hb7 (And.intro hq3 (And.intro hr3 l7)))
 clear hp7 hb7 hr7 hq3 hr3 l7 hb7' hb6 hA6 l6
 go_wp2_with fail
 refine hS3.out.mono ?_
 rintro e w13 ⟨u5,rfl,hb13,hx13⟩
 have hs13:=hb13.size
 have H13:=Lib.hid (And.intro (H8.out.1.trans ((H12.out.1.trans (hb13.mono (by omega))).mono H8.out.1.size)) (And.intro (H12.out.1.trans (hb13.mono (by omega))) (And.intro hb13 hx13)))
 clear hb13 hx13 hS3
 have hiff:HasQ z↔r2=true∧r3=true:=by
  rw[rt_prog_iff,H7.out.2.2.1,H12.out.2.2.1,H7.out.2.1,H12.out.2.1]
  exact⟨fun h=>h.2,fun h=>⟨H1.out.1 trivial,h⟩⟩
 have hret:Below w.heap.size w ((w13.setCell ⟨w.heap.size+1,0,none⟩ (.pointer none)).setCell ⟨w.heap.size+1,1,none⟩ (.pointer none)):=((HV.out.2.1.trans (H13.out.1.mono HV.out.2.1.size)).setCell (p:=⟨w.heap.size+1,0,none⟩) (Nat.le_succ _) _).setCell (p:=⟨w.heap.size+1,1,none⟩) (Nat.le_succ _) _
 have HR:=Lib.hid (And.intro hiff hret)
 clear hiff hret
 obtain⟨c0,c1,f0,f1⟩:=HV.out.2.2.2 w13 H13.out.1
 cases r2
 ·go_wp2_with fail
  refine bodyPost_ret (v:=.tuple #[.agg #[.pointer none,.pointer none],.bool false]) (by simp[results,Tryz.results129,go_sem,c0,c1]) rfl ?_
  exact⟨HR.out.2,fun h=>(by have:=(HR.out.1.1 h).1; cases this),fun _=>rfl⟩
 cases r3
 ·go_wp2_with fail
  refine bodyPost_ret (v:=.tuple #[.agg #[.pointer none,.pointer none],.bool false]) (by simp[results,Tryz.results129,go_sem,c0,c1]) rfl ?_
  exact⟨HR.out.2,fun h=>(by have:=(HR.out.1.1 h).2; cases this),fun _=>rfl⟩
 clear c0 c1 f0 f1
 have hq:HasQ z:=HR.out.1.2 ⟨rfl,rfl⟩
 have hA13:=HV.out.2.2.1.below H13.out.1
 have hb812:=H12.out.1
 have hx12:RatP (sqr q2) u4 w12 (Mo A (w.heap.size+1)):=(RatB.ratP (H8.out.2.2.2 rfl)).below hb812
 have hp1:=rt_prog (n:=sqr (nm z)) (x:=sqr q2) (y:=sqr q3) (sqr_ok (H1.out.1 trivial)) (by rw[←H7.out.2.1]; exact sqr_ok (H7.out.2.2.1.1 rfl)) (by rw[←H12.out.2.1]; exact sqr_ok (H12.out.2.2.1.1 rfl))
 have hrt:=(rt_eq hp1).2
 have hi13:RatP z.im u2 w13 (Mo A (w.heap.size+1)):=(FactU.done (RatP.keeps _) HU.out.2.1).below H13.out.1
 have HSI:=Lib.hid (RSign_any z.im u2 _ w13 hi13)
 have d1:w13.cell? ⟨w.heap.size,1,none⟩=some u2:=(H13.out.1.cell (p:=⟨w.heap.size,1,none⟩) hs2).trans HU.out.2.2.2
 have H14:=Lib.hid (And.intro hq (And.intro hA13 (And.intro hx12 (And.intro hp1 hrt))))
 obtain⟨m5,C5,rfl,hm5b,hm5A,hm5,hC5,hNC5,hr5⟩:=H13.out.2.2.2 rfl
 have HY:=Lib.hid (And.intro hm5b (And.intro hm5A (And.intro hm5 (And.intro hC5 (And.intro hNC5 hr5)))))
 obtain⟨mx,rfl⟩:=hx12.shape
 clear hq hA13 hb812 hx12 hp1 hrt hi13 hm5b hm5A hm5 hC5 hNC5 hr5
 have lq3:RL (sqr q3) (1+(k+k+(k+k)+1+k+1)):=RL_sqr H12.out.2.2.2 (by omega)
 by_cases him:z.im<0
 ·have hs:=sign_lt0 him
  go_wp2_with fail
  refine HSI.out.mono ?_
  rintro e w' ⟨rfl,rfl⟩
  go_wp2_with fail
  refine(RNeg_any m5 C5 (sqr q3) _ (Mo A (w.heap.size+1)) w13 HY.out.2.2.1 HY.out.2.2.2.1 HY.out.2.2.2.2.1 HY.out.2.2.2.2.2 (lq3.mono (by omega))).mono ?_
  rintro e w14 ⟨rfl,hp14⟩
  have hb14:Below w12.heap.size w12 w14:=H13.out.2.2.1.trans (hp14.1.below HY.out.1 hs13)
  have H15:=Lib.hid (And.intro (H13.out.1.trans (hp14.1.below (Nat.le_trans (by omega) HY.out.1) H13.out.1.size)) (And.intro (H14.out.2.2.1.below hb14) (hp14.ratA H14.out.2.1 HY.out.2.1)))
  clear hp14 hb14
  obtain⟨wS,hwS⟩:∃ wS,wS=w14.alloc (.cells #[.pointer (some ⟨mx,0,none⟩),.pointer (some ⟨m5,0,none⟩)] 59):=⟨_,rfl⟩
  have hbS:Below w14.heap.size w14 wS:=by rw[hwS]; exact br.alloc (Nat.le_refl _) _
  obtain⟨g0,g1,_⟩:=new_two w14 (.pointer (some ⟨mx,0,none⟩)) (.pointer (some ⟨m5,0,none⟩)) 59 br
  rw[←hwS] at g0 g1
  have HG:=Lib.hid (And.intro g0 g1)
  clear g0 g1
  obtain⟨k0,k1,l0,l1⟩:=new_two w14 (.pointer none) (.pointer none) 59 br
  have HSS:=Lib.hid (And.intro hwS (And.intro hbS (And.intro ((H15.out.1).trans (hbS.mono (H15.out.1).size)) (And.intro (H15.out.2.1.below hbS) (H15.out.2.2.below hbS)))))
  clear hwS hbS
  go_wp2_with fail
  rw[←HSS.out.1]
  refine(RSign_any (sqr q2) _ (Mo A (w.heap.size+1)) wS HSS.out.2.2.2.1).mono ?_
  rintro e w' ⟨rfl,rfl⟩
  obtain⟨c0,c1,f0,f1⟩:=HV.out.2.2.2 wS HSS.out.2.2.1
  obtain⟨g0,g1⟩:=HG.out
  clear k0 k1 l0 l1
  have hend:∃ u,Ending.returned (.tuple #[.agg #[.pointer (some ⟨mx,0,none⟩),.pointer (some ⟨m5,0,none⟩)],.bool true])=.returned (.tuple #[u,.bool true])∧CQ (rt z) u ((wS.setCell ⟨w.heap.size+1,0,none⟩ (.pointer (some ⟨mx,0,none⟩))).setCell ⟨w.heap.size+1,1,none⟩ (.pointer (some ⟨m5,0,none⟩))) A∧Below w.heap.size w ((wS.setCell ⟨w.heap.size+1,0,none⟩ (.pointer (some ⟨mx,0,none⟩))).setCell ⟨w.heap.size+1,1,none⟩ (.pointer (some ⟨m5,0,none⟩))):=by
   obtain⟨u,h1,h2,h3⟩:=put_c (a:=sqr q2) (b:=(-sqr q3)) (n:=w.heap.size+1) (HV.out.2.1.trans (HSS.out.2.2.1.mono HV.out.2.1.size)) HSS.out.2.2.2.1 HSS.out.2.2.2.2 (Nat.le_succ _)
   cases h1
   refine⟨_,rfl,?_,h2⟩
   have hrt:=H14.out.2.2.2.2
   rw[if_pos him] at hrt
   rw[hrt]
   exact h3
  have HE:=Lib.hid hend
  clear hend
  by_cases hx0:sqr q2=0
  ·have h:=(rt_re H14.out.2.2.2.1).2.2
   simp only[hx0] at h
   rw[Rat.zero_mul,Rat.mul_zero] at h
   exact absurd him (by rw[h]; exact Rat.lt_irrefl)
  ·have e9:(sqr q2).num≠0:=fun h=>hx0 (Rat.num_eq_zero.1 h)
   go_wp2_with fail
   refine bodyPost_ret (v:=.tuple #[.agg #[.pointer (some ⟨mx,0,none⟩),.pointer (some ⟨m5,0,none⟩)],.bool true]) (by simp[results,Tryz.results129,go_sem,c0,c1]) rfl ?_
   obtain⟨u,h1,h2,h3⟩:=HE.out
   exact⟨h3,fun _=>⟨u,h1,h2⟩,fun h=>absurd H14.out.1 h⟩
 ·have hs:=sign_ge0 (Rat.not_lt.1 him)
  have H15:=Lib.hid (And.intro H13.out.1 (And.intro (H14.out.2.2.1.below H13.out.2.2.1) HY.out.2.2.2.2.2))
  go_wp2_with fail
  refine HSI.out.mono ?_
  rintro e w' ⟨rfl,rfl⟩
  obtain⟨wS,hwS⟩:∃ wS,wS=w13.alloc (.cells #[.pointer (some ⟨mx,0,none⟩),.pointer (some ⟨m5,0,none⟩)] 59):=⟨_,rfl⟩
  have hbS:Below w13.heap.size w13 wS:=by rw[hwS]; exact br.alloc (Nat.le_refl _) _
  obtain⟨g0,g1,_⟩:=new_two w13 (.pointer (some ⟨mx,0,none⟩)) (.pointer (some ⟨m5,0,none⟩)) 59 br
  rw[←hwS] at g0 g1
  have HG:=Lib.hid (And.intro g0 g1)
  clear g0 g1
  obtain⟨k0,k1,l0,l1⟩:=new_two w13 (.pointer none) (.pointer none) 59 br
  have HSS:=Lib.hid (And.intro hwS (And.intro hbS (And.intro ((H15.out.1).trans (hbS.mono (H15.out.1).size)) (And.intro (H15.out.2.1.below hbS) (H15.out.2.2.below hbS)))))
  clear hwS hbS
  go_wp2_with fail
  rw[←HSS.out.1]
  refine(RSign_any (sqr q2) _ (Mo A (w.heap.size+1)) wS HSS.out.2.2.2.1).mono ?_
  rintro e w' ⟨rfl,rfl⟩
  obtain⟨c0,c1,f0,f1⟩:=HV.out.2.2.2 wS HSS.out.2.2.1
  obtain⟨g0,g1⟩:=HG.out
  clear k0 k1 l0 l1
  have hend:∃ u,Ending.returned (.tuple #[.agg #[.pointer (some ⟨mx,0,none⟩),.pointer (some ⟨m5,0,none⟩)],.bool true])=.returned (.tuple #[u,.bool true])∧CQ (rt z) u ((wS.setCell ⟨w.heap.size+1,0,none⟩ (.pointer (some ⟨mx,0,none⟩))).setCell ⟨w.heap.size+1,1,none⟩ (.pointer (some ⟨m5,0,none⟩))) A∧Below w.heap.size w ((wS.setCell ⟨w.heap.size+1,0,none⟩ (.pointer (some ⟨mx,0,none⟩))).setCell ⟨w.heap.size+1,1,none⟩ (.pointer (some ⟨m5,0,none⟩))):=by
   obtain⟨u,h1,h2,h3⟩:=put_c (a:=sqr q2) (b:=(sqr q3)) (n:=w.heap.size+1) (HV.out.2.1.trans (HSS.out.2.2.1.mono HV.out.2.1.size)) HSS.out.2.2.2.1 HSS.out.2.2.2.2 (Nat.le_succ _)
   cases h1
   refine⟨_,rfl,?_,h2⟩
   have hrt:=H14.out.2.2.2.2
   rw[if_neg him] at hrt
   rw[hrt]
   exact h3
  have HE:=Lib.hid hend
  clear hend
  by_cases hx0:sqr q2=0
  ·have e9:(sqr q2).num=0:=by rw[hx0]; rfl
   go_wp2_with fail
   have hy0:0≤(sqr q3):=by
    have hk:=H14.out.2.2.2.1.2
    rw[if_neg him,hx0] at hk
    exact hk.elim (fun h=>absurd h Rat.lt_irrefl) (fun h=>h.2)
   have hsy:=sign_ge0 hy0
   refine(RSign_any (sqr q3) _ (Mo A (w.heap.size+1)) wS HSS.out.2.2.2.2).mono ?_
   rintro e w' ⟨rfl,rfl⟩
   go_wp2_with fail
   refine bodyPost_ret (v:=.tuple #[.agg #[.pointer (some ⟨mx,0,none⟩),.pointer (some ⟨m5,0,none⟩)],.bool true]) (by simp[results,Tryz.results129,go_sem,c0,c1]) rfl ?_
   obtain⟨u,h1,h2,h3⟩:=HE.out
   exact⟨h3,fun _=>⟨u,h1,h2⟩,fun h=>absurd H14.out.1 h⟩
  ·have e9:(sqr q2).num≠0:=fun h=>hx0 (Rat.num_eq_zero.1 h)
   go_wp2_with fail
   refine bodyPost_ret (v:=.tuple #[.agg #[.pointer (some ⟨mx,0,none⟩),.pointer (some ⟨m5,0,none⟩)],.bool true]) (by simp[results,Tryz.results129,go_sem,c0,c1]) rfl ?_
   obtain⟨u,h1,h2,h3⟩:=HE.out
   exact⟨h3,fun _=>⟨u,h1,h2⟩,fun h=>absurd H14.out.1 h⟩
end Go.Proofs.YtgjkifdilflcbaaGreat
