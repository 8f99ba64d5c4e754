/- Laws for the walk. -/
import Derived.Test.YtgjkifdilflcbaaGreatZbn
set_option linter.unusedVariables false
set_option maxHeartbeats 4000000
set_option linter.unusedSimpArgs false
namespace Go.Proofs.YtgjkifdilflcbaaGreat
open Go.RowKit Tr
open Classical
noncomputable def kindN(s:QC):Int:=if(s.im.num.sign)=0∧(¬((s.re.num.sign)<0)) then if(cmpR s.re (4:Rat))=0 then 2 else if(cmpR s.re (4:Rat))<0 then 3 else 4 else 5
theorem kindN_k(s:QC):¬(kindN s)=6∧¬(kindN s)=1:=by
 unfold kindN
 split
 ·split
  ·decide
  ·split<;>decide
 ·decide
theorem rKindN(a b c d:QC)(b_a:ShortZ a)(b_b:ShortZ b)(b_c:ShortZ c)(b_d:ShortZ d)(hd:¬(((a*d) - (b*c))=(⟨0,0⟩:QC)))(hn:c=(⟨1,0⟩:QC)∨(c=(⟨0,0⟩:QC)∧d=(⟨1,0⟩:QC)))(h:¬(b=(⟨0,0⟩:QC)∧c=(⟨0,0⟩:QC)∧a=d)):SpecC Tryz.prog true 9 [.row ((rawQ a).cells++(rawQ b).cells++(rawQ c).cells++(rawQ d).cells++[gl (.bool false)])] (.tup [.c (gx (.int .i64 (kindN (e1 a b c d)))),.c (gl (.int .i64 0))]):=by
 have k:=(rKind a b c d b_a b_b b_c b_d hd hn).f h
 unfold kindN
 split
 ·rename_i h1
  have k:=k.t h1
  split
  ·rename_i h2; exact k.t h2
  ·rename_i h2
   have k:=k.f h2
   split
   ·rename_i h3; exact k.t h3
   ·rename_i h3; exact k.f h3
 ·rename_i h1; exact k.f h1
def e9(a:QC)(b:QC)(d:QC):QC:=((a - d)*(a - d))+((⟨4,0⟩:QC)*b)
theorem e9_b0(a:QC)(b:QC)(d:QC)(b_a:ShortZ a)(b_b:ShortZ b)(b_d:ShortZ d):ZL (e9 a b d) 12295:=(ZL_add (ZL_mul (ZL_sub (ZL_short b_a) (ZL_short b_d)) (ZL_sub (ZL_short b_a) (ZL_short b_d))) (ZL_mul (ZL_short (short_c (by decide +kernel))) (ZL_short b_b))).mono (by omega)
noncomputable def e10(a:QC)(b:QC)(d:QC):QC:=((a - d)+(rt (e9 a b d))) / (⟨2,0⟩:QC)
theorem e10_b0(a:QC)(b:QC)(d:QC)(b_a:ShortZ a)(b_b:ShortZ b)(b_d:ShortZ d):ZL (e10 a b d) 133206:=(ZL_dv (by decide +kernel) (ZL_add (ZL_sub (ZL_short b_a) (ZL_short b_d)) (ZL_rt (e9_b0 a b d b_a b_b b_d))) (ZL_short (short_c (by decide +kernel)))).mono (by omega)
noncomputable def e11(a:QC)(b:QC)(d:QC):QC:=((a - d) - (rt (e9 a b d))) / (⟨2,0⟩:QC)
theorem e11_b0(a:QC)(b:QC)(d:QC)(b_a:ShortZ a)(b_b:ShortZ b)(b_d:ShortZ d):ZL (e11 a b d) 133206:=(ZL_dv (by decide +kernel) (ZL_sub (ZL_sub (ZL_short b_a) (ZL_short b_d)) (ZL_rt (e9_b0 a b d b_a b_b b_d))) (ZL_short (short_c (by decide +kernel)))).mono (by omega)
theorem fac_ne10{a b c d:QC}(hd:¬(((a*d) - (b*c))=(⟨0,0⟩:QC)))(hn:c=(⟨1,0⟩:QC)∨(c=(⟨0,0⟩:QC)∧d=(⟨1,0⟩:QC)))(hc:¬(c=(⟨0,0⟩:QC)))(hq:HasQ (e9 a b d)):a - (e10 a b d)≠⟨0,0⟩:=by
 have hr:=(rt_ok hq).1
 have hc1:c=⟨1,0⟩:=hn.resolve_right (fun h=>hc h.1)
 intro h
 subst hc1
 apply hd
 simp only[e1,e2,e3,e4,e5,e6,e7,e8,e9,e10,e11] at hr h
 generalize rt _=r at *
 have h1:=congrArg QC.re h
 have h2:=congrArg QC.im h
 have h3:=congrArg QC.re hr
 have h4:=congrArg QC.im hr
 simp only[qmr,qmi,qar,qai,qsr,qsi,qdre,qdim] at h1 h2 h3 h4
 apply qc_ext<;>simp only[qmr,qmi,qsr,qsi]<;>grind
noncomputable def e12(a:QC)(b:QC)(d:QC):QC:=(a - (e11 a b d)) / (a - (e10 a b d))
theorem rFactor(a b c d:QC)(b_a:ShortZ a)(b_b:ShortZ b)(b_c:ShortZ c)(b_d:ShortZ d)(hd:¬(((a*d) - (b*c))=(⟨0,0⟩:QC)))(hn:c=(⟨1,0⟩:QC)∨(c=(⟨0,0⟩:QC)∧d=(⟨1,0⟩:QC))):SpecC Tryz.prog true 13 [.row ((rawQ a).cells++(rawQ b).cells++(rawQ c).cells++(rawQ d).cells++[gl (.bool false)])] (if(b=(⟨0,0⟩:QC)∧c=(⟨0,0⟩:QC)∧a=d) then .tup [.row (zGG),.c (gl (.int .i64 250))] else if c=(⟨0,0⟩:QC) then if a=(⟨1,0⟩:QC) then .tup [.row ((rawQ (⟨1,0⟩:QC)).cells),.c (gl (.int .i64 0))] else if(outPC b ((⟨1,0⟩:QC) - a))=0 then .tup [.row ((rawQ a).cells),.c (gl (.int .i64 0))] else .tup [.row (zGG),.c (gx (.int .i64 (outPC b ((⟨1,0⟩:QC) - a))))] else if HasQ (e9 a b d) then if(rt (e9 a b d))=(⟨0,0⟩:QC) then if(outPC ((a - d)+(rt (e9 a b d))) (⟨2,0⟩:QC))=0 then .tup [.row ((rawQ (⟨1,0⟩:QC)).cells),.c (gl (.int .i64 0))] else .tup [.row (zGG),.c (gx (.int .i64 (outPC ((a - d)+(rt (e9 a b d))) (⟨2,0⟩:QC))))] else if(outPC ((a - d)+(rt (e9 a b d))) (⟨2,0⟩:QC))=0 then if(outPC ((a - d) - (rt (e9 a b d))) (⟨2,0⟩:QC))=0 then if ShortZ (e12 a b d) then .tup [.row (rG (e12 a b d)),.c (gl (.int .i64 0))] else .tup [.row (zGG),.c (gl (.int .i64 4))] else .tup [.row (zGG),.c (gx (.int .i64 (outPC ((a - d) - (rt (e9 a b d))) (⟨2,0⟩:QC))))] else .tup [.row (zGG),.c (gx (.int .i64 (outPC ((a - d)+(rt (e9 a b d))) (⟨2,0⟩:QC))))] else .tup [.row (zGG),.c (gl (.int .i64 7))]) :=
  have t1:=rInt 1 0 (by decide) (by decide) (by decide) (by decide)
  have t2:=rInt 0 0 (by decide) (by decide) (by decide) (by decide)
  have t3:=rPoint (⟨1,0⟩:QC) (⟨0,0⟩:QC) ((ZL_short (short_c (by decide +kernel))).mono (by omega)) ((ZL_short (short_c (by decide +kernel))).mono (by omega))
  have t4:=rMinus (⟨1,0⟩:QC) a ((ZL_short (short_c (by decide +kernel))).mono (by omega)) ((ZL_short b_a).mono (by omega))
  have t5:=rPoint b ((⟨1,0⟩:QC) - a) ((ZL_short b_b).mono (by omega)) ((ZL_sub (ZL_short (short_c (by decide +kernel))) (ZL_short b_a)).mono (by omega))
  have t6:=rMinus a d ((ZL_short b_a).mono (by omega)) ((ZL_short b_d).mono (by omega))
  have t7:=rTimes (a - d) (a - d) ((ZL_sub (ZL_short b_a) (ZL_short b_d)).mono (by omega)) ((ZL_sub (ZL_short b_a) (ZL_short b_d)).mono (by omega))
  have t8:=rInt 4 0 (by decide) (by decide) (by decide) (by decide)
  have t9:=rTimes (⟨4,0⟩:QC) b ((ZL_short (short_c (by decide +kernel))).mono (by omega)) ((ZL_short b_b).mono (by omega))
  have t10:=rPlus ((a - d)*(a - d)) ((⟨4,0⟩:QC)*b) ((ZL_mul (ZL_sub (ZL_short b_a) (ZL_short b_d)) (ZL_sub (ZL_short b_a) (ZL_short b_d))).mono (by omega)) ((ZL_mul (ZL_short (short_c (by decide +kernel))) (ZL_short b_b)).mono (by omega))
  have t11:=rInt 2 0 (by decide) (by decide) (by decide) (by decide)
  have t12:=rPlus (a - d) (rt (e9 a b d)) ((ZL_sub (ZL_short b_a) (ZL_short b_d)).mono (by omega)) ((ZL_rt (e9_b0 a b d b_a b_b b_d)).mono (by omega))
  have t13:=rPoint ((a - d)+(rt (e9 a b d))) (⟨2,0⟩:QC) ((ZL_add (ZL_sub (ZL_short b_a) (ZL_short b_d)) (ZL_rt (e9_b0 a b d b_a b_b b_d))).mono (by omega)) ((ZL_short (short_c (by decide +kernel))).mono (by omega))
  have t14:=rMinus (a - d) (rt (e9 a b d)) ((ZL_sub (ZL_short b_a) (ZL_short b_d)).mono (by omega)) ((ZL_rt (e9_b0 a b d b_a b_b b_d)).mono (by omega))
  have t15:=rPoint ((a - d) - (rt (e9 a b d))) (⟨2,0⟩:QC) ((ZL_sub (ZL_sub (ZL_short b_a) (ZL_short b_d)) (ZL_rt (e9_b0 a b d b_a b_b b_d))).mono (by omega)) ((ZL_short (short_c (by decide +kernel))).mono (by omega))
  have t16:=rOver ((a - d)+(rt (e9 a b d))) (⟨2,0⟩:QC) ((ZL_add (ZL_sub (ZL_short b_a) (ZL_short b_d)) (ZL_rt (e9_b0 a b d b_a b_b b_d))).mono (by omega)) ((ZL_short (short_c (by decide +kernel))).mono (by omega)) (by decide +kernel)
  have t17:=rOver ((a - d) - (rt (e9 a b d))) (⟨2,0⟩:QC) ((ZL_sub (ZL_sub (ZL_short b_a) (ZL_short b_d)) (ZL_rt (e9_b0 a b d b_a b_b b_d))).mono (by omega)) ((ZL_short (short_c (by decide +kernel))).mono (by omega)) (by decide +kernel)
  have t18:=rMinus a (e11 a b d) ((ZL_short b_a).mono (by omega)) ((e11_b0 a b d b_a b_b b_d).mono (by omega))
  have t19:=rMinus a (e10 a b d) ((ZL_short b_a).mono (by omega)) ((e10_b0 a b d b_a b_b b_d).mono (by omega))
  (Classical.em (b = (⟨0,0⟩ : QC) ∧ c = (⟨0,0⟩ : QC) ∧ a = d)).elim (fun h0 => .it h0 (ev_spi (L := [(rawQ a).cells,(rawQ b).cells,(rawQ c).cells,(rawQ d).cells].flatten) tys_ok mixed
     [gs ((rKind a b c d b_a b_b b_c b_d hd hn).t h0) [.row (flA [syms 0 32,[.lit (.bool false)]])] (.tup [.c (.lit (.int .i64 1)),.c (.lit (.int .i64 0))])]
     [] [] ((.cons (n:=2000) Tryz.func47 eo47 (.cons (n:=2000) Tryz.func48 eo48 .nil)):FnsOk Tryz.prog _) 4 2 Tryz.func13 eo13 2000 [.row (flA [syms 0 32,[.lit (.bool false)]])] (.tup [.row (zGA),.c (.lit (.int .i64 250))])))
   (fun h0=>.ie h0 ((Classical.em (c=(⟨0,0⟩:QC))).elim (fun h1=>.it h1 ((Classical.em (a=(⟨1,0⟩:QC))).elim (fun h2=>.it h2 (ev_spi (L:=[(rawQ a).cells,(rawQ b).cells,(rawQ c).cells,(rawQ d).cells,[gx (.int .i64 (kindN (e1 a b c d)))],(rawQ (⟨1,0⟩:QC)).cells,(rawQ (⟨0,0⟩:QC)).cells,(outR (⟨1,0⟩:QC) (⟨0,0⟩:QC)).cells,[gx (.int .i64 (outPC (⟨1,0⟩:QC) (⟨0,0⟩:QC)))]].flatten) tys_ok mixed
     [gs (rKindN a b c d b_a b_b b_c b_d hd hn h0) [.row (flA [syms 0 32,[.lit (.bool false)]])] (.tup [.c (.sym 32),.c (.lit (.int .i64 0))]),gs (t1) [.c (.lit (.int .i64 1)),.c (.lit (.int .i64 0))] (.r (.row (syms 33 8))),gs (rZero c true (tI h1)) [.row (syms 16 8)] (.r (.c (.lit (.bool true)))),gs (t2) [.c (.lit (.int .i64 0)),.c (.lit (.int .i64 0))] (.r (.row (syms 41 8))),gs (t3) [.row (syms 33 16)] (.tup [.row (syms 49 9),.c (.sym 58)])]
     [bI .eql 3 (.sym 32) (.lit (.int .i64 6)) (kindN (e1 a b c d)) 6 false (by simp[cmpB,(kindN_k (e1 a b c d)).1]),bI .eql 3 (.sym 32) (.lit (.int .i64 1)) (kindN (e1 a b c d)) 1 false (by simp[cmpB,(kindN_k (e1 a b c d)).2]),bGn (.row (syms 0 8)) (.row (syms 33 8)) (rawQ a) (rawQ (⟨1,0⟩:QC)) true ((tI h2).trans rawQ_inj.symm),bI .neq 3 (.sym 58) (.lit (.int .i64 0)) (outPC (⟨1,0⟩:QC) (⟨0,0⟩:QC)) 0 false (by simp[cmpB,(outPC_inf _)])] [] ((.cons (n:=2000) Tryz.func47 eo47 (.cons (n:=2000) Tryz.func48 eo48 .nil)):FnsOk Tryz.prog _) 4 2 Tryz.func13 eo13 2000 [.row (flA [syms 0 32,[.lit (.bool false)]])] (.tup [.row (syms 33 8),.c (.lit (.int .i64 0))])))
   (fun h2=>.ie h2 ((Classical.em ((outPC b ((⟨1,0⟩:QC) - a))=0)).elim (fun h3=>.it h3 (ev_spi (L:=[(rawQ a).cells,(rawQ b).cells,(rawQ c).cells,(rawQ d).cells,[gx (.int .i64 (kindN (e1 a b c d)))],(rawQ (⟨1,0⟩:QC)).cells,(rawQ (⟨0,0⟩:QC)).cells,cG ((⟨1,0⟩:QC) - a),(outR (⟨1,0⟩:QC) (⟨0,0⟩:QC)).cells,[gx (.int .i64 (outPC (⟨1,0⟩:QC) (⟨0,0⟩:QC)))],(outR b ((⟨1,0⟩:QC) - a)).cells,[gx (.int .i64 (outPC b ((⟨1,0⟩:QC) - a)))]].flatten) tys_ok mixed
     [gs (rKindN a b c d b_a b_b b_c b_d hd hn h0) [.row (flA [syms 0 32,[.lit (.bool false)]])] (.tup [.c (.sym 32),.c (.lit (.int .i64 0))]),gs (t1) [.c (.lit (.int .i64 1)),.c (.lit (.int .i64 0))] (.r (.row (syms 33 8))),gs (rZero c true (tI h1)) [.row (syms 16 8)] (.r (.c (.lit (.bool true)))),gs (t2) [.c (.lit (.int .i64 0)),.c (.lit (.int .i64 0))] (.r (.row (syms 41 8))),gs (t4) [.row (syms 33 8),.row (syms 0 8)] (.r (.row (gR 49))),gs (t3) [.row (syms 33 16)] (.tup [.row (syms 55 9),.c (.sym 64)]),gs (t5) [.row (flA [syms 8 8,gR 49])] (.tup [.row (syms 65 9),.c (.sym 74)])]
     [bI .eql 3 (.sym 32) (.lit (.int .i64 6)) (kindN (e1 a b c d)) 6 false (by simp[cmpB,(kindN_k (e1 a b c d)).1]),bI .eql 3 (.sym 32) (.lit (.int .i64 1)) (kindN (e1 a b c d)) 1 false (by simp[cmpB,(kindN_k (e1 a b c d)).2]),bGn (.row (syms 0 8)) (.row (syms 33 8)) (rawQ a) (rawQ (⟨1,0⟩:QC)) false ((fI h2).trans rawQ_inj.symm),bI .neq 3 (.sym 64) (.lit (.int .i64 0)) (outPC (⟨1,0⟩:QC) (⟨0,0⟩:QC)) 0 false (by simp[cmpB,(outPC_inf _)]),bI .neq 3 (.sym 74) (.lit (.int .i64 0)) (outPC b ((⟨1,0⟩:QC) - a)) 0 false (by simp[cmpB,h3])] [] ((.cons (n:=2000) Tryz.func47 eo47 (.cons (n:=2000) Tryz.func48 eo48 .nil)):FnsOk Tryz.prog _) 4 2 Tryz.func13 eo13 2000 [.row (flA [syms 0 32,[.lit (.bool false)]])] (.tup [.row (syms 0 8),.c (.lit (.int .i64 0))])))
   (fun h3=>.ie (fun h=>h3 h) (ev_spi (L:=[(rawQ a).cells,(rawQ b).cells,(rawQ c).cells,(rawQ d).cells,[gx (.int .i64 (kindN (e1 a b c d)))],(rawQ (⟨1,0⟩:QC)).cells,(rawQ (⟨0,0⟩:QC)).cells,cG ((⟨1,0⟩:QC) - a),(outR (⟨1,0⟩:QC) (⟨0,0⟩:QC)).cells,[gx (.int .i64 (outPC (⟨1,0⟩:QC) (⟨0,0⟩:QC)))],(outR b ((⟨1,0⟩:QC) - a)).cells,[gx (.int .i64 (outPC b ((⟨1,0⟩:QC) - a)))]].flatten) tys_ok mixed
     [gs (rKindN a b c d b_a b_b b_c b_d hd hn h0) [.row (flA [syms 0 32,[.lit (.bool false)]])] (.tup [.c (.sym 32),.c (.lit (.int .i64 0))]),gs (t1) [.c (.lit (.int .i64 1)),.c (.lit (.int .i64 0))] (.r (.row (syms 33 8))),gs (rZero c true (tI h1)) [.row (syms 16 8)] (.r (.c (.lit (.bool true)))),gs (t2) [.c (.lit (.int .i64 0)),.c (.lit (.int .i64 0))] (.r (.row (syms 41 8))),gs (t4) [.row (syms 33 8),.row (syms 0 8)] (.r (.row (gR 49))),gs (t3) [.row (syms 33 16)] (.tup [.row (syms 55 9),.c (.sym 64)]),gs (t5) [.row (flA [syms 8 8,gR 49])] (.tup [.row (syms 65 9),.c (.sym 74)])]
     [bI .eql 3 (.sym 32) (.lit (.int .i64 6)) (kindN (e1 a b c d)) 6 false (by simp[cmpB,(kindN_k (e1 a b c d)).1]),bI .eql 3 (.sym 32) (.lit (.int .i64 1)) (kindN (e1 a b c d)) 1 false (by simp[cmpB,(kindN_k (e1 a b c d)).2]),bGn (.row (syms 0 8)) (.row (syms 33 8)) (rawQ a) (rawQ (⟨1,0⟩:QC)) false ((fI h2).trans rawQ_inj.symm),bI .neq 3 (.sym 64) (.lit (.int .i64 0)) (outPC (⟨1,0⟩:QC) (⟨0,0⟩:QC)) 0 false (by simp[cmpB,(outPC_inf _)]),bI .neq 3 (.sym 74) (.lit (.int .i64 0)) (outPC b ((⟨1,0⟩:QC) - a)) 0 true (by simp[cmpB,h3])] [] ((.cons (n:=2000) Tryz.func47 eo47 (.cons (n:=2000) Tryz.func48 eo48 .nil)):FnsOk Tryz.prog _) 4 2 Tryz.func13 eo13 2000 [.row (flA [syms 0 32,[.lit (.bool false)]])] (.tup [.row (zGA),.c (.sym 74)])))))))
   (fun h1=>.ie (fun h=>h1 h) ((Classical.em (HasQ (e9 a b d))).elim (fun h2=>.it h2 ((Classical.em ((rt (e9 a b d))=(⟨0,0⟩:QC))).elim (fun h3=>.it h3 ((Classical.em ((outPC ((a - d)+(rt (e9 a b d))) (⟨2,0⟩:QC))=0)).elim (fun h4=>.it h4 (ev_spi (L:=[(rawQ a).cells,(rawQ b).cells,(rawQ c).cells,(rawQ d).cells,[gx (.int .i64 (kindN (e1 a b c d)))],(rawQ (⟨1,0⟩:QC)).cells,cG (a - d),cG ((a - d)*(a - d)),(rawQ (⟨4,0⟩:QC)).cells,cG ((⟨4,0⟩:QC)*b),cG (e9 a b d),cG (rt (e9 a b d)),(rawQ (⟨2,0⟩:QC)).cells,cG ((a - d)+(rt (e9 a b d))),(outR ((a - d)+(rt (e9 a b d))) (⟨2,0⟩:QC)).cells,[gx (.int .i64 (outPC ((a - d)+(rt (e9 a b d))) (⟨2,0⟩:QC)))]].flatten) tys_ok mixed
     [gs (rKindN a b c d b_a b_b b_c b_d hd hn h0) [.row (flA [syms 0 32,[.lit (.bool false)]])] (.tup [.c (.sym 32),.c (.lit (.int .i64 0))]),gs (t1) [.c (.lit (.int .i64 1)),.c (.lit (.int .i64 0))] (.r (.row (syms 33 8))),gs (rZero c false (fI h1)) [.row (syms 16 8)] (.r (.c (.lit (.bool false)))),gs (t6) [.row (syms 0 8),.row (syms 24 8)] (.r (.row (gR 41))),gs (t7) [.row (gR 41),.row (gR 41)] (.r (.row (gR 47))),gs (t8) [.c (.lit (.int .i64 4)),.c (.lit (.int .i64 0))] (.r (.row (syms 53 8))),gs (t9) [.row (syms 53 8),.row (syms 8 8)] (.r (.row (gR 61))),gs (t10) [.row (gR 47),.row (gR 61)] (.r (.row (gR 67))),gs (rSqrt (e9 a b d) ((e9_b0 a b d b_a b_b b_d).mono (by omega)) h2) [.row (gR 67)] (.tup [.row (gR 73),.c (.lit (.bool true))]),gs (t11) [.c (.lit (.int .i64 2)),.c (.lit (.int .i64 0))] (.r (.row (syms 79 8))),gs (t12) [.row (gR 41),.row (gR 73)] (.r (.row (gR 87))),gs (rZero (rt (e9 a b d)) true (tI h3)) [.row (gR 73)] (.r (.c (.lit (.bool true)))),gs (t13) [.row (flA [gR 87,syms 79 8])] (.tup [.row (syms 93 9),.c (.sym 102)])]
     [bI .eql 3 (.sym 32) (.lit (.int .i64 6)) (kindN (e1 a b c d)) 6 false (by simp[cmpB,(kindN_k (e1 a b c d)).1]),bI .eql 3 (.sym 32) (.lit (.int .i64 1)) (kindN (e1 a b c d)) 1 false (by simp[cmpB,(kindN_k (e1 a b c d)).2]),bI .neq 3 (.sym 102) (.lit (.int .i64 0)) (outPC ((a - d)+(rt (e9 a b d))) (⟨2,0⟩:QC)) 0 false (by simp[cmpB,h4])] [] ((.cons (n:=2000) Tryz.func47 eo47 (.cons (n:=2000) Tryz.func48 eo48 .nil)):FnsOk Tryz.prog _) 4 2 Tryz.func13 eo13 2000 [.row (flA [syms 0 32,[.lit (.bool false)]])] (.tup [.row (syms 33 8),.c (.lit (.int .i64 0))])))
   (fun h4=>.ie (fun h=>h4 h) (ev_spi (L:=[(rawQ a).cells,(rawQ b).cells,(rawQ c).cells,(rawQ d).cells,[gx (.int .i64 (kindN (e1 a b c d)))],(rawQ (⟨1,0⟩:QC)).cells,cG (a - d),cG ((a - d)*(a - d)),(rawQ (⟨4,0⟩:QC)).cells,cG ((⟨4,0⟩:QC)*b),cG (e9 a b d),cG (rt (e9 a b d)),(rawQ (⟨2,0⟩:QC)).cells,cG ((a - d)+(rt (e9 a b d))),(outR ((a - d)+(rt (e9 a b d))) (⟨2,0⟩:QC)).cells,[gx (.int .i64 (outPC ((a - d)+(rt (e9 a b d))) (⟨2,0⟩:QC)))]].flatten) tys_ok mixed
     [gs (rKindN a b c d b_a b_b b_c b_d hd hn h0) [.row (flA [syms 0 32,[.lit (.bool false)]])] (.tup [.c (.sym 32),.c (.lit (.int .i64 0))]),gs (t1) [.c (.lit (.int .i64 1)),.c (.lit (.int .i64 0))] (.r (.row (syms 33 8))),gs (rZero c false (fI h1)) [.row (syms 16 8)] (.r (.c (.lit (.bool false)))),gs (t6) [.row (syms 0 8),.row (syms 24 8)] (.r (.row (gR 41))),gs (t7) [.row (gR 41),.row (gR 41)] (.r (.row (gR 47))),gs (t8) [.c (.lit (.int .i64 4)),.c (.lit (.int .i64 0))] (.r (.row (syms 53 8))),gs (t9) [.row (syms 53 8),.row (syms 8 8)] (.r (.row (gR 61))),gs (t10) [.row (gR 47),.row (gR 61)] (.r (.row (gR 67))),gs (rSqrt (e9 a b d) ((e9_b0 a b d b_a b_b b_d).mono (by omega)) h2) [.row (gR 67)] (.tup [.row (gR 73),.c (.lit (.bool true))]),gs (t11) [.c (.lit (.int .i64 2)),.c (.lit (.int .i64 0))] (.r (.row (syms 79 8))),gs (t12) [.row (gR 41),.row (gR 73)] (.r (.row (gR 87))),gs (rZero (rt (e9 a b d)) true (tI h3)) [.row (gR 73)] (.r (.c (.lit (.bool true)))),gs (t13) [.row (flA [gR 87,syms 79 8])] (.tup [.row (syms 93 9),.c (.sym 102)])]
     [bI .eql 3 (.sym 32) (.lit (.int .i64 6)) (kindN (e1 a b c d)) 6 false (by simp[cmpB,(kindN_k (e1 a b c d)).1]),bI .eql 3 (.sym 32) (.lit (.int .i64 1)) (kindN (e1 a b c d)) 1 false (by simp[cmpB,(kindN_k (e1 a b c d)).2]),bI .neq 3 (.sym 102) (.lit (.int .i64 0)) (outPC ((a - d)+(rt (e9 a b d))) (⟨2,0⟩:QC)) 0 true (by simp[cmpB,h4])] [] ((.cons (n:=2000) Tryz.func47 eo47 (.cons (n:=2000) Tryz.func48 eo48 .nil)):FnsOk Tryz.prog _) 4 2 Tryz.func13 eo13 2000 [.row (flA [syms 0 32,[.lit (.bool false)]])] (.tup [.row (zGA),.c (.sym 102)])))))
   (fun h3=>.ie (fun h=>h3 h) ((Classical.em ((outPC ((a - d)+(rt (e9 a b d))) (⟨2,0⟩:QC))=0)).elim (fun h4=>.it h4 ((Classical.em ((outPC ((a - d) - (rt (e9 a b d))) (⟨2,0⟩:QC))=0)).elim (fun h5=>.it h5 ((Classical.em (ShortZ (e12 a b d))).elim (fun h6=>.it h6 (ev_spi (L:=[(rawQ a).cells,(rawQ b).cells,(rawQ c).cells,(rawQ d).cells,[gx (.int .i64 (kindN (e1 a b c d)))],(rawQ (⟨1,0⟩:QC)).cells,cG (a - d),cG ((a - d)*(a - d)),(rawQ (⟨4,0⟩:QC)).cells,cG ((⟨4,0⟩:QC)*b),cG (e9 a b d),cG (rt (e9 a b d)),(rawQ (⟨2,0⟩:QC)).cells,cG ((a - d)+(rt (e9 a b d))),cG ((a - d) - (rt (e9 a b d))),(outR ((a - d)+(rt (e9 a b d))) (⟨2,0⟩:QC)).cells,[gx (.int .i64 (outPC ((a - d)+(rt (e9 a b d))) (⟨2,0⟩:QC)))],(outR ((a - d) - (rt (e9 a b d))) (⟨2,0⟩:QC)).cells,[gx (.int .i64 (outPC ((a - d) - (rt (e9 a b d))) (⟨2,0⟩:QC)))],cG (e10 a b d),cG (e11 a b d),cG (a - (e11 a b d)),cG (a - (e10 a b d)),cG (e12 a b d)].flatten) tys_ok mixed
     [gs (rKindN a b c d b_a b_b b_c b_d hd hn h0) [.row (flA [syms 0 32,[.lit (.bool false)]])] (.tup [.c (.sym 32),.c (.lit (.int .i64 0))]),gs (t1) [.c (.lit (.int .i64 1)),.c (.lit (.int .i64 0))] (.r (.row (syms 33 8))),gs (rZero c false (fI h1)) [.row (syms 16 8)] (.r (.c (.lit (.bool false)))),gs (t6) [.row (syms 0 8),.row (syms 24 8)] (.r (.row (gR 41))),gs (t7) [.row (gR 41),.row (gR 41)] (.r (.row (gR 47))),gs (t8) [.c (.lit (.int .i64 4)),.c (.lit (.int .i64 0))] (.r (.row (syms 53 8))),gs (t9) [.row (syms 53 8),.row (syms 8 8)] (.r (.row (gR 61))),gs (t10) [.row (gR 47),.row (gR 61)] (.r (.row (gR 67))),gs (rSqrt (e9 a b d) ((e9_b0 a b d b_a b_b b_d).mono (by omega)) h2) [.row (gR 67)] (.tup [.row (gR 73),.c (.lit (.bool true))]),gs (t11) [.c (.lit (.int .i64 2)),.c (.lit (.int .i64 0))] (.r (.row (syms 79 8))),gs (t12) [.row (gR 41),.row (gR 73)] (.r (.row (gR 87))),gs (rZero (rt (e9 a b d)) false (fI h3)) [.row (gR 73)] (.r (.c (.lit (.bool false)))),gs (t14) [.row (gR 41),.row (gR 73)] (.r (.row (gR 93))),gs (t13) [.row (flA [gR 87,syms 79 8])] (.tup [.row (syms 99 9),.c (.sym 108)]),gs (t15) [.row (flA [gR 93,syms 79 8])] (.tup [.row (syms 109 9),.c (.sym 118)]),gs (t16) [.row (gR 87),.row (syms 79 8)] (.r (.row (gR 119))),gs (t17) [.row (gR 93),.row (syms 79 8)] (.r (.row (gR 125))),gs (t18) [.row (syms 0 8),.row (gR 125)] (.r (.row (gR 131))),gs (t19) [.row (syms 0 8),.row (gR 119)] (.r (.row (gR 137))),gs (rOver (a - (e11 a b d)) (a - (e10 a b d)) ((ZL_sub (ZL_short b_a) (e11_b0 a b d b_a b_b b_d)).mono (by omega)) ((ZL_sub (ZL_short b_a) (e10_b0 a b d b_a b_b b_d)).mono (by omega)) (fac_ne10 hd hn h1 h2)) [.row (gR 131),.row (gR 137)] (.r (.row (gR 143))),gs (rFits (e12 a b d) true (tI h6)) [.row (gR 143)] (.r (.c (.lit (.bool true))))]
     [bI .eql 3 (.sym 32) (.lit (.int .i64 6)) (kindN (e1 a b c d)) 6 false (by simp[cmpB,(kindN_k (e1 a b c d)).1]),bI .eql 3 (.sym 32) (.lit (.int .i64 1)) (kindN (e1 a b c d)) 1 false (by simp[cmpB,(kindN_k (e1 a b c d)).2]),bI .neq 3 (.sym 108) (.lit (.int .i64 0)) (outPC ((a - d)+(rt (e9 a b d))) (⟨2,0⟩:QC)) 0 false (by simp[cmpB,h4]),bI .neq 3 (.sym 118) (.lit (.int .i64 0)) (outPC ((a - d) - (rt (e9 a b d))) (⟨2,0⟩:QC)) 0 false (by simp[cmpB,h5])] [] ((.cons (n:=2000) Tryz.func47 eo47 (.cons (n:=2000) Tryz.func48 eo48 .nil)):FnsOk Tryz.prog _) 4 2 Tryz.func13 eo13 2000 [.row (flA [syms 0 32,[.lit (.bool false)]])] (.tup [.row (gR 143),.c (.lit (.int .i64 0))])))
   (fun h6=>.ie (fun h=>h6 h) (ev_spi (L:=[(rawQ a).cells,(rawQ b).cells,(rawQ c).cells,(rawQ d).cells,[gx (.int .i64 (kindN (e1 a b c d)))],(rawQ (⟨1,0⟩:QC)).cells,cG (a - d),cG ((a - d)*(a - d)),(rawQ (⟨4,0⟩:QC)).cells,cG ((⟨4,0⟩:QC)*b),cG (e9 a b d),cG (rt (e9 a b d)),(rawQ (⟨2,0⟩:QC)).cells,cG ((a - d)+(rt (e9 a b d))),cG ((a - d) - (rt (e9 a b d))),(outR ((a - d)+(rt (e9 a b d))) (⟨2,0⟩:QC)).cells,[gx (.int .i64 (outPC ((a - d)+(rt (e9 a b d))) (⟨2,0⟩:QC)))],(outR ((a - d) - (rt (e9 a b d))) (⟨2,0⟩:QC)).cells,[gx (.int .i64 (outPC ((a - d) - (rt (e9 a b d))) (⟨2,0⟩:QC)))],cG (e10 a b d),cG (e11 a b d),cG (a - (e11 a b d)),cG (a - (e10 a b d)),cG (e12 a b d)].flatten) tys_ok mixed
     [gs (rKindN a b c d b_a b_b b_c b_d hd hn h0) [.row (flA [syms 0 32,[.lit (.bool false)]])] (.tup [.c (.sym 32),.c (.lit (.int .i64 0))]),gs (t1) [.c (.lit (.int .i64 1)),.c (.lit (.int .i64 0))] (.r (.row (syms 33 8))),gs (rZero c false (fI h1)) [.row (syms 16 8)] (.r (.c (.lit (.bool false)))),gs (t6) [.row (syms 0 8),.row (syms 24 8)] (.r (.row (gR 41))),gs (t7) [.row (gR 41),.row (gR 41)] (.r (.row (gR 47))),gs (t8) [.c (.lit (.int .i64 4)),.c (.lit (.int .i64 0))] (.r (.row (syms 53 8))),gs (t9) [.row (syms 53 8),.row (syms 8 8)] (.r (.row (gR 61))),gs (t10) [.row (gR 47),.row (gR 61)] (.r (.row (gR 67))),gs (rSqrt (e9 a b d) ((e9_b0 a b d b_a b_b b_d).mono (by omega)) h2) [.row (gR 67)] (.tup [.row (gR 73),.c (.lit (.bool true))]),gs (t11) [.c (.lit (.int .i64 2)),.c (.lit (.int .i64 0))] (.r (.row (syms 79 8))),gs (t12) [.row (gR 41),.row (gR 73)] (.r (.row (gR 87))),gs (rZero (rt (e9 a b d)) false (fI h3)) [.row (gR 73)] (.r (.c (.lit (.bool false)))),gs (t14) [.row (gR 41),.row (gR 73)] (.r (.row (gR 93))),gs (t13) [.row (flA [gR 87,syms 79 8])] (.tup [.row (syms 99 9),.c (.sym 108)]),gs (t15) [.row (flA [gR 93,syms 79 8])] (.tup [.row (syms 109 9),.c (.sym 118)]),gs (t16) [.row (gR 87),.row (syms 79 8)] (.r (.row (gR 119))),gs (t17) [.row (gR 93),.row (syms 79 8)] (.r (.row (gR 125))),gs (t18) [.row (syms 0 8),.row (gR 125)] (.r (.row (gR 131))),gs (t19) [.row (syms 0 8),.row (gR 119)] (.r (.row (gR 137))),gs (rOver (a - (e11 a b d)) (a - (e10 a b d)) ((ZL_sub (ZL_short b_a) (e11_b0 a b d b_a b_b b_d)).mono (by omega)) ((ZL_sub (ZL_short b_a) (e10_b0 a b d b_a b_b b_d)).mono (by omega)) (fac_ne10 hd hn h1 h2)) [.row (gR 131),.row (gR 137)] (.r (.row (gR 143))),gs (rFits (e12 a b d) false (fI h6)) [.row (gR 143)] (.r (.c (.lit (.bool false))))]
     [bI .eql 3 (.sym 32) (.lit (.int .i64 6)) (kindN (e1 a b c d)) 6 false (by simp[cmpB,(kindN_k (e1 a b c d)).1]),bI .eql 3 (.sym 32) (.lit (.int .i64 1)) (kindN (e1 a b c d)) 1 false (by simp[cmpB,(kindN_k (e1 a b c d)).2]),bI .neq 3 (.sym 108) (.lit (.int .i64 0)) (outPC ((a - d)+(rt (e9 a b d))) (⟨2,0⟩:QC)) 0 false (by simp[cmpB,h4]),bI .neq 3 (.sym 118) (.lit (.int .i64 0)) (outPC ((a - d) - (rt (e9 a b d))) (⟨2,0⟩:QC)) 0 false (by simp[cmpB,h5])] [] ((.cons (n:=2000) Tryz.func47 eo47 (.cons (n:=2000) Tryz.func48 eo48 .nil)):FnsOk Tryz.prog _) 4 2 Tryz.func13 eo13 2000 [.row (flA [syms 0 32,[.lit (.bool false)]])] (.tup [.row (zGA),.c (.lit (.int .i64 4))])))))
   (fun h5=>.ie (fun h=>h5 h) (ev_spi (L:=[(rawQ a).cells,(rawQ b).cells,(rawQ c).cells,(rawQ d).cells,[gx (.int .i64 (kindN (e1 a b c d)))],(rawQ (⟨1,0⟩:QC)).cells,cG (a - d),cG ((a - d)*(a - d)),(rawQ (⟨4,0⟩:QC)).cells,cG ((⟨4,0⟩:QC)*b),cG (e9 a b d),cG (rt (e9 a b d)),(rawQ (⟨2,0⟩:QC)).cells,cG ((a - d)+(rt (e9 a b d))),cG ((a - d) - (rt (e9 a b d))),(outR ((a - d)+(rt (e9 a b d))) (⟨2,0⟩:QC)).cells,[gx (.int .i64 (outPC ((a - d)+(rt (e9 a b d))) (⟨2,0⟩:QC)))],(outR ((a - d) - (rt (e9 a b d))) (⟨2,0⟩:QC)).cells,[gx (.int .i64 (outPC ((a - d) - (rt (e9 a b d))) (⟨2,0⟩:QC)))]].flatten) tys_ok mixed
     [gs (rKindN a b c d b_a b_b b_c b_d hd hn h0) [.row (flA [syms 0 32,[.lit (.bool false)]])] (.tup [.c (.sym 32),.c (.lit (.int .i64 0))]),gs (t1) [.c (.lit (.int .i64 1)),.c (.lit (.int .i64 0))] (.r (.row (syms 33 8))),gs (rZero c false (fI h1)) [.row (syms 16 8)] (.r (.c (.lit (.bool false)))),gs (t6) [.row (syms 0 8),.row (syms 24 8)] (.r (.row (gR 41))),gs (t7) [.row (gR 41),.row (gR 41)] (.r (.row (gR 47))),gs (t8) [.c (.lit (.int .i64 4)),.c (.lit (.int .i64 0))] (.r (.row (syms 53 8))),gs (t9) [.row (syms 53 8),.row (syms 8 8)] (.r (.row (gR 61))),gs (t10) [.row (gR 47),.row (gR 61)] (.r (.row (gR 67))),gs (rSqrt (e9 a b d) ((e9_b0 a b d b_a b_b b_d).mono (by omega)) h2) [.row (gR 67)] (.tup [.row (gR 73),.c (.lit (.bool true))]),gs (t11) [.c (.lit (.int .i64 2)),.c (.lit (.int .i64 0))] (.r (.row (syms 79 8))),gs (t12) [.row (gR 41),.row (gR 73)] (.r (.row (gR 87))),gs (rZero (rt (e9 a b d)) false (fI h3)) [.row (gR 73)] (.r (.c (.lit (.bool false)))),gs (t14) [.row (gR 41),.row (gR 73)] (.r (.row (gR 93))),gs (t13) [.row (flA [gR 87,syms 79 8])] (.tup [.row (syms 99 9),.c (.sym 108)]),gs (t15) [.row (flA [gR 93,syms 79 8])] (.tup [.row (syms 109 9),.c (.sym 118)])]
     [bI .eql 3 (.sym 32) (.lit (.int .i64 6)) (kindN (e1 a b c d)) 6 false (by simp[cmpB,(kindN_k (e1 a b c d)).1]),bI .eql 3 (.sym 32) (.lit (.int .i64 1)) (kindN (e1 a b c d)) 1 false (by simp[cmpB,(kindN_k (e1 a b c d)).2]),bI .neq 3 (.sym 108) (.lit (.int .i64 0)) (outPC ((a - d)+(rt (e9 a b d))) (⟨2,0⟩:QC)) 0 false (by simp[cmpB,h4]),bI .neq 3 (.sym 118) (.lit (.int .i64 0)) (outPC ((a - d) - (rt (e9 a b d))) (⟨2,0⟩:QC)) 0 true (by simp[cmpB,h5])] [] ((.cons (n:=2000) Tryz.func47 eo47 (.cons (n:=2000) Tryz.func48 eo48 .nil)):FnsOk Tryz.prog _) 4 2 Tryz.func13 eo13 2000 [.row (flA [syms 0 32,[.lit (.bool false)]])] (.tup [.row (zGA),.c (.sym 118)])))))
   (fun h4=>.ie (fun h=>h4 h) (ev_spi (L:=[(rawQ a).cells,(rawQ b).cells,(rawQ c).cells,(rawQ d).cells,[gx (.int .i64 (kindN (e1 a b c d)))],(rawQ (⟨1,0⟩:QC)).cells,cG (a - d),cG ((a - d)*(a - d)),(rawQ (⟨4,0⟩:QC)).cells,cG ((⟨4,0⟩:QC)*b),cG (e9 a b d),cG (rt (e9 a b d)),(rawQ (⟨2,0⟩:QC)).cells,cG ((a - d)+(rt (e9 a b d))),cG ((a - d) - (rt (e9 a b d))),(outR ((a - d)+(rt (e9 a b d))) (⟨2,0⟩:QC)).cells,[gx (.int .i64 (outPC ((a - d)+(rt (e9 a b d))) (⟨2,0⟩:QC)))]].flatten) tys_ok mixed
     [gs (rKindN a b c d b_a b_b b_c b_d hd hn h0) [.row (flA [syms 0 32,[.lit (.bool false)]])] (.tup [.c (.sym 32),.c (.lit (.int .i64 0))]),gs (t1) [.c (.lit (.int .i64 1)),.c (.lit (.int .i64 0))] (.r (.row (syms 33 8))),gs (rZero c false (fI h1)) [.row (syms 16 8)] (.r (.c (.lit (.bool false)))),gs (t6) [.row (syms 0 8),.row (syms 24 8)] (.r (.row (gR 41))),gs (t7) [.row (gR 41),.row (gR 41)] (.r (.row (gR 47))),gs (t8) [.c (.lit (.int .i64 4)),.c (.lit (.int .i64 0))] (.r (.row (syms 53 8))),gs (t9) [.row (syms 53 8),.row (syms 8 8)] (.r (.row (gR 61))),gs (t10) [.row (gR 47),.row (gR 61)] (.r (.row (gR 67))),gs (rSqrt (e9 a b d) ((e9_b0 a b d b_a b_b b_d).mono (by omega)) h2) [.row (gR 67)] (.tup [.row (gR 73),.c (.lit (.bool true))]),gs (t11) [.c (.lit (.int .i64 2)),.c (.lit (.int .i64 0))] (.r (.row (syms 79 8))),gs (t12) [.row (gR 41),.row (gR 73)] (.r (.row (gR 87))),gs (rZero (rt (e9 a b d)) false (fI h3)) [.row (gR 73)] (.r (.c (.lit (.bool false)))),gs (t14) [.row (gR 41),.row (gR 73)] (.r (.row (gR 93))),gs (t13) [.row (flA [gR 87,syms 79 8])] (.tup [.row (syms 99 9),.c (.sym 108)])]
     [bI .eql 3 (.sym 32) (.lit (.int .i64 6)) (kindN (e1 a b c d)) 6 false (by simp[cmpB,(kindN_k (e1 a b c d)).1]),bI .eql 3 (.sym 32) (.lit (.int .i64 1)) (kindN (e1 a b c d)) 1 false (by simp[cmpB,(kindN_k (e1 a b c d)).2]),bI .neq 3 (.sym 108) (.lit (.int .i64 0)) (outPC ((a - d)+(rt (e9 a b d))) (⟨2,0⟩:QC)) 0 true (by simp[cmpB,h4])] [] ((.cons (n:=2000) Tryz.func47 eo47 (.cons (n:=2000) Tryz.func48 eo48 .nil)):FnsOk Tryz.prog _) 4 2 Tryz.func13 eo13 2000 [.row (flA [syms 0 32,[.lit (.bool false)]])] (.tup [.row (zGA),.c (.sym 108)])))))))
   (fun h2=>.ie (fun h=>h2 h) (ev_spi (L:=[(rawQ a).cells,(rawQ b).cells,(rawQ c).cells,(rawQ d).cells,[gx (.int .i64 (kindN (e1 a b c d)))],(rawQ (⟨1,0⟩:QC)).cells,cG (a - d),cG ((a - d)*(a - d)),(rawQ (⟨4,0⟩:QC)).cells,cG ((⟨4,0⟩:QC)*b),cG (e9 a b d)].flatten) tys_ok mixed
     [gs (rKindN a b c d b_a b_b b_c b_d hd hn h0) [.row (flA [syms 0 32,[.lit (.bool false)]])] (.tup [.c (.sym 32),.c (.lit (.int .i64 0))]),gs (t1) [.c (.lit (.int .i64 1)),.c (.lit (.int .i64 0))] (.r (.row (syms 33 8))),gs (rZero c false (fI h1)) [.row (syms 16 8)] (.r (.c (.lit (.bool false)))),gs (t6) [.row (syms 0 8),.row (syms 24 8)] (.r (.row (gR 41))),gs (t7) [.row (gR 41),.row (gR 41)] (.r (.row (gR 47))),gs (t8) [.c (.lit (.int .i64 4)),.c (.lit (.int .i64 0))] (.r (.row (syms 53 8))),gs (t9) [.row (syms 53 8),.row (syms 8 8)] (.r (.row (gR 61))),gs (t10) [.row (gR 47),.row (gR 61)] (.r (.row (gR 67))),gs (rSqrtN (e9 a b d) ((e9_b0 a b d b_a b_b b_d).mono (by omega)) h2) [.row (gR 67)] (.tup [.row (zGA),.c (.lit (.bool false))])]
     [bI .eql 3 (.sym 32) (.lit (.int .i64 6)) (kindN (e1 a b c d)) 6 false (by simp[cmpB,(kindN_k (e1 a b c d)).1]),bI .eql 3 (.sym 32) (.lit (.int .i64 1)) (kindN (e1 a b c d)) 1 false (by simp[cmpB,(kindN_k (e1 a b c d)).2])] [] ((.cons (n:=2000) Tryz.func47 eo47 (.cons (n:=2000) Tryz.func48 eo48 .nil)):FnsOk Tryz.prog _) 4 2 Tryz.func13 eo13 2000 [.row (flA [syms 0 32,[.lit (.bool false)]])] (.tup [.row (zGA),.c (.lit (.int .i64 7))])))))))
end Go.Proofs.YtgjkifdilflcbaaGreat
namespace Go.Proofs.YtgjkifdilflcbaaGreat
open Go.RowKit Tr
def IsW(L W:Nat)(z:QC):Prop:=∃ x y:Int,z.re*(L:Int)=(x:Int)∧z.im*(L:Int)=(y:Int)∧x.natAbs≤W∧y.natAbs≤W
theorem IsW.mul{L W L' W':Nat}{z w:QC}(h:IsW L W z)(k:IsW L' W' w):IsW (L*L') (2*(W*W')) (z*w):=by
 obtain⟨x,y,h1,h2,h3,h4⟩:=h
 obtain⟨u,v,k1,k2,k3,k4⟩:=k
 refine⟨x*u - y*v,x*v+y*u,?_,?_,?_,?_⟩
 ·rw[Int.natCast_mul,Rat.intCast_mul,Rat.intCast_sub,Rat.intCast_mul,Rat.intCast_mul,←h1,←h2,←k1,←k2,qmr]; grind
 ·rw[Int.natCast_mul,Rat.intCast_mul,Rat.intCast_add,Rat.intCast_mul,Rat.intCast_mul,←h1,←h2,←k1,←k2,qmi]; grind
 ·have e1:=Nat.mul_le_mul h3 k3
  have e2:=Nat.mul_le_mul h4 k4
  rw[←Int.natAbs_mul] at e1 e2
  have:=Int.natAbs_sub_le (x*u) (y*v)
  omega
 ·have e1:=Nat.mul_le_mul h3 k4
  have e2:=Nat.mul_le_mul h4 k3
  rw[←Int.natAbs_mul] at e1 e2
  have:=Int.natAbs_add_le (x*v) (y*u)
  omega
theorem IsW.add{L W W':Nat}{z w:QC}(h:IsW L W z)(k:IsW L W' w):IsW L (W+W') (z+w):=by
 obtain⟨x,y,h1,h2,h3,h4⟩:=h
 obtain⟨u,v,k1,k2,k3,k4⟩:=k
 refine⟨x+u,y+v,?_,?_,?_,?_⟩
 ·rw[Rat.intCast_add,←h1,←k1,qar]; grind
 ·rw[Rat.intCast_add,←h2,←k2,qai]; grind
 ·have:=Int.natAbs_add_le x u; omega
 ·have:=Int.natAbs_add_le y v; omega
theorem IsW.cj{L W:Nat}{z:QC}(h:IsW L W z):IsW L W (cj z):=by
 obtain⟨x,y,h1,h2,h3,h4⟩:=h
 refine⟨x,-y,h1,?_,h3,by omega⟩
 rw[Rat.intCast_neg,←h2]; show -z.im*_=_; grind
def W4(L W:Nat)(p:QC×QC×QC×QC):Prop:=IsW L W p.1∧IsW L W p.2.1∧IsW L W p.2.2.1∧IsW L W p.2.2.2
theorem W4_step{L W M V:Nat}{a b c d p q r s:QC}(h:W4 L W (a,b,c,d))(k:W4 M V (p,q,r,s)):W4 (L*M) (4*(W*V)) (a*p+b*r,a*q+b*s,c*p+d*r,c*q+d*s):=by
 obtain⟨h1,h2,h3,h4⟩:=h
 obtain⟨k1,k2,k3,k4⟩:=k
 have e:4*(W*V)=2*(W*V)+2*(W*V):=by omega
 rw[e]
 exact⟨(h1.mul k1).add (h2.mul k3),(h1.mul k2).add (h2.mul k4),(h3.mul k1).add (h4.mul k3),(h3.mul k2).add (h4.mul k4)⟩
theorem W4_mp{L W:Nat}{a b c d:QC}(h:W4 L W (a,b,c,d)):∀ n,W4 (L ^ (n+1)) ((4*W) ^ (n+1)) (mp a b c d n)
 | 0=>by
  obtain⟨h1,h2,h3,h4⟩:=h
  have m:∀ z,IsW L W z→IsW (L ^ (0+1)) ((4*W) ^ (0+1)) z:=fun z ⟨x,y,e1,e2,e3,e4⟩=>⟨x,y,by simpa using e1,by simpa using e2,by simp; omega,by simp; omega⟩
  exact⟨m _ h1,m _ h2,m _ h3,m _ h4⟩
 | n+1=>by
  have k:=W4_step h (W4_mp h n)
  rw[Nat.pow_succ L,Nat.pow_succ (4*W),Nat.mul_comm (L ^ (n+1)),Nat.mul_comm ((4*W) ^ (n+1)),Nat.mul_assoc 4 W]
  exact k
theorem W4_mtn{L W:Nat}{a b c d:QC}(h:W4 L W (a,b,c,d)):∀ n,W4 (L ^ (n+1)) ((4*W) ^ (n+1)) (mtn a b c d n)
 | 0=>W4_mp h 0
 | n+1=>by
  obtain⟨k1,k2,k3,k4⟩:=W4_mtn h n
  have k:=W4_step h (p:=cj (mtn a b c d n).1) (q:=cj (mtn a b c d n).2.1) (r:=cj (mtn a b c d n).2.2.1) (s:=cj (mtn a b c d n).2.2.2) ⟨k1.cj,k2.cj,k3.cj,k4.cj⟩
  rw[Nat.pow_succ L,Nat.pow_succ (4*W),Nat.mul_comm (L ^ (n+1)),Nat.mul_comm ((4*W) ^ (n+1)),Nat.mul_assoc 4 W]
  exact k
theorem IsW_of{z:QC}{L B D:Nat}(hr:z.re.den ∣ L)(hi:z.im.den ∣ L)(hL:L≤D)(h1:z.re.num.natAbs≤B)(h2:z.im.num.natAbs≤B):IsW L (B*D) z:=by
 obtain⟨u,hu⟩:=hr
 obtain⟨v,hv⟩:=hi
 refine⟨z.re.num*u,z.im.num*v,?_,?_,?_,?_⟩
 ·rw[hu,Int.natCast_mul,Rat.intCast_mul,Rat.intCast_mul,←num_den z.re]; grind
 ·rw[hv,Int.natCast_mul,Rat.intCast_mul,Rat.intCast_mul,←num_den z.im]; grind
 ·rw[Int.natAbs_mul]
  refine Nat.mul_le_mul h1 ?_
  have:=z.re.den_nz
  rw[Int.natAbs_natCast]
  exact Nat.le_trans (Nat.le_mul_of_pos_left u (Nat.pos_of_ne_zero z.re.den_nz)) (by rw[←hu]; exact hL)
 ·rw[Int.natAbs_mul]
  refine Nat.mul_le_mul h2 ?_
  have:=z.im.den_nz
  rw[Int.natAbs_natCast]
  exact Nat.le_trans (Nat.le_mul_of_pos_left v (Nat.pos_of_ne_zero z.im.den_nz)) (by rw[←hv]; exact hL)
theorem ZL_W{L W k:Nat}{z:QC}(h:IsW L W z)(h0:L≠0)(hl:(words L).length≤k)(hw:(words W).length≤k):ZL z k:=by
 obtain⟨x,y,h1,h2,h3,h4⟩:=h
 have hL:((L:Int):Rat)≠0:=by exact_mod_cast h0
 have key:∀(q:Rat) (x:Int),q*(L:Int)=(x:Int)→q=Rat.divInt x L:=fun q x e=>by
  rw[Rat.divInt_eq_div,←e]; grind
 refine⟨?_,?_⟩
 ·rw[key _ _ h1]; exact RL_divInt (by omega) (wl_mono h3 hw) (by rw[Int.natAbs_natCast]; exact hl)
 ·rw[key _ _ h2]; exact RL_divInt (by omega) (wl_mono h4 hw) (by rw[Int.natAbs_natCast]; exact hl)
theorem wl_pow{n k:Nat}(h:(words n).length≤k):∀ m,(words (n ^ m)).length≤m*k+1
 | 0=>by rw[Nat.pow_zero,Nat.zero_mul]; exact words_length_le (by decide)
 | m+1=>by
  rw[Nat.pow_succ,Nat.succ_mul]
  exact Nat.le_trans (wl_mul (wl_pow h m) h) (by omega)
theorem wl_m{m n j k:Nat}(h:(words m).length≤j)(g:(words n).length≤k):(words (m*n)).length≤j+k:=wl_mul h g
theorem dvd8(a b c d e f g h:Nat):a ∣ a*(b*(c*(d*(e*(f*(g*h))))))∧b ∣ a*(b*(c*(d*(e*(f*(g*h))))))∧c ∣ a*(b*(c*(d*(e*(f*(g*h))))))∧d ∣ a*(b*(c*(d*(e*(f*(g*h))))))∧e ∣ a*(b*(c*(d*(e*(f*(g*h))))))∧f ∣ a*(b*(c*(d*(e*(f*(g*h))))))∧g ∣ a*(b*(c*(d*(e*(f*(g*h))))))∧h ∣ a*(b*(c*(d*(e*(f*(g*h)))))):=by
 have l:∀{x y z:Nat},x ∣ y→x ∣ z*y:=fun h=>Nat.dvd_trans h (Nat.dvd_mul_left _ _)
 have o:∀ x y:Nat,x ∣ x*y:=fun x y=>Nat.dvd_mul_right x y
 exact⟨o _ _,l (o _ _),l (l (o _ _)),l (l (l (o _ _))),l (l (l (l (o _ _)))),l (l (l (l (l (o _ _))))),l (l (l (l (l (l (o _ _)))))),l (l (l (l (l (l (l (Nat.dvd_refl _)))))))⟩
theorem big_of(k:Nat):∃ B,(words B).length≤k+1∧∀ n,(words n).length≤k→n≤B :=
 ⟨4294967296 ^ k,words_length_le (Nat.pow_lt_pow_right (by decide) (by omega)),fun n h=>Nat.le_of_lt (Nat.lt_of_lt_of_le (lt_words n) (Nat.pow_le_pow_right (by decide) h))⟩
theorem W4_of{a b c d:QC}(ha:ZL a 1024)(hb:ZL b 1024)(hc:ZL c 1024)(hd:ZL d 1024):∃ L W,L≠0∧(words L).length≤8192∧(words W).length≤9217∧W4 L W (a,b,c,d):=by
 obtain⟨L,hL⟩:∃ L,L=a.re.den*(a.im.den*(b.re.den*(b.im.den*(c.re.den*(c.im.den*(d.re.den*d.im.den)))))):=⟨_,rfl⟩
 obtain⟨d1,d2,d3,d4,d5,d6,d7,d8⟩:=dvd8 a.re.den a.im.den b.re.den b.im.den c.re.den c.im.den d.re.den d.im.den
 rw[←hL] at d1 d2 d3 d4 d5 d6 d7 d8
 have hl:(words L).length≤8192:=by
  rw[hL]
  exact wl_m ha.1.2 (wl_m ha.2.2 (wl_m hb.1.2 (wl_m hb.2.2 (wl_m hc.1.2 (wl_m hc.2.2 (wl_m hd.1.2 hd.2.2))))))
 have h0:L≠0:=by
  have:=a.re.den_nz; have:=a.im.den_nz; have:=b.re.den_nz; have:=b.im.den_nz; have:=c.re.den_nz; have:=c.im.den_nz; have:=d.re.den_nz; have:=d.im.den_nz
  rw[hL]
  simp only[Nat.mul_ne_zero_iff]
  exact⟨by assumption,by assumption,by assumption,by assumption,by assumption,by assumption,by assumption,by assumption⟩
 obtain⟨B,hB1,hB2⟩:=big_of 1024
 have hB:∀{q:Rat},RL q 1024→q.num.natAbs≤B:=fun h=>hB2 _ h.1
 refine⟨L,B*L,h0,hl,wl_m (j:=1025) hB1 hl,?_⟩
 exact⟨IsW_of d1 d2 (Nat.le_refl _) (hB ha.1) (hB ha.2),IsW_of d3 d4 (Nat.le_refl _) (hB hb.1) (hB hb.2),IsW_of d5 d6 (Nat.le_refl _) (hB hc.1) (hB hc.2),IsW_of d7 d8 (Nat.le_refl _) (hB hd.1) (hB hd.2)⟩
theorem W4_ZL{L W n:Nat}{p:QC×QC×QC×QC}(h0:L≠0)(hl:(words L).length≤8192)(hw:(words W).length≤9217)(hn:n≤12)(h:W4 (L ^ (n+1)) ((4*W) ^ (n+1)) p):ZL p.1 150000∧ZL p.2.1 150000∧ZL p.2.2.1 150000∧ZL p.2.2.2 150000:=by
 have e1:(words (L ^ (n+1))).length≤150000:=Nat.le_trans (wl_pow hl (n+1)) (by omega)
 have e2:(words ((4*W) ^ (n+1))).length≤150000:=Nat.le_trans (wl_pow (wl_m (j:=1) (words_length_le (by decide)) hw) (n+1)) (by omega)
 have e0:L ^ (n+1)≠0:=Nat.ne_of_gt (Nat.pow_pos (Nat.pos_of_ne_zero h0))
 exact⟨ZL_W h.1 e0 e1 e2,ZL_W h.2.1 e0 e1 e2,ZL_W h.2.2.1 e0 e1 e2,ZL_W h.2.2.2 e0 e1 e2⟩
theorem ZL_mp{a b c d:QC}(ha:ShortZ a)(hb:ShortZ b)(hc:ShortZ c)(hd:ShortZ d)(n:Nat)(hn:n≤12):ZL (mp a b c d n).1 150000∧ZL (mp a b c d n).2.1 150000∧ZL (mp a b c d n).2.2.1 150000∧ZL (mp a b c d n).2.2.2 150000:=by
 obtain⟨L,W,h0,hl,hw,h⟩:=W4_of (ZL_short ha) (ZL_short hb) (ZL_short hc) (ZL_short hd)
 exact W4_ZL h0 hl hw hn (W4_mp h n)
theorem ZL_mtn{a b c d:QC}(ha:ShortZ a)(hb:ShortZ b)(hc:ShortZ c)(hd:ShortZ d)(n:Nat)(hn:n≤12):ZL (mtn a b c d n).1 150000∧ZL (mtn a b c d n).2.1 150000∧ZL (mtn a b c d n).2.2.1 150000∧ZL (mtn a b c d n).2.2.2 150000:=by
 obtain⟨L,W,h0,hl,hw,h⟩:=W4_of (ZL_short ha) (ZL_short hb) (ZL_short hc) (ZL_short hd)
 exact W4_ZL h0 hl hw hn (W4_mtn h n)
end Go.Proofs.YtgjkifdilflcbaaGreat
