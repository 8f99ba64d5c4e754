/- Laws for the walk. -/
import Derived.Test.YtgjkifdilflcbaaGreatZbm
set_option linter.unusedVariables false
set_option maxHeartbeats 4000000
set_option linter.unusedSimpArgs false
namespace Go.Proofs.YtgjkifdilflcbaaGreat
open Go.RowKit Tr
open Classical
theorem rOf(a b c d:QC)(t:Bool)(b_a:ShortZ a)(b_b:ShortZ b)(b_c:ShortZ c)(b_d:ShortZ d) :SpecC Tryz.prog true 25 [.row ((rawQ a).cells++(rawQ b).cells++(rawQ c).cells++(rawQ d).cells++[gx (.bool t)])] (.r (.row ((rawQ a).cells++(rawQ b).cells++(rawQ c).cells++(rawQ d).cells++[gx (.bool t)]))) :=
  ev_sp (L := [(rawQ a).cells,(rawQ b).cells,(rawQ c).cells,(rawQ d).cells,[gx (.bool t)]].flatten) tys_ok mixed
     []
     [] [] Tryz.func25 eo25 2000 [.row (syms 0 33)] (.r (.row (syms 0 33)))
theorem r8Det(a b c d:QC)(t:Bool)(b_a:ZL a 200000)(b_b:ZL b 200000)(b_c:ZL c 200000)(b_d:ZL d 200000) :SpecC Tryz.prog true 61 [.row (rG a++rG b++rG c++rG d++[gx (.bool t)])] (.r (.row (rG ((a*d) - (b*c))))) :=
  ev_sp (L := [cG a,cG b,cG c,cG d,[gx (.bool t)],cG (a * d),cG (b * c),cG ((a * d) - (b * c))].flatten) tys_ok mixed
     [gs (rTimes a d (b_a.mono (by omega)) (b_d.mono (by omega))) [.row (gR 0),.row (gR 18)] (.r (.row (gR 25))),gs (rTimes b c (b_b.mono (by omega)) (b_c.mono (by omega))) [.row (gR 6),.row (gR 12)] (.r (.row (gR 31))),gs (rMinus (a*d) (b*c) ((ZL_mul b_a b_d).mono (by omega)) ((ZL_mul b_b b_c).mono (by omega))) [.row (gR 25),.row (gR 31)] (.r (.row (gR 37)))]
     [] [] Tryz.func61 eo61 2000 [.row (flA [gL [0,6,12,18],[.sym 24]])] (.r (.row (gR 37)))
theorem rDet(a b c d:QC)(t:Bool)(b_a:ZL a 200000)(b_b:ZL b 200000)(b_c:ZL c 200000)(b_d:ZL d 200000) :SpecC Tryz.prog true 64 [.row (rG a++rG b++rG c++rG d++[gx (.bool t)])] (.r (.row (rG ((a*d) - (b*c))))) :=
  ev_sp (L := [cG a,cG b,cG c,cG d,[gx (.bool t)],cG (a * d),cG (b * c),cG ((a * d) - (b * c))].flatten) tys_ok mixed
     [gs (rTimes a d (b_a.mono (by omega)) (b_d.mono (by omega))) [.row (gR 0),.row (gR 18)] (.r (.row (gR 25))),gs (rTimes b c (b_b.mono (by omega)) (b_c.mono (by omega))) [.row (gR 6),.row (gR 12)] (.r (.row (gR 31))),gs (rMinus (a*d) (b*c) ((ZL_mul b_a b_d).mono (by omega)) ((ZL_mul b_b b_c).mono (by omega))) [.row (gR 25),.row (gR 31)] (.r (.row (gR 37)))]
     [] [] Tryz.func64 eo64 2000 [.row (flA [gL [0,6,12,18],[.sym 24]])] (.r (.row (gR 37)))
theorem rDet_b0_1(a b c d:QC)(t:Bool){k:Nat}(b_a:ZL a k)(b_b:ZL b k)(b_c:ZL c k)(b_d:ZL d k):ZL ((a*d) - (b*c)) (8*k+3):=(ZL_sub (ZL_mul b_a b_d) (ZL_mul b_b b_c)).mono (by omega)
theorem runit  :SpecC Tryz.prog true 59 [] (.r (.row ((rawQ (⟨1,0⟩:QC)).cells))) :=
  ev_sp (L := [(rawQ (⟨1,0⟩ : QC)).cells].flatten) tys_ok mixed
     [gs (rInt 1 0 (by decide) (by decide) (by decide) (by decide)) [.c (.lit (.int .i64 1)),.c (.lit (.int .i64 0))] (.r (.row (syms 0 8)))]
     [] [] Tryz.func59 eo59 2000 [] (.r (.row (syms 0 8)))
theorem rzero  :SpecC Tryz.prog true 60 [] (.r (.row ((rawQ (⟨0,0⟩:QC)).cells))) :=
  ev_sp (L := [(rawQ (⟨0,0⟩ : QC)).cells].flatten) tys_ok mixed
     [gs (rInt 0 0 (by decide) (by decide) (by decide) (by decide)) [.c (.lit (.int .i64 0)),.c (.lit (.int .i64 0))] (.r (.row (syms 0 8)))]
     [] [] Tryz.func60 eo60 2000 [] (.r (.row (syms 0 8)))
theorem rCheck(a b c d:QC)(t:Bool)(b_a:ShortZ a)(b_b:ShortZ b)(b_c:ShortZ c)(b_d:ShortZ d) :SpecC Tryz.prog true 23 [.row ((rawQ a).cells++(rawQ b).cells++(rawQ c).cells++(rawQ d).cells++[gx (.bool t)])] (if c=(⟨1,0⟩:QC) then if((a*d) - (b*c))=(⟨0,0⟩:QC) then .r (.c (gl (.int .i64 2))) else .r (.c (gl (.int .i64 0))) else if c=(⟨0,0⟩:QC)∧d=(⟨1,0⟩:QC)∧(¬(((a*d) - (b*c))=(⟨0,0⟩:QC))) then .r (.c (gl (.int .i64 0))) else .r (.c (gl (.int .i64 2)))) :=
  have t1:=rGMay (rawQ a) true (tI (rawQ_ok b_a))
  have t2:=rGMay (rawQ b) true (tI (rawQ_ok b_b))
  have t3:=rGMay (rawQ c) true (tI (rawQ_ok b_c))
  have t4:=rGMay (rawQ d) true (tI (rawQ_ok b_d))
  have t5:=r8Det a b c d t ((ZL_short b_a).mono (by omega)) ((ZL_short b_b).mono (by omega)) ((ZL_short b_c).mono (by omega)) ((ZL_short b_d).mono (by omega))
  (Classical.em (c = (⟨1,0⟩ : QC))).elim (fun h0 => .it h0 ((Classical.em (((a * d) - (b * c)) = (⟨0,0⟩ : QC))).elim (fun h1 => .it h1 (ev_sp (L := [(rawQ a).cells,(rawQ b).cells,(rawQ c).cells,(rawQ d).cells,[gx (.bool t)],(rawQ (⟨1,0⟩ : QC)).cells,cG ((a * d) - (b * c))].flatten) tys_ok mixed
     [gs (t1) [.row (syms 0 8)] (.r (.c (.lit (.bool true)))),gs (t2) [.row (syms 8 8)] (.r (.c (.lit (.bool true)))),gs (t3) [.row (syms 16 8)] (.r (.c (.lit (.bool true)))),gs (t4) [.row (syms 24 8)] (.r (.c (.lit (.bool true)))),gs (runit) [] (.r (.row (syms 33 8))),gs (t5) [.row (syms 0 33)] (.r (.row (gR 41))),gs (rZero ((a*d) - (b*c)) true (tI h1)) [.row (gR 41)] (.r (.c (.lit (.bool true))))]
     [bGn (.row (syms 16 8)) (.row (syms 33 8)) (rawQ c) (rawQ (⟨1,0⟩:QC)) true ((tI h0).trans rawQ_inj.symm)] [] Tryz.func23 eo23 2000 [.row (syms 0 33)] (.r (.c (.lit (.int .i64 2))))))
   (fun h1=>.ie (fun h=>h1 h) (ev_sp (L:=[(rawQ a).cells,(rawQ b).cells,(rawQ c).cells,(rawQ d).cells,[gx (.bool t)],(rawQ (⟨1,0⟩:QC)).cells,cG ((a*d) - (b*c))].flatten) tys_ok mixed
     [gs (t1) [.row (syms 0 8)] (.r (.c (.lit (.bool true)))),gs (t2) [.row (syms 8 8)] (.r (.c (.lit (.bool true)))),gs (t3) [.row (syms 16 8)] (.r (.c (.lit (.bool true)))),gs (t4) [.row (syms 24 8)] (.r (.c (.lit (.bool true)))),gs (runit) [] (.r (.row (syms 33 8))),gs (t5) [.row (syms 0 33)] (.r (.row (gR 41))),gs (rZero ((a*d) - (b*c)) false (fI h1)) [.row (gR 41)] (.r (.c (.lit (.bool false))))]
     [bGn (.row (syms 16 8)) (.row (syms 33 8)) (rawQ c) (rawQ (⟨1,0⟩:QC)) true ((tI h0).trans rawQ_inj.symm)] [] Tryz.func23 eo23 2000 [.row (syms 0 33)] (.r (.c (.lit (.int .i64 0))))))))
   (fun h0=>.ie (fun h=>h0 h) ((Classical.em (c=(⟨0,0⟩:QC))).elim (fun h1=>(Classical.em (d=(⟨1,0⟩:QC))).elim (fun h2=>(Classical.em (((a*d) - (b*c))=(⟨0,0⟩:QC))).elim (fun h3=>.ie (fun h=>h.2.2 h3) (ev_sp (L:=[(rawQ a).cells,(rawQ b).cells,(rawQ c).cells,(rawQ d).cells,[gx (.bool t)],(rawQ (⟨1,0⟩:QC)).cells,(rawQ (⟨0,0⟩:QC)).cells,cG ((a*d) - (b*c))].flatten) tys_ok mixed
     [gs (t1) [.row (syms 0 8)] (.r (.c (.lit (.bool true)))),gs (t2) [.row (syms 8 8)] (.r (.c (.lit (.bool true)))),gs (t3) [.row (syms 16 8)] (.r (.c (.lit (.bool true)))),gs (t4) [.row (syms 24 8)] (.r (.c (.lit (.bool true)))),gs (runit) [] (.r (.row (syms 33 8))),gs (rzero) [] (.r (.row (syms 41 8))),gs (t5) [.row (syms 0 33)] (.r (.row (gR 49))),gs (rZero ((a*d) - (b*c)) true (tI h3)) [.row (gR 49)] (.r (.c (.lit (.bool true))))]
     [bGn (.row (syms 16 8)) (.row (syms 33 8)) (rawQ c) (rawQ (⟨1,0⟩:QC)) false ((fI h0).trans rawQ_inj.symm),bGn (.row (syms 16 8)) (.row (syms 41 8)) (rawQ c) (rawQ (⟨0,0⟩:QC)) true ((tI h1).trans rawQ_inj.symm),bGn (.row (syms 24 8)) (.row (syms 33 8)) (rawQ d) (rawQ (⟨1,0⟩:QC)) true ((tI h2).trans rawQ_inj.symm)] [] Tryz.func23 eo23 2000 [.row (syms 0 33)] (.r (.c (.lit (.int .i64 2))))))
   (fun h3=>.it ⟨h1,h2,h3⟩ (ev_sp (L:=[(rawQ a).cells,(rawQ b).cells,(rawQ c).cells,(rawQ d).cells,[gx (.bool t)],(rawQ (⟨1,0⟩:QC)).cells,(rawQ (⟨0,0⟩:QC)).cells,cG ((a*d) - (b*c))].flatten) tys_ok mixed
     [gs (t1) [.row (syms 0 8)] (.r (.c (.lit (.bool true)))),gs (t2) [.row (syms 8 8)] (.r (.c (.lit (.bool true)))),gs (t3) [.row (syms 16 8)] (.r (.c (.lit (.bool true)))),gs (t4) [.row (syms 24 8)] (.r (.c (.lit (.bool true)))),gs (runit) [] (.r (.row (syms 33 8))),gs (rzero) [] (.r (.row (syms 41 8))),gs (t5) [.row (syms 0 33)] (.r (.row (gR 49))),gs (rZero ((a*d) - (b*c)) false (fI h3)) [.row (gR 49)] (.r (.c (.lit (.bool false))))]
     [bGn (.row (syms 16 8)) (.row (syms 33 8)) (rawQ c) (rawQ (⟨1,0⟩:QC)) false ((fI h0).trans rawQ_inj.symm),bGn (.row (syms 16 8)) (.row (syms 41 8)) (rawQ c) (rawQ (⟨0,0⟩:QC)) true ((tI h1).trans rawQ_inj.symm),bGn (.row (syms 24 8)) (.row (syms 33 8)) (rawQ d) (rawQ (⟨1,0⟩:QC)) true ((tI h2).trans rawQ_inj.symm)] [] Tryz.func23 eo23 2000 [.row (syms 0 33)] (.r (.c (.lit (.int .i64 0)))))))
   (fun h2=>.ie (fun h=>h2 h.2.1) (ev_sp (L:=[(rawQ a).cells,(rawQ b).cells,(rawQ c).cells,(rawQ d).cells,[gx (.bool t)],(rawQ (⟨1,0⟩:QC)).cells,(rawQ (⟨0,0⟩:QC)).cells].flatten) tys_ok mixed
     [gs (t1) [.row (syms 0 8)] (.r (.c (.lit (.bool true)))),gs (t2) [.row (syms 8 8)] (.r (.c (.lit (.bool true)))),gs (t3) [.row (syms 16 8)] (.r (.c (.lit (.bool true)))),gs (t4) [.row (syms 24 8)] (.r (.c (.lit (.bool true)))),gs (runit) [] (.r (.row (syms 33 8))),gs (rzero) [] (.r (.row (syms 41 8)))]
     [bGn (.row (syms 16 8)) (.row (syms 33 8)) (rawQ c) (rawQ (⟨1,0⟩:QC)) false ((fI h0).trans rawQ_inj.symm),bGn (.row (syms 16 8)) (.row (syms 41 8)) (rawQ c) (rawQ (⟨0,0⟩:QC)) true ((tI h1).trans rawQ_inj.symm),bGn (.row (syms 24 8)) (.row (syms 33 8)) (rawQ d) (rawQ (⟨1,0⟩:QC)) false ((fI h2).trans rawQ_inj.symm)] [] Tryz.func23 eo23 2000 [.row (syms 0 33)] (.r (.c (.lit (.int .i64 2)))))))
   (fun h1=>.ie (fun h=>h1 h.1) (ev_sp (L:=[(rawQ a).cells,(rawQ b).cells,(rawQ c).cells,(rawQ d).cells,[gx (.bool t)],(rawQ (⟨1,0⟩:QC)).cells,(rawQ (⟨0,0⟩:QC)).cells].flatten) tys_ok mixed
     [gs (t1) [.row (syms 0 8)] (.r (.c (.lit (.bool true)))),gs (t2) [.row (syms 8 8)] (.r (.c (.lit (.bool true)))),gs (t3) [.row (syms 16 8)] (.r (.c (.lit (.bool true)))),gs (t4) [.row (syms 24 8)] (.r (.c (.lit (.bool true)))),gs (runit) [] (.r (.row (syms 33 8))),gs (rzero) [] (.r (.row (syms 41 8)))]
     [bGn (.row (syms 16 8)) (.row (syms 33 8)) (rawQ c) (rawQ (⟨1,0⟩:QC)) false ((fI h0).trans rawQ_inj.symm),bGn (.row (syms 16 8)) (.row (syms 41 8)) (rawQ c) (rawQ (⟨0,0⟩:QC)) false ((fI h1).trans rawQ_inj.symm)] [] Tryz.func23 eo23 2000 [.row (syms 0 33)] (.r (.c (.lit (.int .i64 2))))))))
theorem rCheckB(g1 g2 g3 g4:RawG)(t:Bool)(hbad:¬(GOk g1.val∧GOk g2.val∧GOk g3.val∧GOk g4.val)):SpecC Tryz.prog true 23 [.row (g1.cells++g2.cells++g3.cells++g4.cells++[gx (.bool t)])] (.r (.c (gl (.int .i64 2)))) :=
  (Classical.em (GOk g1.val)).elim (fun h0=>(Classical.em (GOk g2.val)).elim (fun h1=>(Classical.em (GOk g3.val)).elim (fun h2=>(Classical.em (GOk g4.val)).elim (fun h3=>(hbad ⟨h0,h1,h2,h3⟩).elim)
   (fun h3=>ev_sp (L:=[g1.cells,g2.cells,g3.cells,g4.cells,[gx (.bool t)]].flatten) tys_ok mixed
     [gs (rGMay g1 true (tI h0)) [.row (syms 0 8)] (.r (.c (.lit (.bool true)))),gs (rGMay g2 true (tI h1)) [.row (syms 8 8)] (.r (.c (.lit (.bool true)))),gs (rGMay g3 true (tI h2)) [.row (syms 16 8)] (.r (.c (.lit (.bool true)))),gs (rGMay g4 false (fI h3)) [.row (syms 24 8)] (.r (.c (.lit (.bool false))))]
     [] [] Tryz.func23 eo23 2000 [.row (syms 0 33)] (.r (.c (.lit (.int .i64 2))))))
   (fun h2=>ev_sp (L:=[g1.cells,g2.cells,g3.cells,g4.cells,[gx (.bool t)]].flatten) tys_ok mixed
     [gs (rGMay g1 true (tI h0)) [.row (syms 0 8)] (.r (.c (.lit (.bool true)))),gs (rGMay g2 true (tI h1)) [.row (syms 8 8)] (.r (.c (.lit (.bool true)))),gs (rGMay g3 false (fI h2)) [.row (syms 16 8)] (.r (.c (.lit (.bool false))))]
     [] [] Tryz.func23 eo23 2000 [.row (syms 0 33)] (.r (.c (.lit (.int .i64 2))))))
   (fun h1=>ev_sp (L:=[g1.cells,g2.cells,g3.cells,g4.cells,[gx (.bool t)]].flatten) tys_ok mixed
     [gs (rGMay g1 true (tI h0)) [.row (syms 0 8)] (.r (.c (.lit (.bool true)))),gs (rGMay g2 false (fI h1)) [.row (syms 8 8)] (.r (.c (.lit (.bool false))))]
     [] [] Tryz.func23 eo23 2000 [.row (syms 0 33)] (.r (.c (.lit (.int .i64 2))))))
   (fun h0=>ev_sp (L:=[g1.cells,g2.cells,g3.cells,g4.cells,[gx (.bool t)]].flatten) tys_ok mixed
     [gs (rGMay g1 false (fI h0)) [.row (syms 0 8)] (.r (.c (.lit (.bool false))))]
     [] [] Tryz.func23 eo23 2000 [.row (syms 0 33)] (.r (.c (.lit (.int .i64 2)))))
theorem rChk(a b c d:QC)(t:Bool)(b_a:ShortZ a)(b_b:ShortZ b)(b_c:ShortZ c)(b_d:ShortZ d)(hd:¬(((a*d) - (b*c))=(⟨0,0⟩:QC)))(hn:c=(⟨1,0⟩:QC)∨(c=(⟨0,0⟩:QC)∧d=(⟨1,0⟩:QC))):SpecC Tryz.prog true 23 [.row ((rawQ a).cells++(rawQ b).cells++(rawQ c).cells++(rawQ d).cells++[gx (.bool t)])] (.r (.c (gl (.int .i64 0)))):=by
 have k:=rCheck a b c d t b_a b_b b_c b_d
 by_cases h:c=⟨1,0⟩
 ·exact(k.t h).f hd
 ·exact(k.f h).t ⟨(hn.resolve_left h).1,(hn.resolve_left h).2,hd⟩
theorem rChkN(g1 g2 g3 g4:RawG)(t:Bool)(h:¬MOk ⟨g1,g2,g3,g4,t⟩):SpecC Tryz.prog true 23 [.row (g1.cells++g2.cells++g3.cells++g4.cells++[gx (.bool t)])] (.r (.c (gl (.int .i64 2)))):=by
 by_cases hg:GOk g1.val∧GOk g2.val∧GOk g3.val∧GOk g4.val
 ·obtain⟨k1,k2,k3,k4⟩:=hg
  obtain⟨a,rfl,ha⟩:=gOk_raw k1
  obtain⟨b,rfl,hb⟩:=gOk_raw k2
  obtain⟨c,rfl,hc⟩:=gOk_raw k3
  obtain⟨d,rfl,hd⟩:=gOk_raw k4
  have k:=rCheck a b c d t ha hb hc hd
  by_cases h1:c=⟨1,0⟩
  ·exact(k.t h1).t (Classical.byContradiction fun h2=>h ⟨a,b,c,d,⟨rfl,rfl,rfl,rfl⟩,⟨ha,hb,hc,hd⟩,.inl h1,h2⟩)
  ·exact(k.f h1).f (fun h2=>h ⟨a,b,c,d,⟨rfl,rfl,rfl,rfl⟩,⟨ha,hb,hc,hd⟩,.inr ⟨h2.1,h2.2.1⟩,h2.2.2⟩)
 ·exact rCheckB g1 g2 g3 g4 t hg
theorem rsum(a b c d:QC)(b_a:ZL a 200000)(b_b:ZL b 200000)(b_c:ZL c 200000)(b_d:ZL d 200000) :SpecC Tryz.prog true 82 [.row (rG a),.row (rG b),.row (rG c),.row (rG d)] (.r (.row (rG ((a*b)+(c*d))))) :=
  ev_sp (L := [cG a,cG b,cG c,cG d,cG (a * b),cG (c * d),cG ((a * b) + (c * d))].flatten) tys_ok mixed
     [gs (rTimes a b (b_a.mono (by omega)) (b_b.mono (by omega))) [.row (gR 0),.row (gR 6)] (.r (.row (gR 24))),gs (rTimes c d (b_c.mono (by omega)) (b_d.mono (by omega))) [.row (gR 12),.row (gR 18)] (.r (.row (gR 30))),gs (rPlus (a*b) (c*d) ((ZL_mul b_a b_b).mono (by omega)) ((ZL_mul b_c b_d).mono (by omega))) [.row (gR 24),.row (gR 30)] (.r (.row (gR 36)))]
     [] [] Tryz.func82 eo82 2000 [.row (gR 0),.row (gR 6),.row (gR 12),.row (gR 18)] (.r (.row (gR 36)))
theorem e1_b1(a:QC)(b:QC)(c:QC)(d:QC)(t:Bool){k:Nat}(b_a:ZL a k)(b_b:ZL b k)(b_c:ZL c k)(b_d:ZL d k)(hd:¬(((a*d) - (b*c))=(⟨0,0⟩:QC))):ZL (e1 a b c d) (64*k+30):=(ZL_dv hd (ZL_mul (ZL_add b_a b_d) (ZL_add b_a b_d)) (rDet_b0_1 a b c d t b_a b_b b_c b_d)).mono (by omega)
theorem rsgn(a b c d:QC)(t:Bool)(b_a:ZL a 200000)(b_b:ZL b 200000)(b_c:ZL c 200000)(b_d:ZL d 200000)(hd:¬(((a*d) - (b*c))=(⟨0,0⟩:QC))):SpecC Tryz.prog true 24 [.row (rG a++rG b++rG c++rG d++[gx (.bool t)])] (.r (.row (rG (e1 a b c d)))) :=
  ev_sp (L := [cG a,cG b,cG c,cG d,[gx (.bool t)],cG (a + d),cG ((a + d) * (a + d)),cG ((a * d) - (b * c)),cG (e1 a b c d)].flatten) tys_ok mixed
     [gs (rPlus a d (b_a.mono (by omega)) (b_d.mono (by omega))) [.row (gR 0),.row (gR 18)] (.r (.row (gR 25))),gs (rTimes (a+d) (a+d) ((ZL_add b_a b_d).mono (by omega)) ((ZL_add b_a b_d).mono (by omega))) [.row (gR 25),.row (gR 25)] (.r (.row (gR 31))),gs (rDet a b c d t (b_a.mono (by omega)) (b_b.mono (by omega)) (b_c.mono (by omega)) (b_d.mono (by omega))) [.row (flA [gL [0,6,12,18],[.sym 24]])] (.r (.row (gR 37))),gs (rOver ((a+d)*(a+d)) ((a*d) - (b*c)) ((ZL_mul (ZL_add b_a b_d) (ZL_add b_a b_d)).mono (by omega)) ((rDet_b0_1 a b c d t b_a b_b b_c b_d).mono (by omega)) hd) [.row (gR 31),.row (gR 37)] (.r (.row (gR 43)))]
     [] [] Tryz.func24 eo24 2000 [.row (flA [gL [0,6,12,18],[.sym 24]])] (.r (.row (gR 43)))
theorem rsgn_b0_1(a b c d:QC)(t:Bool){k:Nat}(b_a:ZL a k)(b_b:ZL b k)(b_c:ZL c k)(b_d:ZL d k)(hd:¬(((a*d) - (b*c))=(⟨0,0⟩:QC))):ZL (e1 a b c d) (64*k+30):=(e1_b1 a b c d t b_a b_b b_c b_d hd).mono (by omega)
theorem rStill(a b c d:QC)(b_a:ZL a 200000)(b_b:ZL b 200000)(b_c:ZL c 200000)(b_d:ZL d 200000) :SpecC Tryz.prog true 33 [.row (rG a++rG b++rG c++rG d++[gl (.bool false)])] (if b=(⟨0,0⟩:QC)∧c=(⟨0,0⟩:QC)∧a=d then .r (.c (gl (.bool true))) else .r (.c (gl (.bool false)))) :=
  (Classical.em (b = (⟨0,0⟩ : QC))).elim (fun h0 => (Classical.em (c = (⟨0,0⟩ : QC))).elim (fun h1 => (Classical.em (a = d)).elim (fun h2 => .it ⟨h0,h1,h2⟩ (ev_sp (L := [cG a,cG b,cG c,cG d].flatten) tys_ok mixed
     [gs (rZero b true (tI h0)) [.row (gR 6)] (.r (.c (.lit (.bool true)))),gs (rZero c true (tI h1)) [.row (gR 12)] (.r (.c (.lit (.bool true))))]
     [bG (.row (gR 0)) (.row (gR 18)) (rawQ a) (rawQ d) true ((tI h2).trans rawQ_inj.symm)] [] Tryz.func33 eo33 2000 [.row (flA [gL [0,6,12,18],[.lit (.bool false)]])] (.r (.c (.lit (.bool true))))))
   (fun h2=>.ie (fun h=>h2 h.2.2) (ev_sp (L:=[cG a,cG b,cG c,cG d].flatten) tys_ok mixed
     [gs (rZero b true (tI h0)) [.row (gR 6)] (.r (.c (.lit (.bool true)))),gs (rZero c true (tI h1)) [.row (gR 12)] (.r (.c (.lit (.bool true))))]
     [bG (.row (gR 0)) (.row (gR 18)) (rawQ a) (rawQ d) false ((fI h2).trans rawQ_inj.symm)] [] Tryz.func33 eo33 2000 [.row (flA [gL [0,6,12,18],[.lit (.bool false)]])] (.r (.c (.lit (.bool false)))))))
   (fun h1=>.ie (fun h=>h1 h.2.1) (ev_sp (L:=[cG a,cG b,cG c,cG d].flatten) tys_ok mixed
     [gs (rZero b true (tI h0)) [.row (gR 6)] (.r (.c (.lit (.bool true)))),gs (rZero c false (fI h1)) [.row (gR 12)] (.r (.c (.lit (.bool false))))]
     [] [] Tryz.func33 eo33 2000 [.row (flA [gL [0,6,12,18],[.lit (.bool false)]])] (.r (.c (.lit (.bool false)))))))
   (fun h0=>.ie (fun h=>h0 h.1) (ev_sp (L:=[cG a,cG b,cG c,cG d].flatten) tys_ok mixed
     [gs (rZero b false (fI h0)) [.row (gR 6)] (.r (.c (.lit (.bool false))))]
     [] [] Tryz.func33 eo33 2000 [.row (flA [gL [0,6,12,18],[.lit (.bool false)]])] (.r (.c (.lit (.bool false))))))
theorem rStillT(a b c d:QC)(b_a:ZL a 200000)(b_b:ZL b 200000)(b_c:ZL c 200000)(b_d:ZL d 200000) :SpecC Tryz.prog true 33 [.row (rG a++rG b++rG c++rG d++[gl (.bool true)])] (.r (.c (gl (.bool false)))) :=
  ev_sp (L := [cG a,cG b,cG c,cG d].flatten) tys_ok mixed
     []
     [] [] Tryz.func33 eo33 2000 [.row (flA [gL [0,6,12,18],[.lit (.bool true)]])] (.r (.c (.lit (.bool false))))
theorem rSign(a b c d:QC)(b_a:ShortZ a)(b_b:ShortZ b)(b_c:ShortZ c)(b_d:ShortZ d)(hd:¬(((a*d) - (b*c))=(⟨0,0⟩:QC)))(hn:c=(⟨1,0⟩:QC)∨(c=(⟨0,0⟩:QC)∧d=(⟨1,0⟩:QC))):SpecC Tryz.prog true 7 [.row ((rawQ a).cells++(rawQ b).cells++(rawQ c).cells++(rawQ d).cells++[gl (.bool false)])] (if ShortZ (e1 a b c d) then .tup [.row (rG (e1 a b c d)),.c (gl (.int .i64 0))] else .tup [.row (zGG),.c (gl (.int .i64 4))]) :=
  have t1:=rChk a b c d false b_a b_b b_c b_d hd hn
  have t2:=rOf a b c d false b_a b_b b_c b_d
  have t3:=rsgn a b c d false ((ZL_short b_a).mono (by omega)) ((ZL_short b_b).mono (by omega)) ((ZL_short b_c).mono (by omega)) ((ZL_short b_d).mono (by omega)) hd
  (Classical.em (ShortZ (e1 a b c d))).elim (fun h0 => .it h0 (ev_sp (L := [(rawQ a).cells,(rawQ b).cells,(rawQ c).cells,(rawQ d).cells,(rawQ a).cells,(rawQ b).cells,(rawQ c).cells,(rawQ d).cells,cG (e1 a b c d)].flatten) tys_ok mixed
     [gs (t1) [.row (flA [syms 0 32,[.lit (.bool false)]])] (.r (.c (.lit (.int .i64 0)))),gs (t2) [.row (flA [syms 0 32,[.lit (.bool false)]])] (.r (.row (flA [syms 32 32,[.lit (.bool false)]]))),gs (t3) [.row (flA [syms 32 32,[.lit (.bool false)]])] (.r (.row (gR 64))),gs (rFits (e1 a b c d) true (tI h0)) [.row (gR 64)] (.r (.c (.lit (.bool true))))]
     [] [] Tryz.func7 eo7 2000 [.row (flA [syms 0 32,[.lit (.bool false)]])] (.tup [.row (gR 64),.c (.lit (.int .i64 0))])))
   (fun h0=>.ie (fun h=>h0 h) (ev_sp (L:=[(rawQ a).cells,(rawQ b).cells,(rawQ c).cells,(rawQ d).cells,(rawQ a).cells,(rawQ b).cells,(rawQ c).cells,(rawQ d).cells,cG (e1 a b c d)].flatten) tys_ok mixed
     [gs (t1) [.row (flA [syms 0 32,[.lit (.bool false)]])] (.r (.c (.lit (.int .i64 0)))),gs (t2) [.row (flA [syms 0 32,[.lit (.bool false)]])] (.r (.row (flA [syms 32 32,[.lit (.bool false)]]))),gs (t3) [.row (flA [syms 32 32,[.lit (.bool false)]])] (.r (.row (gR 64))),gs (rFits (e1 a b c d) false (fI h0)) [.row (gR 64)] (.r (.c (.lit (.bool false))))]
     [] [] Tryz.func7 eo7 2000 [.row (flA [syms 0 32,[.lit (.bool false)]])] (.tup [.row (zGA),.c (.lit (.int .i64 4))])))
theorem rSignT(a b c d:QC)(b_a:ShortZ a)(b_b:ShortZ b)(b_c:ShortZ c)(b_d:ShortZ d)(hd:¬(((a*d) - (b*c))=(⟨0,0⟩:QC)))(hn:c=(⟨1,0⟩:QC)∨(c=(⟨0,0⟩:QC)∧d=(⟨1,0⟩:QC))):SpecC Tryz.prog true 7 [.row ((rawQ a).cells++(rawQ b).cells++(rawQ c).cells++(rawQ d).cells++[gl (.bool true)])] (.tup [.row (zGG),.c (gl (.int .i64 250))]) :=
  ev_sp (L := [(rawQ a).cells,(rawQ b).cells,(rawQ c).cells,(rawQ d).cells].flatten) tys_ok mixed
     [gs (rChk a b c d true b_a b_b b_c b_d hd hn) [.row (flA [syms 0 32,[.lit (.bool true)]])] (.r (.c (.lit (.int .i64 0))))]
     [] [] Tryz.func7 eo7 2000 [.row (flA [syms 0 32,[.lit (.bool true)]])] (.tup [.row (zGA),.c (.lit (.int .i64 250))])
theorem rKind(a b c d:QC)(b_a:ShortZ a)(b_b:ShortZ b)(b_c:ShortZ c)(b_d:ShortZ d)(hd:¬(((a*d) - (b*c))=(⟨0,0⟩:QC)))(hn:c=(⟨1,0⟩:QC)∨(c=(⟨0,0⟩:QC)∧d=(⟨1,0⟩:QC))):SpecC Tryz.prog true 9 [.row ((rawQ a).cells++(rawQ b).cells++(rawQ c).cells++(rawQ d).cells++[gl (.bool false)])] (if(b=(⟨0,0⟩:QC)∧c=(⟨0,0⟩:QC)∧a=d) then .tup [.c (gl (.int .i64 1)),.c (gl (.int .i64 0))] else if(((e1 a b c d).im).num.sign)=0∧(¬((((e1 a b c d).re).num.sign)<0)) then if(cmpR ((e1 a b c d).re) (4:Rat))=0 then .tup [.c (gl (.int .i64 2)),.c (gl (.int .i64 0))] else if(cmpR ((e1 a b c d).re) (4:Rat))<0 then .tup [.c (gl (.int .i64 3)),.c (gl (.int .i64 0))] else .tup [.c (gl (.int .i64 4)),.c (gl (.int .i64 0))] else .tup [.c (gl (.int .i64 5)),.c (gl (.int .i64 0))]) :=
  have t1:=rChk a b c d false b_a b_b b_c b_d hd hn
  have t2:=rOf a b c d false b_a b_b b_c b_d
  have t3:=rStill a b c d ((ZL_short b_a).mono (by omega)) ((ZL_short b_b).mono (by omega)) ((ZL_short b_c).mono (by omega)) ((ZL_short b_d).mono (by omega))
  have t4:=rsgn a b c d false ((ZL_short b_a).mono (by omega)) ((ZL_short b_b).mono (by omega)) ((ZL_short b_c).mono (by omega)) ((ZL_short b_d).mono (by omega)) hd
  have t5:=rfInt 4 (by decide) (by decide)
  have t6:=rfCmp ((e1 a b c d).re) (4:Rat) (((rsgn_b0_1 a b c d false (ZL_short b_a) (ZL_short b_b) (ZL_short b_c) (ZL_short b_d) hd).1).mono (by omega)) ((RL_i64 4 (by decide) (by decide)).mono (by omega))
  have t7:=rfSign ((e1 a b c d).im)
  have t8:=rfSign ((e1 a b c d).re)
  (Classical.em (b = (⟨0,0⟩ : QC) ∧ c = (⟨0,0⟩ : QC) ∧ a = d)).elim (fun h0 => .it h0 (ev_sp (L := [(rawQ a).cells,(rawQ b).cells,(rawQ c).cells,(rawQ d).cells,(rawQ a).cells,(rawQ b).cells,(rawQ c).cells,(rawQ d).cells].flatten) tys_ok mixed
     [gs (t1) [.row (flA [syms 0 32,[.lit (.bool false)]])] (.r (.c (.lit (.int .i64 0)))),gs (t2) [.row (flA [syms 0 32,[.lit (.bool false)]])] (.r (.row (flA [syms 32 32,[.lit (.bool false)]]))),gs (t3.t h0) [.row (flA [syms 32 32,[.lit (.bool false)]])] (.r (.c (.lit (.bool true))))]
     [] [] Tryz.func9 eo9 2000 [.row (flA [syms 0 32,[.lit (.bool false)]])] (.tup [.c (.lit (.int .i64 1)),.c (.lit (.int .i64 0))])))
   (fun h0=>.ie h0 ((Classical.em ((((e1 a b c d).im).num.sign)=0)).elim (fun h1=>(Classical.em ((((e1 a b c d).re).num.sign)<0)).elim (fun h2=>.ie (fun h=>h.2 h2) (ev_sp (L:=[(rawQ a).cells,(rawQ b).cells,(rawQ c).cells,(rawQ d).cells,(rawQ a).cells,(rawQ b).cells,(rawQ c).cells,(rawQ d).cells,cG (e1 a b c d),cF (4:Rat),[gx (.int .i64 (cmpR ((e1 a b c d).re) (4:Rat)))],[gx (.int .i64 (((e1 a b c d).im).num.sign))],[gx (.int .i64 (((e1 a b c d).re).num.sign))]].flatten) tys_ok mixed
     [gs (t1) [.row (flA [syms 0 32,[.lit (.bool false)]])] (.r (.c (.lit (.int .i64 0)))),gs (t2) [.row (flA [syms 0 32,[.lit (.bool false)]])] (.r (.row (flA [syms 32 32,[.lit (.bool false)]]))),gs (t3.f h0) [.row (flA [syms 32 32,[.lit (.bool false)]])] (.r (.c (.lit (.bool false)))),gs (t4) [.row (flA [syms 32 32,[.lit (.bool false)]])] (.r (.row (gR 64))),gs (t5) [.c (.lit (.int .i64 4))] (.r (.row [.sym 70,.sym 71,.lit (.bool false),.sym 72])),gs (t6) [.row [.sym 64,.sym 65,.lit (.bool false),.sym 66],.row [.sym 70,.sym 71,.lit (.bool false),.sym 72]] (.r (.c (.sym 73))),gs (t7) [.row [.sym 67,.sym 68,.lit (.bool false),.sym 69]] (.r (.c (.sym 74))),gs (t8) [.row [.sym 64,.sym 65,.lit (.bool false),.sym 66]] (.r (.c (.sym 75)))]
     [bI .neq 3 (.sym 74) (.lit (.int .i64 0)) (((e1 a b c d).im).num.sign) 0 false (by simp[cmpB,h1]),bI .lss 3 (.sym 75) (.lit (.int .i64 0)) (((e1 a b c d).re).num.sign) 0 true (by simp only[cmpB]; exact congrArg some (decide_eq_true h2))] [] Tryz.func9 eo9 2000 [.row (flA [syms 0 32,[.lit (.bool false)]])] (.tup [.c (.lit (.int .i64 5)),.c (.lit (.int .i64 0))])))
   (fun h2=>.it ⟨h1,h2⟩ ((Classical.em ((cmpR ((e1 a b c d).re) (4:Rat))=0)).elim (fun h3=>.it h3 (ev_sp (L:=[(rawQ a).cells,(rawQ b).cells,(rawQ c).cells,(rawQ d).cells,(rawQ a).cells,(rawQ b).cells,(rawQ c).cells,(rawQ d).cells,cG (e1 a b c d),cF (4:Rat),[gx (.int .i64 (cmpR ((e1 a b c d).re) (4:Rat)))],[gx (.int .i64 (((e1 a b c d).im).num.sign))],[gx (.int .i64 (((e1 a b c d).re).num.sign))]].flatten) tys_ok mixed
     [gs (t1) [.row (flA [syms 0 32,[.lit (.bool false)]])] (.r (.c (.lit (.int .i64 0)))),gs (t2) [.row (flA [syms 0 32,[.lit (.bool false)]])] (.r (.row (flA [syms 32 32,[.lit (.bool false)]]))),gs (t3.f h0) [.row (flA [syms 32 32,[.lit (.bool false)]])] (.r (.c (.lit (.bool false)))),gs (t4) [.row (flA [syms 32 32,[.lit (.bool false)]])] (.r (.row (gR 64))),gs (t5) [.c (.lit (.int .i64 4))] (.r (.row [.sym 70,.sym 71,.lit (.bool false),.sym 72])),gs (t6) [.row [.sym 64,.sym 65,.lit (.bool false),.sym 66],.row [.sym 70,.sym 71,.lit (.bool false),.sym 72]] (.r (.c (.sym 73))),gs (t7) [.row [.sym 67,.sym 68,.lit (.bool false),.sym 69]] (.r (.c (.sym 74))),gs (t8) [.row [.sym 64,.sym 65,.lit (.bool false),.sym 66]] (.r (.c (.sym 75)))]
     [bI .neq 3 (.sym 74) (.lit (.int .i64 0)) (((e1 a b c d).im).num.sign) 0 false (by simp[cmpB,h1]),bI .lss 3 (.sym 75) (.lit (.int .i64 0)) (((e1 a b c d).re).num.sign) 0 false (by simp only[cmpB]; exact congrArg some (decide_eq_false h2)),bI .eql 3 (.sym 73) (.lit (.int .i64 0)) (cmpR ((e1 a b c d).re) (4:Rat)) 0 true (by simp[cmpB,h3])] [] Tryz.func9 eo9 2000 [.row (flA [syms 0 32,[.lit (.bool false)]])] (.tup [.c (.lit (.int .i64 2)),.c (.lit (.int .i64 0))])))
   (fun h3=>.ie h3 ((Classical.em ((cmpR ((e1 a b c d).re) (4:Rat))<0)).elim (fun h4=>.it h4 (ev_sp (L:=[(rawQ a).cells,(rawQ b).cells,(rawQ c).cells,(rawQ d).cells,(rawQ a).cells,(rawQ b).cells,(rawQ c).cells,(rawQ d).cells,cG (e1 a b c d),cF (4:Rat),[gx (.int .i64 (cmpR ((e1 a b c d).re) (4:Rat)))],[gx (.int .i64 (((e1 a b c d).im).num.sign))],[gx (.int .i64 (((e1 a b c d).re).num.sign))]].flatten) tys_ok mixed
     [gs (t1) [.row (flA [syms 0 32,[.lit (.bool false)]])] (.r (.c (.lit (.int .i64 0)))),gs (t2) [.row (flA [syms 0 32,[.lit (.bool false)]])] (.r (.row (flA [syms 32 32,[.lit (.bool false)]]))),gs (t3.f h0) [.row (flA [syms 32 32,[.lit (.bool false)]])] (.r (.c (.lit (.bool false)))),gs (t4) [.row (flA [syms 32 32,[.lit (.bool false)]])] (.r (.row (gR 64))),gs (t5) [.c (.lit (.int .i64 4))] (.r (.row [.sym 70,.sym 71,.lit (.bool false),.sym 72])),gs (t6) [.row [.sym 64,.sym 65,.lit (.bool false),.sym 66],.row [.sym 70,.sym 71,.lit (.bool false),.sym 72]] (.r (.c (.sym 73))),gs (t7) [.row [.sym 67,.sym 68,.lit (.bool false),.sym 69]] (.r (.c (.sym 74))),gs (t8) [.row [.sym 64,.sym 65,.lit (.bool false),.sym 66]] (.r (.c (.sym 75)))]
     [bI .neq 3 (.sym 74) (.lit (.int .i64 0)) (((e1 a b c d).im).num.sign) 0 false (by simp[cmpB,h1]),bI .lss 3 (.sym 75) (.lit (.int .i64 0)) (((e1 a b c d).re).num.sign) 0 false (by simp only[cmpB]; exact congrArg some (decide_eq_false h2)),bI .eql 3 (.sym 73) (.lit (.int .i64 0)) (cmpR ((e1 a b c d).re) (4:Rat)) 0 false (by simp[cmpB,h3]),bI .lss 3 (.sym 73) (.lit (.int .i64 0)) (cmpR ((e1 a b c d).re) (4:Rat)) 0 true (by simp only[cmpB]; exact congrArg some (decide_eq_true h4))] [] Tryz.func9 eo9 2000 [.row (flA [syms 0 32,[.lit (.bool false)]])] (.tup [.c (.lit (.int .i64 3)),.c (.lit (.int .i64 0))])))
   (fun h4=>.ie (fun h=>h4 h) (ev_sp (L:=[(rawQ a).cells,(rawQ b).cells,(rawQ c).cells,(rawQ d).cells,(rawQ a).cells,(rawQ b).cells,(rawQ c).cells,(rawQ d).cells,cG (e1 a b c d),cF (4:Rat),[gx (.int .i64 (cmpR ((e1 a b c d).re) (4:Rat)))],[gx (.int .i64 (((e1 a b c d).im).num.sign))],[gx (.int .i64 (((e1 a b c d).re).num.sign))]].flatten) tys_ok mixed
     [gs (t1) [.row (flA [syms 0 32,[.lit (.bool false)]])] (.r (.c (.lit (.int .i64 0)))),gs (t2) [.row (flA [syms 0 32,[.lit (.bool false)]])] (.r (.row (flA [syms 32 32,[.lit (.bool false)]]))),gs (t3.f h0) [.row (flA [syms 32 32,[.lit (.bool false)]])] (.r (.c (.lit (.bool false)))),gs (t4) [.row (flA [syms 32 32,[.lit (.bool false)]])] (.r (.row (gR 64))),gs (t5) [.c (.lit (.int .i64 4))] (.r (.row [.sym 70,.sym 71,.lit (.bool false),.sym 72])),gs (t6) [.row [.sym 64,.sym 65,.lit (.bool false),.sym 66],.row [.sym 70,.sym 71,.lit (.bool false),.sym 72]] (.r (.c (.sym 73))),gs (t7) [.row [.sym 67,.sym 68,.lit (.bool false),.sym 69]] (.r (.c (.sym 74))),gs (t8) [.row [.sym 64,.sym 65,.lit (.bool false),.sym 66]] (.r (.c (.sym 75)))]
     [bI .neq 3 (.sym 74) (.lit (.int .i64 0)) (((e1 a b c d).im).num.sign) 0 false (by simp[cmpB,h1]),bI .lss 3 (.sym 75) (.lit (.int .i64 0)) (((e1 a b c d).re).num.sign) 0 false (by simp only[cmpB]; exact congrArg some (decide_eq_false h2)),bI .eql 3 (.sym 73) (.lit (.int .i64 0)) (cmpR ((e1 a b c d).re) (4:Rat)) 0 false (by simp[cmpB,h3]),bI .lss 3 (.sym 73) (.lit (.int .i64 0)) (cmpR ((e1 a b c d).re) (4:Rat)) 0 false (by simp only[cmpB]; exact congrArg some (decide_eq_false h4))] [] Tryz.func9 eo9 2000 [.row (flA [syms 0 32,[.lit (.bool false)]])] (.tup [.c (.lit (.int .i64 4)),.c (.lit (.int .i64 0))]))))))))
   (fun h1=>.ie (fun h=>h1 h.1) (ev_sp (L:=[(rawQ a).cells,(rawQ b).cells,(rawQ c).cells,(rawQ d).cells,(rawQ a).cells,(rawQ b).cells,(rawQ c).cells,(rawQ d).cells,cG (e1 a b c d),cF (4:Rat),[gx (.int .i64 (cmpR ((e1 a b c d).re) (4:Rat)))],[gx (.int .i64 (((e1 a b c d).im).num.sign))]].flatten) tys_ok mixed
     [gs (t1) [.row (flA [syms 0 32,[.lit (.bool false)]])] (.r (.c (.lit (.int .i64 0)))),gs (t2) [.row (flA [syms 0 32,[.lit (.bool false)]])] (.r (.row (flA [syms 32 32,[.lit (.bool false)]]))),gs (t3.f h0) [.row (flA [syms 32 32,[.lit (.bool false)]])] (.r (.c (.lit (.bool false)))),gs (t4) [.row (flA [syms 32 32,[.lit (.bool false)]])] (.r (.row (gR 64))),gs (t5) [.c (.lit (.int .i64 4))] (.r (.row [.sym 70,.sym 71,.lit (.bool false),.sym 72])),gs (t6) [.row [.sym 64,.sym 65,.lit (.bool false),.sym 66],.row [.sym 70,.sym 71,.lit (.bool false),.sym 72]] (.r (.c (.sym 73))),gs (t7) [.row [.sym 67,.sym 68,.lit (.bool false),.sym 69]] (.r (.c (.sym 74)))]
     [bI .neq 3 (.sym 74) (.lit (.int .i64 0)) (((e1 a b c d).im).num.sign) 0 true (by simp[cmpB,h1])] [] Tryz.func9 eo9 2000 [.row (flA [syms 0 32,[.lit (.bool false)]])] (.tup [.c (.lit (.int .i64 5)),.c (.lit (.int .i64 0))])))))
theorem rKindT(a b c d:QC)(b_a:ShortZ a)(b_b:ShortZ b)(b_c:ShortZ c)(b_d:ShortZ d)(hd:¬(((a*d) - (b*c))=(⟨0,0⟩:QC)))(hn:c=(⟨1,0⟩:QC)∨(c=(⟨0,0⟩:QC)∧d=(⟨1,0⟩:QC))):SpecC Tryz.prog true 9 [.row ((rawQ a).cells++(rawQ b).cells++(rawQ c).cells++(rawQ d).cells++[gl (.bool true)])] (.tup [.c (gl (.int .i64 6)),.c (gl (.int .i64 0))]) :=
  ev_sp (L := [(rawQ a).cells,(rawQ b).cells,(rawQ c).cells,(rawQ d).cells].flatten) tys_ok mixed
     [gs (rChk a b c d true b_a b_b b_c b_d hd hn) [.row (flA [syms 0 32,[.lit (.bool true)]])] (.r (.c (.lit (.int .i64 0))))]
     [] [] Tryz.func9 eo9 2000 [.row (flA [syms 0 32,[.lit (.bool true)]])] (.tup [.c (.lit (.int .i64 6)),.c (.lit (.int .i64 0))])
end Go.Proofs.YtgjkifdilflcbaaGreat
