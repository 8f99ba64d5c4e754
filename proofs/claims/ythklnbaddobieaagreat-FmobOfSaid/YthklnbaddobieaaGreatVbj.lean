/- Laws for the walk. -/
import Derived.Test.YthklnbaddobieaaGreatVbi
set_option linter.unusedVariables false
set_option maxHeartbeats 4000000
set_option linter.unusedSimpArgs false
namespace Go.Proofs.YthklnbaddobieaaGreat
open Go.RowKit Tr
open Classical
theorem r8Det(a b c d:QC)(t:Bool)(b_a:ZL a 200000)(b_b:ZL b 200000)(b_c:ZL c 200000)(b_d:ZL d 200000) :SpecC Tryz.prog true 134 [.row (rG a++rG b++rG c++rG d++[gx (.bool t)])] (.r (.row (rG ((a*d) - (b*c))))) :=
  ev_sp (L := [cG a,cG b,cG c,cG d,[gx (.bool t)],cG (a * d),cG (b * c),cG ((a * d) - (b * c))].flatten) tys_ok mixed
     [gs (rTimes a d (b_a.mono (by omega)) (b_d.mono (by omega))) [.row (gR 0),.row (gR 18)] (.r (.row (gR 25))),gs (rTimes b c (b_b.mono (by omega)) (b_c.mono (by omega))) [.row (gR 6),.row (gR 12)] (.r (.row (gR 31))),gs (rMinus (a*d) (b*c) ((ZL_mul b_a b_d).mono (by omega)) ((ZL_mul b_b b_c).mono (by omega))) [.row (gR 25),.row (gR 31)] (.r (.row (gR 37)))]
     [] [] Tryz.func134 eo134 2000 [.row (flA [gL [0,6,12,18],[.sym 24]])] (.r (.row (gR 37)))
theorem runit  :SpecC Tryz.prog true 131 [] (.r (.row ((rawQ (⟨1,0⟩:QC)).cells))) :=
  ev_sp (L := [(rawQ (⟨1,0⟩ : QC)).cells].flatten) tys_ok mixed
     [gs (rInt 1 0 (by decide) (by decide) (by decide) (by decide)) [.c (.lit (.int .i64 1)),.c (.lit (.int .i64 0))] (.r (.row (syms 0 8)))]
     [] [] Tryz.func131 eo131 2000 [] (.r (.row (syms 0 8)))
theorem rzero  :SpecC Tryz.prog true 132 [] (.r (.row ((rawQ (⟨0,0⟩:QC)).cells))) :=
  ev_sp (L := [(rawQ (⟨0,0⟩ : QC)).cells].flatten) tys_ok mixed
     [gs (rInt 0 0 (by decide) (by decide) (by decide) (by decide)) [.c (.lit (.int .i64 0)),.c (.lit (.int .i64 0))] (.r (.row (syms 0 8)))]
     [] [] Tryz.func132 eo132 2000 [] (.r (.row (syms 0 8)))
theorem rCheck(a b c d:QC)(t:Bool)(b_a:ShortZ a)(b_b:ShortZ b)(b_c:ShortZ c)(b_d:ShortZ d) :SpecC Tryz.prog true 66 [.row ((rawQ a).cells++(rawQ b).cells++(rawQ c).cells++(rawQ d).cells++[gx (.bool t)])] (if c=(⟨1,0⟩:QC) then if((a*d) - (b*c))=(⟨0,0⟩:QC) then .r (.c (gl (.int .i64 2))) else .r (.c (gl (.int .i64 0))) else if c=(⟨0,0⟩:QC)∧d=(⟨1,0⟩:QC)∧(¬(((a*d) - (b*c))=(⟨0,0⟩:QC))) then .r (.c (gl (.int .i64 0))) else .r (.c (gl (.int .i64 2)))) :=
  have t1:=rGMay (rawQ a) true (tI (rawQ_ok b_a))
  have t2:=rGMay (rawQ b) true (tI (rawQ_ok b_b))
  have t3:=rGMay (rawQ c) true (tI (rawQ_ok b_c))
  have t4:=rGMay (rawQ d) true (tI (rawQ_ok b_d))
  have t5:=r8Det a b c d t ((ZL_short b_a).mono (by omega)) ((ZL_short b_b).mono (by omega)) ((ZL_short b_c).mono (by omega)) ((ZL_short b_d).mono (by omega))
  (Classical.em (c = (⟨1,0⟩ : QC))).elim (fun h0 => .it h0 ((Classical.em (((a * d) - (b * c)) = (⟨0,0⟩ : QC))).elim (fun h1 => .it h1 (ev_sp (L := [(rawQ a).cells,(rawQ b).cells,(rawQ c).cells,(rawQ d).cells,[gx (.bool t)],(rawQ (⟨1,0⟩ : QC)).cells,cG ((a * d) - (b * c))].flatten) tys_ok mixed
     [gs (t1) [.row (syms 0 8)] (.r (.c (.lit (.bool true)))),gs (t2) [.row (syms 8 8)] (.r (.c (.lit (.bool true)))),gs (t3) [.row (syms 16 8)] (.r (.c (.lit (.bool true)))),gs (t4) [.row (syms 24 8)] (.r (.c (.lit (.bool true)))),gs (runit) [] (.r (.row (syms 33 8))),gs (t5) [.row (syms 0 33)] (.r (.row (gR 41))),gs (rZero ((a*d) - (b*c)) true (tI h1)) [.row (gR 41)] (.r (.c (.lit (.bool true))))]
     [bGn (.row (syms 16 8)) (.row (syms 33 8)) (rawQ c) (rawQ (⟨1,0⟩:QC)) true ((tI h0).trans rawQ_inj.symm)] [] Tryz.func66 eo66 2000 [.row (syms 0 33)] (.r (.c (.lit (.int .i64 2))))))
   (fun h1=>.ie (fun h=>h1 h) (ev_sp (L:=[(rawQ a).cells,(rawQ b).cells,(rawQ c).cells,(rawQ d).cells,[gx (.bool t)],(rawQ (⟨1,0⟩:QC)).cells,cG ((a*d) - (b*c))].flatten) tys_ok mixed
     [gs (t1) [.row (syms 0 8)] (.r (.c (.lit (.bool true)))),gs (t2) [.row (syms 8 8)] (.r (.c (.lit (.bool true)))),gs (t3) [.row (syms 16 8)] (.r (.c (.lit (.bool true)))),gs (t4) [.row (syms 24 8)] (.r (.c (.lit (.bool true)))),gs (runit) [] (.r (.row (syms 33 8))),gs (t5) [.row (syms 0 33)] (.r (.row (gR 41))),gs (rZero ((a*d) - (b*c)) false (fI h1)) [.row (gR 41)] (.r (.c (.lit (.bool false))))]
     [bGn (.row (syms 16 8)) (.row (syms 33 8)) (rawQ c) (rawQ (⟨1,0⟩:QC)) true ((tI h0).trans rawQ_inj.symm)] [] Tryz.func66 eo66 2000 [.row (syms 0 33)] (.r (.c (.lit (.int .i64 0))))))))
   (fun h0=>.ie (fun h=>h0 h) ((Classical.em (c=(⟨0,0⟩:QC))).elim (fun h1=>(Classical.em (d=(⟨1,0⟩:QC))).elim (fun h2=>(Classical.em (((a*d) - (b*c))=(⟨0,0⟩:QC))).elim (fun h3=>.ie (fun h=>h.2.2 h3) (ev_sp (L:=[(rawQ a).cells,(rawQ b).cells,(rawQ c).cells,(rawQ d).cells,[gx (.bool t)],(rawQ (⟨1,0⟩:QC)).cells,(rawQ (⟨0,0⟩:QC)).cells,cG ((a*d) - (b*c))].flatten) tys_ok mixed
     [gs (t1) [.row (syms 0 8)] (.r (.c (.lit (.bool true)))),gs (t2) [.row (syms 8 8)] (.r (.c (.lit (.bool true)))),gs (t3) [.row (syms 16 8)] (.r (.c (.lit (.bool true)))),gs (t4) [.row (syms 24 8)] (.r (.c (.lit (.bool true)))),gs (runit) [] (.r (.row (syms 33 8))),gs (rzero) [] (.r (.row (syms 41 8))),gs (t5) [.row (syms 0 33)] (.r (.row (gR 49))),gs (rZero ((a*d) - (b*c)) true (tI h3)) [.row (gR 49)] (.r (.c (.lit (.bool true))))]
     [bGn (.row (syms 16 8)) (.row (syms 33 8)) (rawQ c) (rawQ (⟨1,0⟩:QC)) false ((fI h0).trans rawQ_inj.symm),bGn (.row (syms 16 8)) (.row (syms 41 8)) (rawQ c) (rawQ (⟨0,0⟩:QC)) true ((tI h1).trans rawQ_inj.symm),bGn (.row (syms 24 8)) (.row (syms 33 8)) (rawQ d) (rawQ (⟨1,0⟩:QC)) true ((tI h2).trans rawQ_inj.symm)] [] Tryz.func66 eo66 2000 [.row (syms 0 33)] (.r (.c (.lit (.int .i64 2))))))
   (fun h3=>.it ⟨h1,h2,h3⟩ (ev_sp (L:=[(rawQ a).cells,(rawQ b).cells,(rawQ c).cells,(rawQ d).cells,[gx (.bool t)],(rawQ (⟨1,0⟩:QC)).cells,(rawQ (⟨0,0⟩:QC)).cells,cG ((a*d) - (b*c))].flatten) tys_ok mixed
     [gs (t1) [.row (syms 0 8)] (.r (.c (.lit (.bool true)))),gs (t2) [.row (syms 8 8)] (.r (.c (.lit (.bool true)))),gs (t3) [.row (syms 16 8)] (.r (.c (.lit (.bool true)))),gs (t4) [.row (syms 24 8)] (.r (.c (.lit (.bool true)))),gs (runit) [] (.r (.row (syms 33 8))),gs (rzero) [] (.r (.row (syms 41 8))),gs (t5) [.row (syms 0 33)] (.r (.row (gR 49))),gs (rZero ((a*d) - (b*c)) false (fI h3)) [.row (gR 49)] (.r (.c (.lit (.bool false))))]
     [bGn (.row (syms 16 8)) (.row (syms 33 8)) (rawQ c) (rawQ (⟨1,0⟩:QC)) false ((fI h0).trans rawQ_inj.symm),bGn (.row (syms 16 8)) (.row (syms 41 8)) (rawQ c) (rawQ (⟨0,0⟩:QC)) true ((tI h1).trans rawQ_inj.symm),bGn (.row (syms 24 8)) (.row (syms 33 8)) (rawQ d) (rawQ (⟨1,0⟩:QC)) true ((tI h2).trans rawQ_inj.symm)] [] Tryz.func66 eo66 2000 [.row (syms 0 33)] (.r (.c (.lit (.int .i64 0)))))))
   (fun h2=>.ie (fun h=>h2 h.2.1) (ev_sp (L:=[(rawQ a).cells,(rawQ b).cells,(rawQ c).cells,(rawQ d).cells,[gx (.bool t)],(rawQ (⟨1,0⟩:QC)).cells,(rawQ (⟨0,0⟩:QC)).cells].flatten) tys_ok mixed
     [gs (t1) [.row (syms 0 8)] (.r (.c (.lit (.bool true)))),gs (t2) [.row (syms 8 8)] (.r (.c (.lit (.bool true)))),gs (t3) [.row (syms 16 8)] (.r (.c (.lit (.bool true)))),gs (t4) [.row (syms 24 8)] (.r (.c (.lit (.bool true)))),gs (runit) [] (.r (.row (syms 33 8))),gs (rzero) [] (.r (.row (syms 41 8)))]
     [bGn (.row (syms 16 8)) (.row (syms 33 8)) (rawQ c) (rawQ (⟨1,0⟩:QC)) false ((fI h0).trans rawQ_inj.symm),bGn (.row (syms 16 8)) (.row (syms 41 8)) (rawQ c) (rawQ (⟨0,0⟩:QC)) true ((tI h1).trans rawQ_inj.symm),bGn (.row (syms 24 8)) (.row (syms 33 8)) (rawQ d) (rawQ (⟨1,0⟩:QC)) false ((fI h2).trans rawQ_inj.symm)] [] Tryz.func66 eo66 2000 [.row (syms 0 33)] (.r (.c (.lit (.int .i64 2)))))))
   (fun h1=>.ie (fun h=>h1 h.1) (ev_sp (L:=[(rawQ a).cells,(rawQ b).cells,(rawQ c).cells,(rawQ d).cells,[gx (.bool t)],(rawQ (⟨1,0⟩:QC)).cells,(rawQ (⟨0,0⟩:QC)).cells].flatten) tys_ok mixed
     [gs (t1) [.row (syms 0 8)] (.r (.c (.lit (.bool true)))),gs (t2) [.row (syms 8 8)] (.r (.c (.lit (.bool true)))),gs (t3) [.row (syms 16 8)] (.r (.c (.lit (.bool true)))),gs (t4) [.row (syms 24 8)] (.r (.c (.lit (.bool true)))),gs (runit) [] (.r (.row (syms 33 8))),gs (rzero) [] (.r (.row (syms 41 8)))]
     [bGn (.row (syms 16 8)) (.row (syms 33 8)) (rawQ c) (rawQ (⟨1,0⟩:QC)) false ((fI h0).trans rawQ_inj.symm),bGn (.row (syms 16 8)) (.row (syms 41 8)) (rawQ c) (rawQ (⟨0,0⟩:QC)) false ((fI h1).trans rawQ_inj.symm)] [] Tryz.func66 eo66 2000 [.row (syms 0 33)] (.r (.c (.lit (.int .i64 2))))))))
theorem rCheckB(g1 g2 g3 g4:RawG)(t:Bool)(hbad:¬(GOk g1.val∧GOk g2.val∧GOk g3.val∧GOk g4.val)):SpecC Tryz.prog true 66 [.row (g1.cells++g2.cells++g3.cells++g4.cells++[gx (.bool t)])] (.r (.c (gl (.int .i64 2)))) :=
  (Classical.em (GOk g1.val)).elim (fun h0=>(Classical.em (GOk g2.val)).elim (fun h1=>(Classical.em (GOk g3.val)).elim (fun h2=>(Classical.em (GOk g4.val)).elim (fun h3=>(hbad ⟨h0,h1,h2,h3⟩).elim)
   (fun h3=>ev_sp (L:=[g1.cells,g2.cells,g3.cells,g4.cells,[gx (.bool t)]].flatten) tys_ok mixed
     [gs (rGMay g1 true (tI h0)) [.row (syms 0 8)] (.r (.c (.lit (.bool true)))),gs (rGMay g2 true (tI h1)) [.row (syms 8 8)] (.r (.c (.lit (.bool true)))),gs (rGMay g3 true (tI h2)) [.row (syms 16 8)] (.r (.c (.lit (.bool true)))),gs (rGMay g4 false (fI h3)) [.row (syms 24 8)] (.r (.c (.lit (.bool false))))]
     [] [] Tryz.func66 eo66 2000 [.row (syms 0 33)] (.r (.c (.lit (.int .i64 2))))))
   (fun h2=>ev_sp (L:=[g1.cells,g2.cells,g3.cells,g4.cells,[gx (.bool t)]].flatten) tys_ok mixed
     [gs (rGMay g1 true (tI h0)) [.row (syms 0 8)] (.r (.c (.lit (.bool true)))),gs (rGMay g2 true (tI h1)) [.row (syms 8 8)] (.r (.c (.lit (.bool true)))),gs (rGMay g3 false (fI h2)) [.row (syms 16 8)] (.r (.c (.lit (.bool false))))]
     [] [] Tryz.func66 eo66 2000 [.row (syms 0 33)] (.r (.c (.lit (.int .i64 2))))))
   (fun h1=>ev_sp (L:=[g1.cells,g2.cells,g3.cells,g4.cells,[gx (.bool t)]].flatten) tys_ok mixed
     [gs (rGMay g1 true (tI h0)) [.row (syms 0 8)] (.r (.c (.lit (.bool true)))),gs (rGMay g2 false (fI h1)) [.row (syms 8 8)] (.r (.c (.lit (.bool false))))]
     [] [] Tryz.func66 eo66 2000 [.row (syms 0 33)] (.r (.c (.lit (.int .i64 2))))))
   (fun h0=>ev_sp (L:=[g1.cells,g2.cells,g3.cells,g4.cells,[gx (.bool t)]].flatten) tys_ok mixed
     [gs (rGMay g1 false (fI h0)) [.row (syms 0 8)] (.r (.c (.lit (.bool false))))]
     [] [] Tryz.func66 eo66 2000 [.row (syms 0 33)] (.r (.c (.lit (.int .i64 2)))))
theorem rChk(a b c d:QC)(t:Bool)(b_a:ShortZ a)(b_b:ShortZ b)(b_c:ShortZ c)(b_d:ShortZ d)(hd:¬(((a*d) - (b*c))=(⟨0,0⟩:QC)))(hn:c=(⟨1,0⟩:QC)∨(c=(⟨0,0⟩:QC)∧d=(⟨1,0⟩:QC))):SpecC Tryz.prog true 66 [.row ((rawQ a).cells++(rawQ b).cells++(rawQ c).cells++(rawQ d).cells++[gx (.bool t)])] (.r (.c (gl (.int .i64 0)))):=by
 have k:=rCheck a b c d t b_a b_b b_c b_d
 by_cases h:c=⟨1,0⟩
 ·exact(k.t h).f hd
 ·exact(k.f h).t ⟨(hn.resolve_left h).1,(hn.resolve_left h).2,hd⟩
theorem rChkN(g1 g2 g3 g4:RawG)(t:Bool)(h:¬MOk ⟨g1,g2,g3,g4,t⟩):SpecC Tryz.prog true 66 [.row (g1.cells++g2.cells++g3.cells++g4.cells++[gx (.bool t)])] (.r (.c (gl (.int .i64 2)))):=by
 by_cases hg:GOk g1.val∧GOk g2.val∧GOk g3.val∧GOk g4.val
 ·obtain⟨k1,k2,k3,k4⟩:=hg
  obtain⟨a,rfl,ha⟩:=gOk_raw k1
  obtain⟨b,rfl,hb⟩:=gOk_raw k2
  obtain⟨c,rfl,hc⟩:=gOk_raw k3
  obtain⟨d,rfl,hd⟩:=gOk_raw k4
  have k:=rCheck a b c d t ha hb hc hd
  by_cases h1:c=⟨1,0⟩
  ·exact(k.t h1).t (Classical.byContradiction fun h2=>h ⟨a,b,c,d,⟨rfl,rfl,rfl,rfl⟩,⟨ha,hb,hc,hd⟩,.inl h1,h2⟩)
  ·exact(k.f h1).f (fun h2=>h ⟨a,b,c,d,⟨rfl,rfl,rfl,rfl⟩,⟨ha,hb,hc,hd⟩,.inr ⟨h2.1,h2.2.1⟩,h2.2.2⟩)
 ·exact rCheckB g1 g2 g3 g4 t hg
end Go.Proofs.YthklnbaddobieaaGreat
set_option linter.unusedSimpArgs false
namespace Tr
def ckm(c:Bool):Int:=if c then 0 else 6
def q0(c:Bool)(x:Nat):Nat:=if c then x else 0
theorem finW_q0{x:Nat}(h:FinW x)(c:Bool):FinW (q0 c x):=by cases c; exact finW_zero; exact h
end Tr
namespace Go.Proofs.YthklnbaddobieaaGreat
open Go.RowKit Tr
def MC(a b c d:QC)(t:Bool):List GF:=rG a++rG b++rG c++rG d++[gx (.bool t)]
def hN(z:QC)(k:Bool)(x y:Nat):Prop:=SpecC Tryz.prog true 65 [.row (rG z)] (.tup [.c (gx (.complex .f64 x y)),.c (gx (.int .i64 (ckm k)))])
def hD(z:QC)(k:Bool)(x y:Nat):Prop:=SpecC Tryz.prog false 67 [.row (rG z)] (.tup [.row [gx (.float .f64 x),gx (.float .f64 y)],.c (gx (.bool k))])
theorem cn_all(z:QC)(h:ShortZ z):∃ k x y,hN z k x y∧hD z k x y∧FinW x∧FinW y:=by
 obtain⟨r1,h1,g1⟩:=flt_ex z.re
 obtain⟨r2,h2,g2⟩:=flt_ex z.im
 exact⟨bothS r1 r2,cA r1 r2,cB r1 r2,nCplx z h h1 h2,dCplx z h h1 h2,finW_if g1 _,finW_if g2 _⟩
theorem pMOf(a b c d:QC)(t:Bool)(K:SpecC Tryz.prog true 64 [.row (MC a b c d t)] (.r (.c (gl (.int .i64 0))))){k1 k2 k3 k4:Bool}{x1 y1 x2 y2 x3 y3 x4 y4:Nat}(n1:hN a k1 x1 y1)(n2:hN b k2 x2 y2)(n3:hN c k3 x3 y3)(n4:hN d k4 x4 y4){k:Bool}(hk:k=(k1 && (k2 && (k3 && k4)))) :
  SpecC Tryz.prog true 25 [.row (MC a b c d t)] (.tup [.row [gx (.complex .f64 (q0 k x1) (q0 k y1)),gx (.complex .f64 (q0 k x2) (q0 k y2)),gx (.complex .f64 (q0 k x3) (q0 k y3)),gx (.complex .f64 (q0 k x4) (q0 k y4)),gx (.bool (k && t))],.c (gx (.int .i64 (ckm k)))]):=by
 subst hk
 unfold hN at n1 n2 n3 n4
 cases k1
 ·exact ev_sp (L:=MC a b c d t++[gx (.complex .f64 x1 y1)]) tys_ok mixed
   [gs K [.row (syms 0 33)] (.r (.c (.lit (.int .i64 0)))),gs n1 [.row (syms 0 8)] (.tup [.c (.sym 33),.c (.lit (.int .i64 6))])] [] []
   Tryz.func25 eo25 2000 [.row (syms 0 33)] (.tup [.row [.lit (.cpl 0 0),.lit (.cpl 0 0),.lit (.cpl 0 0),.lit (.cpl 0 0),.lit (.bool false)],.c (.lit (.int .i64 6))])
 cases k2
 ·exact ev_sp (L:=MC a b c d t++[gx (.complex .f64 x1 y1),gx (.complex .f64 x2 y2)]) tys_ok mixed
   [gs K [.row (syms 0 33)] (.r (.c (.lit (.int .i64 0)))),gs n1 [.row (syms 0 8)] (.tup [.c (.sym 33),.c (.lit (.int .i64 0))]),gs n2 [.row (syms 8 8)] (.tup [.c (.sym 34),.c (.lit (.int .i64 6))])] [] []
   Tryz.func25 eo25 2000 [.row (syms 0 33)] (.tup [.row [.lit (.cpl 0 0),.lit (.cpl 0 0),.lit (.cpl 0 0),.lit (.cpl 0 0),.lit (.bool false)],.c (.lit (.int .i64 6))])
 cases k3
 ·exact ev_sp (L:=MC a b c d t++[gx (.complex .f64 x1 y1),gx (.complex .f64 x2 y2),gx (.complex .f64 x3 y3)]) tys_ok mixed
   [gs K [.row (syms 0 33)] (.r (.c (.lit (.int .i64 0)))),gs n1 [.row (syms 0 8)] (.tup [.c (.sym 33),.c (.lit (.int .i64 0))]),gs n2 [.row (syms 8 8)] (.tup [.c (.sym 34),.c (.lit (.int .i64 0))]),gs n3 [.row (syms 16 8)] (.tup [.c (.sym 35),.c (.lit (.int .i64 6))])] [] []
   Tryz.func25 eo25 2000 [.row (syms 0 33)] (.tup [.row [.lit (.cpl 0 0),.lit (.cpl 0 0),.lit (.cpl 0 0),.lit (.cpl 0 0),.lit (.bool false)],.c (.lit (.int .i64 6))])
 cases k4
 ·exact ev_sp (L:=MC a b c d t++[gx (.complex .f64 x1 y1),gx (.complex .f64 x2 y2),gx (.complex .f64 x3 y3),gx (.complex .f64 x4 y4)]) tys_ok mixed
   [gs K [.row (syms 0 33)] (.r (.c (.lit (.int .i64 0)))),gs n1 [.row (syms 0 8)] (.tup [.c (.sym 33),.c (.lit (.int .i64 0))]),gs n2 [.row (syms 8 8)] (.tup [.c (.sym 34),.c (.lit (.int .i64 0))]),gs n3 [.row (syms 16 8)] (.tup [.c (.sym 35),.c (.lit (.int .i64 0))]),gs n4 [.row (syms 24 8)] (.tup [.c (.sym 36),.c (.lit (.int .i64 6))])] [] []
   Tryz.func25 eo25 2000 [.row (syms 0 33)] (.tup [.row [.lit (.cpl 0 0),.lit (.cpl 0 0),.lit (.cpl 0 0),.lit (.cpl 0 0),.lit (.bool false)],.c (.lit (.int .i64 6))])
 exact ev_sp (L:=MC a b c d t++[gx (.complex .f64 x1 y1),gx (.complex .f64 x2 y2),gx (.complex .f64 x3 y3),gx (.complex .f64 x4 y4)]) tys_ok mixed
   [gs K [.row (syms 0 33)] (.r (.c (.lit (.int .i64 0)))),gs n1 [.row (syms 0 8)] (.tup [.c (.sym 33),.c (.lit (.int .i64 0))]),gs n2 [.row (syms 8 8)] (.tup [.c (.sym 34),.c (.lit (.int .i64 0))]),gs n3 [.row (syms 16 8)] (.tup [.c (.sym 35),.c (.lit (.int .i64 0))]),gs n4 [.row (syms 24 8)] (.tup [.c (.sym 36),.c (.lit (.int .i64 0))])] [] []
   Tryz.func25 eo25 2000 [.row (syms 0 33)] (.tup [.row [.sym 33,.sym 34,.sym 35,.sym 36,.sym 32],.c (.lit (.int .i64 0))])
theorem pMOf_bad(g1 g2 g3 g4:RawG)(t:Bool)(K:SpecC Tryz.prog true 64 [.row (g1.cells++g2.cells++g3.cells++g4.cells++[gx (.bool t)])] (.r (.c (gl (.int .i64 2))))):SpecC Tryz.prog true 25 [.row (g1.cells++g2.cells++g3.cells++g4.cells++[gx (.bool t)])] (.tup [.row [gl (.cpl 0 0),gl (.cpl 0 0),gl (.cpl 0 0),gl (.cpl 0 0),gl (.bool false)],.c (gl (.int .i64 2))]) :=
 ev_sp (L:=g1.cells++g2.cells++g3.cells++g4.cells++[gx (.bool t)]) tys_ok mixed [gs K [.row (syms 0 33)] (.r (.c (.lit (.int .i64 2))))] [] []
  Tryz.func25 eo25 2000 [.row (syms 0 33)] (.tup [.row [.lit (.cpl 0 0),.lit (.cpl 0 0),.lit (.cpl 0 0),.lit (.cpl 0 0),.lit (.bool false)],.c (.lit (.int .i64 2))])
theorem dMOf(a b c d:QC)(t:Bool)(K:SpecC Tryz.prog true 66 [.row (MC a b c d t)] (.r (.c (gl (.int .i64 0))))){k1 k2 k3 k4:Bool}{x1 y1 x2 y2 x3 y3 x4 y4:Nat}(n1:hD a k1 x1 y1)(n2:hD b k2 x2 y2)(n3:hD c k3 x3 y3)(n4:hD d k4 x4 y4){k:Bool}(hk:k=(k1 && (k2 && (k3 && k4)))) :
  SpecC Tryz.prog true 26 [.row (MC a b c d t)] (.tup [.row [gx (.float .f64 (q0 k x1)),gx (.float .f64 (q0 k y1)),gx (.float .f64 (q0 k x2)),gx (.float .f64 (q0 k y2)),gx (.float .f64 (q0 k x3)),gx (.float .f64 (q0 k y3)),gx (.float .f64 (q0 k x4)),gx (.float .f64 (q0 k y4)),gx (.bool (k && t))],.c (gx (.int .i64 (ckm k)))]):=by
 subst hk
 unfold hD at n1 n2 n3 n4
 cases k1
 ·exact ev_sp (L:=MC a b c d t++[gx (.float .f64 x1),gx (.float .f64 y1),gx (.float .f64 x2),gx (.float .f64 y2),gx (.bool k2),gx (.float .f64 x3),gx (.float .f64 y3),gx (.bool k3),gx (.float .f64 x4),gx (.float .f64 y4),gx (.bool k4)]) tys_ok mixed
   [gs K [.row (syms 0 33)] (.r (.c (.lit (.int .i64 0)))),gs n1 [.row (syms 0 8)] (.tup [.row [.sym 33,.sym 34],.c (.lit (.bool false))]),gs n2 [.row (syms 8 8)] (.tup [.row [.sym 35,.sym 36],.c (.sym 37)]),gs n3 [.row (syms 16 8)] (.tup [.row [.sym 38,.sym 39],.c (.sym 40)]),gs n4 [.row (syms 24 8)] (.tup [.row [.sym 41,.sym 42],.c (.sym 43)])] [] []
   Tryz.func26 eo26 2000 [.row (syms 0 33)] (.tup [.row [.lit (.flt 0),.lit (.flt 0),.lit (.flt 0),.lit (.flt 0),.lit (.flt 0),.lit (.flt 0),.lit (.flt 0),.lit (.flt 0),.lit (.bool false)],.c (.lit (.int .i64 6))])
 cases k2
 ·exact ev_sp (L:=MC a b c d t++[gx (.float .f64 x1),gx (.float .f64 y1),gx (.float .f64 x2),gx (.float .f64 y2),gx (.float .f64 x3),gx (.float .f64 y3),gx (.bool k3),gx (.float .f64 x4),gx (.float .f64 y4),gx (.bool k4)]) tys_ok mixed
   [gs K [.row (syms 0 33)] (.r (.c (.lit (.int .i64 0)))),gs n1 [.row (syms 0 8)] (.tup [.row [.sym 33,.sym 34],.c (.lit (.bool true))]),gs n2 [.row (syms 8 8)] (.tup [.row [.sym 35,.sym 36],.c (.lit (.bool false))]),gs n3 [.row (syms 16 8)] (.tup [.row [.sym 37,.sym 38],.c (.sym 39)]),gs n4 [.row (syms 24 8)] (.tup [.row [.sym 40,.sym 41],.c (.sym 42)])] [] []
   Tryz.func26 eo26 2000 [.row (syms 0 33)] (.tup [.row [.lit (.flt 0),.lit (.flt 0),.lit (.flt 0),.lit (.flt 0),.lit (.flt 0),.lit (.flt 0),.lit (.flt 0),.lit (.flt 0),.lit (.bool false)],.c (.lit (.int .i64 6))])
 cases k3
 ·exact ev_sp (L:=MC a b c d t++[gx (.float .f64 x1),gx (.float .f64 y1),gx (.float .f64 x2),gx (.float .f64 y2),gx (.float .f64 x3),gx (.float .f64 y3),gx (.float .f64 x4),gx (.float .f64 y4),gx (.bool k4)]) tys_ok mixed
   [gs K [.row (syms 0 33)] (.r (.c (.lit (.int .i64 0)))),gs n1 [.row (syms 0 8)] (.tup [.row [.sym 33,.sym 34],.c (.lit (.bool true))]),gs n2 [.row (syms 8 8)] (.tup [.row [.sym 35,.sym 36],.c (.lit (.bool true))]),gs n3 [.row (syms 16 8)] (.tup [.row [.sym 37,.sym 38],.c (.lit (.bool false))]),gs n4 [.row (syms 24 8)] (.tup [.row [.sym 39,.sym 40],.c (.sym 41)])] [] []
   Tryz.func26 eo26 2000 [.row (syms 0 33)] (.tup [.row [.lit (.flt 0),.lit (.flt 0),.lit (.flt 0),.lit (.flt 0),.lit (.flt 0),.lit (.flt 0),.lit (.flt 0),.lit (.flt 0),.lit (.bool false)],.c (.lit (.int .i64 6))])
 cases k4
 ·exact ev_sp (L:=MC a b c d t++[gx (.float .f64 x1),gx (.float .f64 y1),gx (.float .f64 x2),gx (.float .f64 y2),gx (.float .f64 x3),gx (.float .f64 y3),gx (.float .f64 x4),gx (.float .f64 y4)]) tys_ok mixed
   [gs K [.row (syms 0 33)] (.r (.c (.lit (.int .i64 0)))),gs n1 [.row (syms 0 8)] (.tup [.row [.sym 33,.sym 34],.c (.lit (.bool true))]),gs n2 [.row (syms 8 8)] (.tup [.row [.sym 35,.sym 36],.c (.lit (.bool true))]),gs n3 [.row (syms 16 8)] (.tup [.row [.sym 37,.sym 38],.c (.lit (.bool true))]),gs n4 [.row (syms 24 8)] (.tup [.row [.sym 39,.sym 40],.c (.lit (.bool false))])] [] []
   Tryz.func26 eo26 2000 [.row (syms 0 33)] (.tup [.row [.lit (.flt 0),.lit (.flt 0),.lit (.flt 0),.lit (.flt 0),.lit (.flt 0),.lit (.flt 0),.lit (.flt 0),.lit (.flt 0),.lit (.bool false)],.c (.lit (.int .i64 6))])
 exact ev_sp (L:=MC a b c d t++[gx (.float .f64 x1),gx (.float .f64 y1),gx (.float .f64 x2),gx (.float .f64 y2),gx (.float .f64 x3),gx (.float .f64 y3),gx (.float .f64 x4),gx (.float .f64 y4)]) tys_ok mixed
   [gs K [.row (syms 0 33)] (.r (.c (.lit (.int .i64 0)))),gs n1 [.row (syms 0 8)] (.tup [.row [.sym 33,.sym 34],.c (.lit (.bool true))]),gs n2 [.row (syms 8 8)] (.tup [.row [.sym 35,.sym 36],.c (.lit (.bool true))]),gs n3 [.row (syms 16 8)] (.tup [.row [.sym 37,.sym 38],.c (.lit (.bool true))]),gs n4 [.row (syms 24 8)] (.tup [.row [.sym 39,.sym 40],.c (.lit (.bool true))])] [] []
   Tryz.func26 eo26 2000 [.row (syms 0 33)] (.tup [.row [.sym 33,.sym 34,.sym 35,.sym 36,.sym 37,.sym 38,.sym 39,.sym 40,.sym 32],.c (.lit (.int .i64 0))])
theorem dMOf_bad(g1 g2 g3 g4:RawG)(t:Bool)(K:SpecC Tryz.prog true 66 [.row (g1.cells++g2.cells++g3.cells++g4.cells++[gx (.bool t)])] (.r (.c (gl (.int .i64 2))))):SpecC Tryz.prog true 26 [.row (g1.cells++g2.cells++g3.cells++g4.cells++[gx (.bool t)])] (.tup [.row [gl (.flt 0),gl (.flt 0),gl (.flt 0),gl (.flt 0),gl (.flt 0),gl (.flt 0),gl (.flt 0),gl (.flt 0),gl (.bool false)],.c (gl (.int .i64 2))]) :=
 ev_sp (L:=g1.cells++g2.cells++g3.cells++g4.cells++[gx (.bool t)]) tys_ok mixed [gs K [.row (syms 0 33)] (.r (.c (.lit (.int .i64 2))))] [] []
  Tryz.func26 eo26 2000 [.row (syms 0 33)] (.tup [.row [.lit (.flt 0),.lit (.flt 0),.lit (.flt 0),.lit (.flt 0),.lit (.flt 0),.lit (.flt 0),.lit (.flt 0),.lit (.flt 0),.lit (.bool false)],.c (.lit (.int .i64 2))])
theorem dLike09(t:Bool)(x1 y1 x2 y2 x3 y3 x4 y4:Nat)(a1:FinW x1)(b1:FinW y1)(a2:FinW x2)(b2:FinW y2)(a3:FinW x3)(b3:FinW y3)(a4:FinW x4)(b4:FinW y4):PureC Tryz.prog 27 [.agg #[.float .f64 x1,.float .f64 y1,.float .f64 x2,.float .f64 y2,.float .f64 x3,.float .f64 y3,.float .f64 x4,.float .f64 y4,.bool t],.agg #[.float .f64 x1,.float .f64 y1,.float .f64 x2,.float .f64 y2,.float .f64 x3,.float .f64 y3,.float .f64 x4,.float .f64 y4,.bool t]] (.bool true) :=
 ev_pure (hp:=false) (L:=[gx (.float .f64 x1),gx (.float .f64 y1),gx (.float .f64 x2),gx (.float .f64 y2),gx (.float .f64 x3),gx (.float .f64 y3),gx (.float .f64 x4),gx (.float .f64 y4),gx (.bool t)]) tys_ok mixed
  [gp 68 [.row [.sym 0,.sym 1],.row [.sym 0,.sym 1]] (.r (.c (.lit (.bool true)))) eo68 (dSame x1 y1 a1 b1) (by kernel_rfl) (by kernel_rfl),gp 68 [.row [.sym 2,.sym 3],.row [.sym 2,.sym 3]] (.r (.c (.lit (.bool true)))) eo68 (dSame x2 y2 a2 b2) (by kernel_rfl) (by kernel_rfl),gp 68 [.row [.sym 4,.sym 5],.row [.sym 4,.sym 5]] (.r (.c (.lit (.bool true)))) eo68 (dSame x3 y3 a3 b3) (by kernel_rfl) (by kernel_rfl),gp 68 [.row [.sym 6,.sym 7],.row [.sym 6,.sym 7]] (.r (.c (.lit (.bool true)))) eo68 (dSame x4 y4 a4 b4) (by kernel_rfl) (by kernel_rfl)]
  [gb .eql 4 (.c (.sym 8)) (.c (.sym 8)) (.lit (.bool true)) (Tr.bool_eql Tryz.underlying4 t t true (by cases t<;>rfl)) (by kernel_rfl) (by kernel_rfl) (by kernel_rfl)] []
  Tryz.func27 200 [.row (syms 0 9),.row (syms 0 9)] (.r (.c (.lit (.bool true)))) (by kernel_rfl) (by kernel_rfl) (by kernel_rfl)
theorem lNum09(x y:Nat):PureC Tryz.prog 69 [.complex .f64 x y] (.agg #[.float .f64 x,.float .f64 y]):=fun w=>by
 go_enter Tryz.func69,Tryz.ntmps69
 go_wp2
 refine bodyPost_ret (v:=.agg #[.float .f64 x,.float .f64 y]) (by simp[results,Tryz.results69,go_sem]) rfl ⟨rfl,?_⟩
 exact br.alloc (Nat.le_refl _) _
theorem lAt09(t:Bool)(x1 y1 x2 y2 x3 y3 x4 y4:Nat):PureC Tryz.prog 28 [.agg #[.complex .f64 x1 y1,.complex .f64 x2 y2,.complex .f64 x3 y3,.complex .f64 x4 y4,.bool t]] (.agg #[.float .f64 x1,.float .f64 y1,.float .f64 x2,.float .f64 y2,.float .f64 x3,.float .f64 y3,.float .f64 x4,.float .f64 y4,.bool t]) :=
 ev_pure (hp:=false) (L:=[gx (.complex .f64 x1 y1),gx (.complex .f64 x2 y2),gx (.complex .f64 x3 y3),gx (.complex .f64 x4 y4),gx (.bool t),gx (.float .f64 x1),gx (.float .f64 y1),gx (.float .f64 x2),gx (.float .f64 y2),gx (.float .f64 x3),gx (.float .f64 y3),gx (.float .f64 x4),gx (.float .f64 y4)]) tys_ok mixed
  [gp 69 [.c (.sym 0)] (.r (.row [.sym 5,.sym 6])) eo69 (lNum09 x1 y1) (by kernel_rfl) (by kernel_rfl),gp 69 [.c (.sym 1)] (.r (.row [.sym 7,.sym 8])) eo69 (lNum09 x2 y2) (by kernel_rfl) (by kernel_rfl),gp 69 [.c (.sym 2)] (.r (.row [.sym 9,.sym 10])) eo69 (lNum09 x3 y3) (by kernel_rfl) (by kernel_rfl),gp 69 [.c (.sym 3)] (.r (.row [.sym 11,.sym 12])) eo69 (lNum09 x4 y4) (by kernel_rfl) (by kernel_rfl)] [] []
  Tryz.func28 200 [.row (syms 0 5)] (.r (.row [.sym 5,.sym 6,.sym 7,.sym 8,.sym 9,.sym 10,.sym 11,.sym 12,.sym 4])) (by kernel_rfl) (by kernel_rfl) (by kernel_rfl)
end Go.Proofs.YthklnbaddobieaaGreat
