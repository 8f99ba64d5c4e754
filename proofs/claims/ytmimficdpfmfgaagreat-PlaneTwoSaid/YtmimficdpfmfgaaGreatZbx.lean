/- Laws for the walk. -/
import Derived.Test.YtmimficdpfmfgaaGreatZbw
set_option linter.unusedVariables false
set_option maxHeartbeats 4000000
set_option linter.unusedSimpArgs false
namespace Go.Proofs.YtmimficdpfmfgaaGreat
open Go.RowKit Tr
open Classical
section
variable(p:Int)(z w:QC)(sz:Qaf z)(sw:Qaf w)
include sz sw
theorem ans1(q:Rat)(K:Qah Tryz.prog true 36 [.c (gx (.int .i64 p)),.row (Qae z).cells,.row (Qae w).cells] (if Qam q then .tup [.row (rF q),.c (gl (.int .i64 0))] else .tup [.row zFG,.c (gl (.int .i64 4))]))
  (D:Qah Tryz.prog true 43 [.c (gx (.int .i64 p)),.row (Qae z).cells,.row (Qae w).cells] (.r (F1 q))):∃(o:RawF) (c1:Int),Qah Tryz.prog true 36 [.c (gx (.int .i64 p)),.row (Qae z).cells,.row (Qae w).cells] (.tup [.row o.cells,.c (gx (.int .i64 c1))]) ∧
   Qbk Tryz.prog true 41 [([gx (.int .i64 p)],3),((Qae z).cells,28),((Qae w).cells,28)] [.f (.row (o.cells)),.f (.c (gx (.int .i64 c1))),.f (.c (gl (.int .i64 0))),.fn 42 [] [0,1,2]] (.r (.c (gl (.bool true)))):=by
 by_cases h:Qam q
 ·exact⟨rawF q,0,K.t h,twE1y q p z w sz sw D h⟩
 ·exact⟨zRF,4,K.f h,twE1n p z w sz sw q D h⟩
theorem ans2(q:Q4)(K:Qah Tryz.prog true 37 [.c (gx (.int .i64 p)),.row (Qae z).cells,.row (Qae w).cells] (if Sh4 q then .tup [.row (mQ q false),.c (gl (.int .i64 0))] else .tup [.row (zGG++zGG++zGG++zGG++[gl (.bool false)]),.c (gl (.int .i64 4))]))
  (D:Qah Tryz.prog true 45 [.c (gx (.int .i64 p)),.row (Qae z).cells,.row (Qae w).cells] (.r (.row (mGt q false)))):∃(m1 m2 m3 m4:Qcc) (c2:Int),Qah Tryz.prog true 37 [.c (gx (.int .i64 p)),.row (Qae z).cells,.row (Qae w).cells] (.tup [.row (m1.cells++m2.cells++m3.cells++m4.cells++[gl (.bool false)]),.c (gx (.int .i64 c2))]) ∧
   Qbk Tryz.prog true 14 [([gx (.int .i64 p)],3),((Qae z).cells,28),((Qae w).cells,28)] [.f (.row (m1.cells++m2.cells++m3.cells++m4.cells++[gl (.bool false)])),.f (.c (gx (.int .i64 c2))),.f (.c (gl (.int .i64 0))),.fn 44 [] [0,1,2]] (.r (.c (gl (.bool true)))):=by
 obtain⟨a,b,c,d⟩:=q
 by_cases h:Sh4 (a,b,c,d)
 ·exact⟨Qae a,Qae b,Qae c,Qae d,0,K.t h,twE2y a b c d p z w h.1 h.2.1 h.2.2.1 h.2.2.2 sz sw D⟩
 ·exact⟨zRG,zRG,zRG,zRG,4,K.f h,twE2n p z w sz sw a b c d D h⟩
theorem ans3(f0 f1 f2 f3:Rat)(K:Qah Tryz.prog true 38 [.c (gx (.int .i64 p)),.row (Qae z).cells,.row (Qae w).cells] (if CirS f0 f1 f2 f3 then .tup [.row (cirF f0 f1 f2 f3),.c (gl (.int .i64 0))] else .tup [.row (zGG++zGG),.c (gl (.int .i64 4))]))
  (D:Qah Tryz.prog true 47 [.c (gx (.int .i64 p)),.row (Qae z).cells,.row (Qae w).cells] (.r (.row (cirF f0 f1 f2 f3)))):∃(xa xc:RawF) (xb:Qcc) (c3:Int),Qah Tryz.prog true 38 [.c (gx (.int .i64 p)),.row (Qae z).cells,.row (Qae w).cells] (.tup [.row (xa.cells++xb.cells++xc.cells),.c (gx (.int .i64 c3))]) ∧
   Qbk Tryz.prog true 26 [([gx (.int .i64 p)],3),((Qae z).cells,28),((Qae w).cells,28)] [.f (.row (xa.cells++xb.cells++xc.cells)),.f (.c (gx (.int .i64 c3))),.f (.c (gl (.int .i64 0))),.fn 46 [] [0,1,2]] (.r (.c (gl (.bool true)))):=by
 by_cases h:CirS f0 f1 f2 f3
 ·exact⟨rawF (f0 / byF f0 f1 f2),rawF (f3 / byF f0 f1 f2),Qae ⟨f1 / byF f0 f1 f2,f2 / byF f0 f1 f2⟩,0,K.t h,twE3y _ _ _ _ p z w sz sw D h⟩
 ·exact⟨zRF,zRF,zRG,4,K.f h,twE3n p z w sz sw _ _ _ _ D h⟩
theorem ans4(f0 f1 f2 f3:Rat)(K:Qah Tryz.prog true 39 [.c (gx (.int .i64 p)),.row (Qae z).cells,.row (Qae w).cells] (if CirS f0 f1 f2 f3 then .tup [.row (cirF f0 f1 f2 f3),.c (gl (.int .i64 0))] else .tup [.row (zGG++zGG),.c (gl (.int .i64 4))]))
  (D:Qah Tryz.prog true 49 [.c (gx (.int .i64 p)),.row (Qae z).cells,.row (Qae w).cells] (.r (.row (cirF f0 f1 f2 f3)))):∃(xa xc:RawF) (xb:Qcc) (c3:Int),Qah Tryz.prog true 39 [.c (gx (.int .i64 p)),.row (Qae z).cells,.row (Qae w).cells] (.tup [.row (xa.cells++xb.cells++xc.cells),.c (gx (.int .i64 c3))]) ∧
   Qbk Tryz.prog true 26 [([gx (.int .i64 p)],3),((Qae z).cells,28),((Qae w).cells,28)] [.f (.row (xa.cells++xb.cells++xc.cells)),.f (.c (gx (.int .i64 c3))),.f (.c (gl (.int .i64 0))),.fn 48 [] [0,1,2]] (.r (.c (gl (.bool true)))):=by
 by_cases h:CirS f0 f1 f2 f3
 ·exact⟨rawF (f0 / byF f0 f1 f2),rawF (f3 / byF f0 f1 f2),Qae ⟨f1 / byF f0 f1 f2,f2 / byF f0 f1 f2⟩,0,K.t h,twE4y _ _ _ _ p z w sz sw D h⟩
 ·exact⟨zRF,zRF,zRG,4,K.f h,twE4n p z w sz sw _ _ _ _ D h⟩
end
theorem two_in1(z w:QC)(sz:Qaf z)(sw:Qaf w)(hs:¬(smTC (Qae z) (Qae w)))(hz:¬(z.im.num.sign≤0))(hw:¬(w.im.num.sign≤0)):Qah Tryz.prog true 5 [.c (gx (.int .i64 1)),.row (Qae z).cells,.row (Qae w).cells] (.r (.c (gl (.bool true)))):=by
 have bz:=Qaa sz
 have bw:=Qaa sw
 obtain⟨o,c1,A1,E1⟩:=ans1 1 z w sz sw (far1 z w) (pFar1' z w sz sw hz hw) (dFar1' z w bz bw hz hw)
 obtain⟨m1,m2,m3,m4,c2,A2,E2⟩:=ans2 1 z w sz sw (mv1 z w) (pMov1' z w sz sw (Qbl hz) (Qbl hw)) (dMov1' z w bz bw (Qbl hz) (Qbl hw))
 by_cases he:z=w
 ·exact two_eq 1 z w sz sw hs he o m1 m2 m3 m4 c1 c2 (pts2_1 z w sz sw hz hw) (pts1_1 z sz hz) (has_1 z sz hz) A1 A2 E1 E2 (linS_1 z w sz sw hz hw he) (twE3s 1 z w sz sw) (midS_1 z w sz sw hz hw he) (twE4s 1 z w sz sw)
 ·obtain⟨xa,xc,xb,c3,A3,E3⟩:=ans3 1 z w sz sw _ _ _ _ (pLin1' z w sz sw hz hw he) (dLin1' z w bz bw hz hw he)
  obtain⟨ya,yc,yb,c4,A4,E4⟩:=ans4 1 z w sz sw _ _ _ _ (pMid1' z w sz sw hz hw he) (dMid1' z w bz bw hz hw he)
  exact two_in 1 z w sz sw hs he o m1 m2 m3 m4 c1 c2 xa xc ya yc xb yb c3 c4 (pts2_1 z w sz sw hz hw) (pts1_1 z sz hz) (has_1 z sz hz) A1 A2 E1 E2 A3 E3 A4 E4
theorem two_in2(z w:QC)(sz:Qaf z)(sw:Qaf w)(hs:¬(smTC (Qae z) (Qae w)))(hz:¬((((1:Rat) - (nm z)).num.sign)≤0))(hw:¬((((1:Rat) - (nm w)).num.sign)≤0)):Qah Tryz.prog true 5 [.c (gx (.int .i64 2)),.row (Qae z).cells,.row (Qae w).cells] (.r (.c (gl (.bool true)))):=by
 have bz:=Qaa sz
 have bw:=Qaa sw
 obtain⟨o,c1,A1,E1⟩:=ans1 2 z w sz sw (far2 z w) (pFar2' z w sz sw hz hw) (dFar2' z w bz bw hz hw)
 obtain⟨m1,m2,m3,m4,c2,A2,E2⟩:=ans2 2 z w sz sw (mv2 z w) (pMov2' z w sz sw (Qbl hz) (Qbl hw)) (dMov2' z w bz bw (Qbl hz) (Qbl hw))
 by_cases he:z=w
 ·exact two_eq 2 z w sz sw hs he o m1 m2 m3 m4 c1 c2 (pts2_2 z w sz sw hz hw) (pts1_2 z sz hz) (has_2 z sz hz) A1 A2 E1 E2 (linS_2 z w sz sw hz hw he) (twE3s 2 z w sz sw) (midS_2 z w sz sw hz hw he) (twE4s 2 z w sz sw)
 ·obtain⟨xa,xc,xb,c3,A3,E3⟩:=ans3 2 z w sz sw _ _ _ _ (pLin2' z w sz sw hz hw he) (dLin2' z w bz bw hz hw he)
  obtain⟨ya,yc,yb,c4,A4,E4⟩:=ans4 2 z w sz sw _ _ _ _ (pMid2' z w sz sw hz hw he) (dMid2' z w bz bw hz hw he)
  exact two_in 2 z w sz sw hs he o m1 m2 m3 m4 c1 c2 xa xc ya yc xb yb c3 c4 (pts2_2 z w sz sw hz hw) (pts1_2 z sz hz) (has_2 z sz hz) A1 A2 E1 E2 A3 E3 A4 E4
theorem sm_sz{g1 g2:Qcc}(h:¬smTC g1 g2):g1.Sz∧g2.Sz:=by
 have k:∀ k,k<8→¬smTP g1 g2 k:=fun k hk e=>h ⟨k,hk,e⟩
 have a0:=k 0 (by decide)
 have a1:=k 1 (by decide)
 have a2:=k 2 (by decide)
 have a3:=k 3 (by decide)
 have a4:=k 4 (by decide)
 have a5:=k 5 (by decide)
 have a6:=k 6 (by decide)
 have a7:=k 7 (by decide)
 simp[smTP,Sz] at a0 a1 a2 a3 a4 a5 a6 a7
 exact⟨⟨by omega,by omega,by omega,by omega⟩,by omega,by omega,by omega,by omega⟩
theorem two_p1(z w:Qcc)(hs:¬smTC z w):Qah Tryz.prog true 5 [.c (gx (.int .i64 1)),.row z.cells,.row w.cells] (.r (.c (gl (.bool true)))):=by
 obtain⟨bz,bw⟩:=sm_sz hs
 by_cases kz:GOk z.val
 ·obtain⟨z,rfl,sz⟩:=gOk_raw kz
  by_cases kw:GOk w.val
  ·obtain⟨w,rfl,sw⟩:=gOk_raw kw
   by_cases hz:z.im.num.sign≤0
   ·by_cases hw:w.im.num.sign≤0
    ·exact two_L5_1oo z w sz sw hs hz hw
    ·exact two_L5_1oi z w sz sw hs hz hw
   ·by_cases hw:w.im.num.sign≤0
    ·exact two_L5_1io z w sz sw hs hz hw
    ·exact two_in1 z w sz sw hs hz hw
  ·by_cases hz:z.im.num.sign≤0
   ·exact two_L4_1o z w sz bw hs kw hz
   ·exact two_L4_1i z w sz bw hs kw hz
 ·exact two_L3_1 z w bz bw hs kz
theorem two_p2(z w:Qcc)(hs:¬smTC z w):Qah Tryz.prog true 5 [.c (gx (.int .i64 2)),.row z.cells,.row w.cells] (.r (.c (gl (.bool true)))):=by
 obtain⟨bz,bw⟩:=sm_sz hs
 by_cases kz:GOk z.val
 ·obtain⟨z,rfl,sz⟩:=gOk_raw kz
  by_cases kw:GOk w.val
  ·obtain⟨w,rfl,sw⟩:=gOk_raw kw
   by_cases hz:(((1:Rat) - (nm z)).num.sign)≤0
   ·by_cases hw:(((1:Rat) - (nm w)).num.sign)≤0
    ·exact two_L5_2oo z w sz sw hs hz hw
    ·exact two_L5_2oi z w sz sw hs hz hw
   ·by_cases hw:(((1:Rat) - (nm w)).num.sign)≤0
    ·exact two_L5_2io z w sz sw hs hz hw
    ·exact two_in2 z w sz sw hs hz hw
  ·by_cases hz:(((1:Rat) - (nm z)).num.sign)≤0
   ·exact two_L4_2o z w sz bw hs kw hz
   ·exact two_L4_2i z w sz bw hs kw hz
 ·exact two_L3_2 z w bz bw hs kz
theorem two_true(p:Int)(z w:Qcc):Qah Tryz.prog true 5 [.c (gx (.int .i64 p)),.row z.cells,.row w.cells] (.r (.c (gl (.bool true)))):=by
 by_cases hs:smTC z w
 ·exact two_L1 p z w hs
 ·by_cases hp1:p=1
  ·subst hp1; exact two_p1 z w hs
  ·by_cases hp2:p=2
   ·subst hp2; exact two_p2 z w hs
   ·exact two_L2 p z w hs hp1 hp2
end Go.Proofs.YtmimficdpfmfgaaGreat
