/- Laws for the walk. -/
import Derived.Test.YtmimficdpfmfgaaGreatZbo
import Derived.Test.YtmimficdpfmfgaaGreatZbv
set_option linter.unusedVariables false
set_option linter.unusedSimpArgs false
set_option maxHeartbeats 4000000
namespace Go.Proofs.YtmimficdpfmfgaaGreat
open Go.RowKit Tr
open Classical
theorem kb1n(g1 g2 g3 g4:Qbr)(t:Bool)(On:Qae Tryz.prog true 75 [.row (g1.cells++g2.cells++g3.cells++g4.cells++[gx (.bool t)])] (.tup [.row [gl .nilp,gl .nilp,gl .nilp,gl .nilp,gl .nilp,gl .nilp,gl .nilp,gl .nilp,gl (.bool false)],.c (gl (.bool false))])):Qae Tryz.prog true 12 [.c (gl (.int .i64 1)),.row (g1.cells++g2.cells++g3.cells++g4.cells++[gx (.bool t)])] (.tup [.c (gl (.bool false)),.c (gl (.int .i64 2))]) :=
  Qaj (L := [g1.cells,g2.cells,g3.cells,g4.cells,[gx (.bool t)],(Qac (⟨0,1⟩ : QC)).cells,(Qac (⟨0,0⟩ : QC)).cells].flatten) tys_ok mixed
     [gs (pgi 0 1) [lc 0,lc 1] (.r (.row (Qab 33 8))),gs (pgi 0 0) [lc 0,lc 0] (.r (.row (Qab 41 8))),gs (On) [.row (Qab 0 33)] (.tup [.row [.lit .nilp,.lit .nilp,.lit .nilp,.lit .nilp,.lit .nilp,.lit .nilp,.lit .nilp,.lit .nilp,.lit (.bool false)],.c (.lit (.bool false))])]
     [] [] ((Qcp (Qbf (Qbg (Qbh (Qda (Qbk (fs99 .nil))))))):FnsOk Tryz.prog _) 3 3 Tryz.func12 eo12 2000 [lc 1,.row (Qab 0 33)] (.tup [.c (.lit (.bool false)),lc 2])
theorem kb2n(g1 g2 g3 g4:Qbr)(t:Bool)(On:Qae Tryz.prog true 75 [.row (g1.cells++g2.cells++g3.cells++g4.cells++[gx (.bool t)])] (.tup [.row [gl .nilp,gl .nilp,gl .nilp,gl .nilp,gl .nilp,gl .nilp,gl .nilp,gl .nilp,gl (.bool false)],.c (gl (.bool false))])):Qae Tryz.prog true 12 [.c (gl (.int .i64 2)),.row (g1.cells++g2.cells++g3.cells++g4.cells++[gx (.bool t)])] (.tup [.c (gl (.bool false)),.c (gl (.int .i64 2))]) :=
  Qaj (L := [g1.cells,g2.cells,g3.cells,g4.cells,[gx (.bool t)],(Qac (⟨0,1⟩ : QC)).cells,(Qac (⟨0,0⟩ : QC)).cells].flatten) tys_ok mixed
     [gs (pgi 0 1) [lc 0,lc 1] (.r (.row (Qab 33 8))),gs (pgi 0 0) [lc 0,lc 0] (.r (.row (Qab 41 8))),gs (On) [.row (Qab 0 33)] (.tup [.row [.lit .nilp,.lit .nilp,.lit .nilp,.lit .nilp,.lit .nilp,.lit .nilp,.lit .nilp,.lit .nilp,.lit (.bool false)],.c (.lit (.bool false))])]
     [] [] ((Qcp (Qbf (Qbg (Qbh (Qda (Qbk (fs99 .nil))))))):FnsOk Tryz.prog _) 3 3 Tryz.func12 eo12 2000 [lc 2,.row (Qab 0 33)] (.tup [.c (.lit (.bool false)),lc 2])
theorem kbNn(p:Int)(g1 g2 g3 g4:Qbr)(t:Bool)(hp1:¬(p=1))(hp2:¬(p=2))(On:Qae Tryz.prog true 75 [.row (g1.cells++g2.cells++g3.cells++g4.cells++[gx (.bool t)])] (.tup [.row [gl .nilp,gl .nilp,gl .nilp,gl .nilp,gl .nilp,gl .nilp,gl .nilp,gl .nilp,gl (.bool false)],.c (gl (.bool false))])):Qae Tryz.prog true 12 [.c (gx (.int .i64 p)),.row (g1.cells++g2.cells++g3.cells++g4.cells++[gx (.bool t)])] (.tup [.c (gl (.bool false)),.c (gl (.int .i64 2))]) :=
  Qaj (L := [[gx (.int .i64 p)],g1.cells,g2.cells,g3.cells,g4.cells,[gx (.bool t)]].flatten) tys_ok mixed
     [gs (On) [.row (Qab 1 33)] (.tup [.row [.lit .nilp,.lit .nilp,.lit .nilp,.lit .nilp,.lit .nilp,.lit .nilp,.lit .nilp,.lit .nilp,.lit (.bool false)],.c (.lit (.bool false))])]
     [bI .eql 22 (.sym 0) (li 1) p 1 false (by simp[cmpB,hp1]),bI .eql 22 (.sym 0) (li 2) p 2 false (by simp[cmpB,hp2])] [] ((Qcp (Qbf (Qbg (Qbh (Qda (Qbk (fs99 .nil))))))):FnsOk Tryz.prog _) 3 3 Tryz.func12 eo12 2000 [cS 0,.row (Qab 1 33)] (.tup [.c (.lit (.bool false)),lc 2])
theorem kb1f(g1 g2 g3 g4:Qbr)(t:Bool)(a b c d:QC)(Of:Qae Tryz.prog true 75 [.row (g1.cells++g2.cells++g3.cells++g4.cells++[gx (.bool t)])] (.tup [.row (cn a++cn b++cn c++cn d++[gx (.bool t)]),.c (gl (.bool false))])):Qae Tryz.prog true 12 [.c (gl (.int .i64 1)),.row (g1.cells++g2.cells++g3.cells++g4.cells++[gx (.bool t)])] (.tup [.c (gl (.bool false)),.c (gl (.int .i64 2))]) :=
  Qaj (L := [g1.cells,g2.cells,g3.cells,g4.cells,[gx (.bool t)],(Qac (⟨0,1⟩ : QC)).cells,(Qac (⟨0,0⟩ : QC)).cells,cn a,cn b,cn c,cn d,[gx (.bool t)]].flatten) tys_ok mixed
     [gs (pgi 0 1) [lc 0,lc 1] (.r (.row (Qab 33 8))),gs (pgi 0 0) [lc 0,lc 0] (.r (.row (Qab 41 8))),gs (Of) [.row (Qab 0 33)] (.tup [.row (Qab 49 9),.c (.lit (.bool false))])]
     [] [] ((Qcp (Qbf (Qbg (Qbh (Qda (Qbk (fs99 .nil))))))):FnsOk Tryz.prog _) 3 3 Tryz.func12 eo12 2000 [lc 1,.row (Qab 0 33)] (.tup [.c (.lit (.bool false)),lc 2])
theorem kb2f(g1 g2 g3 g4:Qbr)(t:Bool)(a b c d:QC)(Of:Qae Tryz.prog true 75 [.row (g1.cells++g2.cells++g3.cells++g4.cells++[gx (.bool t)])] (.tup [.row (cn a++cn b++cn c++cn d++[gx (.bool t)]),.c (gl (.bool false))])):Qae Tryz.prog true 12 [.c (gl (.int .i64 2)),.row (g1.cells++g2.cells++g3.cells++g4.cells++[gx (.bool t)])] (.tup [.c (gl (.bool false)),.c (gl (.int .i64 2))]) :=
  Qaj (L := [g1.cells,g2.cells,g3.cells,g4.cells,[gx (.bool t)],(Qac (⟨0,1⟩ : QC)).cells,(Qac (⟨0,0⟩ : QC)).cells,cn a,cn b,cn c,cn d,[gx (.bool t)]].flatten) tys_ok mixed
     [gs (pgi 0 1) [lc 0,lc 1] (.r (.row (Qab 33 8))),gs (pgi 0 0) [lc 0,lc 0] (.r (.row (Qab 41 8))),gs (Of) [.row (Qab 0 33)] (.tup [.row (Qab 49 9),.c (.lit (.bool false))])]
     [] [] ((Qcp (Qbf (Qbg (Qbh (Qda (Qbk (fs99 .nil))))))):FnsOk Tryz.prog _) 3 3 Tryz.func12 eo12 2000 [lc 2,.row (Qab 0 33)] (.tup [.c (.lit (.bool false)),lc 2])
theorem kbNf(p:Int)(g1 g2 g3 g4:Qbr)(t:Bool)(hp1:¬(p=1))(hp2:¬(p=2))(a b c d:QC)(Of:Qae Tryz.prog true 75 [.row (g1.cells++g2.cells++g3.cells++g4.cells++[gx (.bool t)])] (.tup [.row (cn a++cn b++cn c++cn d++[gx (.bool t)]),.c (gl (.bool false))])):Qae Tryz.prog true 12 [.c (gx (.int .i64 p)),.row (g1.cells++g2.cells++g3.cells++g4.cells++[gx (.bool t)])] (.tup [.c (gl (.bool false)),.c (gl (.int .i64 2))]) :=
  Qaj (L := [[gx (.int .i64 p)],g1.cells,g2.cells,g3.cells,g4.cells,[gx (.bool t)],cn a,cn b,cn c,cn d,[gx (.bool t)]].flatten) tys_ok mixed
     [gs (Of) [.row (Qab 1 33)] (.tup [.row (Qab 34 9),.c (.lit (.bool false))])]
     [bI .eql 22 (.sym 0) (li 1) p 1 false (by simp[cmpB,hp1]),bI .eql 22 (.sym 0) (li 2) p 2 false (by simp[cmpB,hp2])] [] ((Qcp (Qbf (Qbg (Qbh (Qda (Qbk (fs99 .nil))))))):FnsOk Tryz.prog _) 3 3 Tryz.func12 eo12 2000 [cS 0,.row (Qab 1 33)] (.tup [.c (.lit (.bool false)),lc 2])
theorem kbNt(p:Int)(g1 g2 g3 g4:Qbr)(t:Bool)(hp1:¬(p=1))(hp2:¬(p=2))(a b c d:QC)(Ot:Qae Tryz.prog true 75 [.row (g1.cells++g2.cells++g3.cells++g4.cells++[gx (.bool t)])] (.tup [.row (cn a++cn b++cn c++cn d++[gx (.bool t)]),.c (gl (.bool true))])):Qae Tryz.prog true 12 [.c (gx (.int .i64 p)),.row (g1.cells++g2.cells++g3.cells++g4.cells++[gx (.bool t)])] (.tup [.c (gl (.bool false)),.c (gl (.int .i64 2))]) :=
  Qaj (L := [[gx (.int .i64 p)],g1.cells,g2.cells,g3.cells,g4.cells,[gx (.bool t)],cn a,cn b,cn c,cn d,[gx (.bool t)]].flatten) tys_ok mixed
     [gs (Ot) [.row (Qab 1 33)] (.tup [.row (Qab 34 9),.c (.lit (.bool true))])]
     [bI .eql 22 (.sym 0) (li 1) p 1 false (by simp[cmpB,hp1]),bI .eql 22 (.sym 0) (li 2) p 2 false (by simp[cmpB,hp2])] [] ((Qcp (Qbf (Qbg (Qbh (Qda (Qbk (fs99 .nil))))))):FnsOk Tryz.prog _) 3 3 Tryz.func12 eo12 2000 [cS 0,.row (Qab 1 33)] (.tup [.c (.lit (.bool false)),lc 2])
theorem mapE(a b c d:QC)(p q:Int)(b_a:Qad a)(b_b:Qad b)(b_c:Qad c)(b_d:Qad d)(D:Qae Tryz.prog true 16 [.c (gx (.int .i64 p)),.c (gx (.int .i64 q))] (.r (.row (rG a++rG b++rG c++rG d++[gl (.bool false)])))):Qcm Tryz.prog true 14 [([gx (.int .i64 p)],22),([gx (.int .i64 q)],22)] [.f (.row ((Qac a).cells++(Qac b).cells++(Qac c).cells++(Qac d).cells++[gl (.bool false)])),.f (.c (gl (.int .i64 0))),.f (.c (gl (.int .i64 0))),.fn 15 [] [0,1]] (.r (.c (gl (.bool true)))) :=
  ev_smi (L := [(Qac a).cells,(Qac b).cells,(Qac c).cells,(Qac d).cells,[gx (.int .i64 p)],[gx (.int .i64 q)],cG a,cG b,cG c,cG d].flatten) tys_ok mixed
     [gs (D) [cS 32,cS 33] (.r (.row (flA [gL [34,40,46,52],[.lit (.bool false)]]))),gs (rFits a true (tI b_a)) [.row (gR 34)] (.r (.c (.lit (.bool true)))),gs (rFits b true (tI b_b)) [.row (gR 40)] (.r (.c (.lit (.bool true)))),gs (rFits c true (tI b_c)) [.row (gR 46)] (.r (.c (.lit (.bool true)))),gs (rFits d true (tI b_d)) [.row (gR 52)] (.r (.c (.lit (.bool true))))]
     [bM (.row (flA [Qab 0 32,[.lit (.bool false)]])) (.row (flA [gL [34,40,46,52],[.lit (.bool false)]])) (⟨Qac a,Qac b,Qac c,Qac d,false⟩:RawM) (⟨Qac a,Qac b,Qac c,Qac d,false⟩:RawM) true (tI rfl)] [] ((fs15 (fs18 (fs82 (fs179 .nil)))):FnsOk Tryz.prog _) 1 3 Tryz.func14 eo14 2000 [⟨[.sym 32],22,none⟩,⟨[.sym 33],22,none⟩] [.row (flA [Qab 0 32,[.lit (.bool false)]]),lc 0,lc 0,.c (.fn 15 [] [0,1])] (.r (.c (.lit (.bool true))))
theorem pic1  :Qae Tryz.prog true 13 [.c (gl (.int .i64 1))] (.r (.c (gl (.bool true)))) :=
  Qam (L := [].flatten) tys_ok mixed
     []
     [] [] Tryz.func13 eo13 2000 [lc 1] (.r (.c (.lit (.bool true))))
theorem pic2  :Qae Tryz.prog true 13 [.c (gl (.int .i64 2))] (.r (.c (gl (.bool true)))) :=
  Qam (L := [].flatten) tys_ok mixed
     []
     [] [] Tryz.func13 eo13 2000 [lc 2] (.r (.c (.lit (.bool true))))
theorem picN(p:Int)(hp1:¬(p=1))(hp2:¬(p=2)):Qae Tryz.prog true 13 [.c (gx (.int .i64 p))] (.r (.c (gl (.bool false)))) :=
  Qam (L := [[gx (.int .i64 p)]].flatten) tys_ok mixed
     []
     [bI .eql 22 (.sym 0) (li 1) p 1 false (by simp[cmpB,hp1]),bI .eql 22 (.sym 0) (li 2) p 2 false (by simp[cmpB,hp2])] [] Tryz.func13 eo13 2000 [cS 0] (.r (.c (.lit (.bool false))))
end Go.Proofs.YtmimficdpfmfgaaGreat
set_option linter.unusedSimpArgs false
namespace Go.Proofs.YtmimficdpfmfgaaGreat
open Go.RowKit Tr
open Classical
def e1(a:QC)(b:QC)(c:QC)(d:QC):QC:=((a+d)*(a+d)) / ((a*d) - (b*c))
end Go.Proofs.YtmimficdpfmfgaaGreat
set_option linter.unusedSimpArgs false
namespace Go.Proofs.YtmimficdpfmfgaaGreat
open Go.RowKit Tr
open Classical
def tA(a b c d:QC):QC:=(a*(cj a))+(b*(cj c))
def tB(a b c d:QC):QC:=(a*(cj b))+(b*(cj d))
def tC(a b c d:QC):QC:=(c*(cj a))+(d*(cj c))
def tD(a b c d:QC):QC:=(c*(cj b))+(d*(cj d))
def e2(a:QC)(b:QC)(c:QC)(d:QC):QC:=e1 (tA a b c d) (tB a b c d) (tC a b c d) (tD a b c d)
end Go.Proofs.YtmimficdpfmfgaaGreat
set_option linter.unusedSimpArgs false
namespace Go.Proofs.YtmimficdpfmfgaaGreat
open Go.RowKit Tr
open Classical
def e3(a:QC)(b:QC)(d:QC):QC:=((a - d)*(a - d))+(b*(⟨4,0⟩:QC))
noncomputable def e4(a:QC)(b:QC)(d:QC):QC:=((a - d)+(rt (e3 a b d))) / (⟨2,0⟩:QC)
noncomputable def e5(a:QC)(b:QC)(d:QC):QC:=((a - d) - (rt (e3 a b d))) / (⟨2,0⟩:QC)
noncomputable def e6(a:QC)(b:QC)(d:QC):QC:=(a - (e5 a b d)) / (a - (e4 a b d))
end Go.Proofs.YtmimficdpfmfgaaGreat
set_option linter.unusedSimpArgs false
namespace Go.Proofs.YtmimficdpfmfgaaGreat
open Go.RowKit Tr
open Classical
noncomputable def e7(z:QC):Rat:=((sqr (nm z))+z.re)*(1 / 2:Rat)
noncomputable def e8(z:QC):Rat:=(z.im*(1 / 2:Rat)) / (sqr (e7 z))
end Go.Proofs.YtmimficdpfmfgaaGreat
namespace Go.Proofs.YtmimficdpfmfgaaGreat
open Go.RowKit Tr
open Classical
theorem r8Det(a b c d:QC)(t:Bool)(b_a:ZL a 200000)(b_b:ZL b 200000)(b_c:ZL c 200000)(b_d:ZL d 200000) :Qae Tryz.prog true 91 [.row (rG a++rG b++rG c++rG d++[gx (.bool t)])] (.r (.row (rG ((a*d) - (b*c))))) :=
  Qam (L := [cG a,cG b,cG c,cG d,[gx (.bool t)],cG (a * d),cG (b * c),cG ((a * d) - (b * c))].flatten) tys_ok mixed
     [gs (Qbi a d b_a.mn b_d.mn) [.row (gR 0),.row (gR 18)] (.r (.row (gR 25))),gs (Qbi b c b_b.mn b_c.mn) [.row (gR 6),.row (gR 12)] (.r (.row (gR 31))),gs (rMinus (a*d) (b*c) ((Qah b_a b_d).mn) ((Qah b_b b_c).mn)) [.row (gR 25),.row (gR 31)] (.r (.row (gR 37)))]
     [] [] Tryz.func91 eo91 2000 [.row (flA [gL [0,6,12,18],[.sym 24]])] (.r (.row (gR 37)))
theorem runit  :Qae Tryz.prog true 88 [] (.r (.row ((Qac (⟨1,0⟩:QC)).cells))) :=
  Qam (L := [(Qac (⟨1,0⟩ : QC)).cells].flatten) tys_ok mixed
     [gs (rInt 1 0 (by decide) (by decide) (by decide) (by decide)) [lc 1,lc 0] (.r (.row (Qab 0 8)))]
     [] [] Tryz.func88 eo88 2000 [] (.r (.row (Qab 0 8)))
theorem rzero  :Qae Tryz.prog true 89 [] (.r (.row ((Qac (⟨0,0⟩:QC)).cells))) :=
  Qam (L := [(Qac (⟨0,0⟩ : QC)).cells].flatten) tys_ok mixed
     [gs (rInt 0 0 (by decide) (by decide) (by decide) (by decide)) [lc 0,lc 0] (.r (.row (Qab 0 8)))]
     [] [] Tryz.func89 eo89 2000 [] (.r (.row (Qab 0 8)))
theorem rCheck(a b c d:QC)(t:Bool)(b_a:Qad a)(b_b:Qad b)(b_c:Qad c)(b_d:Qad d) :Qae Tryz.prog true 17 [.row ((Qac a).cells++(Qac b).cells++(Qac c).cells++(Qac d).cells++[gx (.bool t)])] (if c=(⟨1,0⟩:QC) then if((a*d) - (b*c))=(⟨0,0⟩:QC) then .r (.c (gl (.int .i64 2))) else .r (.c (gl (.int .i64 0))) else if c=(⟨0,0⟩:QC)∧d=(⟨1,0⟩:QC)∧(¬(((a*d) - (b*c))=(⟨0,0⟩:QC))) then .r (.c (gl (.int .i64 0))) else .r (.c (gl (.int .i64 2)))) :=
  have t1:=rGMay (Qac a) true (tI (rawQ_ok b_a))
  have t2:=rGMay (Qac b) true (tI (rawQ_ok b_b))
  have t3:=rGMay (Qac c) true (tI (rawQ_ok b_c))
  have t4:=rGMay (Qac d) true (tI (rawQ_ok b_d))
  have t5:=r8Det a b c d t ((Qaa b_a).mn) ((Qaa b_b).mn) ((Qaa b_c).mn) ((Qaa b_d).mn)
  (Classical.em (c = (⟨1,0⟩ : QC))).elim (fun h0 => .it h0 ((Classical.em (((a * d) - (b * c)) = (⟨0,0⟩ : QC))).elim (fun h1 => .it h1 (Qam (L := [(Qac a).cells,(Qac b).cells,(Qac c).cells,(Qac d).cells,[gx (.bool t)],(Qac (⟨1,0⟩ : QC)).cells,cG ((a * d) - (b * c))].flatten) tys_ok mixed
     [gs (t1) [.row (Qab 0 8)] (.r (.c (.lit (.bool true)))),gs (t2) [.row (Qab 8 8)] (.r (.c (.lit (.bool true)))),gs (t3) [.row (Qab 16 8)] (.r (.c (.lit (.bool true)))),gs (t4) [.row (Qab 24 8)] (.r (.c (.lit (.bool true)))),gs (runit) [] (.r (.row (Qab 33 8))),gs (t5) [.row (Qab 0 33)] (.r (.row (gR 41))),gs (Qbx ((a*d) - (b*c)) true (tI h1)) [.row (gR 41)] (.r (.c (.lit (.bool true))))]
     [bGn (.row (Qab 16 8)) (.row (Qab 33 8)) (Qac c) (Qac (⟨1,0⟩:QC)) true ((tI h0).trans Qbl.symm)] [] Tryz.func17 eo17 2000 [.row (Qab 0 33)] (.r (lc 2))))
   (fun h1=>.ie (fun h=>h1 h) (Qam (L:=[(Qac a).cells,(Qac b).cells,(Qac c).cells,(Qac d).cells,[gx (.bool t)],(Qac (⟨1,0⟩:QC)).cells,cG ((a*d) - (b*c))].flatten) tys_ok mixed
     [gs (t1) [.row (Qab 0 8)] (.r (.c (.lit (.bool true)))),gs (t2) [.row (Qab 8 8)] (.r (.c (.lit (.bool true)))),gs (t3) [.row (Qab 16 8)] (.r (.c (.lit (.bool true)))),gs (t4) [.row (Qab 24 8)] (.r (.c (.lit (.bool true)))),gs (runit) [] (.r (.row (Qab 33 8))),gs (t5) [.row (Qab 0 33)] (.r (.row (gR 41))),gs (Qbx ((a*d) - (b*c)) false (fI h1)) [.row (gR 41)] (.r (.c (.lit (.bool false))))]
     [bGn (.row (Qab 16 8)) (.row (Qab 33 8)) (Qac c) (Qac (⟨1,0⟩:QC)) true ((tI h0).trans Qbl.symm)] [] Tryz.func17 eo17 2000 [.row (Qab 0 33)] (.r (lc 0))))))
   (fun h0=>.ie (fun h=>h0 h) ((Classical.em (c=(⟨0,0⟩:QC))).elim (fun h1=>(Classical.em (d=(⟨1,0⟩:QC))).elim (fun h2=>(Classical.em (((a*d) - (b*c))=(⟨0,0⟩:QC))).elim (fun h3=>.ie (fun h=>h.2.2 h3) (Qam (L:=[(Qac a).cells,(Qac b).cells,(Qac c).cells,(Qac d).cells,[gx (.bool t)],(Qac (⟨1,0⟩:QC)).cells,(Qac (⟨0,0⟩:QC)).cells,cG ((a*d) - (b*c))].flatten) tys_ok mixed
     [gs (t1) [.row (Qab 0 8)] (.r (.c (.lit (.bool true)))),gs (t2) [.row (Qab 8 8)] (.r (.c (.lit (.bool true)))),gs (t3) [.row (Qab 16 8)] (.r (.c (.lit (.bool true)))),gs (t4) [.row (Qab 24 8)] (.r (.c (.lit (.bool true)))),gs (runit) [] (.r (.row (Qab 33 8))),gs (rzero) [] (.r (.row (Qab 41 8))),gs (t5) [.row (Qab 0 33)] (.r (.row (gR 49))),gs (Qbx ((a*d) - (b*c)) true (tI h3)) [.row (gR 49)] (.r (.c (.lit (.bool true))))]
     [bGn (.row (Qab 16 8)) (.row (Qab 33 8)) (Qac c) (Qac (⟨1,0⟩:QC)) false ((fI h0).trans Qbl.symm),bGn (.row (Qab 16 8)) (.row (Qab 41 8)) (Qac c) (Qac (⟨0,0⟩:QC)) true ((tI h1).trans Qbl.symm),bGn (.row (Qab 24 8)) (.row (Qab 33 8)) (Qac d) (Qac (⟨1,0⟩:QC)) true ((tI h2).trans Qbl.symm)] [] Tryz.func17 eo17 2000 [.row (Qab 0 33)] (.r (lc 2))))
   (fun h3=>.it ⟨h1,h2,h3⟩ (Qam (L:=[(Qac a).cells,(Qac b).cells,(Qac c).cells,(Qac d).cells,[gx (.bool t)],(Qac (⟨1,0⟩:QC)).cells,(Qac (⟨0,0⟩:QC)).cells,cG ((a*d) - (b*c))].flatten) tys_ok mixed
     [gs (t1) [.row (Qab 0 8)] (.r (.c (.lit (.bool true)))),gs (t2) [.row (Qab 8 8)] (.r (.c (.lit (.bool true)))),gs (t3) [.row (Qab 16 8)] (.r (.c (.lit (.bool true)))),gs (t4) [.row (Qab 24 8)] (.r (.c (.lit (.bool true)))),gs (runit) [] (.r (.row (Qab 33 8))),gs (rzero) [] (.r (.row (Qab 41 8))),gs (t5) [.row (Qab 0 33)] (.r (.row (gR 49))),gs (Qbx ((a*d) - (b*c)) false (fI h3)) [.row (gR 49)] (.r (.c (.lit (.bool false))))]
     [bGn (.row (Qab 16 8)) (.row (Qab 33 8)) (Qac c) (Qac (⟨1,0⟩:QC)) false ((fI h0).trans Qbl.symm),bGn (.row (Qab 16 8)) (.row (Qab 41 8)) (Qac c) (Qac (⟨0,0⟩:QC)) true ((tI h1).trans Qbl.symm),bGn (.row (Qab 24 8)) (.row (Qab 33 8)) (Qac d) (Qac (⟨1,0⟩:QC)) true ((tI h2).trans Qbl.symm)] [] Tryz.func17 eo17 2000 [.row (Qab 0 33)] (.r (lc 0)))))
   (fun h2=>.ie (fun h=>h2 h.2.1) (Qam (L:=[(Qac a).cells,(Qac b).cells,(Qac c).cells,(Qac d).cells,[gx (.bool t)],(Qac (⟨1,0⟩:QC)).cells,(Qac (⟨0,0⟩:QC)).cells].flatten) tys_ok mixed
     [gs (t1) [.row (Qab 0 8)] (.r (.c (.lit (.bool true)))),gs (t2) [.row (Qab 8 8)] (.r (.c (.lit (.bool true)))),gs (t3) [.row (Qab 16 8)] (.r (.c (.lit (.bool true)))),gs (t4) [.row (Qab 24 8)] (.r (.c (.lit (.bool true)))),gs (runit) [] (.r (.row (Qab 33 8))),gs (rzero) [] (.r (.row (Qab 41 8)))]
     [bGn (.row (Qab 16 8)) (.row (Qab 33 8)) (Qac c) (Qac (⟨1,0⟩:QC)) false ((fI h0).trans Qbl.symm),bGn (.row (Qab 16 8)) (.row (Qab 41 8)) (Qac c) (Qac (⟨0,0⟩:QC)) true ((tI h1).trans Qbl.symm),bGn (.row (Qab 24 8)) (.row (Qab 33 8)) (Qac d) (Qac (⟨1,0⟩:QC)) false ((fI h2).trans Qbl.symm)] [] Tryz.func17 eo17 2000 [.row (Qab 0 33)] (.r (lc 2)))))
   (fun h1=>.ie (fun h=>h1 h.1) (Qam (L:=[(Qac a).cells,(Qac b).cells,(Qac c).cells,(Qac d).cells,[gx (.bool t)],(Qac (⟨1,0⟩:QC)).cells,(Qac (⟨0,0⟩:QC)).cells].flatten) tys_ok mixed
     [gs (t1) [.row (Qab 0 8)] (.r (.c (.lit (.bool true)))),gs (t2) [.row (Qab 8 8)] (.r (.c (.lit (.bool true)))),gs (t3) [.row (Qab 16 8)] (.r (.c (.lit (.bool true)))),gs (t4) [.row (Qab 24 8)] (.r (.c (.lit (.bool true)))),gs (runit) [] (.r (.row (Qab 33 8))),gs (rzero) [] (.r (.row (Qab 41 8)))]
     [bGn (.row (Qab 16 8)) (.row (Qab 33 8)) (Qac c) (Qac (⟨1,0⟩:QC)) false ((fI h0).trans Qbl.symm),bGn (.row (Qab 16 8)) (.row (Qab 41 8)) (Qac c) (Qac (⟨0,0⟩:QC)) false ((fI h1).trans Qbl.symm)] [] Tryz.func17 eo17 2000 [.row (Qab 0 33)] (.r (lc 2))))))
theorem rCheckB(g1 g2 g3 g4:Qbr)(t:Bool)(hbad:¬(GOk g1.val∧GOk g2.val∧GOk g3.val∧GOk g4.val)):Qae Tryz.prog true 17 [.row (g1.cells++g2.cells++g3.cells++g4.cells++[gx (.bool t)])] (.r (.c (gl (.int .i64 2)))) :=
  (Classical.em (GOk g1.val)).elim (fun h0=>(Classical.em (GOk g2.val)).elim (fun h1=>(Classical.em (GOk g3.val)).elim (fun h2=>(Classical.em (GOk g4.val)).elim (fun h3=>(hbad ⟨h0,h1,h2,h3⟩).elim)
   (fun h3=>Qam (L:=[g1.cells,g2.cells,g3.cells,g4.cells,[gx (.bool t)]].flatten) tys_ok mixed
     [gs (rGMay g1 true (tI h0)) [.row (Qab 0 8)] (.r (.c (.lit (.bool true)))),gs (rGMay g2 true (tI h1)) [.row (Qab 8 8)] (.r (.c (.lit (.bool true)))),gs (rGMay g3 true (tI h2)) [.row (Qab 16 8)] (.r (.c (.lit (.bool true)))),gs (rGMay g4 false (fI h3)) [.row (Qab 24 8)] (.r (.c (.lit (.bool false))))]
     [] [] Tryz.func17 eo17 2000 [.row (Qab 0 33)] (.r (lc 2))))
   (fun h2=>Qam (L:=[g1.cells,g2.cells,g3.cells,g4.cells,[gx (.bool t)]].flatten) tys_ok mixed
     [gs (rGMay g1 true (tI h0)) [.row (Qab 0 8)] (.r (.c (.lit (.bool true)))),gs (rGMay g2 true (tI h1)) [.row (Qab 8 8)] (.r (.c (.lit (.bool true)))),gs (rGMay g3 false (fI h2)) [.row (Qab 16 8)] (.r (.c (.lit (.bool false))))]
     [] [] Tryz.func17 eo17 2000 [.row (Qab 0 33)] (.r (lc 2))))
   (fun h1=>Qam (L:=[g1.cells,g2.cells,g3.cells,g4.cells,[gx (.bool t)]].flatten) tys_ok mixed
     [gs (rGMay g1 true (tI h0)) [.row (Qab 0 8)] (.r (.c (.lit (.bool true)))),gs (rGMay g2 false (fI h1)) [.row (Qab 8 8)] (.r (.c (.lit (.bool false))))]
     [] [] Tryz.func17 eo17 2000 [.row (Qab 0 33)] (.r (lc 2))))
   (fun h0=>Qam (L:=[g1.cells,g2.cells,g3.cells,g4.cells,[gx (.bool t)]].flatten) tys_ok mixed
     [gs (rGMay g1 false (fI h0)) [.row (Qab 0 8)] (.r (.c (.lit (.bool false))))]
     [] [] Tryz.func17 eo17 2000 [.row (Qab 0 33)] (.r (lc 2)))
theorem rChk(a b c d:QC)(t:Bool)(b_a:Qad a)(b_b:Qad b)(b_c:Qad c)(b_d:Qad d)(hd:¬(((a*d) - (b*c))=(⟨0,0⟩:QC)))(hn:c=(⟨1,0⟩:QC)∨(c=(⟨0,0⟩:QC)∧d=(⟨1,0⟩:QC))):Qae Tryz.prog true 17 [.row ((Qac a).cells++(Qac b).cells++(Qac c).cells++(Qac d).cells++[gx (.bool t)])] (.r (.c (gl (.int .i64 0)))):=by
 have k:=rCheck a b c d t b_a b_b b_c b_d
 by_cases h:c=⟨1,0⟩
 ·exact(k.t h).f hd
 ·exact(k.f h).t ⟨(hn.resolve_left h).1,(hn.resolve_left h).2,hd⟩
theorem rChkN(g1 g2 g3 g4:Qbr)(t:Bool)(h:¬MOk ⟨g1,g2,g3,g4,t⟩):Qae Tryz.prog true 17 [.row (g1.cells++g2.cells++g3.cells++g4.cells++[gx (.bool t)])] (.r (.c (gl (.int .i64 2)))):=by
 by_cases hg:GOk g1.val∧GOk g2.val∧GOk g3.val∧GOk g4.val
 ·obtain⟨k1,k2,k3,k4⟩:=hg
  obtain⟨a,rfl,ha⟩:=gOk_raw k1
  obtain⟨b,rfl,hb⟩:=gOk_raw k2
  obtain⟨c,rfl,hc⟩:=gOk_raw k3
  obtain⟨d,rfl,hd⟩:=gOk_raw k4
  have k:=rCheck a b c d t ha hb hc hd
  by_cases h1:c=⟨1,0⟩
  ·exact(k.t h1).t (Classical.byContradiction fun h2=>h ⟨a,b,c,d,⟨rfl,rfl,rfl,rfl⟩,⟨ha,hb,hc,hd⟩,.inl h1,h2⟩)
  ·exact(k.f h1).f (fun h2=>h ⟨a,b,c,d,⟨rfl,rfl,rfl,rfl⟩,⟨ha,hb,hc,hd⟩,.inr ⟨h2.1,h2.2.1⟩,h2.2.2⟩)
 ·exact rCheckB g1 g2 g3 g4 t hg
end Go.Proofs.YtmimficdpfmfgaaGreat
set_option linter.unusedSimpArgs false
namespace Go.Proofs.YtmimficdpfmfgaaGreat
open Go.RowKit Tr
open Classical
theorem smF_sz{g1 g2 g3 g4:Qbr}(h:¬smFC g1 g2 g3 g4):g1.Sz∧g2.Sz∧g3.Sz∧g4.Sz:=by
 have k:∀ k,k<16→¬smFP g1 g2 g3 g4 k:=fun k hk e=>h ⟨k,hk,e⟩
 have a0:=k 0 (by decide)
 have a1:=k 1 (by decide)
 have a2:=k 2 (by decide)
 have a3:=k 3 (by decide)
 have a4:=k 4 (by decide)
 have a5:=k 5 (by decide)
 have a6:=k 6 (by decide)
 have a7:=k 7 (by decide)
 have a8:=k 8 (by decide)
 have a9:=k 9 (by decide)
 have a10:=k 10 (by decide)
 have a11:=k 11 (by decide)
 have a12:=k 12 (by decide)
 have a13:=k 13 (by decide)
 have a14:=k 14 (by decide)
 have a15:=k 15 (by decide)
 simp[smFP,Sz] at a0 a1 a2 a3 a4 a5 a6 a7 a8 a9 a10 a11 a12 a13 a14 a15
 exact⟨⟨by omega,by omega,by omega,by omega⟩,⟨by omega,by omega,by omega,by omega⟩,⟨by omega,by omega,by omega,by omega⟩,by omega,by omega,by omega,by omega⟩
theorem picT{p:Int}(h:p=1∨p=2):Qae Tryz.prog true 13 [.c (gx (.int .i64 p))] (.r (.c (gl (.bool true)))):=by
 rcases h with rfl|rfl
 ·exact pic1
 ·exact pic2
theorem picF{p:Int}(h:¬(p=1∨p=2)):Qae Tryz.prog true 13 [.c (gx (.int .i64 p))] (.r (.c (gl (.bool false)))):=picN p (fun e=>h (.inl e)) (fun e=>h (.inr e))
theorem ch0{p q:Int}(h:¬(p=1∨p=2)∨¬(q=1∨q=2)):Qae Tryz.prog true 11 [.c (gx (.int .i64 p)),.c (gx (.int .i64 q))] (.tup [.row (zGG++zGG++zGG++zGG++[gl (.bool false)]),.c (gl (.int .i64 2))]):=by
 by_cases p1:p=1
 ·subst p1; exact pCh1N q (fun e=>h.elim (fun k=>k (.inl rfl)) (fun k=>k (.inl e))) (fun e=>h.elim (fun k=>k (.inl rfl)) (fun k=>k (.inr e)))
 by_cases p2:p=2
 ·subst p2; exact pCh2N q (fun e=>h.elim (fun k=>k (.inr rfl)) (fun k=>k (.inl e))) (fun e=>h.elim (fun k=>k (.inr rfl)) (fun k=>k (.inr e)))
 by_cases q1:q=1
 ·subst q1; exact pChN1 p p1 p2
 by_cases q2:q=2
 ·subst q2; exact pChN2 p p1 p2
 exact pChNN p q p1 p2 q1 q2
theorem ch1{p q:Int}(hp:p=1∨p=2)(hq:q=1∨q=2):∃(m1 m2 m3 m4:Qbr) (c2:Int),Qae Tryz.prog true 11 [.c (gx (.int .i64 p)),.c (gx (.int .i64 q))] (.tup [.row (m1.cells++m2.cells++m3.cells++m4.cells++[gl (.bool false)]),.c (gx (.int .i64 c2))]) ∧
  Qcm Tryz.prog true 14 [([gx (.int .i64 p)],22),([gx (.int .i64 q)],22)] [.f (.row (m1.cells++m2.cells++m3.cells++m4.cells++[gl (.bool false)])),.f (.c (gx (.int .i64 c2))),.f (.c (gl (.int .i64 0))),.fn 15 [] [0,1]] (.r (.c (gl (.bool true)))):=by
 have s:∀ z:QC,z=⟨1,0⟩∨z=⟨0,0⟩∨z=⟨0,-1⟩∨z=⟨0,1⟩∨z=⟨-1,0⟩→Qad z:=fun z h=>by rcases h with rfl|rfl|rfl|rfl|rfl<;>exact Qaf (by decide +kernel)
 rcases hp with rfl|rfl<;>rcases hq with rfl|rfl
 ·exact⟨_,_,_,_,0,pCh11,mapE _ _ _ _ 1 1 (s _ (by simp)) (s _ (by simp)) (s _ (by simp)) (s _ (by simp)) dCh11⟩
 ·exact⟨_,_,_,_,0,kChart,mapE _ _ _ _ 1 2 (s _ (by simp)) (s _ (by simp)) (s _ (by simp)) (s _ (by simp)) dCh12⟩
 ·exact⟨_,_,_,_,0,pCh21,mapE _ _ _ _ 2 1 (s _ (by simp)) (s _ (by simp)) (s _ (by simp)) (s _ (by simp)) dCh21⟩
 ·exact⟨_,_,_,_,0,pCh22,mapE _ _ _ _ 2 2 (s _ (by simp)) (s _ (by simp)) (s _ (by simp)) (s _ (by simp)) dCh22⟩
theorem openBad{g1 g2 g3 g4:Qbr}{t:Bool}(b1:g1.Sz)(b2:g2.Sz)(b3:g3.Sz)(b4:g4.Sz)(h:¬MOk ⟨g1,g2,g3,g4,t⟩) :
  Qae Tryz.prog true 75 [.row (g1.cells++g2.cells++g3.cells++g4.cells++[gx (.bool t)])] (.tup [.row [gl .nilp,gl .nilp,gl .nilp,gl .nilp,gl .nilp,gl .nilp,gl .nilp,gl .nilp,gl (.bool false)],.c (gl (.bool false))]) ∨
  ∃ a b c d:QC,Qae Tryz.prog true 75 [.row (g1.cells++g2.cells++g3.cells++g4.cells++[gx (.bool t)])] (.tup [.row (cn a++cn b++cn c++cn d++[gx (.bool t)]),.c (gl (.bool false))]):=by
 by_cases hg:GOk g1.val∧GOk g2.val∧GOk g3.val∧GOk g4.val
 ·obtain⟨k1,k2,k3,k4⟩:=hg
  obtain⟨a,rfl,ha⟩:=gOk_raw k1
  obtain⟨b,rfl,hb⟩:=gOk_raw k2
  obtain⟨c,rfl,hc⟩:=gOk_raw k3
  obtain⟨d,rfl,hd⟩:=gOk_raw k4
  have k:=eOpen a b c d t ha hb hc hd
  by_cases h0:((a*d) - (b*c))=(⟨0,0⟩:QC)
  ·exact .inl (k.t h0)
  ·have k:=k.f h0
   by_cases h1:c=(⟨1,0⟩:QC)
   ·exact(h ⟨a,b,c,d,⟨rfl,rfl,rfl,rfl⟩,⟨ha,hb,hc,hd⟩,.inl h1,h0⟩).elim
   ·have k:=k.f h1
    by_cases h2:c=(⟨0,0⟩:QC)∧d=(⟨1,0⟩:QC)
    ·exact(h ⟨a,b,c,d,⟨rfl,rfl,rfl,rfl⟩,⟨ha,hb,hc,hd⟩,.inr h2,h0⟩).elim
    ·exact .inr ⟨a,b,c,d,k.f h2⟩
 ·exact .inl (eOpenB g1 g2 g3 g4 t b1 b2 b3 b4 hg)
theorem keepsBad{p:Int}{g1 g2 g3 g4:Qbr}{t:Bool}(b1:g1.Sz)(b2:g2.Sz)(b3:g3.Sz)(b4:g4.Sz)(h:¬MOk ⟨g1,g2,g3,g4,t⟩) :
  Qae Tryz.prog true 12 [.c (gx (.int .i64 p)),.row (g1.cells++g2.cells++g3.cells++g4.cells++[gx (.bool t)])] (.tup [.c (gl (.bool false)),.c (gl (.int .i64 2))]):=by
 rcases openBad b1 b2 b3 b4 h with O|⟨a,b,c,d,O⟩
 ·by_cases p1:p=1
  ·subst p1; exact kb1n g1 g2 g3 g4 t O
  by_cases p2:p=2
  ·subst p2; exact kb2n g1 g2 g3 g4 t O
  exact kbNn p g1 g2 g3 g4 t p1 p2 O
 ·by_cases p1:p=1
  ·subst p1; exact kb1f g1 g2 g3 g4 t a b c d O
  by_cases p2:p=2
  ·subst p2; exact kb2f g1 g2 g3 g4 t a b c d O
  exact kbNf p g1 g2 g3 g4 t p1 p2 a b c d O
theorem map_all(p q:Int)(g1 g2 g3 g4:Qbr)(t:Bool):Qae Tryz.prog true 3 [.c (gx (.int .i64 p)),.c (gx (.int .i64 q)),.row (g1.cells++g2.cells++g3.cells++g4.cells++[gx (.bool t)])] (.r (.c (gl (.bool true)))):=by
 by_cases hs:smFC g1 g2 g3 g4
 ·exact map_L1 p q g1 g2 g3 g4 t hs
 obtain⟨b1,b2,b3,b4⟩:=smF_sz hs
 by_cases hm:MOk ⟨g1,g2,g3,g4,t⟩
 ·obtain⟨a,b,c,d,⟨e1,e2,e3,e4⟩,⟨ha,hb,hc,hd⟩,hn,h0⟩:=hm
  cases e1; cases e2; cases e3; cases e4
  have mo:Qbn (a,b,c,d):=⟨⟨ha,hb,hc,hd⟩,hn,h0⟩
  have C:=rChk a b c d t ha hb hc hd h0 hn
  by_cases hp:p=1∨p=2
  ·have K:∃ v:Bool,Qae Tryz.prog true 12 [.c (gx (.int .i64 p)),.row ((Qac a).cells++(Qac b).cells++(Qac c).cells++(Qac d).cells++[gx (.bool t)])] (.tup [.c (gl (.bool v)),.c (gl (.int .i64 0))]) ∧
     Qae Tryz.prog true 19 [.c (gx (.int .i64 p)),.row ((Qac a).cells++(Qac b).cells++(Qac c).cells++(Qac d).cells++[gx (.bool t)])] (.r (.c (gl (.bool v)))):=by
    rcases hp with rfl|rfl
    ·exact keeps1 t a b c d mo
    ·exact keeps2 t a b c d mo
   obtain⟨v,K,R⟩:=K
   by_cases hq:q=1∨q=2
   ·obtain⟨m1,m2,m3,m4,c2,A,E⟩:=ch1 hp hq
    cases v
    ·exact map_vf p q _ _ _ _ t hs m1 m2 m3 m4 c2 (picT hp) (picT hq) C K R A E
    ·exact map_vt p q _ _ _ _ t hs m1 m2 m3 m4 c2 (picT hp) (picT hq) C K R A E
   ·cases v
    ·exact map_iiif p q _ _ _ _ t hs (picT hp) (picF hq) C K R (ch0 (.inr hq))
    ·exact map_iiit p q _ _ _ _ t hs (picT hp) (picF hq) C K R (ch0 (.inr hq))
  ·exact map_i p q _ _ _ _ t hs (picF hp) (kbNt p _ _ _ _ t (fun e=>hp (.inl e)) (fun e=>hp (.inr e)) a b c d (Qax (a,b,c,d) t mo)) (ch0 (.inl hp))
 ·have K:=keepsBad (p:=p) b1 b2 b3 b4 hm
  have C:=rChkN g1 g2 g3 g4 t hm
  by_cases hp:p=1∨p=2
  ·by_cases hq:q=1∨q=2
   ·obtain⟨m1,m2,m3,m4,c2,A,E⟩:=ch1 hp hq
    exact map_iv p q _ _ _ _ t hs m1 m2 m3 m4 c2 (picT hp) (picT hq) C K A E
   ·exact map_ii p q _ _ _ _ t hs (picT hp) (picF hq) C K (ch0 (.inr hq))
  ·exact map_i p q _ _ _ _ t hs (picF hp) K (ch0 (.inl hp))
theorem map_true(p q:Int)(m:RawM):Qae Tryz.prog true 3 [.c (gx (.int .i64 p)),.c (gx (.int .i64 q)),.row (m.a.cells++m.b.cells++m.c.cells++m.d.cells++[gx (.bool m.t)])] (.r (.c (gl (.bool true)))):=map_all p q m.a m.b m.c m.d m.t
end Go.Proofs.YtmimficdpfmfgaaGreat
