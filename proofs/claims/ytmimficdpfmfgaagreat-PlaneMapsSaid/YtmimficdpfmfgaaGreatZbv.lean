/- Laws for the walk. -/
import Derived.Test.YtmimficdpfmfgaaGreatZbk
import Derived.Test.YtmimficdpfmfgaaGreatZbu
set_option linter.unusedVariables false
set_option linter.unusedSimpArgs false
set_option maxHeartbeats 4000000
namespace Go.Proofs.YtmimficdpfmfgaaGreat
open Go.RowKit Tr
open Classical
theorem pChNN(p q:Int)(hp1:¬(p=1))(hp2:¬(p=2))(hq1:¬(q=1))(hq2:¬(q=2)):Qae Tryz.prog true 11 [.c (gx (.int .i64 p)),.c (gx (.int .i64 q))] (.tup [.row (zGG++zGG++zGG++zGG++[gl (.bool false)]),.c (gl (.int .i64 2))]) :=
  Qaj (L := [[gx (.int .i64 p)],[gx (.int .i64 q)]].flatten) tys_ok mixed
     []
     [bI .eql 22 (.sym 0) (li 1) p 1 false (by simp[cmpB,hp1]),bI .eql 22 (.sym 0) (li 2) p 2 false (by simp[cmpB,hp2]),bI .eql 22 (.sym 1) (li 1) q 1 false (by simp[cmpB,hq1]),bI .eql 22 (.sym 1) (li 2) q 2 false (by simp[cmpB,hq2])] [] ((Qcp (Qbf (Qbg (Qbh .nil)))):FnsOk Tryz.prog _) 1 3 Tryz.func11 eo11 2000 [cS 0,cS 1] (.tup [.row (flA [zGA,zGA,zGA,zGA,[.lit (.bool false)]]),lc 2])
theorem pChN1(p:Int)(hp1:¬(p=1))(hp2:¬(p=2)):Qae Tryz.prog true 11 [.c (gx (.int .i64 p)),.c (gl (.int .i64 1))] (.tup [.row (zGG++zGG++zGG++zGG++[gl (.bool false)]),.c (gl (.int .i64 2))]) :=
  Qaj (L := [[gx (.int .i64 p)],(Qac (⟨0,1⟩ : QC)).cells,(Qac (⟨0,0⟩ : QC)).cells].flatten) tys_ok mixed
     [gs (pgi 0 1) [lc 0,lc 1] (.r (.row (Qab 1 8))),gs (pgi 0 0) [lc 0,lc 0] (.r (.row (Qab 9 8)))]
     [bI .eql 22 (.sym 0) (li 1) p 1 false (by simp[cmpB,hp1]),bI .eql 22 (.sym 0) (li 2) p 2 false (by simp[cmpB,hp2])] [] ((Qcp (Qbf (Qbg (Qbh .nil)))):FnsOk Tryz.prog _) 1 3 Tryz.func11 eo11 2000 [cS 0,lc 1] (.tup [.row (flA [zGA,zGA,zGA,zGA,[.lit (.bool false)]]),lc 2])
theorem pChN2(p:Int)(hp1:¬(p=1))(hp2:¬(p=2)):Qae Tryz.prog true 11 [.c (gx (.int .i64 p)),.c (gl (.int .i64 2))] (.tup [.row (zGG++zGG++zGG++zGG++[gl (.bool false)]),.c (gl (.int .i64 2))]) :=
  Qaj (L := [[gx (.int .i64 p)],(Qac (⟨0,1⟩ : QC)).cells,(Qac (⟨0,0⟩ : QC)).cells].flatten) tys_ok mixed
     [gs (pgi 0 1) [lc 0,lc 1] (.r (.row (Qab 1 8))),gs (pgi 0 0) [lc 0,lc 0] (.r (.row (Qab 9 8)))]
     [bI .eql 22 (.sym 0) (li 1) p 1 false (by simp[cmpB,hp1]),bI .eql 22 (.sym 0) (li 2) p 2 false (by simp[cmpB,hp2])] [] ((Qcp (Qbf (Qbg (Qbh .nil)))):FnsOk Tryz.prog _) 1 3 Tryz.func11 eo11 2000 [cS 0,lc 2] (.tup [.row (flA [zGA,zGA,zGA,zGA,[.lit (.bool false)]]),lc 2])
theorem pCh1N(q:Int)(hq1:¬(q=1))(hq2:¬(q=2)):Qae Tryz.prog true 11 [.c (gl (.int .i64 1)),.c (gx (.int .i64 q))] (.tup [.row (zGG++zGG++zGG++zGG++[gl (.bool false)]),.c (gl (.int .i64 2))]) :=
  Qaj (L := [[gx (.int .i64 q)],(Qac (⟨0,1⟩ : QC)).cells,(Qac (⟨0,0⟩ : QC)).cells].flatten) tys_ok mixed
     [gs (pgi 0 1) [lc 0,lc 1] (.r (.row (Qab 1 8))),gs (pgi 0 0) [lc 0,lc 0] (.r (.row (Qab 9 8)))]
     [bI .eql 22 (.sym 0) (li 1) q 1 false (by simp[cmpB,hq1]),bI .eql 22 (.sym 0) (li 2) q 2 false (by simp[cmpB,hq2])] [] ((Qcp (Qbf (Qbg (Qbh .nil)))):FnsOk Tryz.prog _) 1 3 Tryz.func11 eo11 2000 [lc 1,cS 0] (.tup [.row (flA [zGA,zGA,zGA,zGA,[.lit (.bool false)]]),lc 2])
theorem pCh2N(q:Int)(hq1:¬(q=1))(hq2:¬(q=2)):Qae Tryz.prog true 11 [.c (gl (.int .i64 2)),.c (gx (.int .i64 q))] (.tup [.row (zGG++zGG++zGG++zGG++[gl (.bool false)]),.c (gl (.int .i64 2))]) :=
  Qaj (L := [[gx (.int .i64 q)],(Qac (⟨0,1⟩ : QC)).cells,(Qac (⟨0,0⟩ : QC)).cells].flatten) tys_ok mixed
     [gs (pgi 0 1) [lc 0,lc 1] (.r (.row (Qab 1 8))),gs (pgi 0 0) [lc 0,lc 0] (.r (.row (Qab 9 8)))]
     [bI .eql 22 (.sym 0) (li 1) q 1 false (by simp[cmpB,hq1]),bI .eql 22 (.sym 0) (li 2) q 2 false (by simp[cmpB,hq2])] [] ((Qcp (Qbf (Qbg (Qbh .nil)))):FnsOk Tryz.prog _) 1 3 Tryz.func11 eo11 2000 [lc 2,cS 0] (.tup [.row (flA [zGA,zGA,zGA,zGA,[.lit (.bool false)]]),lc 2])
theorem eToldOk'(p:Q4)(hd:dq p≠⟨0,0⟩)(hn:Nf p)(hs:Sh4 p):Qae Tryz.prog true 125 [.row (mR p false)] (.tup [.row (mQ p false),.c (gl (.int .i64 0))]):=by
 have k:=eTold false p (hs.zl.mono (by decide)) hd
 rw[nm4_id hn] at k
 exact k.t hs
theorem eInv'(m:Q4)(h:Qbn m)(hs:Sh4 (inv4 m)):Qae Tryz.prog true 74 [.row (mQ m false)] (.tup [.row (mQ (inv4 m) false),.c (gl (.int .i64 0))]) :=
  Qam (L := mQ m false ++ mR m false ++ mR (inv4 m) false ++ mQ (inv4 m) false) tys_ok mixed
     [gs (Qax m false h) [.row (Qab 0 33)] (.tup [.row (Qab 33 9),.c (.lit (.bool true))]),gs (eUndo m (h.1.zl.mono (by decide)) h.2.2) [.row (Qab 33 9)] (.r (.row (Qab 42 9))),gs (eToldOk' (inv4 m) (inv_dq h.2.2) (nm4_nf (adj_ne h.2.2)) hs) [.row (Qab 42 9)] (.tup [.row (Qab 51 33),lc 0])]
     [] [] Tryz.func74 eo74 2000 [.row (Qab 0 33)] (.tup [.row (Qab 51 33),lc 0])
theorem inv21:inv4 ((⟨1,0⟩:QC),(⟨0,-1⟩:QC),(⟨1,0⟩:QC),(⟨0,1⟩:QC))=((⟨0,-1⟩:QC),(⟨0,-1⟩:QC),(⟨1,0⟩:QC),(⟨-1,0⟩:QC)):=by
 have e:by4 (adj4 ((⟨1,0⟩:QC),(⟨0,-1⟩:QC),(⟨1,0⟩:QC),(⟨0,1⟩:QC)))=(⟨0,0⟩:QC) - ⟨1,0⟩:=if_neg (fun h=>absurd (congrArg QC.re h) (by decide +kernel))
 unfold inv4 nm4
 rw[e]
 refine q4_ext ?_ ?_ ?_ ?_<;>(apply Qbz<;>decide +kernel)
theorem kInv21:Qae Tryz.prog true 74 [.row ((Qac (⟨1,0⟩:QC)).cells++(Qac (⟨0,-1⟩:QC)).cells++(Qac (⟨1,0⟩:QC)).cells++(Qac (⟨0,1⟩:QC)).cells++[gl (.bool false)])] (.tup [.row ((Qac (⟨0,-1⟩:QC)).cells++(Qac (⟨0,-1⟩:QC)).cells++(Qac (⟨1,0⟩:QC)).cells++(Qac (⟨-1,0⟩:QC)).cells++[gl (.bool false)]),.c (gl (.int .i64 0))]):=by
 have s:∀ z:QC,z=⟨1,0⟩∨z=⟨0,-1⟩∨z=⟨0,1⟩∨z=⟨-1,0⟩→Qad z:=fun z h=>by rcases h with rfl|rfl|rfl|rfl<;>exact Qaf (by decide +kernel)
 have h:Qbn ((⟨1,0⟩:QC),(⟨0,-1⟩:QC),(⟨1,0⟩:QC),(⟨0,1⟩:QC)):=⟨⟨s _ (by simp),s _ (by simp),s _ (by simp),s _ (by simp)⟩,.inl rfl,fun e=>absurd (congrArg QC.im e) (by decide +kernel)⟩
 have k:=eInv' _ h (by rw[inv21]; exact⟨s _ (by simp),s _ (by simp),s _ (by simp),s _ (by simp)⟩)
 rw[inv21] at k
 exact k
theorem pCh11  :Qae Tryz.prog true 11 [.c (gl (.int .i64 1)),.c (gl (.int .i64 1))] (.tup [.row ((Qac (⟨1,0⟩:QC)).cells++(Qac (⟨0,0⟩:QC)).cells++(Qac (⟨0,0⟩:QC)).cells++(Qac (⟨1,0⟩:QC)).cells++[gl (.bool false)]),.c (gl (.int .i64 0))]) :=
  Qaj (L := [(Qac (⟨0,1⟩ : QC)).cells,(Qac (⟨0,0⟩ : QC)).cells,(Qac (⟨1,0⟩ : QC)).cells,(Qac (⟨0,0⟩ : QC)).cells,(Qac (⟨0,0⟩ : QC)).cells,(Qac (⟨1,0⟩ : QC)).cells].flatten) tys_ok mixed
     [Qcr eo78,gs (pgi 0 1) [lc 0,lc 1] (.r (.row (Qab 0 8))),gs (pgi 0 0) [lc 0,lc 0] (.r (.row (Qab 8 8))),gs (mOne) [] (.r (.row (flA [Qab 16 32,[.lit (.bool false)]])))]
     [] [] ((fs119 (Qcp (Qbf (Qbg (Qbh (Qda (Qbk (fs40 (fs72 .nil))))))))):FnsOk Tryz.prog _) 1 3 Tryz.func11 eo11 2000 [lc 1,lc 1] (.tup [.row (flA [Qab 16 32,[.lit (.bool false)]]),lc 0])
theorem dCh11  :Qae Tryz.prog true 16 [.c (gl (.int .i64 1)),.c (gl (.int .i64 1))] (.r (.row ((Qac (⟨1,0⟩:QC)).cells++(Qac (⟨0,0⟩:QC)).cells++(Qac (⟨0,0⟩:QC)).cells++(Qac (⟨1,0⟩:QC)).cells++[gl (.bool false)]))) :=
  Qaj (L := [(Qac (⟨1,0⟩ : QC)).cells,(Qac (⟨0,-1⟩ : QC)).cells,(Qac (⟨0,1⟩ : QC)).cells,cG (⟨1,0⟩ : QC),cG (⟨0,-1⟩ : QC),cG (⟨0,1⟩ : QC),(Qac (⟨0,0⟩ : QC)).cells].flatten) tys_ok mixed
     [Qcr eo78,gs (rInt 1 0 (by decide) (by decide) (by decide) (by decide)) [lc 1,lc 0] (.r (.row (Qab 0 8))),gs (rInt 0 (-1) (by decide) (by decide) (by decide) (by decide)) [lc 0,lc (-1)] (.r (.row (Qab 8 8))),gs (rInt 0 1 (by decide) (by decide) (by decide) (by decide)) [lc 0,lc 1] (.r (.row (Qab 16 8))),gs (Qbx (⟨1,0⟩:QC) false (fI (by decide +kernel))) [.row (Qab 0 8)] (.r (.c (.lit (.bool false)))),gs (Qbq (⟨1,0⟩:QC) (⟨1,0⟩:QC) ((Qba (⟨1,0⟩:QC) 1 (by decide +kernel)).mn) ((Qba (⟨1,0⟩:QC) 1 (by decide +kernel)).mn) (by decide +kernel)) [.row (Qab 0 8),.row (Qab 0 8)] (.r (.row (gR 24))),gs (Qbq (⟨0,-1⟩:QC) (⟨1,0⟩:QC) ((Qba (⟨0,-1⟩:QC) 1 (by decide +kernel)).mn) ((Qba (⟨1,0⟩:QC) 1 (by decide +kernel)).mn) (by decide +kernel)) [.row (Qab 8 8),.row (Qab 0 8)] (.r (.row (gR 30))),gs (Qbq (⟨0,1⟩:QC) (⟨1,0⟩:QC) ((Qba (⟨0,1⟩:QC) 1 (by decide +kernel)).mn) ((Qba (⟨1,0⟩:QC) 1 (by decide +kernel)).mn) (by decide +kernel)) [.row (Qab 16 8),.row (Qab 0 8)] (.r (.row (gR 36))),gs (rInt 0 0 (by decide) (by decide) (by decide) (by decide)) [lc 0,lc 0] (.r (.row (Qab 42 8)))]
     [] [] ((fs83 (fs85 (fs88 (fs89 (fs86 (fs181 .nil)))))):FnsOk Tryz.prog _) 1 3 Tryz.func16 eo16 2000 [lc 1,lc 1] (.r (.row (flA [Qab 0 8,Qab 42 8,Qab 42 8,Qab 0 8,[.lit (.bool false)]])))
theorem dCh12  :Qae Tryz.prog true 16 [.c (gl (.int .i64 1)),.c (gl (.int .i64 2))] (.r (.row ((Qac (⟨1,0⟩:QC)).cells++(Qac (⟨0,-1⟩:QC)).cells++(Qac (⟨1,0⟩:QC)).cells++(Qac (⟨0,1⟩:QC)).cells++[gl (.bool false)]))) :=
  Qaj (L := [(Qac (⟨1,0⟩ : QC)).cells,(Qac (⟨0,-1⟩ : QC)).cells,(Qac (⟨0,1⟩ : QC)).cells,cG (⟨1,0⟩ : QC),cG (⟨0,-1⟩ : QC),cG (⟨0,1⟩ : QC)].flatten) tys_ok mixed
     [Qcr eo78,gs (rInt 1 0 (by decide) (by decide) (by decide) (by decide)) [lc 1,lc 0] (.r (.row (Qab 0 8))),gs (rInt 0 (-1) (by decide) (by decide) (by decide) (by decide)) [lc 0,lc (-1)] (.r (.row (Qab 8 8))),gs (rInt 0 1 (by decide) (by decide) (by decide) (by decide)) [lc 0,lc 1] (.r (.row (Qab 16 8))),gs (Qbx (⟨1,0⟩:QC) false (fI (by decide +kernel))) [.row (Qab 0 8)] (.r (.c (.lit (.bool false)))),gs (Qbq (⟨1,0⟩:QC) (⟨1,0⟩:QC) ((Qba (⟨1,0⟩:QC) 1 (by decide +kernel)).mn) ((Qba (⟨1,0⟩:QC) 1 (by decide +kernel)).mn) (by decide +kernel)) [.row (Qab 0 8),.row (Qab 0 8)] (.r (.row (gR 24))),gs (Qbq (⟨0,-1⟩:QC) (⟨1,0⟩:QC) ((Qba (⟨0,-1⟩:QC) 1 (by decide +kernel)).mn) ((Qba (⟨1,0⟩:QC) 1 (by decide +kernel)).mn) (by decide +kernel)) [.row (Qab 8 8),.row (Qab 0 8)] (.r (.row (gR 30))),gs (Qbq (⟨0,1⟩:QC) (⟨1,0⟩:QC) ((Qba (⟨0,1⟩:QC) 1 (by decide +kernel)).mn) ((Qba (⟨1,0⟩:QC) 1 (by decide +kernel)).mn) (by decide +kernel)) [.row (Qab 16 8),.row (Qab 0 8)] (.r (.row (gR 36)))]
     [] [] ((fs83 (fs85 (fs88 (fs89 (fs86 (fs181 .nil)))))):FnsOk Tryz.prog _) 1 3 Tryz.func16 eo16 2000 [lc 1,lc 2] (.r (.row (flA [gL [24,30,24,36],[.lit (.bool false)]])))
theorem pCh21  :Qae Tryz.prog true 11 [.c (gl (.int .i64 2)),.c (gl (.int .i64 1))] (.tup [.row ((Qac (⟨0,-1⟩:QC)).cells++(Qac (⟨0,-1⟩:QC)).cells++(Qac (⟨1,0⟩:QC)).cells++(Qac (⟨-1,0⟩:QC)).cells++[gl (.bool false)]),.c (gl (.int .i64 0))]) :=
  Qaj (L := [(Qac (⟨0,1⟩ : QC)).cells,(Qac (⟨0,0⟩ : QC)).cells,(Qac (⟨1,0⟩ : QC)).cells,(Qac (⟨0,-1⟩ : QC)).cells,cn (⟨1,0⟩ : QC),cn (⟨0,-1⟩ : QC),cn (⟨0,1⟩ : QC),cn (⟨0,2⟩ : QC),(Qac ((⟨1,0⟩ : QC) / (⟨1,0⟩ : QC))).cells,(Qac ((⟨0,-1⟩ : QC) / (⟨1,0⟩ : QC))).cells,(Qac ((⟨1,0⟩ : QC) / (⟨1,0⟩ : QC))).cells,(Qac ((⟨0,1⟩ : QC) / (⟨1,0⟩ : QC))).cells,(Qac (⟨0,-1⟩ : QC)).cells,(Qac (⟨0,-1⟩ : QC)).cells,(Qac (⟨1,0⟩ : QC)).cells,(Qac (⟨-1,0⟩ : QC)).cells].flatten) tys_ok mixed
     [Qcr eo78,gs (pgi 0 1) [lc 0,lc 1] (.r (.row (Qab 0 8))),gs (pgi 0 0) [lc 0,lc 0] (.r (.row (Qab 8 8))),gs (pgi 1 0) [lc 1,lc 0] (.r (.row (Qab 16 8))),gs (pgi 0 (-1)) [lc 0,lc (-1)] (.r (.row (Qab 24 8))),gs (Qbw (⟨1,0⟩:QC) (Qaf (by decide +kernel))) [.row (Qab 16 8)] (.tup [sy [32,33],.c (.lit (.bool true))]),gs (Qbw (⟨0,-1⟩:QC) (Qaf (by decide +kernel))) [.row (Qab 24 8)] (.tup [sy [34,35],.c (.lit (.bool true))]),gs (Qbw (⟨0,1⟩:QC) (Qaf (by decide +kernel))) [.row (Qab 0 8)] (.tup [sy [36,37],.c (.lit (.bool true))]),gs (eDet (⟨1,0⟩:QC) (⟨0,-1⟩:QC) (⟨1,0⟩:QC) (⟨0,1⟩:QC) false ((Qba (⟨1,0⟩:QC) 1 (by decide +kernel)).mn) ((Qba (⟨0,-1⟩:QC) 1 (by decide +kernel)).mn) ((Qba (⟨1,0⟩:QC) 1 (by decide +kernel)).mn) ((Qba (⟨0,1⟩:QC) 1 (by decide +kernel)).mn)) [.row (flA [Qab 32 4,[.sym 32,.sym 33,.sym 36,.sym 37,.lit (.bool false)]])] (.r (sy [38,39])),gs (Qcj (⟨0,2⟩:QC) false (fI (by decide +kernel))) [sy [38,39]] (.r (.c (.lit (.bool false)))),gs ((eToldCf (⟨1,0⟩:QC) (⟨0,-1⟩:QC) (⟨1,0⟩:QC) (⟨0,1⟩:QC) ((Qba (⟨1,0⟩:QC) 1 (by decide +kernel)).mn) ((Qba (⟨0,-1⟩:QC) 1 (by decide +kernel)).mn) ((Qba (⟨1,0⟩:QC) 1 (by decide +kernel)).mn) ((Qba (⟨0,1⟩:QC) 1 (by decide +kernel)).mn) (by decide +kernel)).t ⟨Qaf (by decide +kernel),Qaf (by decide +kernel),Qaf (by decide +kernel),Qaf (by decide +kernel)⟩) [.row (flA [Qab 32 4,[.sym 32,.sym 33,.sym 36,.sym 37,.lit (.bool false)]])] (.tup [.row (flA [Qab 40 32,[.lit (.bool false)]]),lc 0]),gs (kInv21) [.row (flA [Qab 40 32,[.lit (.bool false)]])] (.tup [.row (flA [Qab 72 32,[.lit (.bool false)]]),lc 0])]
     [] [] ((fs119 (Qcp (Qbf (Qbg (Qbh (Qda (Qbk (fs40 (fs72 .nil))))))))):FnsOk Tryz.prog _) 1 3 Tryz.func11 eo11 2000 [lc 2,lc 1] (.tup [.row (flA [Qab 72 32,[.lit (.bool false)]]),lc 0])
theorem dCh21  :Qae Tryz.prog true 16 [.c (gl (.int .i64 2)),.c (gl (.int .i64 1))] (.r (.row ((Qac (⟨0,-1⟩:QC)).cells++(Qac (⟨0,-1⟩:QC)).cells++(Qac (⟨1,0⟩:QC)).cells++(Qac (⟨-1,0⟩:QC)).cells++[gl (.bool false)]))) :=
  have t1:=Qbq (⟨0,1⟩:QC) (⟨-1,0⟩:QC) ((Qba (⟨0,1⟩:QC) 1 (by decide +kernel)).mn) ((Qba (⟨-1,0⟩:QC) 1 (by decide +kernel)).mn) (by decide +kernel)
  Qaj (L := [(Qac (⟨1,0⟩ : QC)).cells,(Qac (⟨0,-1⟩ : QC)).cells,(Qac (⟨0,1⟩ : QC)).cells,cG (⟨1,0⟩ : QC),cG (⟨0,-1⟩ : QC),cG (⟨0,1⟩ : QC),cG (⟨0,1⟩ : QC),cG (⟨-1,0⟩ : QC),cG (⟨0,-1⟩ : QC),cG (⟨0,-1⟩ : QC),cG (⟨1,0⟩ : QC),cG (⟨-1,0⟩ : QC)].flatten) tys_ok mixed
     [Qcr eo78,gs (rInt 1 0 (by decide) (by decide) (by decide) (by decide)) [lc 1,lc 0] (.r (.row (Qab 0 8))),gs (rInt 0 (-1) (by decide) (by decide) (by decide) (by decide)) [lc 0,lc (-1)] (.r (.row (Qab 8 8))),gs (rInt 0 1 (by decide) (by decide) (by decide) (by decide)) [lc 0,lc 1] (.r (.row (Qab 16 8))),gs (Qbx (⟨1,0⟩:QC) false (fI (by decide +kernel))) [.row (Qab 0 8)] (.r (.c (.lit (.bool false)))),gs (Qbq (⟨1,0⟩:QC) (⟨1,0⟩:QC) ((Qba (⟨1,0⟩:QC) 1 (by decide +kernel)).mn) ((Qba (⟨1,0⟩:QC) 1 (by decide +kernel)).mn) (by decide +kernel)) [.row (Qab 0 8),.row (Qab 0 8)] (.r (.row (gR 24))),gs (Qbq (⟨0,-1⟩:QC) (⟨1,0⟩:QC) ((Qba (⟨0,-1⟩:QC) 1 (by decide +kernel)).mn) ((Qba (⟨1,0⟩:QC) 1 (by decide +kernel)).mn) (by decide +kernel)) [.row (Qab 8 8),.row (Qab 0 8)] (.r (.row (gR 30))),gs (Qbq (⟨0,1⟩:QC) (⟨1,0⟩:QC) ((Qba (⟨0,1⟩:QC) 1 (by decide +kernel)).mn) ((Qba (⟨1,0⟩:QC) 1 (by decide +kernel)).mn) (by decide +kernel)) [.row (Qab 16 8),.row (Qab 0 8)] (.r (.row (gR 36))),gs (rGNeg (⟨0,-1⟩:QC)) [.row (gR 30)] (.r (.row (gR 42))),gs (rGNeg (⟨1,0⟩:QC)) [.row (gR 24)] (.r (.row (gR 48))),gs (Qbx (⟨-1,0⟩:QC) false (fI (by decide +kernel))) [.row (gR 48)] (.r (.c (.lit (.bool false)))),gs (t1) [.row (gR 36),.row (gR 48)] (.r (.row (gR 54))),gs (t1) [.row (gR 42),.row (gR 48)] (.r (.row (gR 60))),gs (Qbq (⟨-1,0⟩:QC) (⟨-1,0⟩:QC) ((Qba (⟨-1,0⟩:QC) 1 (by decide +kernel)).mn) ((Qba (⟨-1,0⟩:QC) 1 (by decide +kernel)).mn) (by decide +kernel)) [.row (gR 48),.row (gR 48)] (.r (.row (gR 66))),gs (Qbq (⟨1,0⟩:QC) (⟨-1,0⟩:QC) ((Qba (⟨1,0⟩:QC) 1 (by decide +kernel)).mn) ((Qba (⟨-1,0⟩:QC) 1 (by decide +kernel)).mn) (by decide +kernel)) [.row (gR 24),.row (gR 48)] (.r (.row (gR 72)))]
     [] [] ((fs83 (fs85 (fs88 (fs89 (fs86 (fs181 .nil)))))):FnsOk Tryz.prog _) 1 3 Tryz.func16 eo16 2000 [lc 2,lc 1] (.r (.row (flA [gL [54,60,66,72],[.lit (.bool false)]])))
theorem pCh22  :Qae Tryz.prog true 11 [.c (gl (.int .i64 2)),.c (gl (.int .i64 2))] (.tup [.row ((Qac (⟨1,0⟩:QC)).cells++(Qac (⟨0,0⟩:QC)).cells++(Qac (⟨0,0⟩:QC)).cells++(Qac (⟨1,0⟩:QC)).cells++[gl (.bool false)]),.c (gl (.int .i64 0))]) :=
  Qaj (L := [(Qac (⟨0,1⟩ : QC)).cells,(Qac (⟨0,0⟩ : QC)).cells,(Qac (⟨1,0⟩ : QC)).cells,(Qac (⟨0,0⟩ : QC)).cells,(Qac (⟨0,0⟩ : QC)).cells,(Qac (⟨1,0⟩ : QC)).cells].flatten) tys_ok mixed
     [Qcr eo78,gs (pgi 0 1) [lc 0,lc 1] (.r (.row (Qab 0 8))),gs (pgi 0 0) [lc 0,lc 0] (.r (.row (Qab 8 8))),gs (mOne) [] (.r (.row (flA [Qab 16 32,[.lit (.bool false)]])))]
     [] [] ((fs119 (Qcp (Qbf (Qbg (Qbh (Qda (Qbk (fs40 (fs72 .nil))))))))):FnsOk Tryz.prog _) 1 3 Tryz.func11 eo11 2000 [lc 2,lc 2] (.tup [.row (flA [Qab 16 32,[.lit (.bool false)]]),lc 0])
theorem dCh22  :Qae Tryz.prog true 16 [.c (gl (.int .i64 2)),.c (gl (.int .i64 2))] (.r (.row ((Qac (⟨1,0⟩:QC)).cells++(Qac (⟨0,0⟩:QC)).cells++(Qac (⟨0,0⟩:QC)).cells++(Qac (⟨1,0⟩:QC)).cells++[gl (.bool false)]))) :=
  Qaj (L := [(Qac (⟨1,0⟩ : QC)).cells,(Qac (⟨0,-1⟩ : QC)).cells,(Qac (⟨0,1⟩ : QC)).cells,cG (⟨1,0⟩ : QC),cG (⟨0,-1⟩ : QC),cG (⟨0,1⟩ : QC),(Qac (⟨0,0⟩ : QC)).cells].flatten) tys_ok mixed
     [Qcr eo78,gs (rInt 1 0 (by decide) (by decide) (by decide) (by decide)) [lc 1,lc 0] (.r (.row (Qab 0 8))),gs (rInt 0 (-1) (by decide) (by decide) (by decide) (by decide)) [lc 0,lc (-1)] (.r (.row (Qab 8 8))),gs (rInt 0 1 (by decide) (by decide) (by decide) (by decide)) [lc 0,lc 1] (.r (.row (Qab 16 8))),gs (Qbx (⟨1,0⟩:QC) false (fI (by decide +kernel))) [.row (Qab 0 8)] (.r (.c (.lit (.bool false)))),gs (Qbq (⟨1,0⟩:QC) (⟨1,0⟩:QC) ((Qba (⟨1,0⟩:QC) 1 (by decide +kernel)).mn) ((Qba (⟨1,0⟩:QC) 1 (by decide +kernel)).mn) (by decide +kernel)) [.row (Qab 0 8),.row (Qab 0 8)] (.r (.row (gR 24))),gs (Qbq (⟨0,-1⟩:QC) (⟨1,0⟩:QC) ((Qba (⟨0,-1⟩:QC) 1 (by decide +kernel)).mn) ((Qba (⟨1,0⟩:QC) 1 (by decide +kernel)).mn) (by decide +kernel)) [.row (Qab 8 8),.row (Qab 0 8)] (.r (.row (gR 30))),gs (Qbq (⟨0,1⟩:QC) (⟨1,0⟩:QC) ((Qba (⟨0,1⟩:QC) 1 (by decide +kernel)).mn) ((Qba (⟨1,0⟩:QC) 1 (by decide +kernel)).mn) (by decide +kernel)) [.row (Qab 16 8),.row (Qab 0 8)] (.r (.row (gR 36))),gs (rInt 0 0 (by decide) (by decide) (by decide) (by decide)) [lc 0,lc 0] (.r (.row (Qab 42 8)))]
     [] [] ((fs83 (fs85 (fs88 (fs89 (fs86 (fs181 .nil)))))):FnsOk Tryz.prog _) 1 3 Tryz.func16 eo16 2000 [lc 2,lc 2] (.r (.row (flA [Qab 0 8,Qab 42 8,Qab 42 8,Qab 0 8,[.lit (.bool false)]])))
end Go.Proofs.YtmimficdpfmfgaaGreat
set_option linter.unusedSimpArgs false
namespace Go.Proofs.YtmimficdpfmfgaaGreat
open Go.RowKit Tr
open Classical
end Go.Proofs.YtmimficdpfmfgaaGreat
set_option linter.unusedSimpArgs false
namespace Go.Proofs.YtmimficdpfmfgaaGreat
open Go.RowKit Tr
open Classical
end Go.Proofs.YtmimficdpfmfgaaGreat
set_option linter.unusedSimpArgs false
namespace Go.Proofs.YtmimficdpfmfgaaGreat
open Go.RowKit Tr
open Classical
theorem leastk{p:Nat→Prop}{n:Nat}(h:∃ k,k<n∧p k):∃ k,k<n∧p k∧∀ j,j<k→¬p j:=by
 obtain⟨k,hk,hp⟩:=h
 induction k using Nat.strongRecOn with
 | ind k ih =>
  by_cases hj:∃ j,j<k∧p j
  ·obtain⟨j,h1,h2⟩:=hj; exact ih j h1 (by omega) h2
  ·exact⟨k,hk,hp,fun j h1 h2=>hj ⟨j,h1,h2⟩⟩
def gtk{P:Program}{L:List GF}(t:TypeId)(x y:AC)(a b:Int)(r:Bool)(h:r=true↔a>b)(hx:x.gv L=some (.int .i64 a):=by kernel_rfl)(hy:y.gv L=some (.int .i64 b):=by kernel_rfl):GB P L :=
 gbInt .gtr t .i64 x y a b r (by simp only[cmpB]; congr 1; rw[Bool.eq_iff_iff,h,decide_eq_true_eq]) hx hy
noncomputable def rNk(p:Nat→Prop)(n k:Nat):Bool:=if k<n then false else if k=n then true else @decide (p k) (Classical.propDecidable _)
theorem rNk_ok{p:Nat→Prop}{n:Nat}(h:∀ k,k<n→¬p k)(hn:p n)(k:Nat):rNk p n k=true↔p k:=by
 unfold rNk
 split
 ·rename_i h1; exact⟨(fun e=>by cases e),fun e=>absurd e (h k h1)⟩
 ·split
  ·rename_i h1; subst h1; exact⟨fun _=>hn,fun _=>rfl⟩
  ·simp
end Go.Proofs.YtmimficdpfmfgaaGreat
namespace Go.Proofs.YtmimficdpfmfgaaGreat
open Go.RowKit Tr
open Classical
def smFL(g1 g2 g3 g4:Qbr):List GF:=[g1.cells,g2.cells,g3.cells,g4.cells,[gx (.int .i64 (Sz g1.s1))],[gx (.int .i64 (Sz g1.s2))],[gx (.int .i64 (Sz g1.s3))],[gx (.int .i64 (Sz g1.s4))],[gx (.int .i64 (Sz g2.s1))],[gx (.int .i64 (Sz g2.s2))],[gx (.int .i64 (Sz g2.s3))],[gx (.int .i64 (Sz g2.s4))],[gx (.int .i64 (Sz g3.s1))],[gx (.int .i64 (Sz g3.s2))],[gx (.int .i64 (Sz g3.s3))],[gx (.int .i64 (Sz g3.s4))],[gx (.int .i64 (Sz g4.s1))],[gx (.int .i64 (Sz g4.s2))],[gx (.int .i64 (Sz g4.s3))],[gx (.int .i64 (Sz g4.s4))]].flatten
def smFP(g1 g2 g3 g4:Qbr)(k:Nat):Prop:=([(Sz g1.s1)>24,(Sz g1.s2)>24,(Sz g1.s3)>24,(Sz g1.s4)>24,(Sz g2.s1)>24,(Sz g2.s2)>24,(Sz g2.s3)>24,(Sz g2.s4)>24,(Sz g3.s1)>24,(Sz g3.s2)>24,(Sz g3.s3)>24,(Sz g3.s4)>24,(Sz g4.s1)>24,(Sz g4.s2)>24,(Sz g4.s3)>24,(Sz g4.s4)>24]:List Prop).getD k False
def smFO(g1 g2 g3 g4:Qbr):List (GO Tryz.prog (smFL g1 g2 g3 g4)):=[lS (.sym 1) g1.s1 (.sym 32),lS (.sym 3) g1.s2 (.sym 33),lS (.sym 5) g1.s3 (.sym 34),lS (.sym 7) g1.s4 (.sym 35),lS (.sym 9) g2.s1 (.sym 36),lS (.sym 11) g2.s2 (.sym 37),lS (.sym 13) g2.s3 (.sym 38),lS (.sym 15) g2.s4 (.sym 39),lS (.sym 17) g3.s1 (.sym 40),lS (.sym 19) g3.s2 (.sym 41),lS (.sym 21) g3.s3 (.sym 42),lS (.sym 23) g3.s4 (.sym 43),lS (.sym 25) g4.s1 (.sym 44),lS (.sym 27) g4.s2 (.sym 45),lS (.sym 29) g4.s3 (.sym 46),lS (.sym 31) g4.s4 (.sym 47)]
def smFB(g1 g2 g3 g4:Qbr)(r:Nat→Bool)(hr:∀ k,k<16→(r k=true↔smFP g1 g2 g3 g4 k)):List (GB Tryz.prog (smFL g1 g2 g3 g4)) :=
  [gtk 3 (.sym 32) (li 24) (Sz g1.s1) 24 (r 0) (hr 0 (by decide)),
   gtk 3 (.sym 33) (li 24) (Sz g1.s2) 24 (r 1) (hr 1 (by decide)),
   gtk 3 (.sym 34) (li 24) (Sz g1.s3) 24 (r 2) (hr 2 (by decide)),
   gtk 3 (.sym 35) (li 24) (Sz g1.s4) 24 (r 3) (hr 3 (by decide)),
   gtk 3 (.sym 36) (li 24) (Sz g2.s1) 24 (r 4) (hr 4 (by decide)),
   gtk 3 (.sym 37) (li 24) (Sz g2.s2) 24 (r 5) (hr 5 (by decide)),
   gtk 3 (.sym 38) (li 24) (Sz g2.s3) 24 (r 6) (hr 6 (by decide)),
   gtk 3 (.sym 39) (li 24) (Sz g2.s4) 24 (r 7) (hr 7 (by decide)),
   gtk 3 (.sym 40) (li 24) (Sz g3.s1) 24 (r 8) (hr 8 (by decide)),
   gtk 3 (.sym 41) (li 24) (Sz g3.s2) 24 (r 9) (hr 9 (by decide)),
   gtk 3 (.sym 42) (li 24) (Sz g3.s3) 24 (r 10) (hr 10 (by decide)),
   gtk 3 (.sym 43) (li 24) (Sz g3.s4) 24 (r 11) (hr 11 (by decide)),
   gtk 3 (.sym 44) (li 24) (Sz g4.s1) 24 (r 12) (hr 12 (by decide)),
   gtk 3 (.sym 45) (li 24) (Sz g4.s2) 24 (r 13) (hr 13 (by decide)),
   gtk 3 (.sym 46) (li 24) (Sz g4.s3) 24 (r 14) (hr 14 (by decide)),
   gtk 3 (.sym 47) (li 24) (Sz g4.s4) 24 (r 15) (hr 15 (by decide))]
theorem smFE(g1 g2 g3 g4:Qbr)(r:Nat→Bool)(hr:∀ k,k<16→(r k=true↔smFP g1 g2 g3 g4 k))(b:Bool)(hev:evL (gcx tys true (smFL g1 g2 g3 g4) [] (smFB g1 g2 g3 g4 r hr) (smFO g1 g2 g3 g4)) Tryz.f9 2000 [⟨Qab 0 32,28,none⟩] [lc 24,.c (.sl 0 0 4 4)] (.r (.c (.lit (.bool b))))=true):Qcm Tryz.prog true 9 [(g1.cells++g2.cells++g3.cells++g4.cells,28)] [.f (.c (gl (.int .i64 24))),.sl 0 0 4 4] (B1 b) :=
 ev_sm (L:=smFL g1 g2 g3 g4) tys_ok mixed [] (smFB g1 g2 g3 g4 r hr) (smFO g1 g2 g3 g4) Tryz.func9 eo9 2000 [⟨Qab 0 32,28,none⟩] [lc 24,.c (.sl 0 0 4 4)] (.r (.c (.lit (.bool b)))) hev
theorem smFT(g1 g2 g3 g4:Qbr)(k:Nat)(hk:k<16)(h:∀ j,j<k→¬smFP g1 g2 g3 g4 j)(hp:smFP g1 g2 g3 g4 k):Qcm Tryz.prog true 9 [(g1.cells++g2.cells++g3.cells++g4.cells,28)] [.f (.c (gl (.int .i64 24))),.sl 0 0 4 4] (B1 false):=by
 rcases(by omega:k=0∨k=1∨k=2∨k=3∨k=4∨k=5∨k=6∨k=7∨k=8∨k=9∨k=10∨k=11∨k=12∨k=13∨k=14∨k=15) with rfl|rfl|rfl|rfl|rfl|rfl|rfl|rfl|rfl|rfl|rfl|rfl|rfl|rfl|rfl|rfl
 all_goals exact smFE g1 g2 g3 g4 (rNk (smFP g1 g2 g3 g4) _) (fun j _=>rNk_ok h hp j) false (by kernel_rfl)
def smFC(g1 g2 g3 g4:Qbr):Prop:=∃ k,k<16∧smFP g1 g2 g3 g4 k
theorem smF(g1 g2 g3 g4:Qbr)(b:Bool)(hb:b=true↔¬smFC g1 g2 g3 g4):Qcm Tryz.prog true 9 [(g1.cells++g2.cells++g3.cells++g4.cells,28)] [.f (.c (gl (.int .i64 24))),.sl 0 0 4 4] (B1 b):=by
 cases b
 ·obtain⟨k,hk,hp,h⟩:=leastk (Classical.byContradiction fun h=>by cases hb.2 h)
  exact smFT g1 g2 g3 g4 k hk h hp
 ·exact smFE g1 g2 g3 g4 (fun _=>false) (fun k hk=>⟨(fun e=>by cases e),fun e=>(hb.1 rfl ⟨k,hk,e⟩).elim⟩) true (by kernel_rfl)
theorem map_L1(p q:Int)(g1 g2 g3 g4:Qbr)(t:Bool)(hs:smFC g1 g2 g3 g4):Qae Tryz.prog true 3 [.c (gx (.int .i64 p)),.c (gx (.int .i64 q)),.row (g1.cells++g2.cells++g3.cells++g4.cells++[gx (.bool t)])] (.r (.c (gl (.bool true)))) :=
  Qaj (L := [[gx (.int .i64 p)],[gx (.int .i64 q)],g1.cells,g2.cells,g3.cells,g4.cells,[gx (.bool t)]].flatten) tys_ok mixed
     [gsm (smF g1 g2 g3 g4 false ⟨(fun e=>by cases e),fun k_=>(k_ hs).elim⟩) [12] [⟨Qab 2 32,28,none⟩] [lc 24,.c (.sl 0 0 4 4)] (.r (.c (.lit (.bool false)))),gs (pknown) [] (.r (.c (.lit (.bool true))))]
     [] [] ((fs14 (fs18 .nil)):FnsOk Tryz.prog _) 1 2 Tryz.func3 eo3 2000 [cS 0,cS 1,.row (Qab 2 33)] (.r (.c (.lit (.bool true))))
theorem map_i(p q:Int)(g1 g2 g3 g4:Qbr)(t:Bool)(hs:¬(smFC g1 g2 g3 g4))
  (Pf:Qae Tryz.prog true 13 [.c (gx (.int .i64 p))] (.r (.c (gl (.bool false)))))
  (K2:Qae Tryz.prog true 12 [.c (gx (.int .i64 p)),.row (g1.cells++g2.cells++g3.cells++g4.cells++[gx (.bool t)])] (.tup [.c (gl (.bool false)),.c (gl (.int .i64 2))]))
  (A0:Qae Tryz.prog true 11 [.c (gx (.int .i64 p)),.c (gx (.int .i64 q))] (.tup [.row (zGG++zGG++zGG++zGG++[gl (.bool false)]),.c (gl (.int .i64 2))])):Qae Tryz.prog true 3 [.c (gx (.int .i64 p)),.c (gx (.int .i64 q)),.row (g1.cells++g2.cells++g3.cells++g4.cells++[gx (.bool t)])] (.r (.c (gl (.bool true)))) :=
  Qaj (L := [[gx (.int .i64 p)],[gx (.int .i64 q)],g1.cells,g2.cells,g3.cells,g4.cells,[gx (.bool t)]].flatten) tys_ok mixed
     [gsm (smF g1 g2 g3 g4 true ⟨fun _=>hs,fun _=>rfl⟩) [12] [⟨Qab 2 32,28,none⟩] [lc 24,.c (.sl 0 0 4 4)] (.r (.c (.lit (.bool true)))),gs (A0) [cS 0,cS 1] (.tup [.row (flA [zGA,zGA,zGA,zGA,[.lit (.bool false)]]),lc 2]),gs (K2) [cS 0,.row (Qab 2 33)] (.tup [.c (.lit (.bool false)),lc 2]),gs (Pf) [cS 0] (.r (.c (.lit (.bool false)))),gs (pknown) [] (.r (.c (.lit (.bool true))))]
     [gbSame 30 (.row (flA [zGA,zGA,zGA,zGA,[.lit (.bool false)]])) (.row (flA [zGA,zGA,zGA,zGA,[.lit (.bool false)]])) (.agg (zV 16++[Value.bool false]).toArray) (fun _ _ _=>by kernel_rfl)] [] ((fs14 (fs18 .nil)):FnsOk Tryz.prog _) 1 2 Tryz.func3 eo3 2000 [cS 0,cS 1,.row (Qab 2 33)] (.r (.c (.lit (.bool true))))
theorem map_ii(p q:Int)(g1 g2 g3 g4:Qbr)(t:Bool)(hs:¬(smFC g1 g2 g3 g4))
  (Pt:Qae Tryz.prog true 13 [.c (gx (.int .i64 p))] (.r (.c (gl (.bool true)))))
  (Qf:Qae Tryz.prog true 13 [.c (gx (.int .i64 q))] (.r (.c (gl (.bool false)))))
  (C2:Qae Tryz.prog true 17 [.row (g1.cells++g2.cells++g3.cells++g4.cells++[gx (.bool t)])] (.r (.c (gl (.int .i64 2)))))
  (K2:Qae Tryz.prog true 12 [.c (gx (.int .i64 p)),.row (g1.cells++g2.cells++g3.cells++g4.cells++[gx (.bool t)])] (.tup [.c (gl (.bool false)),.c (gl (.int .i64 2))]))
  (A0:Qae Tryz.prog true 11 [.c (gx (.int .i64 p)),.c (gx (.int .i64 q))] (.tup [.row (zGG++zGG++zGG++zGG++[gl (.bool false)]),.c (gl (.int .i64 2))])):Qae Tryz.prog true 3 [.c (gx (.int .i64 p)),.c (gx (.int .i64 q)),.row (g1.cells++g2.cells++g3.cells++g4.cells++[gx (.bool t)])] (.r (.c (gl (.bool true)))) :=
  Qaj (L := [[gx (.int .i64 p)],[gx (.int .i64 q)],g1.cells,g2.cells,g3.cells,g4.cells,[gx (.bool t)]].flatten) tys_ok mixed
     [gsm (smF g1 g2 g3 g4 true ⟨fun _=>hs,fun _=>rfl⟩) [12] [⟨Qab 2 32,28,none⟩] [lc 24,.c (.sl 0 0 4 4)] (.r (.c (.lit (.bool true)))),gs (A0) [cS 0,cS 1] (.tup [.row (flA [zGA,zGA,zGA,zGA,[.lit (.bool false)]]),lc 2]),gs (K2) [cS 0,.row (Qab 2 33)] (.tup [.c (.lit (.bool false)),lc 2]),gs (Pt) [cS 0] (.r (.c (.lit (.bool true)))),gs (Qf) [cS 1] (.r (.c (.lit (.bool false)))),gs (C2) [.row (Qab 2 33)] (.r (lc 2)),gs (pknown) [] (.r (.c (.lit (.bool true))))]
     [gbSame 30 (.row (flA [zGA,zGA,zGA,zGA,[.lit (.bool false)]])) (.row (flA [zGA,zGA,zGA,zGA,[.lit (.bool false)]])) (.agg (zV 16++[Value.bool false]).toArray) (fun _ _ _=>by kernel_rfl)] [] ((fs14 (fs18 .nil)):FnsOk Tryz.prog _) 1 2 Tryz.func3 eo3 2000 [cS 0,cS 1,.row (Qab 2 33)] (.r (.c (.lit (.bool true))))
theorem map_iv(p q:Int)(g1 g2 g3 g4:Qbr)(t:Bool)(hs:¬(smFC g1 g2 g3 g4))(m1 m2 m3 m4:Qbr)(c2:Int)
  (Pt:Qae Tryz.prog true 13 [.c (gx (.int .i64 p))] (.r (.c (gl (.bool true)))))
  (Qt:Qae Tryz.prog true 13 [.c (gx (.int .i64 q))] (.r (.c (gl (.bool true)))))
  (C2:Qae Tryz.prog true 17 [.row (g1.cells++g2.cells++g3.cells++g4.cells++[gx (.bool t)])] (.r (.c (gl (.int .i64 2)))))
  (K2:Qae Tryz.prog true 12 [.c (gx (.int .i64 p)),.row (g1.cells++g2.cells++g3.cells++g4.cells++[gx (.bool t)])] (.tup [.c (gl (.bool false)),.c (gl (.int .i64 2))]))
  (A1:Qae Tryz.prog true 11 [.c (gx (.int .i64 p)),.c (gx (.int .i64 q))] (.tup [.row (m1.cells++m2.cells++m3.cells++m4.cells++[gl (.bool false)]),.c (gx (.int .i64 c2))]))
  (E1:Qcm Tryz.prog true 14 [([gx (.int .i64 p)],22),([gx (.int .i64 q)],22)] [.f (.row (m1.cells++m2.cells++m3.cells++m4.cells++[gl (.bool false)])),.f (.c (gx (.int .i64 c2))),.f (.c (gl (.int .i64 0))),.fn 15 [] [0,1]] (.r (.c (gl (.bool true))))):Qae Tryz.prog true 3 [.c (gx (.int .i64 p)),.c (gx (.int .i64 q)),.row (g1.cells++g2.cells++g3.cells++g4.cells++[gx (.bool t)])] (.r (.c (gl (.bool true)))) :=
  Qaj (L := [[gx (.int .i64 p)],[gx (.int .i64 q)],g1.cells,g2.cells,g3.cells,g4.cells,[gx (.bool t)],m1.cells,m2.cells,m3.cells,m4.cells,[gx (.int .i64 c2)]].flatten) tys_ok mixed
     [gsm (smF g1 g2 g3 g4 true ⟨fun _=>hs,fun _=>rfl⟩) [12] [⟨Qab 2 32,28,none⟩] [lc 24,.c (.sl 0 0 4 4)] (.r (.c (.lit (.bool true)))),gs (A1) [cS 0,cS 1] (.tup [.row (flA [Qab 35 32,[.lit (.bool false)]]),cS 67]),gs (K2) [cS 0,.row (Qab 2 33)] (.tup [.c (.lit (.bool false)),lc 2]),gs (Pt) [cS 0] (.r (.c (.lit (.bool true)))),gs (Qt) [cS 1] (.r (.c (.lit (.bool true)))),
      gsm (E1) [0,1] [⟨[.sym 0],22,none⟩,⟨[.sym 1],22,none⟩] [.row (flA [Qab 35 32,[.lit (.bool false)]]),cS 67,lc 0,.c (.fn 15 [] [0,1])] (.r (.c (.lit (.bool true)))),gs (C2) [.row (Qab 2 33)] (.r (lc 2)),gs (pknown) [] (.r (.c (.lit (.bool true))))]
     [] [] ((fs18 .nil):Tr.FnsOk Tryz.prog _) 1 1 Tryz.func3 eo3 2000 [cS 0,cS 1,.row (Qab 2 33)] (.r (.c (.lit (.bool true))))
theorem map_iiit(p q:Int)(g1 g2 g3 g4:Qbr)(t:Bool)(hs:¬(smFC g1 g2 g3 g4))
  (Pt:Qae Tryz.prog true 13 [.c (gx (.int .i64 p))] (.r (.c (gl (.bool true)))))
  (Qf:Qae Tryz.prog true 13 [.c (gx (.int .i64 q))] (.r (.c (gl (.bool false)))))
  (C0:Qae Tryz.prog true 17 [.row (g1.cells++g2.cells++g3.cells++g4.cells++[gx (.bool t)])] (.r (.c (gl (.int .i64 0)))))
  (Kt:Qae Tryz.prog true 12 [.c (gx (.int .i64 p)),.row (g1.cells++g2.cells++g3.cells++g4.cells++[gx (.bool t)])] (.tup [.c (gl (.bool true)),.c (gl (.int .i64 0))]))
  (Rt:Qae Tryz.prog true 19 [.c (gx (.int .i64 p)),.row (g1.cells++g2.cells++g3.cells++g4.cells++[gx (.bool t)])] (.r (.c (gl (.bool true)))))
  (A0:Qae Tryz.prog true 11 [.c (gx (.int .i64 p)),.c (gx (.int .i64 q))] (.tup [.row (zGG++zGG++zGG++zGG++[gl (.bool false)]),.c (gl (.int .i64 2))])):Qae Tryz.prog true 3 [.c (gx (.int .i64 p)),.c (gx (.int .i64 q)),.row (g1.cells++g2.cells++g3.cells++g4.cells++[gx (.bool t)])] (.r (.c (gl (.bool true)))) :=
  Qaj (L := [[gx (.int .i64 p)],[gx (.int .i64 q)],g1.cells,g2.cells,g3.cells,g4.cells,[gx (.bool t)]].flatten) tys_ok mixed
     [gsm (smF g1 g2 g3 g4 true ⟨fun _=>hs,fun _=>rfl⟩) [12] [⟨Qab 2 32,28,none⟩] [lc 24,.c (.sl 0 0 4 4)] (.r (.c (.lit (.bool true)))),gs (A0) [cS 0,cS 1] (.tup [.row (flA [zGA,zGA,zGA,zGA,[.lit (.bool false)]]),lc 2]),gs (Kt) [cS 0,.row (Qab 2 33)] (.tup [.c (.lit (.bool true)),lc 0]),gs (Pt) [cS 0] (.r (.c (.lit (.bool true)))),gs (Qf) [cS 1] (.r (.c (.lit (.bool false)))),gs (C0) [.row (Qab 2 33)] (.r (lc 0)),gs (Rt) [cS 0,.row (Qab 2 33)] (.r (.c (.lit (.bool true)))),gs (pknown) [] (.r (.c (.lit (.bool true))))]
     [gbSame 30 (.row (flA [zGA,zGA,zGA,zGA,[.lit (.bool false)]])) (.row (flA [zGA,zGA,zGA,zGA,[.lit (.bool false)]])) (.agg (zV 16++[Value.bool false]).toArray) (fun _ _ _=>by kernel_rfl),gbEqb 4 Tryz.underlying4 true true] [] ((fs14 (fs18 .nil)):FnsOk Tryz.prog _) 1 2 Tryz.func3 eo3 2000 [cS 0,cS 1,.row (Qab 2 33)] (.r (.c (.lit (.bool true))))
theorem map_vt(p q:Int)(g1 g2 g3 g4:Qbr)(t:Bool)(hs:¬(smFC g1 g2 g3 g4))(m1 m2 m3 m4:Qbr)(c2:Int)
  (Pt:Qae Tryz.prog true 13 [.c (gx (.int .i64 p))] (.r (.c (gl (.bool true)))))
  (Qt:Qae Tryz.prog true 13 [.c (gx (.int .i64 q))] (.r (.c (gl (.bool true)))))
  (C0:Qae Tryz.prog true 17 [.row (g1.cells++g2.cells++g3.cells++g4.cells++[gx (.bool t)])] (.r (.c (gl (.int .i64 0)))))
  (Kt:Qae Tryz.prog true 12 [.c (gx (.int .i64 p)),.row (g1.cells++g2.cells++g3.cells++g4.cells++[gx (.bool t)])] (.tup [.c (gl (.bool true)),.c (gl (.int .i64 0))]))
  (Rt:Qae Tryz.prog true 19 [.c (gx (.int .i64 p)),.row (g1.cells++g2.cells++g3.cells++g4.cells++[gx (.bool t)])] (.r (.c (gl (.bool true)))))
  (A1:Qae Tryz.prog true 11 [.c (gx (.int .i64 p)),.c (gx (.int .i64 q))] (.tup [.row (m1.cells++m2.cells++m3.cells++m4.cells++[gl (.bool false)]),.c (gx (.int .i64 c2))]))
  (E1:Qcm Tryz.prog true 14 [([gx (.int .i64 p)],22),([gx (.int .i64 q)],22)] [.f (.row (m1.cells++m2.cells++m3.cells++m4.cells++[gl (.bool false)])),.f (.c (gx (.int .i64 c2))),.f (.c (gl (.int .i64 0))),.fn 15 [] [0,1]] (.r (.c (gl (.bool true))))):Qae Tryz.prog true 3 [.c (gx (.int .i64 p)),.c (gx (.int .i64 q)),.row (g1.cells++g2.cells++g3.cells++g4.cells++[gx (.bool t)])] (.r (.c (gl (.bool true)))) :=
  Qaj (L := [[gx (.int .i64 p)],[gx (.int .i64 q)],g1.cells,g2.cells,g3.cells,g4.cells,[gx (.bool t)],m1.cells,m2.cells,m3.cells,m4.cells,[gx (.int .i64 c2)]].flatten) tys_ok mixed
     [gsm (smF g1 g2 g3 g4 true ⟨fun _=>hs,fun _=>rfl⟩) [12] [⟨Qab 2 32,28,none⟩] [lc 24,.c (.sl 0 0 4 4)] (.r (.c (.lit (.bool true)))),gs (A1) [cS 0,cS 1] (.tup [.row (flA [Qab 35 32,[.lit (.bool false)]]),cS 67]),gs (Kt) [cS 0,.row (Qab 2 33)] (.tup [.c (.lit (.bool true)),lc 0]),gs (Pt) [cS 0] (.r (.c (.lit (.bool true)))),gs (Qt) [cS 1] (.r (.c (.lit (.bool true)))),
      gsm (E1) [0,1] [⟨[.sym 0],22,none⟩,⟨[.sym 1],22,none⟩] [.row (flA [Qab 35 32,[.lit (.bool false)]]),cS 67,lc 0,.c (.fn 15 [] [0,1])] (.r (.c (.lit (.bool true)))),gs (C0) [.row (Qab 2 33)] (.r (lc 0)),gs (Rt) [cS 0,.row (Qab 2 33)] (.r (.c (.lit (.bool true)))),gs (pknown) [] (.r (.c (.lit (.bool true))))]
     [gbEqb 4 Tryz.underlying4 true true] [] ((fs18 .nil):Tr.FnsOk Tryz.prog _) 1 1 Tryz.func3 eo3 2000 [cS 0,cS 1,.row (Qab 2 33)] (.r (.c (.lit (.bool true))))
theorem map_iiif(p q:Int)(g1 g2 g3 g4:Qbr)(t:Bool)(hs:¬(smFC g1 g2 g3 g4))
  (Pt:Qae Tryz.prog true 13 [.c (gx (.int .i64 p))] (.r (.c (gl (.bool true)))))
  (Qf:Qae Tryz.prog true 13 [.c (gx (.int .i64 q))] (.r (.c (gl (.bool false)))))
  (C0:Qae Tryz.prog true 17 [.row (g1.cells++g2.cells++g3.cells++g4.cells++[gx (.bool t)])] (.r (.c (gl (.int .i64 0)))))
  (Kf:Qae Tryz.prog true 12 [.c (gx (.int .i64 p)),.row (g1.cells++g2.cells++g3.cells++g4.cells++[gx (.bool t)])] (.tup [.c (gl (.bool false)),.c (gl (.int .i64 0))]))
  (Rf:Qae Tryz.prog true 19 [.c (gx (.int .i64 p)),.row (g1.cells++g2.cells++g3.cells++g4.cells++[gx (.bool t)])] (.r (.c (gl (.bool false)))))
  (A0:Qae Tryz.prog true 11 [.c (gx (.int .i64 p)),.c (gx (.int .i64 q))] (.tup [.row (zGG++zGG++zGG++zGG++[gl (.bool false)]),.c (gl (.int .i64 2))])):Qae Tryz.prog true 3 [.c (gx (.int .i64 p)),.c (gx (.int .i64 q)),.row (g1.cells++g2.cells++g3.cells++g4.cells++[gx (.bool t)])] (.r (.c (gl (.bool true)))) :=
  Qaj (L := [[gx (.int .i64 p)],[gx (.int .i64 q)],g1.cells,g2.cells,g3.cells,g4.cells,[gx (.bool t)]].flatten) tys_ok mixed
     [gsm (smF g1 g2 g3 g4 true ⟨fun _=>hs,fun _=>rfl⟩) [12] [⟨Qab 2 32,28,none⟩] [lc 24,.c (.sl 0 0 4 4)] (.r (.c (.lit (.bool true)))),gs (A0) [cS 0,cS 1] (.tup [.row (flA [zGA,zGA,zGA,zGA,[.lit (.bool false)]]),lc 2]),gs (Kf) [cS 0,.row (Qab 2 33)] (.tup [.c (.lit (.bool false)),lc 0]),gs (Pt) [cS 0] (.r (.c (.lit (.bool true)))),gs (Qf) [cS 1] (.r (.c (.lit (.bool false)))),gs (C0) [.row (Qab 2 33)] (.r (lc 0)),gs (Rf) [cS 0,.row (Qab 2 33)] (.r (.c (.lit (.bool false)))),gs (pknown) [] (.r (.c (.lit (.bool true))))]
     [gbSame 30 (.row (flA [zGA,zGA,zGA,zGA,[.lit (.bool false)]])) (.row (flA [zGA,zGA,zGA,zGA,[.lit (.bool false)]])) (.agg (zV 16++[Value.bool false]).toArray) (fun _ _ _=>by kernel_rfl),gbEqb 4 Tryz.underlying4 false false] [] ((fs14 (fs18 .nil)):FnsOk Tryz.prog _) 1 2 Tryz.func3 eo3 2000 [cS 0,cS 1,.row (Qab 2 33)] (.r (.c (.lit (.bool true))))
theorem map_vf(p q:Int)(g1 g2 g3 g4:Qbr)(t:Bool)(hs:¬(smFC g1 g2 g3 g4))(m1 m2 m3 m4:Qbr)(c2:Int)
  (Pt:Qae Tryz.prog true 13 [.c (gx (.int .i64 p))] (.r (.c (gl (.bool true)))))
  (Qt:Qae Tryz.prog true 13 [.c (gx (.int .i64 q))] (.r (.c (gl (.bool true)))))
  (C0:Qae Tryz.prog true 17 [.row (g1.cells++g2.cells++g3.cells++g4.cells++[gx (.bool t)])] (.r (.c (gl (.int .i64 0)))))
  (Kf:Qae Tryz.prog true 12 [.c (gx (.int .i64 p)),.row (g1.cells++g2.cells++g3.cells++g4.cells++[gx (.bool t)])] (.tup [.c (gl (.bool false)),.c (gl (.int .i64 0))]))
  (Rf:Qae Tryz.prog true 19 [.c (gx (.int .i64 p)),.row (g1.cells++g2.cells++g3.cells++g4.cells++[gx (.bool t)])] (.r (.c (gl (.bool false)))))
  (A1:Qae Tryz.prog true 11 [.c (gx (.int .i64 p)),.c (gx (.int .i64 q))] (.tup [.row (m1.cells++m2.cells++m3.cells++m4.cells++[gl (.bool false)]),.c (gx (.int .i64 c2))]))
  (E1:Qcm Tryz.prog true 14 [([gx (.int .i64 p)],22),([gx (.int .i64 q)],22)] [.f (.row (m1.cells++m2.cells++m3.cells++m4.cells++[gl (.bool false)])),.f (.c (gx (.int .i64 c2))),.f (.c (gl (.int .i64 0))),.fn 15 [] [0,1]] (.r (.c (gl (.bool true))))):Qae Tryz.prog true 3 [.c (gx (.int .i64 p)),.c (gx (.int .i64 q)),.row (g1.cells++g2.cells++g3.cells++g4.cells++[gx (.bool t)])] (.r (.c (gl (.bool true)))) :=
  Qaj (L := [[gx (.int .i64 p)],[gx (.int .i64 q)],g1.cells,g2.cells,g3.cells,g4.cells,[gx (.bool t)],m1.cells,m2.cells,m3.cells,m4.cells,[gx (.int .i64 c2)]].flatten) tys_ok mixed
     [gsm (smF g1 g2 g3 g4 true ⟨fun _=>hs,fun _=>rfl⟩) [12] [⟨Qab 2 32,28,none⟩] [lc 24,.c (.sl 0 0 4 4)] (.r (.c (.lit (.bool true)))),gs (A1) [cS 0,cS 1] (.tup [.row (flA [Qab 35 32,[.lit (.bool false)]]),cS 67]),gs (Kf) [cS 0,.row (Qab 2 33)] (.tup [.c (.lit (.bool false)),lc 0]),gs (Pt) [cS 0] (.r (.c (.lit (.bool true)))),gs (Qt) [cS 1] (.r (.c (.lit (.bool true)))),
      gsm (E1) [0,1] [⟨[.sym 0],22,none⟩,⟨[.sym 1],22,none⟩] [.row (flA [Qab 35 32,[.lit (.bool false)]]),cS 67,lc 0,.c (.fn 15 [] [0,1])] (.r (.c (.lit (.bool true)))),gs (C0) [.row (Qab 2 33)] (.r (lc 0)),gs (Rf) [cS 0,.row (Qab 2 33)] (.r (.c (.lit (.bool false)))),gs (pknown) [] (.r (.c (.lit (.bool true))))]
     [gbEqb 4 Tryz.underlying4 false false] [] ((fs18 .nil):Tr.FnsOk Tryz.prog _) 1 1 Tryz.func3 eo3 2000 [cS 0,cS 1,.row (Qab 2 33)] (.r (.c (.lit (.bool true))))
end Go.Proofs.YtmimficdpfmfgaaGreat
