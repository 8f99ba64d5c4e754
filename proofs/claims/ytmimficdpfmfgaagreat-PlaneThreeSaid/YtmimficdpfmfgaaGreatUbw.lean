/- Laws for the walk. -/
import Derived.Test.YtmimficdpfmfgaaGreatUbn
import Derived.Test.YtmimficdpfmfgaaGreatUbu
set_option linter.unusedVariables false
set_option linter.unusedSimpArgs false
set_option maxHeartbeats 4000000
set_option maxRecDepth 100000
namespace Go.Proofs.YtmimficdpfmfgaaGreat
open Go.RowKit Tr
open Classical
theorem wtfl7:FnsOk Tryz.prog [⟨59,Tryz.f59,2000⟩,⟨18,Tryz.f18,2000⟩,⟨110,Tryz.f110,2000⟩,⟨195,Tryz.f195,2000⟩]:=(fs59 (fs18 (fs110 (fs195 .nil))))
theorem thE1y(a b c d:Rat)(p:Int)(x:QC)(y:Rat)(b_x:Qab x)(D:SCt 60 [.c (gxi p),.row (Qae x).cells,.row (rF y)] (.r (.row (rF a++rF b++rF c++rF d))))(hs:Qap a∧Qap b∧Qap c∧Qap d):SMt 26 [([gxi p],3),((Qae x).cells,28),(rF y,26)] [.f (.row (rG (⟨a,b⟩:QC)++rG (⟨c,d⟩:QC))),.f (gIi 0),.f (gIi 0),.fn 59 [] [0,1,2]] (.r gTt) :=
  Qcb (L := [cF a,cF b,cF c,cF d,[gxi p],(Qae x).cells,cF y,cF a,cF b,cF c,cF d].flatten) Qad Qag
     [gs (D) [cS 12,yR 13 8,yQ 21] (.r (.row (gL [24,30]))),gs (rfFits a true (tI hs.1)) [yQ 24] vTt,gs (rFits (⟨b,c⟩:QC) true (tI ⟨hs.2.1,hs.2.2.1⟩)) [.row (gR 27)] vTt,gs (rfFits d true (tI hs.2.2.2)) [yQ 33] vTt]
     [bCt (.row (gL [0,6])) (.row (gL [24,30])) a b c d] [] wtfl7 1 3 Tryz.func26 eo26 2000 [⟨[.sym 12],3,none⟩,⟨Qav 13 8,28,none⟩,⟨(qS 21),26,none⟩] [.row (gL [0,6]),lc 0,lc 0,.c (.fn 59 [] [0,1,2])] vTt
def thE1n_L(p:Int)(x:QC)(y:Rat)(a b c d:Rat):List GF:=[[gxi p],(Qae x).cells,cF y,cF a,cF b,cF c,cF d].flatten
theorem thE1n(p:Int)(x:QC)(y:Rat)(b_x:Qab x)(a b c d:Rat)(D:SCt 60 [.c (gxi p),.row (Qae x).cells,.row (rF y)] (.r (.row (rF a++rF b++rF c++rF d))))(hn:¬(Qap a∧Qap b∧Qap c∧Qap d)):SMt 26 [([gxi p],3),((Qae x).cells,28),(rF y,26)] [.f (.row (zGG++zGG)),.f (gIi 4),.f (gIi 0),.fn 59 [] [0,1,2]] (.r gTt) :=
  (Classical.em (Qap a)).elim (fun h0=>(Classical.em (Qab (⟨b,c⟩:QC))).elim (fun h1=>(Classical.em (Qap d)).elim (fun h2=>(hn ⟨h0,h1.1,h1.2,h2⟩).elim)
   (fun h2=>Qcb (L:=thE1n_L p x y a b c d) Qad Qag
     [gs (D) [cS 0,yR 1 8,yQ 9] (.r (.row (gL [12,18]))),gs (rfFits a true (tI h0)) [yQ 12] vTt,gs (rFits (⟨b,c⟩:QC) true (tI h1)) [.row (gR 15)] vTt,gs (rfFits d false (fI h2)) [yQ 21] vFf]
     [Qfh 47 (.row (flA [zGA,zGA])) (.row (flA [zGA,zGA])) (.agg (zV 8).toArray) (fun _ _ _=>by kernel_rfl)] [] wtfl7 1 3 Tryz.func26 eo26 2000 [⟨[.sym 0],3,none⟩,⟨Qav 1 8,28,none⟩,⟨(qS 9),26,none⟩] [.row (flA [zGA,zGA]),lc 4,lc 0,.c (.fn 59 [] [0,1,2])] vTt))
   (fun h1=>Qcb (L:=thE1n_L p x y a b c d) Qad Qag
     [gs (D) [cS 0,yR 1 8,yQ 9] (.r (.row (gL [12,18]))),gs (rfFits a true (tI h0)) [yQ 12] vTt,gs (rFits (⟨b,c⟩:QC) false (fI h1)) [.row (gR 15)] vFf]
     [Qfh 47 (.row (flA [zGA,zGA])) (.row (flA [zGA,zGA])) (.agg (zV 8).toArray) (fun _ _ _=>by kernel_rfl)] [] wtfl7 1 3 Tryz.func26 eo26 2000 [⟨[.sym 0],3,none⟩,⟨Qav 1 8,28,none⟩,⟨(qS 9),26,none⟩] [.row (flA [zGA,zGA]),lc 4,lc 0,.c (.fn 59 [] [0,1,2])] vTt))
   (fun h0=>Qcb (L:=thE1n_L p x y a b c d) Qad Qag
     [gs (D) [cS 0,yR 1 8,yQ 9] (.r (.row (gL [12,18]))),gs (rfFits a false (fI h0)) [yQ 12] vFf]
     [Qfh 47 (.row (flA [zGA,zGA])) (.row (flA [zGA,zGA])) (.agg (zV 8).toArray) (fun _ _ _=>by kernel_rfl)] [] wtfl7 1 3 Tryz.func26 eo26 2000 [⟨[.sym 0],3,none⟩,⟨Qav 1 8,28,none⟩,⟨(qS 9),26,none⟩] [.row (flA [zGA,zGA]),lc 4,lc 0,.c (.fn 59 [] [0,1,2])] vTt)
theorem thE1_2(p:Int)(x:Qbp)(y:Qdg) :SMt 26 [([gxi p],3),(x.cells,28),(y.cells,26)] [.f (.row (zGG++zGG)),.f (gIi 2),.f (gIi 2),.fn 59 [] [0,1,2]] (.r gTt) :=
  Qcb (L := [[gxi p],x.cells,y.cells].flatten) Qad Qag
     []
     [Qfh 47 (.row (flA [zGA,zGA])) (.row (flA [zGA,zGA])) (.agg (zV 8).toArray) (fun _ _ _=>by kernel_rfl)] [] wtfl7 1 3 Tryz.func26 eo26 2000 [⟨[.sym 0],3,none⟩,⟨Qav 1 8,28,none⟩,⟨Qav 9 4,26,none⟩] [.row (flA [zGA,zGA]),lc 2,lc 2,.c (.fn 59 [] [0,1,2])] vTt
theorem thE1_350(p:Int)(x:Qbp)(y:Qdg) :SMt 26 [([gxi p],3),(x.cells,28),(y.cells,26)] [.f (.row (zGG++zGG)),.f (gIi 350),.f (gIi 350),.fn 59 [] [0,1,2]] (.r gTt) :=
  Qcb (L := [[gxi p],x.cells,y.cells].flatten) Qad Qag
     []
     [Qfh 47 (.row (flA [zGA,zGA])) (.row (flA [zGA,zGA])) (.agg (zV 8).toArray) (fun _ _ _=>by kernel_rfl)] [] wtfl7 1 3 Tryz.func26 eo26 2000 [⟨[.sym 0],3,none⟩,⟨Qav 1 8,28,none⟩,⟨Qav 9 4,26,none⟩] [.row (flA [zGA,zGA]),lc 350,lc 350,.c (.fn 59 [] [0,1,2])] vTt
theorem wtfl8:FnsOk Tryz.prog [⟨63,Tryz.f63,2000⟩,⟨18,Tryz.f18,2000⟩,⟨110,Tryz.f110,2000⟩,⟨195,Tryz.f195,2000⟩]:=(fs63 (fs18 (fs110 (fs195 .nil))))
theorem thT0(q q:Rat)(hq:Qap q):SMt 41 [(rF q,26)] [.f (.row (rF q)),.f (gIi 0),.f (gIi 0),.fn 63 [] [0]] (.r gTt) :=
  Qcb (L := [cF q,cF q].flatten) Qad Qag
     [gs (rfFits q true (tI hq)) [yQ 3] vTt]
     [bF (yQ 0) (yQ 3) q q true (tI rfl)] [] wtfl8 1 3 Tryz.func41 eo41 2000 [⟨(qS 3),26,none⟩] [yQ 0,lc 0,lc 0,.c (.fn 63 [] [0])] vTt
theorem thT4(q:Rat)(hq:¬Qap q):SMt 41 [(rF q,26)] [.f (.row (zFG)),.f (gIi 4),.f (gIi 0),.fn 63 [] [0]] (.r gTt) :=
  Qcb (L := [cF q].flatten) Qad Qag
     [gs (rfFits q false (fI hq)) [yQ 0] vFf]
     [Qfh 26 (.row (zFA)) (.row (zFA)) (.agg (zV 2).toArray) (fun _ _ _=>by kernel_rfl)] [] wtfl8 1 3 Tryz.func41 eo41 2000 [⟨(qS 0),26,none⟩] [.row (zFA),lc 4,lc 0,.c (.fn 63 [] [0])] vTt
end Go.Proofs.YtmimficdpfmfgaaGreat
namespace Go.Proofs.YtmimficdpfmfgaaGreat
open Go.RowKit Tr
open Classical
theorem cmp_gt{y:Rat}(h:¬(Qfo y (1:Rat))≤0):1<y:=by
 unfold Qfo at h
 split at h
 ·omega
 ·split at h
  ·omega
  ·grind
theorem aro1{re im y:Rat}(hi:0<im)(hy:1<y):0<Qfi 1 (-re) (im+(y - 1)*im) (re*re+im*im) 1 (-re) (im+(y - 1)*im) (re*re+im*im):=by
 have a:0<(y - 1)*im:=Qdi (by grind) hi
 have b:=Qdi a a
 have c:=Qdi a hi
 have e:Qfi 1 (-re) (im+(y - 1)*im) (re*re+im*im) 1 (-re) (im+(y - 1)*im) (re*re+im*im)=((y - 1)*im)*((y - 1)*im)+2*(((y - 1)*im)*im):=by unfold Qfi; grind
 rw[e]; grind
theorem aro2{re im y b:Rat}(hi:0<1 - (re*re+im*im))(hy:1<y)(hb:b=(y - 1)*(1 - (re*re+im*im))*(1 / 2)):0<Qfi (1+b) (-re) im (re*re+im*im - b) (1+b) (-re) im (re*re+im*im - b):=by
 have a:0<b:=by rw[hb]; exact Qdi (Qdi (by grind) hi) (by decide +kernel)
 have c:=Qdi a hi
 have d:=Qdi a a
 have e:Qfi (1+b) (-re) im (re*re+im*im - b) (1+b) (-re) im (re*re+im*im - b)=b*(1 - (re*re+im*im))+b*b:=by unfold Qfi; grind
 rw[e]; grind
def wt42(x:QC)(y:Rat):Rat:=x.im+((y - (1:Rat))*x.im)
theorem wt42_b0(x:QC)(y:Rat){k:Nat}(b_x:Qab x)(b_y:RL y k):RL (wt42 x y) (2*k+2054):=(Qay ((Qaa b_x).2) (Qat (Qao y (1:Rat) (b_y.upby 2) (ri 1)) (Qah x (Qaa b_x)))).mn
theorem aroP1(x:QC)(y:Rat)(hx:hN1 x)(hy:¬(Qfo y (1:Rat))≤0):0<Qfi (1:Rat) (-x.re) (wt42 x y) (nm x) (1:Rat) (-x.re) (wt42 x y) (nm x):=by
 rw[show(1:Rat)=1 from by simp only[nm,wt42]<;>grind,show(wt42 x y)=(x.im+(y - 1)*x.im) from by simp only[nm,wt42]<;>grind,show(nm x)=(x.re*x.re+x.im*x.im) from by simp only[nm,wt42]<;>grind]
 exact aro1 (Qbg hx) (cmp_gt hy)
theorem wtfl3:FnsOk Tryz.prog [⟨119,Tryz.f119,2000⟩,⟨70,Tryz.f70,2000⟩,⟨167,Tryz.f167,2000⟩,⟨244,Tryz.f244,2000⟩,⟨245,Tryz.f245,2000⟩,⟨81,Tryz.f81,2000⟩,⟨121,Tryz.f121,2000⟩,⟨99,Tryz.f99,2000⟩,⟨131,Tryz.f131,2000⟩,⟨151,Tryz.f151,2000⟩]:=(fs119 (fs70 (fs167 (fs244 (fs245 (fs81 (fs121 (fs99 (fs131 (fs151 .nil))))))))))
def pAro1_L(x:QC)(y:Rat):List GF:=[(Qae x).cells,cF y,(Qae (⟨0,1⟩:QC)).cells,(Qae (⟨0,0⟩:QC)).cells,cn x,[gr x.re],[gr x.im],[gxi x.im.num.sign],[gr y],[gr (1:Rat)],[gxi (Qfo y (1:Rat))],[gr (y - (1:Rat))],[gr ((y - (1:Rat))*x.im)],[gr (1:Rat)],[gr (-x.re)],[gr x.im],[gr (nm x)],[gr (wt42 x y)],cirF (1:Rat) (-x.re) (wt42 x y) (nm x)].flatten
noncomputable def pAro1_T1(x:QC)(y:Rat)(b_x:Qab x)(b_y:RL y 1024)(hsy:Qap y):List (GC Tryz.prog (pAro1_L x y) true):=[gpi 0 1 11,gpi 0 0 19,gs (Qcg x b_x) [yR 0 8] (.tup [sy [27,28],cTt]),gs (Qba x ((Qaa b_x).mn)) [sy [27,28]] (.tup [cS 29,cS 30]),gs (Qal x.im) [cS 30] (rS 31),gs (pERat y hsy) [yQ 8] (rS 32),gs (pnr 1) [lc 1,lc 1] (rS 33),gs (pRCmp y (1:Rat) b_y (rj 1) (by decide)) [cS 32,cS 33] (rS 34),gs (pFMayQ y hsy) [yQ 8] vTt,gs (Qbb y (1:Rat) b_y.mn (ri 1)) [cS 32,cS 33] (rS 35),
   gvMul (y - (1:Rat)) x.im (Qao y (1:Rat) (b_y.upby 2) (ri 1)) (Qah x (Qaa b_x)) (by decide) 52 (.c (.sym 35)) (.c (.sym 30)) (.sym 36),gs (pl_spot x ((Qaa b_x).mn)) [sy [27,28]] (.r (yR 37 4)),
   gvAdd x.im ((y - (1:Rat))*x.im) ((Qaa b_x).2) (Qat (Qao y (1:Rat) (b_y.upby 2) (ri 1)) (Qah x (Qaa b_x))) (by decide) 66 (.c (.sym 39)) (.c (.sym 36)) (.sym 41)]
theorem pAro1(x:QC)(y:Rat)(b_x:Qab x)(b_y:RL y 1024)(hx:hN1 x)(hsy:Qap y)(hy:¬((Qfo y (1:Rat))≤0)):SCt 54 [gIi 1,.row ((Qae x).cells),.row (rF y)] (if CirS (1:Rat) (-x.re) (wt42 x y) (nm x) then .tup [.row (cirF (1:Rat) (-x.re) (wt42 x y) (nm x)),gIi 0] else .tup [.row (zGG++zGG),gIi 4]) :=
  (Classical.em (CirS (1 : Rat) (-x.re) (wt42 x y) (nm x))).elim (fun h0 => .it h0 (Qai (L := pAro1_L x y) Qad Qag
     ((pAro1_T1 x y b_x b_y hsy)++[gs ((pCirc (1:Rat) (-x.re) (wt42 x y) (nm x) (ri 1) ((Qgd ((Qaa b_x).1)).mn) ((wt42_b0 x y b_x b_y).mn) ((Qak (Qaa b_x)).mn) (by_ne (aroP1 x y hx hy))).t h0) [.row [.sym 37,.sym 38,.sym 41,.sym 40]] (.tup [yR 42 16,lc 0])])
     [bLf 3 31 hx,gbNilR y (.sym 32),bLf 3 34 hy] [] wtfl3 1 3 Tryz.func54 eo54 2000 [lc 1,yR 0 8,yQ 8] (.tup [yR 42 16,lc 0])))
   (fun h0=>.ie (fun h=>h0 h) (Qai (L:=pAro1_L x y) Qad Qag
     ((pAro1_T1 x y b_x b_y hsy)++[gs ((pCirc (1:Rat) (-x.re) (wt42 x y) (nm x) (ri 1) ((Qgd ((Qaa b_x).1)).mn) ((wt42_b0 x y b_x b_y).mn) ((Qak (Qaa b_x)).mn) (by_ne (aroP1 x y hx hy))).f h0) [.row [.sym 37,.sym 38,.sym 41,.sym 40]] (.tup [.row (flA [zGA,zGA]),lc 4])])
     [bLf 3 31 hx,gbNilR y (.sym 32),bLf 3 34 hy] [] wtfl3 1 3 Tryz.func54 eo54 2000 [lc 1,yR 0 8,yQ 8] (.tup [.row (flA [zGA,zGA]),lc 4])))
theorem wt42_b1(x:QC)(y:Rat){k:Nat}(b_x:ZL x k)(b_y:RL y k):RL (wt42 x y) (3*k+4):=(Qay b_x.2 (Qat (Qbv b_y (rj 1)) b_x.2)).mn
theorem wtfl4:FnsOk Tryz.prog [⟨117,Tryz.f117,2000⟩,⟨136,Tryz.f136,2000⟩,⟨138,Tryz.f138,2000⟩]:=(fs117 (fs136 (fs138 .nil)))
theorem dAro1(x:QC)(y:Rat)(b_x:ZL x 1024)(b_y:RL y 1024)(hx:hN1 x)(hy:¬((Qfo y (1:Rat))≤0)):SCt 60 [gIi 1,.row (rG x),.row (rF y)] (.r (.row (cirF (1:Rat) (-x.re) (wt42 x y) (nm x)))) :=
  Qai (L := [cG x,cF y,cF (1 : Rat),cF (y - (1 : Rat)),cF ((y - (1 : Rat)) * x.im),cF (-x.re),cF (nm x),cF (wt42 x y),cirF (1 : Rat) (-x.re) (wt42 x y) (nm x)].flatten) Qad Qag
     [gs (Qea 1 (by decide) (by decide)) [lc 1] (rQ 9),gs (Qbk y (1:Rat) b_y.mn (ri 1)) [yQ 6,yQ 9] (rQ 12),gs (Qau (y - (1:Rat)) x.im ((Qbv b_y (rj 1)).mn) (b_x.2.mn)) [yQ 12,yQ 3] (rQ 15),gs (rfNeg x.re) [yQ 0] (rQ 18),gs (Qds x b_x.mn) [.row (gR 0)] (rQ 21),gs (Qct x.im ((y - (1:Rat))*x.im) (b_x.2.mn) ((Qat (Qbv b_y (rj 1)) b_x.2).mn)) [yQ 3,yQ 15] (rQ 24),gs (dCirc (1:Rat) (-x.re) (wt42 x y) (nm x) (ri 1) ((Qgd b_x.1).mn) ((wt42_b1 x y b_x b_y).mn) ((Qak b_x).mn) (aroP1 x y hx hy)) [.row [.sym 9,.sym 10,.lit (.bool false),.sym 11,.sym 18,.sym 19,.lit (.bool false),.sym 20,.sym 24,.sym 25,.lit (.bool false),.sym 26,.sym 21,.sym 22,.lit (.bool false),.sym 23]] (.tup [yR 27 16,cTt])]
     [] [] wtfl4 1 3 Tryz.func60 eo60 2000 [lc 1,.row (gR 0),yQ 6] (.r (yR 27 16))
def wt43(x:QC)(y:Rat):Rat:=(y - (1:Rat))*((1:Rat) - (nm x))
theorem wt43_b0(x:QC)(y:Rat){k:Nat}(b_x:Qab x)(b_y:RL y k):RL (wt43 x y) (2*k+8200):=(Qat (Qao y (1:Rat) (b_y.upby 2) (ri 1)) (Qao (1:Rat) (nm x) (ri 1) (Qak (Qaa b_x)))).mn
def wt44(x:QC)(y:Rat):Rat:=(1:Rat)+((wt43 x y) / (2:Rat))
theorem wt44_b0(x:QC)(y:Rat){k:Nat}(b_x:Qab x)(b_y:RL y k):RL (wt44 x y) (2*k+8205):=(Qay (rj 1) (Qbs (by decide +kernel) (wt43_b0 x y b_x b_y) (rj 2))).mn
def wt45(x:QC)(y:Rat):Rat:=(nm x) - ((wt43 x y) / (2:Rat))
theorem wt45_b0(x:QC)(y:Rat){k:Nat}(b_x:Qab x)(b_y:RL y k):RL (wt45 x y) (4*k+16405):=(Qao (nm x) ((wt43 x y) / (2:Rat)) ((Qak (Qaa b_x)).mn) (Qbs (by decide +kernel) (wt43_b0 x y b_x b_y) (rj 2))).mn
theorem aroP2(x:QC)(y:Rat)(hx:hN2 x)(hy:¬(Qfo y (1:Rat))≤0):0<Qfi (wt44 x y) (-x.re) x.im (wt45 x y) (wt44 x y) (-x.re) x.im (wt45 x y):=by
 rw[show(wt44 x y)=(1+(y - 1)*(1 - (x.re*x.re+x.im*x.im))*(1 / 2)) from by simp only[nm,wt43,wt44,wt45]<;>grind,show(wt45 x y)=(x.re*x.re+x.im*x.im - (y - 1)*(1 - (x.re*x.re+x.im*x.im))*(1 / 2)) from by simp only[nm,wt43,wt44,wt45]<;>grind]
 exact aro2 (Qbg hx) (cmp_gt hy) rfl
def pAro2_L(x:QC)(y:Rat):List GF:=[(Qae x).cells,cF y,(Qae (⟨0,1⟩:QC)).cells,(Qae (⟨0,0⟩:QC)).cells,cn x,[gr (1:Rat)],[gr (nm x)],[gr ((1:Rat) - (nm x))],[gxi (((1:Rat) - (nm x)).num.sign)],[gr y],[gxi (Qfo y (1:Rat))],[gr (y - (1:Rat))],[gr (wt43 x y)],[gr (1:Rat)],[gr (-x.re)],[gr x.im],[gr (nm x)],[gr (2:Rat)],[gr ((wt43 x y) / (2:Rat))],[gr (wt44 x y)],[gr (wt45 x y)],cirF (wt44 x y) (-x.re) x.im (wt45 x y)].flatten
noncomputable def pAro2_T1(x:QC)(y:Rat)(b_x:Qab x)(b_y:RL y 1024)(hsy:Qap y):List (GC Tryz.prog (pAro2_L x y) true):=[gpi 0 1 11,gpi 0 0 19,gs (Qcg x b_x) [yR 0 8] (.tup [sy [27,28],cTt]),gs (pnr 1) [lc 1,lc 1] (rS 29),gs (Qbf x ((Qaa b_x).mn)) [sy [27,28]] (rS 30),gs (Qbb (1:Rat) (nm x) (ri 1) ((Qak (Qaa b_x)).mn)) [cS 29,cS 30] (rS 31),gs (Qal ((1:Rat) - (nm x))) [cS 31] (rS 32),gs (pERat y hsy) [yQ 8] (rS 33),gs (pRCmp y (1:Rat) b_y (rj 1) (by decide)) [cS 33,cS 29] (rS 34),gs (pFMayQ y hsy) [yQ 8] vTt,gs (Qbb y (1:Rat) b_y.mn (ri 1)) [cS 33,cS 29] (rS 35),
   gvMul (y - (1:Rat)) ((1:Rat) - (nm x)) (Qao y (1:Rat) (b_y.upby 2) (ri 1)) (Qao (1:Rat) (nm x) (ri 1) (Qak (Qaa b_x))) (by decide) 52 (.c (.sym 35)) (.c (.sym 31)) (.sym 36),gs (pl_spot x ((Qaa b_x).mn)) [sy [27,28]] (.r (yR 37 4)),gs (pnr 2) [lc 2,lc 1] (rS 41),gs (Qbj (wt43 x y) (2:Rat) ((wt43_b0 x y b_x b_y).mn) (ri 2) (by decide +kernel)) [cS 36,cS 41] (rS 42),
   gvAdd (1:Rat) ((wt43 x y) / (2:Rat)) (rj 1) (Qbs (by decide +kernel) (wt43_b0 x y b_x b_y) (rj 2)) (by decide) 76 (.c (.sym 37)) (.c (.sym 42)) (.sym 43),gs (Qbb (nm x) ((wt43 x y) / (2:Rat)) ((Qak (Qaa b_x)).mn) ((Qbs (by decide +kernel) (wt43_b0 x y b_x b_y) (rj 2)).mn)) [cS 40,cS 42] (rS 44)]
theorem pAro2(x:QC)(y:Rat)(b_x:Qab x)(b_y:RL y 1024)(hx:hN2 x)(hsy:Qap y)(hy:¬((Qfo y (1:Rat))≤0)):SCt 54 [gIi 2,.row ((Qae x).cells),.row (rF y)] (if CirS (wt44 x y) (-x.re) x.im (wt45 x y) then .tup [.row (cirF (wt44 x y) (-x.re) x.im (wt45 x y)),gIi 0] else .tup [.row (zGG++zGG),gIi 4]) :=
  (Classical.em (CirS (wt44 x y) (-x.re) x.im (wt45 x y))).elim (fun h0 => .it h0 (Qai (L := pAro2_L x y) Qad Qag
     ((pAro2_T1 x y b_x b_y hsy)++[gs ((pCirc (wt44 x y) (-x.re) x.im (wt45 x y) ((wt44_b0 x y b_x b_y).mn) ((Qgd ((Qaa b_x).1)).mn) (((Qaa b_x).2).mn) ((wt45_b0 x y b_x b_y).mn) (by_ne (aroP2 x y hx hy))).t h0) [.row [.sym 43,.sym 38,.sym 39,.sym 44]] (.tup [yR 45 16,lc 0])])
     [bLf 3 32 hx,gbNilR y (.sym 33),bLf 3 34 hy] [] wtfl3 1 3 Tryz.func54 eo54 2000 [lc 2,yR 0 8,yQ 8] (.tup [yR 45 16,lc 0])))
   (fun h0=>.ie (fun h=>h0 h) (Qai (L:=pAro2_L x y) Qad Qag
     ((pAro2_T1 x y b_x b_y hsy)++[gs ((pCirc (wt44 x y) (-x.re) x.im (wt45 x y) ((wt44_b0 x y b_x b_y).mn) ((Qgd ((Qaa b_x).1)).mn) (((Qaa b_x).2).mn) ((wt45_b0 x y b_x b_y).mn) (by_ne (aroP2 x y hx hy))).f h0) [.row [.sym 43,.sym 38,.sym 39,.sym 44]] (.tup [.row (flA [zGA,zGA]),lc 4])])
     [bLf 3 32 hx,gbNilR y (.sym 33),bLf 3 34 hy] [] wtfl3 1 3 Tryz.func54 eo54 2000 [lc 2,yR 0 8,yQ 8] (.tup [.row (flA [zGA,zGA]),lc 4])))
theorem wt43_b1(x:QC)(y:Rat){k:Nat}(b_x:ZL x k)(b_y:RL y k):RL (wt43 x y) (5*k+7):=(Qat (Qbv b_y (rj 1)) (Qbv (rj 1) (Qak b_x))).mn
def wt46(x:QC)(y:Rat):Rat:=(1:Rat)+((wt43 x y)*(1 / 2:Rat))
theorem wt46_b0(x:QC)(y:Rat){k:Nat}(b_x:ZL x k)(b_y:RL y k):RL (wt46 x y) (5*k+12):=(Qay (rj 1) (Qat (wt43_b1 x y b_x b_y) (RL_k (1 / 2:Rat) 2 (by decide +kernel)))).mn
def wt47(x:QC)(y:Rat):Rat:=(nm x) - ((wt43 x y)*(1 / 2:Rat))
theorem wt47_b0(x:QC)(y:Rat){k:Nat}(b_x:ZL x k)(b_y:RL y k):RL (wt47 x y) (9*k+11):=(Qbv (Qak b_x) (Qat (wt43_b1 x y b_x b_y) (RL_k (1 / 2:Rat) 2 (by decide +kernel)))).mn
theorem aroP3(x:QC)(y:Rat)(hx:hN2 x)(hy:¬(Qfo y (1:Rat))≤0):0<Qfi (wt46 x y) (-x.re) x.im (wt47 x y) (wt46 x y) (-x.re) x.im (wt47 x y):=by
 rw[show(wt46 x y)=(1+(y - 1)*(1 - (x.re*x.re+x.im*x.im))*(1 / 2)) from by simp only[nm,wt43,wt46,wt47]<;>grind,show(wt47 x y)=(x.re*x.re+x.im*x.im - (y - 1)*(1 - (x.re*x.re+x.im*x.im))*(1 / 2)) from by simp only[nm,wt43,wt46,wt47]<;>grind]
 exact aro2 (Qbg hx) (cmp_gt hy) rfl
theorem dAro2(x:QC)(y:Rat)(b_x:ZL x 1024)(b_y:RL y 1024)(hx:hN2 x)(hy:¬((Qfo y (1:Rat))≤0)):SCt 60 [gIi 2,.row (rG x),.row (rF y)] (.r (.row (cirF (wt46 x y) (-x.re) x.im (wt47 x y)))) :=
  Qai (L := [cG x,cF y,cF (1 : Rat),cF (y - (1 : Rat)),cF (nm x),cF ((1 : Rat) - (nm x)),cF (wt43 x y),cF (-x.re),cF (1 / 2 : Rat),cF ((wt43 x y) * (1 / 2 : Rat)),cF (wt46 x y),cF (wt47 x y),cirF (wt46 x y) (-x.re) x.im (wt47 x y)].flatten) Qad Qag
     [gs (Qea 1 (by decide) (by decide)) [lc 1] (rQ 9),gs (Qbk y (1:Rat) b_y.mn (ri 1)) [yQ 6,yQ 9] (rQ 12),gs (Qds x b_x.mn) [.row (gR 0)] (rQ 15),gs (Qbk (1:Rat) (nm x) (ri 1) ((Qak b_x).mn)) [yQ 9,yQ 15] (rQ 18),gs (Qau (y - (1:Rat)) ((1:Rat) - (nm x)) ((Qbv b_y (rj 1)).mn) ((Qbv (rj 1) (Qak b_x)).mn)) [yQ 12,yQ 18] (rQ 21),gs (rfNeg x.re) [yQ 0] (rQ 24),gs (rfSmall 1 2 (1 / 2:Rat) (by decide) (by decide) (by decide) (by decide) (by decide) (by decide +kernel)) [lc 1,lc 2] (rQ 27),gs (Qau (wt43 x y) (1 / 2:Rat) ((wt43_b1 x y b_x b_y).mn) ((RL_k (1 / 2:Rat) 2 (by decide +kernel)).mn)) [yQ 21,yQ 27] (rQ 30),gs (Qct (1:Rat) ((wt43 x y)*(1 / 2:Rat)) (ri 1) ((Qat (wt43_b1 x y b_x b_y) (RL_k (1 / 2:Rat) 2 (by decide +kernel))).mn)) [yQ 9,yQ 30] (rQ 33),gs (Qbk (nm x) ((wt43 x y)*(1 / 2:Rat)) ((Qak b_x).mn) ((Qat (wt43_b1 x y b_x b_y) (RL_k (1 / 2:Rat) 2 (by decide +kernel))).mn)) [yQ 15,yQ 30] (rQ 36),gs (dCirc (wt46 x y) (-x.re) x.im (wt47 x y) ((wt46_b0 x y b_x b_y).mn) ((Qgd b_x.1).mn) (b_x.2.mn) ((wt47_b0 x y b_x b_y).mn) (aroP3 x y hx hy)) [.row [.sym 33,.sym 34,.lit (.bool false),.sym 35,.sym 24,.sym 25,.lit (.bool false),.sym 26,.sym 3,.sym 4,.lit (.bool false),.sym 5,.sym 36,.sym 37,.lit (.bool false),.sym 38]] (.tup [yR 39 16,cTt])]
     [] [] wtfl4 1 3 Tryz.func60 eo60 2000 [lc 2,.row (gR 0),yQ 6] (.r (yR 39 16))
end Go.Proofs.YtmimficdpfmfgaaGreat
set_option linter.unusedSimpArgs false
namespace Go.Proofs.YtmimficdpfmfgaaGreat
open Go.RowKit Tr
open Classical
theorem sg_n{n:Int}(h:n≤0):¬n>0:=by omega
theorem sg_y{n:Int}(h:¬n≤0):n>0:=by omega
end Go.Proofs.YtmimficdpfmfgaaGreat
