/- Laws. -/
import Derived.Test.YtmimficdpfmfgaaGreatWbf
set_option linter.all false
set_option maxHeartbeats 4000000
set_option maxRecDepth 100000
namespace Go.Proofs.YtmimficdpfmfgaaGreat
open Go.RowKit Tr Proofs.Tryz
open Classical
def hU(p:Int)(ya:Qbm)(yb:Qbg)(yc:Qbm)(z:QC)(ua:Qbm)(ub:Qbg)(uc:Qbm)(n1:Int):Prop:=SCt 22 [.c (gxi p),.row (ya.cells++yb.cells++yc.cells),.row (Qan z).cells] (.tup [.row (ua.cells++ub.cells++uc.cells),.c (gxi n1)])
def hF(p:Int)(ya:Qbm)(yb:Qbg)(yc:Qbm)(z:QC)(f:Qbg)(n2:Int):Prop:=SCt 23 [.c (gxi p),.row (ya.cells++yb.cells++yc.cells),.row (Qan z).cells] (.tup [.row f.cells,.c (gxi n2)])
def hFn(p:Int)(ya:Qbm)(yb:Qbg)(yc:Qbm)(z:QC):Prop:=SCt 23 [.c (gxi p),.row (ya.cells++yb.cells++yc.cells),.row (Qan z).cells] (.tup [.row zGG,gIi 7])
def hV(p:Int)(ya:Qbm)(yb:Qbg)(yc:Qbm)(z:QC)(o:Qbg)(n3:Int):Prop:=SCt 24 [.c (gxi p),.row (ya.cells++yb.cells++yc.cells),.row (Qan z).cells] (.tup [.row o.cells,.c (gxi n3)])
def hD(p:Int)(ya:Qbm)(yb:Qbg)(yc:Qbm)(z x:QC):Prop:=SCt 30 [.c (gxi p),.row (ya.cells++yb.cells++yc.cells),.row (Qan z).cells] (.tup [G1 x,gTt])
def hDn(p:Int)(ya:Qbm)(yb:Qbg)(yc:Qbm)(z:QC):Prop:=SCt 30 [.c (gxi p),.row (ya.cells++yb.cells++yc.cells),.row (Qan z).cells] (.tup [.row zGG,gFf])
def hM0(p:Int)(z:QC):Prop:=SMt 29 [((Qan z).cells,28)] [.f (.c (gxi p)),.sl 0 0 1 1] (.r (gIi 0))
def hE1(p:Int)(ya:Qbm)(yb:Qbg)(yc:Qbm)(z:QC)(ua:Qbm)(ub:Qbg)(uc:Qbm)(n1:Int):Prop:=SMt 26 [([gxi p],3),(ya.cells++yb.cells++yc.cells,47),((Qan z).cells,28)] [.f (.row (ua.cells++ub.cells++uc.cells)),.f (.c (gxi n1)),.f (gIi 0),.fn 31 [] [0,1,2]] (.r gTt)
def hE2(x:QC)(f:Qbg)(n2:Int):Prop:=SMt 27 [(rG x,28)] [.f (.row (f.cells)),.f (.c (gxi n2)),.f (gIi 0),.fn 33 [] [0]] (.r gTt)
def hE3(ya:Qbm)(yb:Qbg)(yc:Qbm)(z:QC)(o:Qbg)(n3:Int):Prop:=SMt 27 [(ya.cells++yb.cells++yc.cells,47),((Qan z).cells,28)] [.f (.row (o.cells)),.f (.c (gxi n3)),.f (gIi 0),.fn 34 [] [0,1]] (.r gTt)
def hE7 :Prop:=SMt 27 [(zGG,28)] [.f (.row (zGG)),.f (gIi 7),.f (gIi 7),.fn 33 [] [0]] (.r gTt)
def Uzj(p:Int)(ya:Qbm)(yb:Qbg)(yc:Qbm)(z:QC)(b_z:Qaj z)(hs:¬(Qus (Qan z)))(ua:Qbm)(ub:Qbg)(uc:Qbm)(f o:Qbg)(n1 n2 n3:Int)(x:QC)(b_x:ZL x 100000000)(Ct:hCt ya yb yc)(It:hIt p ya yb yc)(U:hU p ya yb yc z ua ub uc n1)(F:hF p ya yb yc z f n2)(V:hV p ya yb yc z o n3)(Pt:hPt p)(K0:hK0 ya yb yc)(Jt:hJt p ya yb yc)(M0:hM0 p z)(D:hD p ya yb yc z x)(E1:hE1 p ya yb yc z ua ub uc n1)(E2:hE2 x f n2)(E3:hE3 ya yb yc z o n3):SCt 4 [.c (gxi p),.row (ya.cells++yb.cells++yc.cells),.row ((Qan z).cells)] (.r gTt) :=
  Qas (L := [[gxi p],ya.cells,yb.cells,yc.cells,(Qan z).cells,ua.cells,ub.cells,uc.cells,[gxi n1],f.cells,[gxi n2],o.cells,[gxi n3],cG x].flatten) Qae Qai
     [gsm (smZ (Qan z) true ⟨fun _=>hs,fun _=>rfl⟩) [4] [⟨Qbd 17 8,28,none⟩] [lc 24,.c (.sl 0 0 1 1)] vTt,gs (Ct) [lc 24,yR 1 16] vTt,gs (It) [cS 0,yR 1 16] (.tup [cTt,lc 0]),gs (U) [cS 0,yR 1 16,yR 17 8] (.tup [yR 25 16,cS 41]),gs (F) [cS 0,yR 1 16,yR 17 8] (.tup [yR 42 8,cS 50]),gs (V) [cS 0,yR 1 16,yR 17 8] (.tup [yR 51 8,cS 59]),gs (Pt) [cS 0] vTt,gs (K0) [yR 1 16] (.r (lc 0)),gs (Jt) [cS 0,yR 1 16] vTt,
      gsm (M0) [75] [⟨Qbd 17 8,28,none⟩] [cS 0,.c (.sl 0 0 1 1)] (.r (lc 0)),gs (D) [cS 0,yR 1 16,yR 17 8] (.tup [.row (gR 60),cTt]),
      gsm (E1) [13,0,1] [⟨[.sym 0],3,none⟩,⟨Qbd 1 16,47,none⟩,⟨Qbd 17 8,28,none⟩] [yR 25 16,cS 41,lc 0,.c (.fn 31 [] [0,1,2])] vTt,
      gsm (E2) [93] [⟨gR 60,28,none⟩] [yR 42 8,cS 50,lc 0,.c (.fn 33 [] [0])] vTt,
      gsm (E3) [0,1] [⟨Qbd 1 16,47,none⟩,⟨Qbd 17 8,28,none⟩] [yR 51 8,cS 59,lc 0,.c (.fn 34 [] [0,1])] vTt,gs (Qkj) [] vTt]
     [Qxs 4 Tryz.underlying4 true true] [] ((Kwz .nil):Tr.FnsOk prog _) 1 1 func4 eo4 2000 [cS 0,yR 1 16,yR 17 8] vTt
def Uzh(p:Int)(ya:Qbm)(yb:Qbg)(yc:Qbm)(z:QC)(b_z:Qaj z)(hs:¬(Qus (Qan z)))(ua:Qbm)(ub:Qbg)(uc:Qbm)(o:Qbg)(n1 n3:Int)(Ct:hCt ya yb yc)(It:hIt p ya yb yc)(U:hU p ya yb yc z ua ub uc n1)(Fn:hFn p ya yb yc z)(V:hV p ya yb yc z o n3)(Pt:hPt p)(K0:hK0 ya yb yc)(Jt:hJt p ya yb yc)(M0:hM0 p z)(Dn:hDn p ya yb yc z)(E1:hE1 p ya yb yc z ua ub uc n1)(E3:hE3 ya yb yc z o n3)(E7:hE7 ):SCt 4 [.c (gxi p),.row (ya.cells++yb.cells++yc.cells),.row ((Qan z).cells)] (.r gTt) :=
  Qas (L := [[gxi p],ya.cells,yb.cells,yc.cells,(Qan z).cells,ua.cells,ub.cells,uc.cells,[gxi n1],o.cells,[gxi n3]].flatten) Qae Qai
     [gsm (smZ (Qan z) true ⟨fun _=>hs,fun _=>rfl⟩) [4] [⟨Qbd 17 8,28,none⟩] [lc 24,.c (.sl 0 0 1 1)] vTt,gs (Ct) [lc 24,yR 1 16] vTt,gs (It) [cS 0,yR 1 16] (.tup [cTt,lc 0]),gs (U) [cS 0,yR 1 16,yR 17 8] (.tup [yR 25 16,cS 41]),gs (Fn) [cS 0,yR 1 16,yR 17 8] (.tup [.row (zGA),lc 7]),gs (V) [cS 0,yR 1 16,yR 17 8] (.tup [yR 42 8,cS 50]),gs (Pt) [cS 0] vTt,gs (K0) [yR 1 16] (.r (lc 0)),gs (Jt) [cS 0,yR 1 16] vTt,
      gsm (M0) [75] [⟨Qbd 17 8,28,none⟩] [cS 0,.c (.sl 0 0 1 1)] (.r (lc 0)),gs (Dn) [cS 0,yR 1 16,yR 17 8] (.tup [.row (zGA),cFf]),
      gsm (E1) [13,0,1] [⟨[.sym 0],3,none⟩,⟨Qbd 1 16,47,none⟩,⟨Qbd 17 8,28,none⟩] [yR 25 16,cS 41,lc 0,.c (.fn 31 [] [0,1,2])] vTt,
      gsm (E7) [93] [⟨zGA,28,none⟩] [.row (zGA),lc 7,lc 7,.c (.fn 33 [] [0])] vTt,
      gsm (E3) [0,1] [⟨Qbd 1 16,47,none⟩,⟨Qbd 17 8,28,none⟩] [yR 42 8,cS 50,lc 0,.c (.fn 34 [] [0,1])] vTt,gs (Qkj) [] vTt]
     [Qxs 4 Tryz.underlying4 true true] [] ((Kwz .nil):Tr.FnsOk prog _) 1 1 func4 eo4 2000 [cS 0,yR 1 16,yR 17 8] vTt
def hD1(p:Int)(ya:Qbm)(yb:Qbg)(yc:Qbm)(z:QC)(a b c d:Rat):Prop:=SCt 32 [.c (gxi p),.row (ya.cells++yb.cells++yc.cells),.row (Qan z).cells] (.r (.row (rF a++rF b++rF c++rF d)))
def Ubu:FnsOk prog [⟨31,Tryz.f31,2000⟩,⟨18,Tryz.f18,2000⟩,⟨110,Tryz.f110,2000⟩,⟨195,Tryz.f195,2000⟩,⟨111,Tryz.f111,2000⟩]:=(Vbd (Kwz (Ugq (Ugy (Ugr .nil)))))
def Upb(a b c d:Rat)(p:Int)(ya:Qbm)(yb:Qbg)(yc:Qbm)(z:QC)(b_z:Qaj z)(D1:hD1 p ya yb yc z a b c d)(hs:Qag a/\Qag b/\Qag c/\Qag d):SMt 26 [([gxi p],3),(ya.cells++yb.cells++yc.cells,47),((Qan z).cells,28)] [.f (.row (rG (⟨a,b⟩:QC)++rG (⟨c,d⟩:QC))),.f (gIi 0),.f (gIi 0),.fn 31 [] [0,1,2]] (.r gTt) :=
  Qhb (L := [cF a,cF b,cF c,cF d,[gxi p],ya.cells,yb.cells,yc.cells,(Qan z).cells,cF a,cF b,cF c,cF d].flatten) Qae Qai
     [gs (D1) [cS 12,yR 13 16,yR 29 8] (.r (.row (gL [37,43]))),gs (Qwe a true (tI hs.1)) [yQ 37] vTt,gs (Kes (⟨b,c⟩:QC) true (tI ⟨hs.2.1,hs.2.2.1⟩)) [.row (gR 40)] vTt,gs (Qwe d true (tI hs.2.2.2)) [yQ 46] vTt]
     [bCt (.row (gL [0,6])) (.row (gL [37,43])) a b c d] [] Ubu 1 4 func26 eo26 2000 [⟨[.sym 12],3,none⟩,⟨Qbd 13 16,47,none⟩,⟨Qbd 29 8,28,none⟩] [.row (gL [0,6]),lc 0,lc 0,.c (.fn 31 [] [0,1,2])] vTt
def Ked(p:Int)(ya:Qbm)(yb:Qbg)(yc:Qbm)(z:QC)(a b c d:Rat):List GF:=[[gxi p],ya.cells,yb.cells,yc.cells,(Qan z).cells,cF a,cF b,cF c,cF d].flatten
def Upa(p:Int)(ya:Qbm)(yb:Qbg)(yc:Qbm)(z:QC)(b_z:Qaj z)(a b c d:Rat)(D1:hD1 p ya yb yc z a b c d)(hn:¬(Qag a/\Qag b/\Qag c/\Qag d)):SMt 26 [([gxi p],3),(ya.cells++yb.cells++yc.cells,47),((Qan z).cells,28)] [.f (.row (zGG++zGG)),.f (gIi 4),.f (gIi 0),.fn 31 [] [0,1,2]] (.r gTt) :=
  (Classical.em (Qag a)).elim (fun h0=>(Classical.em (Qaj (⟨b,c⟩:QC))).elim (fun h1=>(Classical.em (Qag d)).elim (fun h2=>(hn ⟨h0,h1.1,h1.2,h2⟩).elim)
   (fun h2=>Qhb (L:=Ked p ya yb yc z a b c d) Qae Qai
     [gs (D1) [cS 0,yR 1 16,yR 17 8] (.r (.row (gL [25,31]))),gs (Qwe a true (tI h0)) [yQ 25] vTt,gs (Kes (⟨b,c⟩:QC) true (tI h1)) [.row (gR 28)] vTt,gs (Qwe d false (fI h2)) [yQ 34] vFf]
     [Qfs 47 (.row (flA [zGA,zGA])) (.row (flA [zGA,zGA])) (.agg (zV 8).toArray) (fun _ _ _=>by kernel_rfl)] [] Ubu 1 4 func26 eo26 2000 [⟨[.sym 0],3,none⟩,⟨Qbd 1 16,47,none⟩,⟨Qbd 17 8,28,none⟩] [.row (flA [zGA,zGA]),lc 4,lc 0,.c (.fn 31 [] [0,1,2])] vTt))
   (fun h1=>Qhb (L:=Ked p ya yb yc z a b c d) Qae Qai
     [gs (D1) [cS 0,yR 1 16,yR 17 8] (.r (.row (gL [25,31]))),gs (Qwe a true (tI h0)) [yQ 25] vTt,gs (Kes (⟨b,c⟩:QC) false (fI h1)) [.row (gR 28)] vFf]
     [Qfs 47 (.row (flA [zGA,zGA])) (.row (flA [zGA,zGA])) (.agg (zV 8).toArray) (fun _ _ _=>by kernel_rfl)] [] Ubu 1 4 func26 eo26 2000 [⟨[.sym 0],3,none⟩,⟨Qbd 1 16,47,none⟩,⟨Qbd 17 8,28,none⟩] [.row (flA [zGA,zGA]),lc 4,lc 0,.c (.fn 31 [] [0,1,2])] vTt))
   (fun h0=>Qhb (L:=Ked p ya yb yc z a b c d) Qae Qai
     [gs (D1) [cS 0,yR 1 16,yR 17 8] (.r (.row (gL [25,31]))),gs (Qwe a false (fI h0)) [yQ 25] vFf]
     [Qfs 47 (.row (flA [zGA,zGA])) (.row (flA [zGA,zGA])) (.agg (zV 8).toArray) (fun _ _ _=>by kernel_rfl)] [] Ubu 1 4 func26 eo26 2000 [⟨[.sym 0],3,none⟩,⟨Qbd 1 16,47,none⟩,⟨Qbd 17 8,28,none⟩] [.row (flA [zGA,zGA]),lc 4,lc 0,.c (.fn 31 [] [0,1,2])] vTt)
def Ujy:FnsOk prog [⟨33,Tryz.f33,2000⟩,⟨18,Tryz.f18,2000⟩,⟨110,Tryz.f110,2000⟩,⟨195,Tryz.f195,2000⟩,⟨111,Tryz.f111,2000⟩]:=(Vbe (Kwz (Ugq (Ugy (Ugr .nil)))))
def Upd(x x:QC)(b_x:Qaj x)(b_x:Qaj x) :SMt 27 [((Qan x).cells,28)] [.f (.row ((Qan x).cells)),.f (gIi 0),.f (gIi 0),.fn 33 [] [0]] (.r gTt) :=
  Qhb (L := [(Qan x).cells,(Qan x).cells].flatten) Qae Qai
     [gs (Kes x true (tI b_x)) [yR 8 8] vTt]
     [bG (yR 0 8) (yR 8 8) (Qan x) (Qan x) true (tI rfl)] [] Ujy 1 4 func27 eo27 2000 [⟨Qbd 8 8,28,none⟩] [yR 0 8,lc 0,lc 0,.c (.fn 33 [] [0])] vTt
def Upc(x:QC)(b_x:ZL x 100000000)(hn:¬Qaj x):SMt 27 [(rG x,28)] [.f (.row (zGG)),.f (gIi 4),.f (gIi 0),.fn 33 [] [0]] (.r gTt) :=
  Qhb (L := [cG x].flatten) Qae Qai
     [gs (Kes x false (fI hn)) [.row (gR 0)] vFf]
     [Qfs 28 (.row (zGA)) (.row (zGA)) (.agg (zV 4).toArray) (fun _ _ _=>by kernel_rfl)] [] Ujy 1 4 func27 eo27 2000 [⟨gR 0,28,none⟩] [.row (zGA),lc 4,lc 0,.c (.fn 33 [] [0])] vTt
def Uzf  :SMt 27 [(zGG,28)] [.f (.row (zGG)),.f (gIi 7),.f (gIi 7),.fn 33 [] [0]] (.r gTt) :=
  Qhb (L := [].flatten) Qae Qai
     []
     [Qfs 28 (.row (zGA)) (.row (zGA)) (.agg (zV 4).toArray) (fun _ _ _=>by kernel_rfl)] [] Ujy 1 4 func27 eo27 2000 [⟨zGA,28,none⟩] [.row (zGA),lc 7,lc 7,.c (.fn 33 [] [0])] vTt
def hD3(ya:Qbm)(yb:Qbg)(yc:Qbm)(z x:QC):Prop:=SCt 35 [.row (ya.cells++yb.cells++yc.cells),.row (Qan z).cells] (.r (G1 x))
def Urr:FnsOk prog [⟨34,Tryz.f34,2000⟩,⟨18,Tryz.f18,2000⟩,⟨110,Tryz.f110,2000⟩,⟨195,Tryz.f195,2000⟩,⟨111,Tryz.f111,2000⟩]:=(Vbf (Kwz (Ugq (Ugy (Ugr .nil)))))
def Upf(x:QC)(ya:Qbm)(yb:Qbg)(yc:Qbm)(z:QC)(b_x:Qaj x)(b_z:Qaj z)(D3:hD3 ya yb yc z x):SMt 27 [(ya.cells++yb.cells++yc.cells,47),((Qan z).cells,28)] [.f (.row ((Qan x).cells)),.f (gIi 0),.f (gIi 0),.fn 34 [] [0,1]] (.r gTt) :=
  Qhb (L := [(Qan x).cells,ya.cells,yb.cells,yc.cells,(Qan z).cells,cG x].flatten) Qae Qai
     [gs (D3) [yR 8 16,yR 24 8] (.r (.row (gR 32))),gs (Kes x true (tI b_x)) [.row (gR 32)] vTt]
     [bG (yR 0 8) (.row (gR 32)) (Qan x) (Qan x) true (tI rfl)] [] Urr 1 4 func27 eo27 2000 [⟨Qbd 8 16,47,none⟩,⟨Qbd 24 8,28,none⟩] [yR 0 8,lc 0,lc 0,.c (.fn 34 [] [0,1])] vTt
def Upe(ya:Qbm)(yb:Qbg)(yc:Qbm)(z:QC)(b_z:Qaj z)(x:QC)(D3:hD3 ya yb yc z x)(hn:¬Qaj x):SMt 27 [(ya.cells++yb.cells++yc.cells,47),((Qan z).cells,28)] [.f (.row (zGG)),.f (gIi 4),.f (gIi 0),.fn 34 [] [0,1]] (.r gTt) :=
  Qhb (L := [ya.cells,yb.cells,yc.cells,(Qan z).cells,cG x].flatten) Qae Qai
     [gs (D3) [yR 0 16,yR 16 8] (.r (.row (gR 24))),gs (Kes x false (fI hn)) [.row (gR 24)] vFf]
     [Qfs 28 (.row (zGA)) (.row (zGA)) (.agg (zV 4).toArray) (fun _ _ _=>by kernel_rfl)] [] Urr 1 4 func27 eo27 2000 [⟨Qbd 0 16,47,none⟩,⟨Qbd 16 8,28,none⟩] [.row (zGA),lc 4,lc 0,.c (.fn 34 [] [0,1])] vTt
def Uzp{n:Int}(h:n<=0):¬n>0:=by omega
def Uzq{n:Int}(h:¬n<=0):n>0:=by omega
def Kna:FnsOk prog [⟨13,Tryz.f13,2000⟩,⟨96,Tryz.f96,2000⟩,⟨136,Tryz.f136,2000⟩,⟨138,Tryz.f138,2000⟩]:=(Uyx (Vbk (Kyw (Kdy .nil))))
def Upo(z:Qbg)(kz:¬(GOk z.val)):SMt 29 [(z.cells,28)] [.f (gIi 1),.sl 0 0 1 1] (.r (gIi 2)) :=
  Qhb (L := [z.cells].flatten) Qae Qai
     [Qbw eo78,gs (Qqj z false (fI kz)) [yR 0 8] vFf]
     [] [] Kna 1 3 func29 eo29 2000 [⟨Qbd 0 8,28,none⟩] [lc 1,.c (.sl 0 0 1 1)] (.r (lc 2))
def Krg(z:QC)(b_z:Qaj z)(hz:nOa z):SMt 29 [((Qan z).cells,28)] [.f (gIi 1),.sl 0 0 1 1] (.r (gIi 350)) :=
  Qhb (L := [(Qan z).cells,[gxi z.im.num.sign]].flatten) Qae Qai
     [Qbw eo78,gs (Qqj (Qan z) true (tI (Qjj b_z))) [yR 0 8] vTt,gs (Qcp z.im) [yR 4 4] (rS 8)]
     [gtN 3 (.sym 8) (li 0) z.im.num.sign 0 (Uzp hz)] [] Kna 1 3 func29 eo29 2000 [⟨Qbd 0 8,28,none⟩] [lc 1,.c (.sl 0 0 1 1)] (.r (lc 350))
def Upn(z:QC)(b_z:Qaj z)(hz:nNa z):SMt 29 [((Qan z).cells,28)] [.f (gIi 1),.sl 0 0 1 1] (.r (gIi 0)) :=
  Qhb (L := [(Qan z).cells,[gxi z.im.num.sign]].flatten) Qae Qai
     [Qbw eo78,gs (Qqj (Qan z) true (tI (Qjj b_z))) [yR 0 8] vTt,gs (Qcp z.im) [yR 4 4] (rS 8)]
     [gtY 3 (.sym 8) (li 0) z.im.num.sign 0 (Uzq hz)] [] Kna 1 3 func29 eo29 2000 [⟨Qbd 0 8,28,none⟩] [lc 1,.c (.sl 0 0 1 1)] (.r (lc 0))
def Upq(z:Qbg)(kz:¬(GOk z.val)):SMt 29 [(z.cells,28)] [.f (gIi 2),.sl 0 0 1 1] (.r (gIi 2)) :=
  Qhb (L := [z.cells].flatten) Qae Qai
     [Qbw eo78,gs (Qqj z false (fI kz)) [yR 0 8] vFf]
     [] [] Kna 1 3 func29 eo29 2000 [⟨Qbd 0 8,28,none⟩] [lc 2,.c (.sl 0 0 1 1)] (.r (lc 2))
def Krh(z:QC)(b_z:Qaj z)(hz:nOb z):SMt 29 [((Qan z).cells,28)] [.f (gIi 2),.sl 0 0 1 1] (.r (gIi 350)) :=
  Qhb (L := [(Qan z).cells,cF (1 : Rat),cF (nm z),cF ((1 : Rat)-(nm z)),[gxi (((1 : Rat)-(nm z)).num.sign)]].flatten) Qae Qai
     [Qbw eo78,gs (Qqj (Qan z) true (tI (Qjj b_z))) [yR 0 8] vTt,gs (Qfv 1 (by decide) (by decide)) [lc 1] (rQ 8),gs (Qlg z ((Qab b_z).mn)) [yR 0 8] (rQ 11),gs (Qcz (1:Rat) (nm z) (ri 1) ((Qbe (Qab b_z)).mn)) [yQ 8,yQ 11] (rQ 14),gs (Qcp ((1:Rat)-(nm z))) [yQ 14] (rS 17)]
     [gtN 3 (.sym 17) (li 0) (((1:Rat)-(nm z)).num.sign) 0 (Uzp hz)] [] Kna 1 3 func29 eo29 2000 [⟨Qbd 0 8,28,none⟩] [lc 2,.c (.sl 0 0 1 1)] (.r (lc 350))
def Upp(z:QC)(b_z:Qaj z)(hz:nNb z):SMt 29 [((Qan z).cells,28)] [.f (gIi 2),.sl 0 0 1 1] (.r (gIi 0)) :=
  Qhb (L := [(Qan z).cells,cF (1 : Rat),cF (nm z),cF ((1 : Rat)-(nm z)),[gxi (((1 : Rat)-(nm z)).num.sign)]].flatten) Qae Qai
     [Qbw eo78,gs (Qqj (Qan z) true (tI (Qjj b_z))) [yR 0 8] vTt,gs (Qfv 1 (by decide) (by decide)) [lc 1] (rQ 8),gs (Qlg z ((Qab b_z).mn)) [yR 0 8] (rQ 11),gs (Qcz (1:Rat) (nm z) (ri 1) ((Qbe (Qab b_z)).mn)) [yQ 8,yQ 11] (rQ 14),gs (Qcp ((1:Rat)-(nm z))) [yQ 14] (rS 17)]
     [gtY 3 (.sym 17) (li 0) (((1:Rat)-(nm z)).num.sign) 0 (Uzq hz)] [] Kna 1 3 func29 eo29 2000 [⟨Qbd 0 8,28,none⟩] [lc 2,.c (.sl 0 0 1 1)] (.r (lc 0))
def Law(p:Int)(ya:Qbm)(yb:Qbg)(yc:Qbm)(z:Qbg):Prop:=SCt 4 [.c (gxi p),.row (ya.cells++yb.cells++yc.cells),.row z.cells] (.r gTt)
def in1{a b e d:Rat}{z:QC}(C:CO a b e d)(he:e=0)(sz:Qaj z)(hz:0<z.im)(hs:¬Qus (Qan z))(Ct:hCt (Qbx a) (Qan ⟨b,e⟩) (Qbx d))(Pt:hPt 1)(K0:hK0 (Qbx a) (Qan ⟨b,e⟩) (Qbx d)):Law 1 (Qbx a) (Qan ⟨b,e⟩) (Qbx d) (Qan z):=by
 obtain⟨It,Jt⟩:=(is1 C).1 he;have M0:hM0 1 z:=Upn z sz (Qpu hz);obtain⟨u0,u1,u2,u3,du,uy,un⟩:=ur1 C he sz hz;obtain⟨w,dv,vy,vn⟩:=ov1 C he sz hz;have A:∃ ua ub uc n1,hU 1 (Qbx a) (Qan ⟨b,e⟩) (Qbx d) z ua ub uc n1/\hE1 1 (Qbx a) (Qan ⟨b,e⟩) (Qbx d) z ua ub uc n1:=by
  by_cases h:Qag u0/\Qag u1/\Qag u2/\Qag u3
  .exact⟨_,_,_,_,uy h,Upb u0 u1 u2 u3 1 _ _ _ z sz du h⟩
  .exact⟨_,_,_,_,un h,Upa 1 _ _ _ z sz u0 u1 u2 u3 du h⟩
 have O:∃ o n3,hV 1 (Qbx a) (Qan ⟨b,e⟩) (Qbx d) z o n3/\hE3 (Qbx a) (Qan ⟨b,e⟩) (Qbx d) z o n3:=by
  by_cases h:Qaj w
  .exact⟨_,_,vy h,Upf w _ _ _ z h sz dv⟩
  .exact⟨_,_,vn h,Upe _ _ _ z sz w dv h⟩
 obtain⟨ua,ub,uc,n1,U,E1⟩:=A;obtain⟨o,n3,V,E3⟩:=O;rcases Vbs C he sz hz with⟨hf,hd⟩|⟨x,⟨fy,fn⟩,hd,bx⟩
 .exact Uzh 1 _ _ _ z sz hs ua ub uc o n1 n3 Ct It U hf V Pt K0 Jt M0 hd E1 E3 Uzf
 .have F:∃ f n2,hF 1 (Qbx a) (Qan ⟨b,e⟩) (Qbx d) z f n2/\hE2 x f n2:=by
   by_cases h:Qaj x
   .exact⟨_,_,fy h,Upd x x h h⟩
   .exact⟨_,_,fn h,Upc x bx h⟩
  obtain⟨f,n2,F,E2⟩:=F;exact Uzj 1 _ _ _ z sz hs ua ub uc f o n1 n2 n3 x bx Ct It U F V Pt K0 Jt M0 hd E1 E2 E3
def in2{a b e d:Rat}{z:QC}(C:CO a b e d)(he:a=d)(sz:Qaj z)(hz:0<1-nm z)(hs:¬Qus (Qan z))(Ct:hCt (Qbx a) (Qan ⟨b,e⟩) (Qbx d))(Pt:hPt 2)(K0:hK0 (Qbx a) (Qan ⟨b,e⟩) (Qbx d)):Law 2 (Qbx a) (Qan ⟨b,e⟩) (Qbx d) (Qan z):=by
 obtain⟨It,Jt⟩:=(is2 C).1 he;have M0:hM0 2 z:=Upp z sz (Qpu hz);obtain⟨u0,u1,u2,u3,du,uy,un⟩:=ur2 C he sz hz;obtain⟨w,dv,vy,vn⟩:=ov2 C he sz hz;have A:∃ ua ub uc n1,hU 2 (Qbx a) (Qan ⟨b,e⟩) (Qbx d) z ua ub uc n1/\hE1 2 (Qbx a) (Qan ⟨b,e⟩) (Qbx d) z ua ub uc n1:=by
  by_cases h:Qag u0/\Qag u1/\Qag u2/\Qag u3
  .exact⟨_,_,_,_,uy h,Upb u0 u1 u2 u3 2 _ _ _ z sz du h⟩
  .exact⟨_,_,_,_,un h,Upa 2 _ _ _ z sz u0 u1 u2 u3 du h⟩
 have O:∃ o n3,hV 2 (Qbx a) (Qan ⟨b,e⟩) (Qbx d) z o n3/\hE3 (Qbx a) (Qan ⟨b,e⟩) (Qbx d) z o n3:=by
  by_cases h:Qaj w
  .exact⟨_,_,vy h,Upf w _ _ _ z h sz dv⟩
  .exact⟨_,_,vn h,Upe _ _ _ z sz w dv h⟩
 obtain⟨ua,ub,uc,n1,U,E1⟩:=A;obtain⟨o,n3,V,E3⟩:=O;rcases Vbt C he sz hz with⟨hf,hd⟩|⟨x,⟨fy,fn⟩,hd,bx⟩
 .exact Uzh 2 _ _ _ z sz hs ua ub uc o n1 n3 Ct It U hf V Pt K0 Jt M0 hd E1 E3 Uzf
 .have F:∃ f n2,hF 2 (Qbx a) (Qan ⟨b,e⟩) (Qbx d) z f n2/\hE2 x f n2:=by
   by_cases h:Qaj x
   .exact⟨_,_,fy h,Upd x x h h⟩
   .exact⟨_,_,fn h,Upc x bx h⟩
  obtain⟨f,n2,F,E2⟩:=F;exact Uzj 2 _ _ _ z sz hs ua ub uc f o n1 n2 n3 x bx Ct It U F V Pt K0 Jt M0 hd E1 E2 E3
end Go.Proofs.YtmimficdpfmfgaaGreat
namespace Go.Proofs.YtmimficdpfmfgaaGreat
open Go.RowKit Tr Proofs.Tryz
def Qbm.val(f:Qbm):Value:=.agg #[.bool f.n1,.string f.s1,.bool f.n2,.string f.s2]
def Qbm.Sz(f:Qbm):Prop:=f.s1.size<=1000000000/\f.s2.size<=1000000000
def Uau(q:Rat):(Qbx q).val=Qew q:=rfl
def Uat{f g:Qbm}(e:f.val=g.val):f=g:=by
 obtain⟨n1,n2,s1,s2⟩:=f;obtain⟨m1,m2,t1,t2⟩:=g;simp only[Qbm.val,Value.agg.injEq,Array.mk.injEq,List.cons.injEq,Value.bool.injEq,Value.string.injEq,and_true] at e;obtain⟨rfl,rfl,rfl,rfl⟩:=e;rfl
def Qxn{f:Qbm}(h:Qey f.val):∃ q,f=Qbx q/\Qag q:=by
 obtain⟨q,e,hs⟩:=h;exact⟨q,Uat (by rw[e,Uau]),hs⟩
def Krp(f:Qbm)(hs:f.Sz)(h:¬Qey f.val):SCt 148 [.row f.cells] (.r (.c (gl .nilp))) :=
 Qnm eo148 fun w A u _ _ hu=>by
  have h1:=hs.1;have h2:=hs.2;rw[(FR.val_ok (u:=f.val) (x:=.row f.cells) kR).1 hu];refine(Qqp f.n1 f.n2 f.s1 f.s2 (by omega) (by omega) w).mono ?_;rintro e w' ⟨v,h1,h2,h3⟩;rcases h2 with⟨_,rfl⟩|⟨q,e2,hq,_⟩
  .exact⟨_,h1,rfl,h3⟩
  .exact absurd hq h
def Kro(f:Qbm)(hs:f.Sz):SCt 148 [.row f.cells] (.r (.c ga)):=by
 by_cases h:Qey f.val
 .obtain⟨q,rfl,hq⟩:=Qxn h;exact(Qcm q hq).anyL rfl
 .exact(Krp f hs h).anyL rfl
def Uit(f:Qbm)(r:Bool)(hr:r=true↔Qey f.val):Qbj prog false 57 [.row f.cells] (B1 r) :=
 Qcd eo57 (Uvx f.n1 f.n2 f.s1 f.s2 r hr) kR kR
def Qll(q:Rat)(h:Qag q):Qbj prog false 57 [F1 q] (.r gTt) :=
 Uit (Qbx q) true ⟨fun _=>⟨q,rfl,h.1,h.2⟩,fun _=>rfl⟩
open Classical
def gaN(n:Nat):List GF:=List.replicate n ga
def hAk(p:Int)(ya:Qbm)(yb:Qbg)(yc:Qbm)(z:Qbg)(n:Int):Prop:=SCt 100 [.c (gxi p),.row (ya.cells++yb.cells++yc.cells),.row z.cells] (.tup [.row (gaN 14),.row (gaN 4),.row (gaN 2),.c (gxi n)])
def Qop:∀{l:List GF} {vs:List Value} {w:World} {A:Nat->Prop},l.all (fun g=>!g.int)=true->okg l vs w A->okg (gaN l.length) vs w A
 | [],[],_,_,_,_=>trivial
 | [],_::_,_,_,_,h=>h.elim
 | _::_,[],_,_,_,h=>h.elim
 | g::l,v::vs,w,A,hi,h=>by
  rw[List.all_cons,Bool.and_eq_true] at hi;exact⟨⟨g.cell v w A h.1,g.noint (by have:=hi.1;revert this;cases g.int<;>simp) v w A h.1⟩,Qop hi.2 h.2⟩
def Keg{l:List GF}{n:Nat}{v:Value}{w:World}{A:Nat->Prop}(h:(l.length==n&&l.all (fun g=>!g.int))=true)(k:(FR.row l).R v w A):(FR.row (gaN n)).R v w A:=by
 rw[Bool.and_eq_true] at h;obtain⟨vs,e,o⟩:=k;rw[<-(beq_iff_eq.1 h.1:l.length=n)];exact⟨vs,e,Qop h.2 o⟩
def Qmn{f:FuncId}{a:List FR}{l1 l2 l3:List GF}{g:GF}(h:SCt f a (.tup [.row l1,.row l2,.row l3,.c g]))(h1:(l1.length==14&&l1.all (fun g=>!g.int))=true:=by kernel_rfl)(h2:(l2.length==4&&l2.all (fun g=>!g.int))=true:=by kernel_rfl)(h3:(l3.length==2&&l3.all (fun g=>!g.int))=true:=by kernel_rfl) :
  SCt f a (.tup [.row (gaN 14),.row (gaN 4),.row (gaN 2),.c g]) :=
 ⟨h.ent,fun w A vs hR hA hv=>(h.ok w A vs hR hA hv).mono (by
  rintro r w' ⟨v,hr,⟨us,e,hu⟩,hb⟩;refine⟨v,hr,⟨us,e,?_⟩,hb⟩
  match us,hu with
  | [_,_,_,_],hu=>exact⟨Keg h1 hu.1,Keg h2 hu.2.1,Keg h3 hu.2.2.1,hu.2.2.2⟩)⟩
def hKp(ya:Qbm)(yb:Qbg)(yc:Qbm):Prop:=SCt 185 [.row (ya.cells++yb.cells++yc.cells)] (.r (gIi 2))
def hKg(a b e d:Rat):Prop:=SCt 185 [.row (rF a++rF b++rF e++rF d)] (.r (gIi 0))
def Qjw:FnsOk prog [⟨119,Tryz.f119,2000⟩,⟨70,Tryz.f70,2000⟩,⟨167,Tryz.f167,2000⟩,⟨244,Tryz.f244,2000⟩,⟨245,Tryz.f245,2000⟩,⟨81,Tryz.f81,2000⟩,⟨121,Tryz.f121,2000⟩,⟨99,Tryz.f99,2000⟩,⟨97,Tryz.f97,2000⟩]:=(Qup (Kqh (Qsa (Qsb (Qsc (Knm (Qrz (Ucv (Uwm .nil)))))))))
def Uxs(p:Int)(ya:Qbm)(yb:Qbg)(yc:Qbm)(b_ya:ya.Sz)(b_yb:Qbg.Sz yb)(b_yc:yc.Sz)(hp1:¬(p=1))(hp2:¬(p=2))(Kp:hKp ya yb yc):SCt 21 [.c (gxi p),.row (ya.cells++yb.cells++yc.cells)] (.tup [gFf,gIi 2]) :=
  Qas (L := [[gxi p],ya.cells,yb.cells,yc.cells].flatten) Qae Qai
     [Qbw eo78,gs (Kp) [yR 1 16] (.r (lc 2))]
     [bI .eql 22 (.sym 0) (li 1) p 1 false (by simp[Qil,hp1]),bI .eql 22 (.sym 0) (li 2) p 2 false (by simp[Qil,hp2])] [] Qjw 1 4 func21 eo21 2000 [cS 0,yR 1 16] (.tup [cFf,lc 2])
def Uxr(p:Int)(a b e d:Rat)(b_a:RL a 256)(b_b:RL b 256)(b_e:RL e 256)(b_d:RL d 256)(hp1:¬(p=1))(hp2:¬(p=2))(sa:Qag a)(sb:Qag b)(se:Qag e)(sd:Qag d)(Kg:hKg a b e d):SCt 21 [.c (gxi p),.row (rG (⟨a,b⟩:QC)++rG (⟨e,d⟩:QC))] (.tup [gFf,gIi 2]) :=
  Qas (L := [[gxi p],cF a,cF b,cF e,cF d,[gr a,gr b,gr e,gr d]].flatten) Qae Qai
     [Qbw eo78,gs (Kg) [.row (gL [1,7])] (.r (lc 0)),gs (Qcm a sa) [yQ 1] (rS 13),gs (Qcm b sb) [yQ 4] (rS 14),gs (Qcm e se) [yQ 7] (rS 15),gs (Qcm d sd) [yQ 10] (rS 16)]
     [bI .eql 22 (.sym 0) (li 1) p 1 false (by simp[Qil,hp1]),bI .eql 22 (.sym 0) (li 2) p 2 false (by simp[Qil,hp2])] [] Qjw 1 4 func21 eo21 2000 [cS 0,.row (gL [1,7])] (.tup [cFf,lc 2])
def Uio(ya:Qbm)(yb:Qbg)(yc:Qbm)(b_ya:ya.Sz)(b_yb:Qbg.Sz yb)(b_yc:yc.Sz)(Kp:hKp ya yb yc):SCt 21 [gIi 1,.row (ya.cells++yb.cells++yc.cells)] (.tup [gFf,gIi 2]) :=
  Qas (L := [ya.cells,yb.cells,yc.cells,(Qan (⟨0,1⟩ : QC)).cells,(Qan (⟨0,0⟩ : QC)).cells].flatten) Qae Qai
     [Qbw eo78,gpi 0 1 16,gpi 0 0 24,gs (Kp) [yR 0 16] (.r (lc 2))]
     [] [] Qjw 1 4 func21 eo21 2000 [lc 1,yR 0 16] (.tup [cFf,lc 2])
def Uip(ya:Qbm)(yb:Qbg)(yc:Qbm)(b_ya:ya.Sz)(b_yb:Qbg.Sz yb)(b_yc:yc.Sz)(Kp:hKp ya yb yc):SCt 21 [gIi 2,.row (ya.cells++yb.cells++yc.cells)] (.tup [gFf,gIi 2]) :=
  Qas (L := [ya.cells,yb.cells,yc.cells,(Qan (⟨0,1⟩ : QC)).cells,(Qan (⟨0,0⟩ : QC)).cells].flatten) Qae Qai
     [Qbw eo78,gpi 0 1 16,gpi 0 0 24,gs (Kp) [yR 0 16] (.r (lc 2))]
     [] [] Qjw 1 4 func21 eo21 2000 [lc 2,yR 0 16] (.tup [cFf,lc 2])
def Uxu(p:Int)(ya:Qbm)(yb:Qbg)(yc:Qbm)(z:Qbg)(b_ya:ya.Sz)(b_yb:Qbg.Sz yb)(b_yc:yc.Sz)(b_z:Qbg.Sz z)(hp1:¬(p=1))(hp2:¬(p=2))(Kp:hKp ya yb yc):hAk p ya yb yc z 2 :=
  Qmn (l1 := [gl .nilf,gl (.int .i64 0),gl (.int .i64 0),gl (.int .i64 0),gl (.int .i64 0),gl (.int .i64 0)] ++ zGG) (l2 := [gl .nilp,gl .nilp,gl .nilp,gl .nilp]) (l3 := [gl .nilp,gl .nilp]) (Qas (L := [[gxi p],ya.cells,yb.cells,yc.cells,z.cells].flatten) Qae Qai
     [Qbw eo78,gs (Kp) [yR 1 16] (.r (lc 2))]
     [bI .eql 22 (.sym 0) (li 1) p 1 false (by simp[Qil,hp1]),bI .eql 22 (.sym 0) (li 2) p 2 false (by simp[Qil,hp2])] [] Qjw 1 4 func100 eo100 2000 [cS 0,yR 1 16,yR 17 8] (.tup [.row (flA [[.lit .nilf,.lit (.int .i64 0),.lit (.int .i64 0),.lit (.int .i64 0),.lit (.int .i64 0),.lit (.int .i64 0)],zGA]),.row [.lit .nilp,.lit .nilp,.lit .nilp,.lit .nilp],.row [.lit .nilp,.lit .nilp],lc 2]))
def Uqf(ya:Qbm)(yb:Qbg)(yc:Qbm)(z:Qbg)(b_ya:ya.Sz)(b_yb:Qbg.Sz yb)(b_yc:yc.Sz)(b_z:Qbg.Sz z)(kz:¬(GOk z.val))(Kp:hKp ya yb yc):hAk 1 ya yb yc z 2 :=
  Qmn (l1 := [gfn 244,gl (.int .i64 0),gl (.int .i64 0),gl (.int .i64 1),gl (.int .i64 0),gl (.int .i64 2)] ++ (Qan (⟨0,1⟩ : QC)).cells) (l2 := [gl .nilp,gl .nilp,gl .nilp,gl .nilp]) (l3 := [gl .nilp,gl .nilp]) (Qas (L := [ya.cells,yb.cells,yc.cells,z.cells,(Qan (⟨0,1⟩ : QC)).cells,(Qan (⟨0,0⟩ : QC)).cells,[ga,ga]].flatten) Qae Qai
     [Qbw eo78,gpi 0 1 24,gpi 0 0 32,gs (Krn z b_z false (fI kz)) [yR 16 8] (.tup [sy [40,41],cFf]),gs (Kp) [yR 0 16] (.r (lc 2))]
     [] [] Qjw 1 4 func100 eo100 2000 [lc 1,yR 0 16,yR 16 8] (.tup [.row (flA [[.fn 244 [] [],.lit (.int .i64 0),.lit (.int .i64 0),.lit (.int .i64 1),.lit (.int .i64 0),.lit (.int .i64 2)],Qbd 24 8]),.row [.lit .nilp,.lit .nilp,.lit .nilp,.lit .nilp],.row [.lit .nilp,.lit .nilp],lc 2]))
def Uqh(ya:Qbm)(yb:Qbg)(yc:Qbm)(z:QC)(b_ya:ya.Sz)(b_yb:Qbg.Sz yb)(b_yc:yc.Sz)(b_z:Qaj z)(hz:nOa z)(Kp:hKp ya yb yc):hAk 1 ya yb yc (Qan z) 2 :=
  Qmn (l1 := [gfn 244,gl (.int .i64 0),gl (.int .i64 0),gl (.int .i64 1),gl (.int .i64 0),gl (.int .i64 2)] ++ (Qan (⟨0,1⟩ : QC)).cells) (l2 := [gl .nilp,gl .nilp,gl .nilp,gl .nilp]) (l3 := [gl .nilp,gl .nilp]) (Qas (L := [ya.cells,yb.cells,yc.cells,(Qan z).cells,(Qan (⟨0,1⟩ : QC)).cells,(Qan (⟨0,0⟩ : QC)).cells,cn z,[gr z.re,gr z.im,gxi z.im.num.sign]].flatten) Qae Qai
     [Qbw eo78,gpi 0 1 24,gpi 0 0 32,gs (Qgl z b_z) [yR 16 8] (.tup [sy [40,41],cTt]),gs (Qcr z ((Qab b_z).mn)) [sy [40,41]] (.tup [cS 42,cS 43]),gs (Qbb z.im) [cS 43] (rS 44),gs (Kp) [yR 0 16] (.r (lc 2))]
     [bLt 3 44 hz] [] Qjw 1 4 func100 eo100 2000 [lc 1,yR 0 16,yR 16 8] (.tup [.row (flA [[.fn 244 [] [],.lit (.int .i64 0),.lit (.int .i64 0),.lit (.int .i64 1),.lit (.int .i64 0),.lit (.int .i64 2)],Qbd 24 8]),.row [.lit .nilp,.lit .nilp,.lit .nilp,.lit .nilp],.row [.lit .nilp,.lit .nilp],lc 2]))
def Uqg(ya:Qbm)(yb:Qbg)(yc:Qbm)(z:QC)(b_ya:ya.Sz)(b_yb:Qbg.Sz yb)(b_yc:yc.Sz)(b_z:Qaj z)(hz:nNa z)(Kp:hKp ya yb yc):hAk 1 ya yb yc (Qan z) 2 :=
  Qmn (l1 := [gfn 244,gl (.int .i64 0),gl (.int .i64 0),gl (.int .i64 1),gl (.int .i64 0),gl (.int .i64 2)] ++ (Qan (⟨0,1⟩ : QC)).cells) (l2 := [gl .nilp,gl .nilp,gl .nilp,gl .nilp]) (l3 := [gl .nilp,gl .nilp]) (Qas (L := [ya.cells,yb.cells,yc.cells,(Qan z).cells,(Qan (⟨0,1⟩ : QC)).cells,(Qan (⟨0,0⟩ : QC)).cells,cn z,[gr z.re,gr z.im,gxi z.im.num.sign]].flatten) Qae Qai
     [Qbw eo78,gpi 0 1 24,gpi 0 0 32,gs (Qgl z b_z) [yR 16 8] (.tup [sy [40,41],cTt]),gs (Qcr z ((Qab b_z).mn)) [sy [40,41]] (.tup [cS 42,cS 43]),gs (Qbb z.im) [cS 43] (rS 44),gs (Kp) [yR 0 16] (.r (lc 2))]
     [bLf 3 44 hz] [] Qjw 1 4 func100 eo100 2000 [lc 1,yR 0 16,yR 16 8] (.tup [.row (flA [[.fn 244 [] [],.lit (.int .i64 0),.lit (.int .i64 0),.lit (.int .i64 1),.lit (.int .i64 0),.lit (.int .i64 2)],Qbd 24 8]),.row [.lit .nilp,.lit .nilp,.lit .nilp,.lit .nilp],.row [.lit .nilp,.lit .nilp],lc 2]))
def Uql(ya:Qbm)(yb:Qbg)(yc:Qbm)(z:Qbg)(b_ya:ya.Sz)(b_yb:Qbg.Sz yb)(b_yc:yc.Sz)(b_z:Qbg.Sz z)(kz:¬(GOk z.val))(Kp:hKp ya yb yc):hAk 2 ya yb yc z 2 :=
  Qmn (l1 := [gfn 245,gl (.int .i64 1),gl (.int .i64 0),gl (.int .i64 0),gl (.int .i64 (-1)),gl (.int .i64 1)] ++ (Qan (⟨0,0⟩ : QC)).cells) (l2 := [gl .nilp,gl .nilp,gl .nilp,gl .nilp]) (l3 := [gl .nilp,gl .nilp]) (Qas (L := [ya.cells,yb.cells,yc.cells,z.cells,(Qan (⟨0,1⟩ : QC)).cells,(Qan (⟨0,0⟩ : QC)).cells,[ga,ga]].flatten) Qae Qai
     [Qbw eo78,gpi 0 1 24,gpi 0 0 32,gs (Krn z b_z false (fI kz)) [yR 16 8] (.tup [sy [40,41],cFf]),gs (Kp) [yR 0 16] (.r (lc 2))]
     [] [] Qjw 1 4 func100 eo100 2000 [lc 2,yR 0 16,yR 16 8] (.tup [.row (flA [[.fn 245 [] [],.lit (.int .i64 1),.lit (.int .i64 0),.lit (.int .i64 0),.lit (.int .i64 (-1)),.lit (.int .i64 1)],Qbd 32 8]),.row [.lit .nilp,.lit .nilp,.lit .nilp,.lit .nilp],.row [.lit .nilp,.lit .nilp],lc 2]))
def Uqn(ya:Qbm)(yb:Qbg)(yc:Qbm)(z:QC)(b_ya:ya.Sz)(b_yb:Qbg.Sz yb)(b_yc:yc.Sz)(b_z:Qaj z)(hz:nOb z)(Kp:hKp ya yb yc):hAk 2 ya yb yc (Qan z) 2 :=
  Qmn (l1 := [gfn 245,gl (.int .i64 1),gl (.int .i64 0),gl (.int .i64 0),gl (.int .i64 (-1)),gl (.int .i64 1)] ++ (Qan (⟨0,0⟩ : QC)).cells) (l2 := [gl .nilp,gl .nilp,gl .nilp,gl .nilp]) (l3 := [gl .nilp,gl .nilp]) (Qas (L := [ya.cells,yb.cells,yc.cells,(Qan z).cells,(Qan (⟨0,1⟩ : QC)).cells,(Qan (⟨0,0⟩ : QC)).cells,cn z,[gr (1 : Rat),gr (nm z),gr ((1 : Rat)-(nm z)),gxi (((1 : Rat)-(nm z)).num.sign)]].flatten) Qae Qai
     [Qbw eo78,gpi 0 1 24,gpi 0 0 32,gs (Qgl z b_z) [yR 16 8] (.tup [sy [40,41],cTt]),gs (pnr 1) [lc 1,lc 1] (rS 42),gs (Qee z ((Qab b_z).mn)) [sy [40,41]] (rS 43),gs (Qcw (1:Rat) _ (ri 1) ((Qbe (Qab b_z)).mn)) [cS 42,cS 43] (rS 44),gs (Qbb ((1:Rat)-(nm z))) [cS 44] (rS 45),gs (Kp) [yR 0 16] (.r (lc 2))]
     [bLt 3 45 hz] [] Qjw 1 4 func100 eo100 2000 [lc 2,yR 0 16,yR 16 8] (.tup [.row (flA [[.fn 245 [] [],.lit (.int .i64 1),.lit (.int .i64 0),.lit (.int .i64 0),.lit (.int .i64 (-1)),.lit (.int .i64 1)],Qbd 32 8]),.row [.lit .nilp,.lit .nilp,.lit .nilp,.lit .nilp],.row [.lit .nilp,.lit .nilp],lc 2]))
def Uqm(ya:Qbm)(yb:Qbg)(yc:Qbm)(z:QC)(b_ya:ya.Sz)(b_yb:Qbg.Sz yb)(b_yc:yc.Sz)(b_z:Qaj z)(hz:nNb z)(Kp:hKp ya yb yc):hAk 2 ya yb yc (Qan z) 2 :=
  Qmn (l1 := [gfn 245,gl (.int .i64 1),gl (.int .i64 0),gl (.int .i64 0),gl (.int .i64 (-1)),gl (.int .i64 1)] ++ (Qan (⟨0,0⟩ : QC)).cells) (l2 := [gl .nilp,gl .nilp,gl .nilp,gl .nilp]) (l3 := [gl .nilp,gl .nilp]) (Qas (L := [ya.cells,yb.cells,yc.cells,(Qan z).cells,(Qan (⟨0,1⟩ : QC)).cells,(Qan (⟨0,0⟩ : QC)).cells,cn z,[gr (1 : Rat),gr (nm z),gr ((1 : Rat)-(nm z)),gxi (((1 : Rat)-(nm z)).num.sign)]].flatten) Qae Qai
     [Qbw eo78,gpi 0 1 24,gpi 0 0 32,gs (Qgl z b_z) [yR 16 8] (.tup [sy [40,41],cTt]),gs (pnr 1) [lc 1,lc 1] (rS 42),gs (Qee z ((Qab b_z).mn)) [sy [40,41]] (rS 43),gs (Qcw (1:Rat) _ (ri 1) ((Qbe (Qab b_z)).mn)) [cS 42,cS 43] (rS 44),gs (Qbb ((1:Rat)-(nm z))) [cS 44] (rS 45),gs (Kp) [yR 0 16] (.r (lc 2))]
     [bLf 3 45 hz] [] Qjw 1 4 func100 eo100 2000 [lc 2,yR 0 16,yR 16 8] (.tup [.row (flA [[.fn 245 [] [],.lit (.int .i64 1),.lit (.int .i64 0),.lit (.int .i64 0),.lit (.int .i64 (-1)),.lit (.int .i64 1)],Qbd 32 8]),.row [.lit .nilp,.lit .nilp,.lit .nilp,.lit .nilp],.row [.lit .nilp,.lit .nilp],lc 2]))
def Uxt(p:Int)(a b e d:Rat)(z:Qbg)(b_a:RL a 256)(b_b:RL b 256)(b_e:RL e 256)(b_d:RL d 256)(b_z:Qbg.Sz z)(hp1:¬(p=1))(hp2:¬(p=2))(sa:Qag a)(sb:Qag b)(se:Qag e)(sd:Qag d)(Kg:hKg a b e d):hAk p (Qbx a) (Qan ⟨b,e⟩) (Qbx d) z 2 :=
  Qmn (l1 := [gl .nilf,gl (.int .i64 0),gl (.int .i64 0),gl (.int .i64 0),gl (.int .i64 0),gl (.int .i64 0)] ++ zGG) (l2 := [gr a,gr b,gr e,gr d]) (l3 := [gl .nilp,gl .nilp]) (Qas (L := [[gxi p],cF a,cF b,cF e,cF d,z.cells,[gr a,gr b,gr e,gr d]].flatten) Qae Qai
     [Qbw eo78,gs (Kg) [.row (gL [1,7])] (.r (lc 0)),gs (Qcm a sa) [yQ 1] (rS 21),gs (Qcm b sb) [yQ 4] (rS 22),gs (Qcm e se) [yQ 7] (rS 23),gs (Qcm d sd) [yQ 10] (rS 24)]
     [bI .eql 22 (.sym 0) (li 1) p 1 false (by simp[Qil,hp1]),bI .eql 22 (.sym 0) (li 2) p 2 false (by simp[Qil,hp2])] [] Qjw 1 4 func100 eo100 2000 [cS 0,.row (gL [1,7]),yR 13 8] (.tup [.row (flA [[.lit .nilf,.lit (.int .i64 0),.lit (.int .i64 0),.lit (.int .i64 0),.lit (.int .i64 0),.lit (.int .i64 0)],zGA]),yR 21 4,.row [.lit .nilp,.lit .nilp],lc 2]))
def Uqc(a b e d:Rat)(z:Qbg)(b_a:RL a 256)(b_b:RL b 256)(b_e:RL e 256)(b_d:RL d 256)(b_z:Qbg.Sz z)(kz:¬(GOk z.val))(sa:Qag a)(sb:Qag b)(se:Qag e)(sd:Qag d)(Kg:hKg a b e d):hAk 1 (Qbx a) (Qan ⟨b,e⟩) (Qbx d) z 2 :=
  Qmn (l1 := [gfn 244,gl (.int .i64 0),gl (.int .i64 0),gl (.int .i64 1),gl (.int .i64 0),gl (.int .i64 2)] ++ (Qan (⟨0,1⟩ : QC)).cells) (l2 := [gr a,gr b,gr e,gr d]) (l3 := [gl .nilp,gl .nilp]) (Qas (L := [cF a,cF b,cF e,cF d,z.cells,(Qan (⟨0,1⟩ : QC)).cells,(Qan (⟨0,0⟩ : QC)).cells,[ga,ga,gr a,gr b,gr e,gr d]].flatten) Qae Qai
     [Qbw eo78,gpi 0 1 20,gpi 0 0 28,gs (Krn z b_z false (fI kz)) [yR 12 8] (.tup [sy [36,37],cFf]),gs (Kg) [.row (gL [0,6])] (.r (lc 0)),gs (Qcm a sa) [yQ 0] (rS 38),gs (Qcm b sb) [yQ 3] (rS 39),gs (Qcm e se) [yQ 6] (rS 40),gs (Qcm d sd) [yQ 9] (rS 41)]
     [] [] Qjw 1 4 func100 eo100 2000 [lc 1,.row (gL [0,6]),yR 12 8] (.tup [.row (flA [[.fn 244 [] [],.lit (.int .i64 0),.lit (.int .i64 0),.lit (.int .i64 1),.lit (.int .i64 0),.lit (.int .i64 2)],Qbd 20 8]),yR 38 4,.row [.lit .nilp,.lit .nilp],lc 2]))
def Uqe(a b e d:Rat)(z:QC)(b_a:RL a 256)(b_b:RL b 256)(b_e:RL e 256)(b_d:RL d 256)(b_z:Qaj z)(hz:nOa z)(sa:Qag a)(sb:Qag b)(se:Qag e)(sd:Qag d)(Kg:hKg a b e d):hAk 1 (Qbx a) (Qan ⟨b,e⟩) (Qbx d) (Qan z) 350 :=
  Qmn (l1 := [gfn 244,gl (.int .i64 0),gl (.int .i64 0),gl (.int .i64 1),gl (.int .i64 0),gl (.int .i64 2)] ++ (Qan (⟨0,1⟩ : QC)).cells) (l2 := [gr a,gr b,gr e,gr d]) (l3 := [gl .nilp,gl .nilp]) (Qas (L := [cF a,cF b,cF e,cF d,(Qan z).cells,(Qan (⟨0,1⟩ : QC)).cells,(Qan (⟨0,0⟩ : QC)).cells,cn z,[gr z.re,gr z.im,gxi z.im.num.sign,gr a,gr b,gr e,gr d]].flatten) Qae Qai
     [Qbw eo78,gpi 0 1 20,gpi 0 0 28,gs (Qgl z b_z) [yR 12 8] (.tup [sy [36,37],cTt]),gs (Qcr z ((Qab b_z).mn)) [sy [36,37]] (.tup [cS 38,cS 39]),gs (Qbb z.im) [cS 39] (rS 40),gs (Kg) [.row (gL [0,6])] (.r (lc 0)),gs (Qcm a sa) [yQ 0] (rS 41),gs (Qcm b sb) [yQ 3] (rS 42),gs (Qcm e se) [yQ 6] (rS 43),gs (Qcm d sd) [yQ 9] (rS 44)]
     [bLt 3 40 hz] [] Qjw 1 4 func100 eo100 2000 [lc 1,.row (gL [0,6]),yR 12 8] (.tup [.row (flA [[.fn 244 [] [],.lit (.int .i64 0),.lit (.int .i64 0),.lit (.int .i64 1),.lit (.int .i64 0),.lit (.int .i64 2)],Qbd 20 8]),yR 41 4,.row [.lit .nilp,.lit .nilp],lc 350]))
def wt1(a b e d:Rat):Rat:=Qam a b e d (0:Rat) (0:Rat) (1:Rat) (0:Rat)
def Uqd(a b e d:Rat)(z:QC)(b_a:RL a 256)(b_b:RL b 256)(b_e:RL e 256)(b_d:RL d 256)(b_z:Qaj z)(hz:nNa z)(hq:¬(((wt1 a b e d).num.sign)=0))(sa:Qag a)(sb:Qag b)(se:Qag e)(sd:Qag d)(Kg:hKg a b e d):hAk 1 (Qbx a) (Qan ⟨b,e⟩) (Qbx d) (Qan z) 350 :=
  Qmn (l1 := [gfn 244,gl (.int .i64 0),gl (.int .i64 0),gl (.int .i64 1),gl (.int .i64 0),gl (.int .i64 2)] ++ (Qan (⟨0,1⟩ : QC)).cells) (l2 := [gr a,gr b,gr e,gr d]) (l3 := [gl .nilp,gl .nilp]) (Qas (L := [cF a,cF b,cF e,cF d,(Qan z).cells,(Qan (⟨0,1⟩ : QC)).cells,(Qan (⟨0,0⟩ : QC)).cells,cn z,[gr z.re,gr z.im,gxi z.im.num.sign,gr a,gr b,gr e,gr d,gr (0 : Rat),gr (1 : Rat),gr (wt1 a b e d),gxi ((wt1 a b e d).num.sign)]].flatten) Qae Qai
     [Qbw eo78,gpi 0 1 20,gpi 0 0 28,gs (Qgl z b_z) [yR 12 8] (.tup [sy [36,37],cTt]),gs (Qcr z ((Qab b_z).mn)) [sy [36,37]] (.tup [cS 38,cS 39]),gs (Qbb z.im) [cS 39] (rS 40),gs (Kg) [.row (gL [0,6])] (.r (lc 0)),gs (Qcm a sa) [yQ 0] (rS 41),gs (Qcm b sb) [yQ 3] (rS 42),gs (Qcm e se) [yQ 6] (rS 43),gs (Qcm d sd) [yQ 9] (rS 44),gs (pnr 0) [lc 0,lc 1] (rS 45),gs (pnr 1) [lc 1,lc 1] (rS 46),gs (Qjq a b e d (0:Rat) (0:Rat) (1:Rat) (0:Rat) b_a.mn b_b.mn b_e.mn b_d.mn (ri 0) (ri 0) (ri 1) (ri 0)) [yR 41 4,.row [.sym 45,.sym 45,.sym 46,.sym 45]] (rS 47),gs (Qbb (wt1 a b e d)) [cS 47] (rS 48)]
     [bLf 3 40 hz,bNt 3 48 hq] [] Qjw 1 4 func100 eo100 2000 [lc 1,.row (gL [0,6]),yR 12 8] (.tup [.row (flA [[.fn 244 [] [],.lit (.int .i64 0),.lit (.int .i64 0),.lit (.int .i64 1),.lit (.int .i64 0),.lit (.int .i64 2)],Qbd 20 8]),yR 41 4,.row [.lit .nilp,.lit .nilp],lc 350]))
def Uqi(a b e d:Rat)(z:Qbg)(b_a:RL a 256)(b_b:RL b 256)(b_e:RL e 256)(b_d:RL d 256)(b_z:Qbg.Sz z)(kz:¬(GOk z.val))(sa:Qag a)(sb:Qag b)(se:Qag e)(sd:Qag d)(Kg:hKg a b e d):hAk 2 (Qbx a) (Qan ⟨b,e⟩) (Qbx d) z 2 :=
  Qmn (l1 := [gfn 245,gl (.int .i64 1),gl (.int .i64 0),gl (.int .i64 0),gl (.int .i64 (-1)),gl (.int .i64 1)] ++ (Qan (⟨0,0⟩ : QC)).cells) (l2 := [gr a,gr b,gr e,gr d]) (l3 := [gl .nilp,gl .nilp]) (Qas (L := [cF a,cF b,cF e,cF d,z.cells,(Qan (⟨0,1⟩ : QC)).cells,(Qan (⟨0,0⟩ : QC)).cells,[ga,ga,gr a,gr b,gr e,gr d]].flatten) Qae Qai
     [Qbw eo78,gpi 0 1 20,gpi 0 0 28,gs (Krn z b_z false (fI kz)) [yR 12 8] (.tup [sy [36,37],cFf]),gs (Kg) [.row (gL [0,6])] (.r (lc 0)),gs (Qcm a sa) [yQ 0] (rS 38),gs (Qcm b sb) [yQ 3] (rS 39),gs (Qcm e se) [yQ 6] (rS 40),gs (Qcm d sd) [yQ 9] (rS 41)]
     [] [] Qjw 1 4 func100 eo100 2000 [lc 2,.row (gL [0,6]),yR 12 8] (.tup [.row (flA [[.fn 245 [] [],.lit (.int .i64 1),.lit (.int .i64 0),.lit (.int .i64 0),.lit (.int .i64 (-1)),.lit (.int .i64 1)],Qbd 28 8]),yR 38 4,.row [.lit .nilp,.lit .nilp],lc 2]))
def Uqk(a b e d:Rat)(z:QC)(b_a:RL a 256)(b_b:RL b 256)(b_e:RL e 256)(b_d:RL d 256)(b_z:Qaj z)(hz:nOb z)(sa:Qag a)(sb:Qag b)(se:Qag e)(sd:Qag d)(Kg:hKg a b e d):hAk 2 (Qbx a) (Qan ⟨b,e⟩) (Qbx d) (Qan z) 350 :=
  Qmn (l1 := [gfn 245,gl (.int .i64 1),gl (.int .i64 0),gl (.int .i64 0),gl (.int .i64 (-1)),gl (.int .i64 1)] ++ (Qan (⟨0,0⟩ : QC)).cells) (l2 := [gr a,gr b,gr e,gr d]) (l3 := [gl .nilp,gl .nilp]) (Qas (L := [cF a,cF b,cF e,cF d,(Qan z).cells,(Qan (⟨0,1⟩ : QC)).cells,(Qan (⟨0,0⟩ : QC)).cells,cn z,[gr (1 : Rat),gr (nm z),gr ((1 : Rat)-(nm z)),gxi (((1 : Rat)-(nm z)).num.sign),gr a,gr b,gr e,gr d]].flatten) Qae Qai
     [Qbw eo78,gpi 0 1 20,gpi 0 0 28,gs (Qgl z b_z) [yR 12 8] (.tup [sy [36,37],cTt]),gs (pnr 1) [lc 1,lc 1] (rS 38),gs (Qee z ((Qab b_z).mn)) [sy [36,37]] (rS 39),gs (Qcw (1:Rat) _ (ri 1) ((Qbe (Qab b_z)).mn)) [cS 38,cS 39] (rS 40),gs (Qbb ((1:Rat)-(nm z))) [cS 40] (rS 41),gs (Kg) [.row (gL [0,6])] (.r (lc 0)),gs (Qcm a sa) [yQ 0] (rS 42),gs (Qcm b sb) [yQ 3] (rS 43),gs (Qcm e se) [yQ 6] (rS 44),gs (Qcm d sd) [yQ 9] (rS 45)]
     [bLt 3 41 hz] [] Qjw 1 4 func100 eo100 2000 [lc 2,.row (gL [0,6]),yR 12 8] (.tup [.row (flA [[.fn 245 [] [],.lit (.int .i64 1),.lit (.int .i64 0),.lit (.int .i64 0),.lit (.int .i64 (-1)),.lit (.int .i64 1)],Qbd 28 8]),yR 42 4,.row [.lit .nilp,.lit .nilp],lc 350]))
def wt2(a b e d:Rat):Rat:=Qam a b e d (1:Rat) (0:Rat) (0:Rat) (-1:Rat)
def Uqj(a b e d:Rat)(z:QC)(b_a:RL a 256)(b_b:RL b 256)(b_e:RL e 256)(b_d:RL d 256)(b_z:Qaj z)(hz:nNb z)(hq:¬(((wt2 a b e d).num.sign)=0))(sa:Qag a)(sb:Qag b)(se:Qag e)(sd:Qag d)(Kg:hKg a b e d):hAk 2 (Qbx a) (Qan ⟨b,e⟩) (Qbx d) (Qan z) 350 :=
  Qmn (l1 := [gfn 245,gl (.int .i64 1),gl (.int .i64 0),gl (.int .i64 0),gl (.int .i64 (-1)),gl (.int .i64 1)] ++ (Qan (⟨0,0⟩ : QC)).cells) (l2 := [gr a,gr b,gr e,gr d]) (l3 := [gl .nilp,gl .nilp]) (Qas (L := [cF a,cF b,cF e,cF d,(Qan z).cells,(Qan (⟨0,1⟩ : QC)).cells,(Qan (⟨0,0⟩ : QC)).cells,cn z,[gr (1 : Rat),gr (nm z),gr ((1 : Rat)-(nm z)),gxi (((1 : Rat)-(nm z)).num.sign),gr a,gr b,gr e,gr d,gr (0 : Rat),gr (-1 : Rat),gr (wt2 a b e d),gxi ((wt2 a b e d).num.sign)]].flatten) Qae Qai
     [Qbw eo78,gpi 0 1 20,gpi 0 0 28,gs (Qgl z b_z) [yR 12 8] (.tup [sy [36,37],cTt]),gs (pnr 1) [lc 1,lc 1] (rS 38),gs (Qee z ((Qab b_z).mn)) [sy [36,37]] (rS 39),gs (Qcw (1:Rat) _ (ri 1) ((Qbe (Qab b_z)).mn)) [cS 38,cS 39] (rS 40),gs (Qbb ((1:Rat)-(nm z))) [cS 40] (rS 41),gs (Kg) [.row (gL [0,6])] (.r (lc 0)),gs (Qcm a sa) [yQ 0] (rS 42),gs (Qcm b sb) [yQ 3] (rS 43),gs (Qcm e se) [yQ 6] (rS 44),gs (Qcm d sd) [yQ 9] (rS 45),gs (pnr 0) [lc 0,lc 1] (rS 46),gs (pnr (-1)) [lc (-1),lc 1] (rS 47),gs (Qjq a b e d (1:Rat) (0:Rat) (0:Rat) (-1:Rat) b_a.mn b_b.mn b_e.mn b_d.mn (ri 1) (ri 0) (ri 0) (ri (-1))) [yR 42 4,.row [.sym 38,.sym 46,.sym 46,.sym 47]] (rS 48),gs (Qbb (wt2 a b e d)) [cS 48] (rS 49)]
     [bLf 3 41 hz,bNt 3 49 hq] [] Qjw 1 4 func100 eo100 2000 [lc 2,.row (gL [0,6]),yR 12 8] (.tup [.row (flA [[.fn 245 [] [],.lit (.int .i64 1),.lit (.int .i64 0),.lit (.int .i64 0),.lit (.int .i64 (-1)),.lit (.int .i64 1)],Qbd 28 8]),yR 42 4,.row [.lit .nilp,.lit .nilp],lc 350]))
def rU2(p:Int)(ya:Qbm)(yb:Qbg)(yc:Qbm)(z:Qbg)(Ak:hAk p ya yb yc z 2):SCt 22 [.c (gxi p),.row (ya.cells++yb.cells++yc.cells),.row (z.cells)] (.tup [.row (zGG++zGG),gIi 2]) :=
  Qco (L := [[gxi p],ya.cells,yb.cells,yc.cells,z.cells,gaN 14,gaN 4,gaN 2].flatten) Qae Qai
     [Qbw eo78,gs (Ak) [cS 0,yR 1 16,yR 17 8] (.tup [yR 25 14,yR 39 4,sy [43,44],lc 2])]
     [] [] func22 eo22 2000 [cS 0,yR 1 16,yR 17 8] (.tup [.row (flA [zGA,zGA]),lc 2])
def rF2(p:Int)(ya:Qbm)(yb:Qbg)(yc:Qbm)(z:Qbg)(Ak:hAk p ya yb yc z 2):SCt 23 [.c (gxi p),.row (ya.cells++yb.cells++yc.cells),.row (z.cells)] (.tup [.row (zGG),gIi 2]) :=
  Qco (L := [[gxi p],ya.cells,yb.cells,yc.cells,z.cells,gaN 14,gaN 4,gaN 2].flatten) Qae Qai
     [Qbw eo78,gs (Ak) [cS 0,yR 1 16,yR 17 8] (.tup [yR 25 14,yR 39 4,sy [43,44],lc 2])]
     [] [] func23 eo23 2000 [cS 0,yR 1 16,yR 17 8] (.tup [.row (zGA),lc 2])
def rV2(p:Int)(ya:Qbm)(yb:Qbg)(yc:Qbm)(z:Qbg)(Ak:hAk p ya yb yc z 2):SCt 24 [.c (gxi p),.row (ya.cells++yb.cells++yc.cells),.row (z.cells)] (.tup [.row (zGG),gIi 2]) :=
  Qco (L := [[gxi p],ya.cells,yb.cells,yc.cells,z.cells,gaN 14,gaN 4,gaN 2].flatten) Qae Qai
     [Qbw eo78,gs (Ak) [cS 0,yR 1 16,yR 17 8] (.tup [yR 25 14,yR 39 4,sy [43,44],lc 2])]
     [] [] func24 eo24 2000 [cS 0,yR 1 16,yR 17 8] (.tup [.row (zGA),lc 2])
def Kme(p:Int)(ya:Qbm)(yb:Qbg)(yc:Qbm)(z:Qbg)(Ak:hAk p ya yb yc z 350):SCt 22 [.c (gxi p),.row (ya.cells++yb.cells++yc.cells),.row (z.cells)] (.tup [.row (zGG++zGG),gIi 350]) :=
  Qco (L := [[gxi p],ya.cells,yb.cells,yc.cells,z.cells,gaN 14,gaN 4,gaN 2].flatten) Qae Qai
     [Qbw eo78,gs (Ak) [cS 0,yR 1 16,yR 17 8] (.tup [yR 25 14,yR 39 4,sy [43,44],lc 350])]
     [] [] func22 eo22 2000 [cS 0,yR 1 16,yR 17 8] (.tup [.row (flA [zGA,zGA]),lc 350])
def Kmd(p:Int)(ya:Qbm)(yb:Qbg)(yc:Qbm)(z:Qbg)(Ak:hAk p ya yb yc z 350):SCt 23 [.c (gxi p),.row (ya.cells++yb.cells++yc.cells),.row (z.cells)] (.tup [.row (zGG),gIi 350]) :=
  Qco (L := [[gxi p],ya.cells,yb.cells,yc.cells,z.cells,gaN 14,gaN 4,gaN 2].flatten) Qae Qai
     [Qbw eo78,gs (Ak) [cS 0,yR 1 16,yR 17 8] (.tup [yR 25 14,yR 39 4,sy [43,44],lc 350])]
     [] [] func23 eo23 2000 [cS 0,yR 1 16,yR 17 8] (.tup [.row (zGA),lc 350])
def Kmf(p:Int)(ya:Qbm)(yb:Qbg)(yc:Qbm)(z:Qbg)(Ak:hAk p ya yb yc z 350):SCt 24 [.c (gxi p),.row (ya.cells++yb.cells++yc.cells),.row (z.cells)] (.tup [.row (zGG),gIi 350]) :=
  Qco (L := [[gxi p],ya.cells,yb.cells,yc.cells,z.cells,gaN 14,gaN 4,gaN 2].flatten) Qae Qai
     [Qbw eo78,gs (Ak) [cS 0,yR 1 16,yR 17 8] (.tup [yR 25 14,yR 39 4,sy [43,44],lc 350])]
     [] [] func24 eo24 2000 [cS 0,yR 1 16,yR 17 8] (.tup [.row (zGA),lc 350])
def Uxx{a b e d:Rat}(C:CO a b e d)(z:Qbg)(bz:Qbg.Sz z)(hs:¬Qus z)(Ct:hCt (Qbx a) (Qan ⟨b,e⟩) (Qbx d))(Pt:hPt 1)(K0:hK0 (Qbx a) (Qan ⟨b,e⟩) (Qbx d))(Kg:hKg a b e d):Law 1 (Qbx a) (Qan ⟨b,e⟩) (Qbx d) z:=by
 by_cases kz:GOk z.val
 .obtain⟨w,rfl,sw⟩:=Qse kz
  by_cases hi:0<w.im
  .by_cases he:e=0
   .exact in1 C he sw hi hs Ct Pt K0
   .obtain⟨If,Jf⟩:=(is1 C).2 he;have hq:¬(((wt1 a b e d).num.sign)=0):=Qii (by
     rw[show wt1 a b e d=e from by unfold wt1 Qam;grind];grind)
    have Ak:=Uqd a b e d w (Qao C.sa) (Qao C.sb) (Qao C.se) (Qao C.sd) sw (Qpu hi) hq C.sa C.sb C.se C.sd Kg;exact Uzg 1 _ _ _ _ hs Ct If (Kme _ _ _ _ _ Ak) (Kmd _ _ _ _ _ Ak) (Kmf _ _ _ _ _ Ak) Pt K0 Jf (Upn w sw (Qpu hi))
  .have ho:=Int.not_lt.1 (fun k=>hi (Qcy.1 k));have Ak:=Uqe a b e d w (Qao C.sa) (Qao C.sb) (Qao C.se) (Qao C.sd) sw ho C.sa C.sb C.se C.sd Kg
   by_cases he:e=0
   .obtain⟨It,Jt⟩:=(is1 C).1 he;exact Kqw 1 _ _ _ _ hs Ct It (Kme _ _ _ _ _ Ak) (Kmd _ _ _ _ _ Ak) (Kmf _ _ _ _ _ Ak) Pt K0 Jt (Krg w sw ho)
   .obtain⟨If,Jf⟩:=(is1 C).2 he;exact Kqv 1 _ _ _ _ hs Ct If (Kme _ _ _ _ _ Ak) (Kmd _ _ _ _ _ Ak) (Kmf _ _ _ _ _ Ak) Pt K0 Jf (Krg w sw ho)
 .have Ak:=Uqc a b e d z (Qao C.sa) (Qao C.sb) (Qao C.se) (Qao C.sd) bz kz C.sa C.sb C.se C.sd Kg
  by_cases he:e=0
  .obtain⟨It,Jt⟩:=(is1 C).1 he;exact Uph 1 _ _ _ _ hs Ct It (rU2 _ _ _ _ _ Ak) (rF2 _ _ _ _ _ Ak) (rV2 _ _ _ _ _ Ak) Pt K0 Jt (Upo z kz)
  .obtain⟨If,Jf⟩:=(is1 C).2 he;exact Upg 1 _ _ _ _ hs Ct If (rU2 _ _ _ _ _ Ak) (rF2 _ _ _ _ _ Ak) (rV2 _ _ _ _ _ Ak) Pt K0 Jf (Upo z kz)
def Uxy{a b e d:Rat}(C:CO a b e d)(z:Qbg)(bz:Qbg.Sz z)(hs:¬Qus z)(Ct:hCt (Qbx a) (Qan ⟨b,e⟩) (Qbx d))(Pt:hPt 2)(K0:hK0 (Qbx a) (Qan ⟨b,e⟩) (Qbx d))(Kg:hKg a b e d):Law 2 (Qbx a) (Qan ⟨b,e⟩) (Qbx d) z:=by
 by_cases kz:GOk z.val
 .obtain⟨w,rfl,sw⟩:=Qse kz
  by_cases hi:0<1-nm w
  .by_cases he:a=d
   .exact in2 C he sw hi hs Ct Pt K0
   .obtain⟨If,Jf⟩:=(is2 C).2 he;have hq:¬(((wt2 a b e d).num.sign)=0):=Qii (by
     rw[show wt2 a b e d=(a-d)/2 from by unfold wt2 Qam;grind];grind)
    have Ak:=Uqj a b e d w (Qao C.sa) (Qao C.sb) (Qao C.se) (Qao C.sd) sw (Qpu hi) hq C.sa C.sb C.se C.sd Kg;exact Uzg 2 _ _ _ _ hs Ct If (Kme _ _ _ _ _ Ak) (Kmd _ _ _ _ _ Ak) (Kmf _ _ _ _ _ Ak) Pt K0 Jf (Upp w sw (Qpu hi))
  .have ho:=Int.not_lt.1 (fun k=>hi (Qcy.1 k));have Ak:=Uqk a b e d w (Qao C.sa) (Qao C.sb) (Qao C.se) (Qao C.sd) sw ho C.sa C.sb C.se C.sd Kg
   by_cases he:a=d
   .obtain⟨It,Jt⟩:=(is2 C).1 he;exact Kqw 2 _ _ _ _ hs Ct It (Kme _ _ _ _ _ Ak) (Kmd _ _ _ _ _ Ak) (Kmf _ _ _ _ _ Ak) Pt K0 Jt (Krh w sw ho)
   .obtain⟨If,Jf⟩:=(is2 C).2 he;exact Kqv 2 _ _ _ _ hs Ct If (Kme _ _ _ _ _ Ak) (Kmd _ _ _ _ _ Ak) (Kmf _ _ _ _ _ Ak) Pt K0 Jf (Krh w sw ho)
 .have Ak:=Uqi a b e d z (Qao C.sa) (Qao C.sb) (Qao C.se) (Qao C.sd) bz kz C.sa C.sb C.se C.sd Kg
  by_cases he:a=d
  .obtain⟨It,Jt⟩:=(is2 C).1 he;exact Uph 2 _ _ _ _ hs Ct It (rU2 _ _ _ _ _ Ak) (rF2 _ _ _ _ _ Ak) (rV2 _ _ _ _ _ Ak) Pt K0 Jt (Upq z kz)
  .obtain⟨If,Jf⟩:=(is2 C).2 he;exact Upg 2 _ _ _ _ hs Ct If (rU2 _ _ _ _ _ Ak) (rF2 _ _ _ _ _ Ak) (rV2 _ _ _ _ _ Ak) Pt K0 Jf (Upq z kz)
def Uxv(ya:Qbm)(yb:Qbg)(yc:Qbm)(ba:ya.Sz)(bb:Qbg.Sz yb)(bc:yc.Sz)(z:Qbg)(bz:Qbg.Sz z)(hs:¬Qus z)(Ct:hCt ya yb yc)(Pt:hPt 1)(K2:hK2 ya yb yc)(Kp:hKp ya yb yc):Law 1 ya yb yc z:=by
 by_cases kz:GOk z.val
 .obtain⟨w,rfl,sw⟩:=Qse kz
  by_cases hi:0<w.im
  .have Ak:=Uqg ya yb yc w ba bb bc sw (Qpu hi) Kp;exact Ukw 1 _ _ _ _ hs Ct (Uio ya yb yc ba bb bc Kp) (rU2 _ _ _ _ _ Ak) (rF2 _ _ _ _ _ Ak) (rV2 _ _ _ _ _ Ak) Pt K2
  .have ho:=Int.not_lt.1 (fun k=>hi (Qcy.1 k));have Ak:=Uqh ya yb yc w ba bb bc sw ho Kp;exact Ukw 1 _ _ _ _ hs Ct (Uio ya yb yc ba bb bc Kp) (rU2 _ _ _ _ _ Ak) (rF2 _ _ _ _ _ Ak) (rV2 _ _ _ _ _ Ak) Pt K2
 .have Ak:=Uqf ya yb yc z ba bb bc bz kz Kp;exact Ukw 1 _ _ _ _ hs Ct (Uio ya yb yc ba bb bc Kp) (rU2 _ _ _ _ _ Ak) (rF2 _ _ _ _ _ Ak) (rV2 _ _ _ _ _ Ak) Pt K2
def Uxw(ya:Qbm)(yb:Qbg)(yc:Qbm)(ba:ya.Sz)(bb:Qbg.Sz yb)(bc:yc.Sz)(z:Qbg)(bz:Qbg.Sz z)(hs:¬Qus z)(Ct:hCt ya yb yc)(Pt:hPt 2)(K2:hK2 ya yb yc)(Kp:hKp ya yb yc):Law 2 ya yb yc z:=by
 by_cases kz:GOk z.val
 .obtain⟨w,rfl,sw⟩:=Qse kz
  by_cases hi:0<1-nm w
  .have Ak:=Uqm ya yb yc w ba bb bc sw (Qpu hi) Kp;exact Ukw 2 _ _ _ _ hs Ct (Uip ya yb yc ba bb bc Kp) (rU2 _ _ _ _ _ Ak) (rF2 _ _ _ _ _ Ak) (rV2 _ _ _ _ _ Ak) Pt K2
  .have ho:=Int.not_lt.1 (fun k=>hi (Qcy.1 k));have Ak:=Uqn ya yb yc w ba bb bc sw ho Kp;exact Ukw 2 _ _ _ _ hs Ct (Uip ya yb yc ba bb bc Kp) (rU2 _ _ _ _ _ Ak) (rF2 _ _ _ _ _ Ak) (rV2 _ _ _ _ _ Ak) Pt K2
 .have Ak:=Uql ya yb yc z ba bb bc bz kz Kp;exact Ukw 2 _ _ _ _ hs Ct (Uip ya yb yc ba bb bc Kp) (rU2 _ _ _ _ _ Ak) (rF2 _ _ _ _ _ Ak) (rV2 _ _ _ _ _ Ak) Pt K2
