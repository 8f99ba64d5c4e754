/- Laws for the walk. -/
import Derived.Test.YtmimficdpfmfgaaGreatUbn
import Derived.Test.YtmimficdpfmfgaaGreatUbu
set_option linter.unusedVariables false
set_option linter.unusedSimpArgs false
set_option maxHeartbeats 4000000
set_option maxRecDepth 100000
namespace Go.Proofs.YtmimficdpfmfgaaGreat
open Go.RowKit Tr
open Classical
def smHL(g1 g2 g3:Qbp):List GF:=[g1.cells,g2.cells,g3.cells,[gxi (Sz g1.s1)],[gxi (Sz g1.s2)],[gxi (Sz g1.s3)],[gxi (Sz g1.s4)],[gxi (Sz g2.s1)],[gxi (Sz g2.s2)],[gxi (Sz g2.s3)],[gxi (Sz g2.s4)],[gxi (Sz g3.s1)],[gxi (Sz g3.s2)],[gxi (Sz g3.s3)],[gxi (Sz g3.s4)]].flatten
def smHP(g1 g2 g3:Qbp)(k:Nat):Prop:=([(Sz g1.s1)>24,(Sz g1.s2)>24,(Sz g1.s3)>24,(Sz g1.s4)>24,(Sz g2.s1)>24,(Sz g2.s2)>24,(Sz g2.s3)>24,(Sz g2.s4)>24,(Sz g3.s1)>24,(Sz g3.s2)>24,(Sz g3.s3)>24,(Sz g3.s4)>24]:List Prop).getD k False
def smHO(g1 g2 g3:Qbp):List (GO Tryz.prog (smHL g1 g2 g3)):=[lS (.sym 1) g1.s1 (.sym 24),lS (.sym 3) g1.s2 (.sym 25),lS (.sym 5) g1.s3 (.sym 26),lS (.sym 7) g1.s4 (.sym 27),lS (.sym 9) g2.s1 (.sym 28),lS (.sym 11) g2.s2 (.sym 29),lS (.sym 13) g2.s3 (.sym 30),lS (.sym 15) g2.s4 (.sym 31),lS (.sym 17) g3.s1 (.sym 32),lS (.sym 19) g3.s2 (.sym 33),lS (.sym 21) g3.s3 (.sym 34),lS (.sym 23) g3.s4 (.sym 35)]
def smHB(g1 g2 g3:Qbp)(r:Nat→Bool)(hr:∀ k,k<12→(r k=true↔smHP g1 g2 g3 k)):List (GB Tryz.prog (smHL g1 g2 g3)) :=
  [gtk 3 (.sym 24) (li 24) (Sz g1.s1) 24 (r 0) (hr 0 (by decide)),
   gtk 3 (.sym 25) (li 24) (Sz g1.s2) 24 (r 1) (hr 1 (by decide)),
   gtk 3 (.sym 26) (li 24) (Sz g1.s3) 24 (r 2) (hr 2 (by decide)),
   gtk 3 (.sym 27) (li 24) (Sz g1.s4) 24 (r 3) (hr 3 (by decide)),
   gtk 3 (.sym 28) (li 24) (Sz g2.s1) 24 (r 4) (hr 4 (by decide)),
   gtk 3 (.sym 29) (li 24) (Sz g2.s2) 24 (r 5) (hr 5 (by decide)),
   gtk 3 (.sym 30) (li 24) (Sz g2.s3) 24 (r 6) (hr 6 (by decide)),
   gtk 3 (.sym 31) (li 24) (Sz g2.s4) 24 (r 7) (hr 7 (by decide)),
   gtk 3 (.sym 32) (li 24) (Sz g3.s1) 24 (r 8) (hr 8 (by decide)),
   gtk 3 (.sym 33) (li 24) (Sz g3.s2) 24 (r 9) (hr 9 (by decide)),
   gtk 3 (.sym 34) (li 24) (Sz g3.s3) 24 (r 10) (hr 10 (by decide)),
   gtk 3 (.sym 35) (li 24) (Sz g3.s4) 24 (r 11) (hr 11 (by decide))]
theorem smHE(g1 g2 g3:Qbp)(r:Nat→Bool)(hr:∀ k,k<12→(r k=true↔smHP g1 g2 g3 k))(b:Bool)(hev:evL (gcx tys true (smHL g1 g2 g3) [] (smHB g1 g2 g3 r hr) (smHO g1 g2 g3)) Tryz.f9 2000 [⟨Qav 0 24,28,none⟩] [lc 24,.c (.sl 0 0 3 3)] (.r (.c (.lit (.bool b))))=true):SMt 9 [(g1.cells++g2.cells++g3.cells,28)] [.f (gIi 24),.sl 0 0 3 3] (B1 b) :=
 ev_sm (L:=smHL g1 g2 g3) Qad Qag [] (smHB g1 g2 g3 r hr) (smHO g1 g2 g3) Tryz.func9 eo9 2000 [⟨Qav 0 24,28,none⟩] [lc 24,.c (.sl 0 0 3 3)] (.r (.c (.lit (.bool b)))) hev
theorem smHT(g1 g2 g3:Qbp)(k:Nat)(hk:k<12)(h:∀ j,j<k→¬smHP g1 g2 g3 j)(hp:smHP g1 g2 g3 k):SMt 9 [(g1.cells++g2.cells++g3.cells,28)] [.f (gIi 24),.sl 0 0 3 3] (B1 false):=by
 rcases(by omega:k=0∨k=1∨k=2∨k=3∨k=4∨k=5∨k=6∨k=7∨k=8∨k=9∨k=10∨k=11) with rfl|rfl|rfl|rfl|rfl|rfl|rfl|rfl|rfl|rfl|rfl|rfl
 all_goals exact smHE g1 g2 g3 (rNk (smHP g1 g2 g3) _) (fun j _=>rNk_ok h hp j) false (by kernel_rfl)
def smHC(g1 g2 g3:Qbp):Prop:=∃ k,k<12∧smHP g1 g2 g3 k
theorem smH(g1 g2 g3:Qbp)(b:Bool)(hb:b=true↔¬smHC g1 g2 g3):SMt 9 [(g1.cells++g2.cells++g3.cells,28)] [.f (gIi 24),.sl 0 0 3 3] (B1 b):=by
 cases b
 ·obtain⟨k,hk,hp,h⟩:=leastk (Classical.byContradiction fun h=>by cases hb.2 h)
  exact smHT g1 g2 g3 k hk h hp
 ·exact smHE g1 g2 g3 (fun _=>false) (fun k hk=>⟨(fun e=>by cases e),fun e=>(hb.1 rfl ⟨k,hk,e⟩).elim⟩) true (by kernel_rfl)
theorem thr_L1(p:Int)(x z w:Qbp)(y:Qdg)(hs:smHC x z w):SCt 7 [.c (gxi p),.row (x.cells++z.cells++w.cells),.row (y.cells)] (.r gTt) :=
  Qai (L := [[gxi p],x.cells,z.cells,w.cells,y.cells].flatten) Qad Qag
     [gsm (smH x z w false ⟨(fun e=>by cases e),fun k_=>(k_ hs).elim⟩) [18] [⟨Qav 1 24,28,none⟩] [lc 24,.c (.sl 0 0 3 3)] vFf,gs (Qdr) [] vTt]
     [] [] ((fs18 .nil):Tr.FnsOk Tryz.prog _) 1 1 Tryz.func7 eo7 2000 [cS 0,yR 1 24,yR 25 4] vTt
theorem thr_L2(p:Int)(x z w:Qbp)(y:Qdg)(hs:¬(smHC x z w))(l1:(Sz y.s1)>24):SCt 7 [.c (gxi p),.row (x.cells++z.cells++w.cells),.row (y.cells)] (.r gTt) :=
  Qai (L := [[gxi p],x.cells,z.cells,w.cells,y.cells,[gxi (Sz y.s1)]].flatten) Qad Qag
     [gsm (smH x z w true ⟨fun _=>hs,fun _=>rfl⟩) [18] [⟨Qav 1 24,28,none⟩] [lc 24,.c (.sl 0 0 3 3)] vTt,gs (Qdr) [] vTt]
     [gtY 3 (.sym 29) (li 24) (Sz y.s1) 24 l1] [lS (.sym 26) y.s1 (.sym 29)] ((fs18 .nil):Tr.FnsOk Tryz.prog _) 1 1 Tryz.func7 eo7 2000 [cS 0,yR 1 24,yR 25 4] vTt
theorem thr_L3(p:Int)(x z w:Qbp)(y:Qdg)(hs:¬(smHC x z w))(l1:¬((Sz y.s1)>24))(l2:(Sz y.s2)>24):SCt 7 [.c (gxi p),.row (x.cells++z.cells++w.cells),.row (y.cells)] (.r gTt) :=
  Qai (L := [[gxi p],x.cells,z.cells,w.cells,y.cells,[gxi (Sz y.s1)],[gxi (Sz y.s2)]].flatten) Qad Qag
     [gsm (smH x z w true ⟨fun _=>hs,fun _=>rfl⟩) [18] [⟨Qav 1 24,28,none⟩] [lc 24,.c (.sl 0 0 3 3)] vTt,gs (Qdr) [] vTt]
     [gtN 3 (.sym 29) (li 24) (Sz y.s1) 24 l1,gtY 3 (.sym 30) (li 24) (Sz y.s2) 24 l2] [lS (.sym 26) y.s1 (.sym 29),lS (.sym 28) y.s2 (.sym 30)] ((fs18 .nil):Tr.FnsOk Tryz.prog _) 1 1 Tryz.func7 eo7 2000 [cS 0,yR 1 24,yR 25 4] vTt
def hA(p:Int)(x:Qbp)(y:Qdg)(ca:Qdg)(cb:Qbp)(cc:Qdg)(c1:Int):Prop:=SCt 54 [.c (gxi p),.row x.cells,.row y.cells] (.tup [.row (ca.cells++cb.cells++cc.cells),.c (gxi c1)])
def hBt(p:Int)(x z w:Qbp):Prop:=SCt 55 [.c (gxi p),.row z.cells,.row x.cells,.row w.cells] (.tup [gTt,gIi 0])
def hDt(p:Int)(x z w:Qbp):Prop:=SCt 61 [.c (gxi p),.row z.cells,.row x.cells,.row w.cells] (.r gTt)
def hMt(y:Qdg):Prop:=SCt 57 [.row y.cells] (.r gTt)
def hBf(p:Int)(x z w:Qbp):Prop:=SCt 55 [.c (gxi p),.row z.cells,.row x.cells,.row w.cells] (.tup [gFf,gIi 0])
def hDf(p:Int)(x z w:Qbp):Prop:=SCt 61 [.c (gxi p),.row z.cells,.row x.cells,.row w.cells] (.r gFf)
def hMf(y:Qdg):Prop:=SCt 57 [.row y.cells] (.r gFf)
def hP0(p:Int)(x z w:Qbp):Prop:=SMt 29 [(x.cells++z.cells++w.cells,28)] [.f (.c (gxi p)),.sl 0 0 3 3] (.r (gIi 0))
def hB2(p:Int)(x z w:Qbp):Prop:=SCt 55 [.c (gxi p),.row z.cells,.row x.cells,.row w.cells] (.tup [gFf,gIi 2])
def hP2(p:Int)(x z w:Qbp):Prop:=SMt 29 [(x.cells++z.cells++w.cells,28)] [.f (.c (gxi p)),.sl 0 0 3 3] (.r (gIi 2))
def hB350(p:Int)(x z w:Qbp):Prop:=SCt 55 [.c (gxi p),.row z.cells,.row x.cells,.row w.cells] (.tup [gFf,gIi 350])
def hP350(p:Int)(x z w:Qbp):Prop:=SMt 29 [(x.cells++z.cells++w.cells,28)] [.f (.c (gxi p)),.sl 0 0 3 3] (.r (gIi 350))
def hG2(p:Int)(x z w:Qbp):Prop:=SCt 56 [.c (gxi p),.row x.cells,.row z.cells,.row w.cells] (.tup [.row zFG,gIi 0,gIi 2])
def hG4(p:Int)(x z w:Qbp):Prop:=SCt 56 [.c (gxi p),.row x.cells,.row z.cells,.row w.cells] (.tup [.row zFG,gIi 0,gIi 4])
def hG200(p:Int)(x z w:Qbp):Prop:=SCt 56 [.c (gxi p),.row x.cells,.row z.cells,.row w.cells] (.tup [.row zFG,gIi 0,gIi 200])
def hG350(p:Int)(x z w:Qbp):Prop:=SCt 56 [.c (gxi p),.row x.cells,.row z.cells,.row w.cells] (.tup [.row zFG,gIi 0,gIi 350])
def hG0(p:Int)(x z w:Qbp)(q:Rat)(s:Int):Prop:=SCt 56 [.c (gxi p),.row x.cells,.row z.cells,.row w.cells] (.tup [.row (rF q),.c (gxi s),gIi 0])
def hW(p:Int)(x z w:Qbp)(q:Rat)(s:Int):Prop:=SCt 62 [.c (gxi p),.row x.cells,.row z.cells,.row w.cells] (.tup [.row (rF q),.c (gxi s)])
def hN(p:Int)(x:Qbp)(n1:Int):Prop:=SMt 29 [(x.cells,28)] [.f (.c (gxi p)),.sl 0 0 1 1] (.r (.c (gxi n1)))
def hC(y:Qdg)(k:Int):Prop:=SCt 58 [.row y.cells,.row (rF (1:Rat))] (.r (.c (gxi k)))
def hE(p:Int)(x:Qbp)(y:Qdg)(ca:Qdg)(cb:Qbp)(cc:Qdg)(c1 no:Int):Prop:=SMt 26 [([gxi p],3),(x.cells,28),(y.cells,26)] [.f (.row (ca.cells++cb.cells++cc.cells)),.f (.c (gxi c1)),.f (.c (gxi no)),.fn 59 [] [0,1,2]] (.r gTt)
def hT0(q:Rat):Prop:=SMt 41 [(rF q,26)] [.f (.row (rF q)),.f (gIi 0),.f (gIi 0),.fn 63 [] [0]] (.r gTt)
def hT4(q:Rat):Prop:=SMt 41 [(rF q,26)] [.f (.row (zFG)),.f (gIi 4),.f (gIi 0),.fn 63 [] [0]] (.r gTt)
theorem wtfl6:FnsOk Tryz.prog [⟨18,Tryz.f18,2000⟩,⟨41,Tryz.f41,2000⟩]:=(fs18 (fs41 .nil))
section
variable(p:Int)(x z w:Qbp)(y:Qdg)(hs:¬(smHC x z w))(l1:¬((Sz y.s1)>24))(l2:¬((Sz y.s2)>24))(ca:Qdg)(cb:Qbp)(cc:Qdg)(c1 n1:Int)
include hs l1 l2
theorem thr_b2
  (A:hA p x y ca cb cc c1) (B2:hB2 p x z w) (G2:hG2 p x z w) (P2:hP2 p x z w) (N:hN p x n1) (Mf:hMf y) (E:hE p x y ca cb cc c1 (2:Int)):SCt 7 [.c (gxi p),.row (x.cells++z.cells++w.cells),.row (y.cells)] (.r gTt) :=
  Qai (L := [[gxi p],x.cells,z.cells,w.cells,y.cells,[gxi (Sz y.s1)],[gxi (Sz y.s2)],ca.cells,cb.cells,cc.cells,[gxi c1],[gxi n1]].flatten) Qad Qag
     [gsm (smH x z w true ⟨fun _=>hs,fun _=>rfl⟩) [18] [⟨Qav 1 24,28,none⟩] [lc 24,.c (.sl 0 0 3 3)] vTt,gs (A) [cS 0,yR 1 8,yR 25 4] (.tup [yR 31 16,cS 47]),gs (B2) [cS 0,yR 9 8,yR 1 8,yR 17 8] (.tup [cFf,lc 2]),gs (G2) [cS 0,yR 1 8,yR 9 8,yR 17 8] (.tup [.row (zFA),lc 0,lc 2]),
      gsm (N) [73] [⟨Qav 1 8,28,none⟩] [cS 0,.c (.sl 0 0 1 1)] (rS 48),gs (Mf) [yR 25 4] vFf,
      gsm (E) [36,9,1] [⟨[.sym 0],3,none⟩,⟨Qav 1 8,28,none⟩,⟨Qav 25 4,26,none⟩] [yR 31 16,cS 47,lc 2,.c (.fn 59 [] [0,1,2])] vTt,
      gsm (P2) [96] [⟨Qav 1 24,28,none⟩] [cS 0,.c (.sl 0 0 3 3)] (.r (lc 2)),gs (Qdr) [] vTt]
     [gtN 3 (.sym 29) (li 24) (Sz y.s1) 24 l1,gtN 3 (.sym 30) (li 24) (Sz y.s2) 24 l2,Qen 4 Tryz.underlying4 false false,Qfh 26 (.row (zFA)) (.row (zFA)) (.agg (zV 2).toArray) (fun _ _ _=>by kernel_rfl)] [lS (.sym 26) y.s1 (.sym 29),lS (.sym 28) y.s2 (.sym 30)] wtfl6 1 2 Tryz.func7 eo7 2000 [cS 0,yR 1 24,yR 25 4] vTt
theorem thr_b350
  (A:hA p x y ca cb cc c1) (B350:hB350 p x z w) (G350:hG350 p x z w) (P350:hP350 p x z w) (N:hN p x n1) (Mf:hMf y) (E:hE p x y ca cb cc c1 (2:Int)):SCt 7 [.c (gxi p),.row (x.cells++z.cells++w.cells),.row (y.cells)] (.r gTt) :=
  Qai (L := [[gxi p],x.cells,z.cells,w.cells,y.cells,[gxi (Sz y.s1)],[gxi (Sz y.s2)],ca.cells,cb.cells,cc.cells,[gxi c1],[gxi n1]].flatten) Qad Qag
     [gsm (smH x z w true ⟨fun _=>hs,fun _=>rfl⟩) [18] [⟨Qav 1 24,28,none⟩] [lc 24,.c (.sl 0 0 3 3)] vTt,gs (A) [cS 0,yR 1 8,yR 25 4] (.tup [yR 31 16,cS 47]),gs (B350) [cS 0,yR 9 8,yR 1 8,yR 17 8] (.tup [cFf,lc 350]),gs (G350) [cS 0,yR 1 8,yR 9 8,yR 17 8] (.tup [.row (zFA),lc 0,lc 350]),
      gsm (N) [73] [⟨Qav 1 8,28,none⟩] [cS 0,.c (.sl 0 0 1 1)] (rS 48),gs (Mf) [yR 25 4] vFf,
      gsm (E) [36,9,1] [⟨[.sym 0],3,none⟩,⟨Qav 1 8,28,none⟩,⟨Qav 25 4,26,none⟩] [yR 31 16,cS 47,lc 2,.c (.fn 59 [] [0,1,2])] vTt,
      gsm (P350) [96] [⟨Qav 1 24,28,none⟩] [cS 0,.c (.sl 0 0 3 3)] (.r (lc 350)),gs (Qdr) [] vTt]
     [gtN 3 (.sym 29) (li 24) (Sz y.s1) 24 l1,gtN 3 (.sym 30) (li 24) (Sz y.s2) 24 l2,Qen 4 Tryz.underlying4 false false,Qfh 26 (.row (zFA)) (.row (zFA)) (.agg (zV 2).toArray) (fun _ _ _=>by kernel_rfl)] [lS (.sym 26) y.s1 (.sym 29),lS (.sym 28) y.s2 (.sym 30)] wtfl6 1 2 Tryz.func7 eo7 2000 [cS 0,yR 1 24,yR 25 4] vTt
theorem thr_bz(e1:x=z)
  (A:hA p x y ca cb cc c1) (Bt:hBt p x z w) (Dt:hDt p x z w) (G200:hG200 p x z w) (P0:hP0 p x z w) (N:hN p x n1) (Mf:hMf y) (E:hE p x y ca cb cc c1 (2:Int)):SCt 7 [.c (gxi p),.row (x.cells++z.cells++w.cells),.row (y.cells)] (.r gTt) :=
  Qai (L := [[gxi p],x.cells,z.cells,w.cells,y.cells,[gxi (Sz y.s1)],[gxi (Sz y.s2)],ca.cells,cb.cells,cc.cells,[gxi c1],[gxi n1]].flatten) Qad Qag
     [gsm (smH x z w true ⟨fun _=>hs,fun _=>rfl⟩) [18] [⟨Qav 1 24,28,none⟩] [lc 24,.c (.sl 0 0 3 3)] vTt,gs (A) [cS 0,yR 1 8,yR 25 4] (.tup [yR 31 16,cS 47]),gs (Bt) [cS 0,yR 9 8,yR 1 8,yR 17 8] (.tup [cTt,lc 0]),gs (G200) [cS 0,yR 1 8,yR 9 8,yR 17 8] (.tup [.row (zFA),lc 0,lc 200]),
      gsm (N) [73] [⟨Qav 1 8,28,none⟩] [cS 0,.c (.sl 0 0 1 1)] (rS 48),gs (Mf) [yR 25 4] vFf,
      gsm (E) [36,9,1] [⟨[.sym 0],3,none⟩,⟨Qav 1 8,28,none⟩,⟨Qav 25 4,26,none⟩] [yR 31 16,cS 47,lc 2,.c (.fn 59 [] [0,1,2])] vTt,
      gsm (P0) [96] [⟨Qav 1 24,28,none⟩] [cS 0,.c (.sl 0 0 3 3)] (.r (lc 0)),gs (Dt) [cS 0,yR 9 8,yR 1 8,yR 17 8] vTt,gs (Qdr) [] vTt]
     [gtN 3 (.sym 29) (li 24) (Sz y.s1) 24 l1,gtN 3 (.sym 30) (li 24) (Sz y.s2) 24 l2,Qen 4 Tryz.underlying4 true true,bG (yR 1 8) (yR 9 8) x z true (tI e1),Qfh 26 (.row (zFA)) (.row (zFA)) (.agg (zV 2).toArray) (fun _ _ _=>by kernel_rfl)] [lS (.sym 26) y.s1 (.sym 29),lS (.sym 28) y.s2 (.sym 30)] wtfl6 1 2 Tryz.func7 eo7 2000 [cS 0,yR 1 24,yR 25 4] vTt
theorem thr_bw(e1:¬(x=z))(e2:x=w)
  (A:hA p x y ca cb cc c1) (Bt:hBt p x z w) (Dt:hDt p x z w) (G200:hG200 p x z w) (P0:hP0 p x z w) (N:hN p x n1) (Mf:hMf y) (E:hE p x y ca cb cc c1 (2:Int)):SCt 7 [.c (gxi p),.row (x.cells++z.cells++w.cells),.row (y.cells)] (.r gTt) :=
  Qai (L := [[gxi p],x.cells,z.cells,w.cells,y.cells,[gxi (Sz y.s1)],[gxi (Sz y.s2)],ca.cells,cb.cells,cc.cells,[gxi c1],[gxi n1]].flatten) Qad Qag
     [gsm (smH x z w true ⟨fun _=>hs,fun _=>rfl⟩) [18] [⟨Qav 1 24,28,none⟩] [lc 24,.c (.sl 0 0 3 3)] vTt,gs (A) [cS 0,yR 1 8,yR 25 4] (.tup [yR 31 16,cS 47]),gs (Bt) [cS 0,yR 9 8,yR 1 8,yR 17 8] (.tup [cTt,lc 0]),gs (G200) [cS 0,yR 1 8,yR 9 8,yR 17 8] (.tup [.row (zFA),lc 0,lc 200]),
      gsm (N) [73] [⟨Qav 1 8,28,none⟩] [cS 0,.c (.sl 0 0 1 1)] (rS 48),gs (Mf) [yR 25 4] vFf,
      gsm (E) [36,9,1] [⟨[.sym 0],3,none⟩,⟨Qav 1 8,28,none⟩,⟨Qav 25 4,26,none⟩] [yR 31 16,cS 47,lc 2,.c (.fn 59 [] [0,1,2])] vTt,
      gsm (P0) [96] [⟨Qav 1 24,28,none⟩] [cS 0,.c (.sl 0 0 3 3)] (.r (lc 0)),gs (Dt) [cS 0,yR 9 8,yR 1 8,yR 17 8] vTt,gs (Qdr) [] vTt]
     [gtN 3 (.sym 29) (li 24) (Sz y.s1) 24 l1,gtN 3 (.sym 30) (li 24) (Sz y.s2) 24 l2,Qen 4 Tryz.underlying4 true true,bG (yR 1 8) (yR 9 8) x z false (fI e1),bG (yR 1 8) (yR 17 8) x w true (tI e2),Qfh 26 (.row (zFA)) (.row (zFA)) (.agg (zV 2).toArray) (fun _ _ _=>by kernel_rfl)] [lS (.sym 26) y.s1 (.sym 29),lS (.sym 28) y.s2 (.sym 30)] wtfl6 1 2 Tryz.func7 eo7 2000 [cS 0,yR 1 24,yR 25 4] vTt
theorem thr_bt0(e1:¬(x=z))(e2:¬(x=w))   (q:Rat) (s:Int)
  (A:hA p x y ca cb cc c1) (Bt:hBt p x z w) (Dt:hDt p x z w) (G0:hG0 p x z w q s) (W:hW p x z w q s) (P0:hP0 p x z w) (N:hN p x n1) (Mf:hMf y) (E:hE p x y ca cb cc c1 (2:Int)) (T0:hT0 q):SCt 7 [.c (gxi p),.row (x.cells++z.cells++w.cells),.row (y.cells)] (.r gTt) :=
  Qai (L := [[gxi p],x.cells,z.cells,w.cells,y.cells,[gxi (Sz y.s1)],[gxi (Sz y.s2)],ca.cells,cb.cells,cc.cells,[gxi c1],cF q,[gxi s],[gxi n1],cF q,[gxi s]].flatten) Qad Qag
     [gsm (smH x z w true ⟨fun _=>hs,fun _=>rfl⟩) [18] [⟨Qav 1 24,28,none⟩] [lc 24,.c (.sl 0 0 3 3)] vTt,gs (A) [cS 0,yR 1 8,yR 25 4] (.tup [yR 31 16,cS 47]),gs (Bt) [cS 0,yR 9 8,yR 1 8,yR 17 8] (.tup [cTt,lc 0]),gs (G0) [cS 0,yR 1 8,yR 9 8,yR 17 8] (.tup [yQ 48,cS 51,lc 0]),
      gsm (N) [73] [⟨Qav 1 8,28,none⟩] [cS 0,.c (.sl 0 0 1 1)] (rS 52),gs (Mf) [yR 25 4] vFf,
      gsm (E) [36,9,1] [⟨[.sym 0],3,none⟩,⟨Qav 1 8,28,none⟩,⟨Qav 25 4,26,none⟩] [yR 31 16,cS 47,lc 2,.c (.fn 59 [] [0,1,2])] vTt,
      gsm (P0) [96] [⟨Qav 1 24,28,none⟩] [cS 0,.c (.sl 0 0 3 3)] (.r (lc 0)),gs (Dt) [cS 0,yR 9 8,yR 1 8,yR 17 8] vTt,gs (W) [cS 0,yR 1 8,yR 9 8,yR 17 8] (.tup [yQ 53,cS 56]),
      gsm (T0) [138] [⟨(qS 53),26,none⟩] [yQ 48,lc 0,lc 0,.c (.fn 63 [] [0])] vTt,gs (Qdr) [] vTt]
     [gtN 3 (.sym 29) (li 24) (Sz y.s1) 24 l1,gtN 3 (.sym 30) (li 24) (Sz y.s2) 24 l2,Qen 4 Tryz.underlying4 true true,bG (yR 1 8) (yR 9 8) x z false (fI e1),bG (yR 1 8) (yR 17 8) x w false (fI e2),bI .eql 3 (.sym 51) (.sym 56) s s true (by simp[Qdn])] [lS (.sym 26) y.s1 (.sym 29),lS (.sym 28) y.s2 (.sym 30)] ((fs18 .nil):Tr.FnsOk Tryz.prog _) 1 1 Tryz.func7 eo7 2000 [cS 0,yR 1 24,yR 25 4] vTt
omit hs l1 l2 in
def thr_bt4_L(p:Int)(x z w:Qbp)(y:Qdg)(ca:Qdg)(cb:Qbp)(cc:Qdg)(c1 n1:Int)(q:Rat)(s:Int):List GF:=[[gxi p],x.cells,z.cells,w.cells,y.cells,[gxi (Sz y.s1)],[gxi (Sz y.s2)],ca.cells,cb.cells,cc.cells,[gxi c1],[gxi n1],cF q,[gxi s]].flatten
omit hs l1 l2 in
noncomputable def thr_bt4_T1(p:Int)(x z w:Qbp)(y:Qdg)(hs:¬(smHC x z w))(ca:Qdg)(cb:Qbp)(cc:Qdg)(c1 n1:Int)(q:Rat)(s:Int)(A:hA p x y ca cb cc c1)(Bt:hBt p x z w)(Dt:hDt p x z w)(G4:hG4 p x z w)(W:hW p x z w q s)(P0:hP0 p x z w)(N:hN p x n1)(Mf:hMf y)(E:hE p x y ca cb cc c1 (2:Int))(T4:hT4 q):List (GC Tryz.prog (thr_bt4_L p x z w y ca cb cc c1 n1 q s) true):=[gsm (smH x z w true ⟨fun _=>hs,fun _=>rfl⟩) [18] [⟨Qav 1 24,28,none⟩] [lc 24,.c (.sl 0 0 3 3)] vTt,gs (A) [cS 0,yR 1 8,yR 25 4] (.tup [yR 31 16,cS 47]),gs (Bt) [cS 0,yR 9 8,yR 1 8,yR 17 8] (.tup [cTt,lc 0]),gs (G4) [cS 0,yR 1 8,yR 9 8,yR 17 8] (.tup [.row (zFA),lc 0,lc 4]),
   gsm (N) [73] [⟨Qav 1 8,28,none⟩] [cS 0,.c (.sl 0 0 1 1)] (rS 48),gs (Mf) [yR 25 4] vFf,
   gsm (E) [36,9,1] [⟨[.sym 0],3,none⟩,⟨Qav 1 8,28,none⟩,⟨Qav 25 4,26,none⟩] [yR 31 16,cS 47,lc 2,.c (.fn 59 [] [0,1,2])] vTt,
   gsm (P0) [96] [⟨Qav 1 24,28,none⟩] [cS 0,.c (.sl 0 0 3 3)] (.r (lc 0)),gs (Dt) [cS 0,yR 9 8,yR 1 8,yR 17 8] vTt,gs (W) [cS 0,yR 1 8,yR 9 8,yR 17 8] (.tup [yQ 49,cS 52]),
   gsm (T4) [138] [⟨(qS 49),26,none⟩] [.row (zFA),lc 4,lc 0,.c (.fn 63 [] [0])] vTt,gs (Qdr) [] vTt]
theorem thr_bt4(e1:¬(x=z))(e2:¬(x=w))   (q:Rat) (s:Int)
  (A:hA p x y ca cb cc c1) (Bt:hBt p x z w) (Dt:hDt p x z w) (G4:hG4 p x z w) (W:hW p x z w q s) (P0:hP0 p x z w) (N:hN p x n1) (Mf:hMf y) (E:hE p x y ca cb cc c1 (2:Int)) (T4:hT4 q):SCt 7 [.c (gxi p),.row (x.cells++z.cells++w.cells),.row (y.cells)] (.r gTt) :=
  (Classical.em (0 = s)).elim (fun h0 => Qai (L := thr_bt4_L p x z w y ca cb cc c1 n1 q s) Qad Qag
     (thr_bt4_T1 p x z w y hs ca cb cc c1 n1 q s A Bt Dt G4 W P0 N Mf E T4)
     [gtN 3 (.sym 29) (li 24) (Sz y.s1) 24 l1,gtN 3 (.sym 30) (li 24) (Sz y.s2) 24 l2,Qen 4 Tryz.underlying4 true true,bG (yR 1 8) (yR 9 8) x z false (fI e1),bG (yR 1 8) (yR 17 8) x w false (fI e2),bI .eql 3 (li 0) (.sym 52) 0 s true (by simp[Qdn,h0])] [lS (.sym 26) y.s1 (.sym 29),lS (.sym 28) y.s2 (.sym 30)] ((fs18 .nil):Tr.FnsOk Tryz.prog _) 1 1 Tryz.func7 eo7 2000 [cS 0,yR 1 24,yR 25 4] vTt)
   (fun h0=>Qai (L:=thr_bt4_L p x z w y ca cb cc c1 n1 q s) Qad Qag
     (thr_bt4_T1 p x z w y hs ca cb cc c1 n1 q s A Bt Dt G4 W P0 N Mf E T4)
     [gtN 3 (.sym 29) (li 24) (Sz y.s1) 24 l1,gtN 3 (.sym 30) (li 24) (Sz y.s2) 24 l2,Qen 4 Tryz.underlying4 true true,bG (yR 1 8) (yR 9 8) x z false (fI e1),bG (yR 1 8) (yR 17 8) x w false (fI e2),bI .eql 3 (li 0) (.sym 52) 0 s false (by simp[Qdn,h0])] [lS (.sym 26) y.s1 (.sym 29),lS (.sym 28) y.s2 (.sym 30)] ((fs18 .nil):Tr.FnsOk Tryz.prog _) 1 1 Tryz.func7 eo7 2000 [cS 0,yR 1 24,yR 25 4] vTt)
theorem thr_bf0(e1:¬(x=z))(e2:¬(x=w))   (q:Rat) (s:Int)
  (A:hA p x y ca cb cc c1) (Bf:hBf p x z w) (Df:hDf p x z w) (G0:hG0 p x z w q s) (W:hW p x z w q s) (P0:hP0 p x z w) (N:hN p x n1) (Mf:hMf y) (E:hE p x y ca cb cc c1 (2:Int)) (T0:hT0 q):SCt 7 [.c (gxi p),.row (x.cells++z.cells++w.cells),.row (y.cells)] (.r gTt) :=
  Qai (L := [[gxi p],x.cells,z.cells,w.cells,y.cells,[gxi (Sz y.s1)],[gxi (Sz y.s2)],ca.cells,cb.cells,cc.cells,[gxi c1],cF q,[gxi s],[gxi n1],cF q,[gxi s]].flatten) Qad Qag
     [gsm (smH x z w true ⟨fun _=>hs,fun _=>rfl⟩) [18] [⟨Qav 1 24,28,none⟩] [lc 24,.c (.sl 0 0 3 3)] vTt,gs (A) [cS 0,yR 1 8,yR 25 4] (.tup [yR 31 16,cS 47]),gs (Bf) [cS 0,yR 9 8,yR 1 8,yR 17 8] (.tup [cFf,lc 0]),gs (G0) [cS 0,yR 1 8,yR 9 8,yR 17 8] (.tup [yQ 48,cS 51,lc 0]),
      gsm (N) [73] [⟨Qav 1 8,28,none⟩] [cS 0,.c (.sl 0 0 1 1)] (rS 52),gs (Mf) [yR 25 4] vFf,
      gsm (E) [36,9,1] [⟨[.sym 0],3,none⟩,⟨Qav 1 8,28,none⟩,⟨Qav 25 4,26,none⟩] [yR 31 16,cS 47,lc 2,.c (.fn 59 [] [0,1,2])] vTt,
      gsm (P0) [96] [⟨Qav 1 24,28,none⟩] [cS 0,.c (.sl 0 0 3 3)] (.r (lc 0)),gs (Df) [cS 0,yR 9 8,yR 1 8,yR 17 8] vFf,gs (W) [cS 0,yR 1 8,yR 9 8,yR 17 8] (.tup [yQ 53,cS 56]),
      gsm (T0) [138] [⟨(qS 53),26,none⟩] [yQ 48,lc 0,lc 0,.c (.fn 63 [] [0])] vTt,gs (Qdr) [] vTt]
     [gtN 3 (.sym 29) (li 24) (Sz y.s1) 24 l1,gtN 3 (.sym 30) (li 24) (Sz y.s2) 24 l2,Qen 4 Tryz.underlying4 false false,bG (yR 1 8) (yR 9 8) x z false (fI e1),bG (yR 1 8) (yR 17 8) x w false (fI e2),bI .eql 3 (.sym 51) (.sym 56) s s true (by simp[Qdn])] [lS (.sym 26) y.s1 (.sym 29),lS (.sym 28) y.s2 (.sym 30)] ((fs18 .nil):Tr.FnsOk Tryz.prog _) 1 1 Tryz.func7 eo7 2000 [cS 0,yR 1 24,yR 25 4] vTt
omit hs l1 l2 in
def thr_bf4_L(p:Int)(x z w:Qbp)(y:Qdg)(ca:Qdg)(cb:Qbp)(cc:Qdg)(c1 n1:Int)(q:Rat)(s:Int):List GF:=[[gxi p],x.cells,z.cells,w.cells,y.cells,[gxi (Sz y.s1)],[gxi (Sz y.s2)],ca.cells,cb.cells,cc.cells,[gxi c1],[gxi n1],cF q,[gxi s]].flatten
omit hs l1 l2 in
noncomputable def thr_bf4_T1(p:Int)(x z w:Qbp)(y:Qdg)(hs:¬(smHC x z w))(ca:Qdg)(cb:Qbp)(cc:Qdg)(c1 n1:Int)(q:Rat)(s:Int)(A:hA p x y ca cb cc c1)(Bf:hBf p x z w)(Df:hDf p x z w)(G4:hG4 p x z w)(W:hW p x z w q s)(P0:hP0 p x z w)(N:hN p x n1)(Mf:hMf y)(E:hE p x y ca cb cc c1 (2:Int))(T4:hT4 q):List (GC Tryz.prog (thr_bf4_L p x z w y ca cb cc c1 n1 q s) true):=[gsm (smH x z w true ⟨fun _=>hs,fun _=>rfl⟩) [18] [⟨Qav 1 24,28,none⟩] [lc 24,.c (.sl 0 0 3 3)] vTt,gs (A) [cS 0,yR 1 8,yR 25 4] (.tup [yR 31 16,cS 47]),gs (Bf) [cS 0,yR 9 8,yR 1 8,yR 17 8] (.tup [cFf,lc 0]),gs (G4) [cS 0,yR 1 8,yR 9 8,yR 17 8] (.tup [.row (zFA),lc 0,lc 4]),
   gsm (N) [73] [⟨Qav 1 8,28,none⟩] [cS 0,.c (.sl 0 0 1 1)] (rS 48),gs (Mf) [yR 25 4] vFf,
   gsm (E) [36,9,1] [⟨[.sym 0],3,none⟩,⟨Qav 1 8,28,none⟩,⟨Qav 25 4,26,none⟩] [yR 31 16,cS 47,lc 2,.c (.fn 59 [] [0,1,2])] vTt,
   gsm (P0) [96] [⟨Qav 1 24,28,none⟩] [cS 0,.c (.sl 0 0 3 3)] (.r (lc 0)),gs (Df) [cS 0,yR 9 8,yR 1 8,yR 17 8] vFf,gs (W) [cS 0,yR 1 8,yR 9 8,yR 17 8] (.tup [yQ 49,cS 52]),
   gsm (T4) [138] [⟨(qS 49),26,none⟩] [.row (zFA),lc 4,lc 0,.c (.fn 63 [] [0])] vTt,gs (Qdr) [] vTt]
theorem thr_bf4(e1:¬(x=z))(e2:¬(x=w))   (q:Rat) (s:Int)
  (A:hA p x y ca cb cc c1) (Bf:hBf p x z w) (Df:hDf p x z w) (G4:hG4 p x z w) (W:hW p x z w q s) (P0:hP0 p x z w) (N:hN p x n1) (Mf:hMf y) (E:hE p x y ca cb cc c1 (2:Int)) (T4:hT4 q):SCt 7 [.c (gxi p),.row (x.cells++z.cells++w.cells),.row (y.cells)] (.r gTt) :=
  (Classical.em (0 = s)).elim (fun h0 => Qai (L := thr_bf4_L p x z w y ca cb cc c1 n1 q s) Qad Qag
     (thr_bf4_T1 p x z w y hs ca cb cc c1 n1 q s A Bf Df G4 W P0 N Mf E T4)
     [gtN 3 (.sym 29) (li 24) (Sz y.s1) 24 l1,gtN 3 (.sym 30) (li 24) (Sz y.s2) 24 l2,Qen 4 Tryz.underlying4 false false,bG (yR 1 8) (yR 9 8) x z false (fI e1),bG (yR 1 8) (yR 17 8) x w false (fI e2),bI .eql 3 (li 0) (.sym 52) 0 s true (by simp[Qdn,h0])] [lS (.sym 26) y.s1 (.sym 29),lS (.sym 28) y.s2 (.sym 30)] ((fs18 .nil):Tr.FnsOk Tryz.prog _) 1 1 Tryz.func7 eo7 2000 [cS 0,yR 1 24,yR 25 4] vTt)
   (fun h0=>Qai (L:=thr_bf4_L p x z w y ca cb cc c1 n1 q s) Qad Qag
     (thr_bf4_T1 p x z w y hs ca cb cc c1 n1 q s A Bf Df G4 W P0 N Mf E T4)
     [gtN 3 (.sym 29) (li 24) (Sz y.s1) 24 l1,gtN 3 (.sym 30) (li 24) (Sz y.s2) 24 l2,Qen 4 Tryz.underlying4 false false,bG (yR 1 8) (yR 9 8) x z false (fI e1),bG (yR 1 8) (yR 17 8) x w false (fI e2),bI .eql 3 (li 0) (.sym 52) 0 s false (by simp[Qdn,h0])] [lS (.sym 26) y.s1 (.sym 29),lS (.sym 28) y.s2 (.sym 30)] ((fs18 .nil):Tr.FnsOk Tryz.prog _) 1 1 Tryz.func7 eo7 2000 [cS 0,yR 1 24,yR 25 4] vTt)
theorem thr_l2  (k:Int) (hk:k≤0)
  (A:hA p x y ca cb cc c1) (B2:hB2 p x z w) (G2:hG2 p x z w) (P2:hP2 p x z w) (N:hN p x n1) (Mt:hMt y) (C:hC y k) (E:hE p x y ca cb cc c1 (2:Int)):SCt 7 [.c (gxi p),.row (x.cells++z.cells++w.cells),.row (y.cells)] (.r gTt) :=
  Qai (L := [[gxi p],x.cells,z.cells,w.cells,y.cells,[gxi (Sz y.s1)],[gxi (Sz y.s2)],ca.cells,cb.cells,cc.cells,[gxi c1],[gxi n1],cF (1 : Rat),[gxi k]].flatten) Qad Qag
     [gsm (smH x z w true ⟨fun _=>hs,fun _=>rfl⟩) [18] [⟨Qav 1 24,28,none⟩] [lc 24,.c (.sl 0 0 3 3)] vTt,gs (A) [cS 0,yR 1 8,yR 25 4] (.tup [yR 31 16,cS 47]),gs (B2) [cS 0,yR 9 8,yR 1 8,yR 17 8] (.tup [cFf,lc 2]),gs (G2) [cS 0,yR 1 8,yR 9 8,yR 17 8] (.tup [.row (zFA),lc 0,lc 2]),
      gsm (N) [73] [⟨Qav 1 8,28,none⟩] [cS 0,.c (.sl 0 0 1 1)] (rS 48),gs (Mt) [yR 25 4] vTt,gs (Qea 1 (by decide) (by decide)) [lc 1] (rQ 49),gs (C) [yR 25 4,yQ 49] (rS 52),
      gsm (E) [36,9,1] [⟨[.sym 0],3,none⟩,⟨Qav 1 8,28,none⟩,⟨Qav 25 4,26,none⟩] [yR 31 16,cS 47,lc 2,.c (.fn 59 [] [0,1,2])] vTt,
      gsm (P2) [96] [⟨Qav 1 24,28,none⟩] [cS 0,.c (.sl 0 0 3 3)] (.r (lc 2)),gs (Qdr) [] vTt]
     [gtN 3 (.sym 29) (li 24) (Sz y.s1) 24 l1,gtN 3 (.sym 30) (li 24) (Sz y.s2) 24 l2,bLt 3 52 hk,Qen 4 Tryz.underlying4 false false,Qfh 26 (.row (zFA)) (.row (zFA)) (.agg (zV 2).toArray) (fun _ _ _=>by kernel_rfl)] [lS (.sym 26) y.s1 (.sym 29),lS (.sym 28) y.s2 (.sym 30)] wtfl6 1 2 Tryz.func7 eo7 2000 [cS 0,yR 1 24,yR 25 4] vTt
theorem thr_l350  (k:Int) (hk:k≤0)
  (A:hA p x y ca cb cc c1) (B350:hB350 p x z w) (G350:hG350 p x z w) (P350:hP350 p x z w) (N:hN p x n1) (Mt:hMt y) (C:hC y k) (E:hE p x y ca cb cc c1 (2:Int)):SCt 7 [.c (gxi p),.row (x.cells++z.cells++w.cells),.row (y.cells)] (.r gTt) :=
  Qai (L := [[gxi p],x.cells,z.cells,w.cells,y.cells,[gxi (Sz y.s1)],[gxi (Sz y.s2)],ca.cells,cb.cells,cc.cells,[gxi c1],[gxi n1],cF (1 : Rat),[gxi k]].flatten) Qad Qag
     [gsm (smH x z w true ⟨fun _=>hs,fun _=>rfl⟩) [18] [⟨Qav 1 24,28,none⟩] [lc 24,.c (.sl 0 0 3 3)] vTt,gs (A) [cS 0,yR 1 8,yR 25 4] (.tup [yR 31 16,cS 47]),gs (B350) [cS 0,yR 9 8,yR 1 8,yR 17 8] (.tup [cFf,lc 350]),gs (G350) [cS 0,yR 1 8,yR 9 8,yR 17 8] (.tup [.row (zFA),lc 0,lc 350]),
      gsm (N) [73] [⟨Qav 1 8,28,none⟩] [cS 0,.c (.sl 0 0 1 1)] (rS 48),gs (Mt) [yR 25 4] vTt,gs (Qea 1 (by decide) (by decide)) [lc 1] (rQ 49),gs (C) [yR 25 4,yQ 49] (rS 52),
      gsm (E) [36,9,1] [⟨[.sym 0],3,none⟩,⟨Qav 1 8,28,none⟩,⟨Qav 25 4,26,none⟩] [yR 31 16,cS 47,lc 2,.c (.fn 59 [] [0,1,2])] vTt,
      gsm (P350) [96] [⟨Qav 1 24,28,none⟩] [cS 0,.c (.sl 0 0 3 3)] (.r (lc 350)),gs (Qdr) [] vTt]
     [gtN 3 (.sym 29) (li 24) (Sz y.s1) 24 l1,gtN 3 (.sym 30) (li 24) (Sz y.s2) 24 l2,bLt 3 52 hk,Qen 4 Tryz.underlying4 false false,Qfh 26 (.row (zFA)) (.row (zFA)) (.agg (zV 2).toArray) (fun _ _ _=>by kernel_rfl)] [lS (.sym 26) y.s1 (.sym 29),lS (.sym 28) y.s2 (.sym 30)] wtfl6 1 2 Tryz.func7 eo7 2000 [cS 0,yR 1 24,yR 25 4] vTt
theorem thr_lz(e1:x=z)  (k:Int) (hk:k≤0)
  (A:hA p x y ca cb cc c1) (Bt:hBt p x z w) (Dt:hDt p x z w) (G200:hG200 p x z w) (P0:hP0 p x z w) (N:hN p x n1) (Mt:hMt y) (C:hC y k) (E:hE p x y ca cb cc c1 (2:Int)):SCt 7 [.c (gxi p),.row (x.cells++z.cells++w.cells),.row (y.cells)] (.r gTt) :=
  Qai (L := [[gxi p],x.cells,z.cells,w.cells,y.cells,[gxi (Sz y.s1)],[gxi (Sz y.s2)],ca.cells,cb.cells,cc.cells,[gxi c1],[gxi n1],cF (1 : Rat),[gxi k]].flatten) Qad Qag
     [gsm (smH x z w true ⟨fun _=>hs,fun _=>rfl⟩) [18] [⟨Qav 1 24,28,none⟩] [lc 24,.c (.sl 0 0 3 3)] vTt,gs (A) [cS 0,yR 1 8,yR 25 4] (.tup [yR 31 16,cS 47]),gs (Bt) [cS 0,yR 9 8,yR 1 8,yR 17 8] (.tup [cTt,lc 0]),gs (G200) [cS 0,yR 1 8,yR 9 8,yR 17 8] (.tup [.row (zFA),lc 0,lc 200]),
      gsm (N) [73] [⟨Qav 1 8,28,none⟩] [cS 0,.c (.sl 0 0 1 1)] (rS 48),gs (Mt) [yR 25 4] vTt,gs (Qea 1 (by decide) (by decide)) [lc 1] (rQ 49),gs (C) [yR 25 4,yQ 49] (rS 52),
      gsm (E) [36,9,1] [⟨[.sym 0],3,none⟩,⟨Qav 1 8,28,none⟩,⟨Qav 25 4,26,none⟩] [yR 31 16,cS 47,lc 2,.c (.fn 59 [] [0,1,2])] vTt,
      gsm (P0) [96] [⟨Qav 1 24,28,none⟩] [cS 0,.c (.sl 0 0 3 3)] (.r (lc 0)),gs (Dt) [cS 0,yR 9 8,yR 1 8,yR 17 8] vTt,gs (Qdr) [] vTt]
     [gtN 3 (.sym 29) (li 24) (Sz y.s1) 24 l1,gtN 3 (.sym 30) (li 24) (Sz y.s2) 24 l2,bLt 3 52 hk,Qen 4 Tryz.underlying4 true true,bG (yR 1 8) (yR 9 8) x z true (tI e1),Qfh 26 (.row (zFA)) (.row (zFA)) (.agg (zV 2).toArray) (fun _ _ _=>by kernel_rfl)] [lS (.sym 26) y.s1 (.sym 29),lS (.sym 28) y.s2 (.sym 30)] wtfl6 1 2 Tryz.func7 eo7 2000 [cS 0,yR 1 24,yR 25 4] vTt
theorem thr_lw(e1:¬(x=z))(e2:x=w)  (k:Int) (hk:k≤0)
  (A:hA p x y ca cb cc c1) (Bt:hBt p x z w) (Dt:hDt p x z w) (G200:hG200 p x z w) (P0:hP0 p x z w) (N:hN p x n1) (Mt:hMt y) (C:hC y k) (E:hE p x y ca cb cc c1 (2:Int)):SCt 7 [.c (gxi p),.row (x.cells++z.cells++w.cells),.row (y.cells)] (.r gTt) :=
  Qai (L := [[gxi p],x.cells,z.cells,w.cells,y.cells,[gxi (Sz y.s1)],[gxi (Sz y.s2)],ca.cells,cb.cells,cc.cells,[gxi c1],[gxi n1],cF (1 : Rat),[gxi k]].flatten) Qad Qag
     [gsm (smH x z w true ⟨fun _=>hs,fun _=>rfl⟩) [18] [⟨Qav 1 24,28,none⟩] [lc 24,.c (.sl 0 0 3 3)] vTt,gs (A) [cS 0,yR 1 8,yR 25 4] (.tup [yR 31 16,cS 47]),gs (Bt) [cS 0,yR 9 8,yR 1 8,yR 17 8] (.tup [cTt,lc 0]),gs (G200) [cS 0,yR 1 8,yR 9 8,yR 17 8] (.tup [.row (zFA),lc 0,lc 200]),
      gsm (N) [73] [⟨Qav 1 8,28,none⟩] [cS 0,.c (.sl 0 0 1 1)] (rS 48),gs (Mt) [yR 25 4] vTt,gs (Qea 1 (by decide) (by decide)) [lc 1] (rQ 49),gs (C) [yR 25 4,yQ 49] (rS 52),
      gsm (E) [36,9,1] [⟨[.sym 0],3,none⟩,⟨Qav 1 8,28,none⟩,⟨Qav 25 4,26,none⟩] [yR 31 16,cS 47,lc 2,.c (.fn 59 [] [0,1,2])] vTt,
      gsm (P0) [96] [⟨Qav 1 24,28,none⟩] [cS 0,.c (.sl 0 0 3 3)] (.r (lc 0)),gs (Dt) [cS 0,yR 9 8,yR 1 8,yR 17 8] vTt,gs (Qdr) [] vTt]
     [gtN 3 (.sym 29) (li 24) (Sz y.s1) 24 l1,gtN 3 (.sym 30) (li 24) (Sz y.s2) 24 l2,bLt 3 52 hk,Qen 4 Tryz.underlying4 true true,bG (yR 1 8) (yR 9 8) x z false (fI e1),bG (yR 1 8) (yR 17 8) x w true (tI e2),Qfh 26 (.row (zFA)) (.row (zFA)) (.agg (zV 2).toArray) (fun _ _ _=>by kernel_rfl)] [lS (.sym 26) y.s1 (.sym 29),lS (.sym 28) y.s2 (.sym 30)] wtfl6 1 2 Tryz.func7 eo7 2000 [cS 0,yR 1 24,yR 25 4] vTt
theorem thr_lt0(e1:¬(x=z))(e2:¬(x=w))  (k:Int) (q:Rat) (s:Int) (hk:k≤0)
  (A:hA p x y ca cb cc c1) (Bt:hBt p x z w) (Dt:hDt p x z w) (G0:hG0 p x z w q s) (W:hW p x z w q s) (P0:hP0 p x z w) (N:hN p x n1) (Mt:hMt y) (C:hC y k) (E:hE p x y ca cb cc c1 (2:Int)) (T0:hT0 q):SCt 7 [.c (gxi p),.row (x.cells++z.cells++w.cells),.row (y.cells)] (.r gTt) :=
  Qai (L := [[gxi p],x.cells,z.cells,w.cells,y.cells,[gxi (Sz y.s1)],[gxi (Sz y.s2)],ca.cells,cb.cells,cc.cells,[gxi c1],cF q,[gxi s],[gxi n1],cF (1 : Rat),[gxi k],cF q,[gxi s]].flatten) Qad Qag
     [gsm (smH x z w true ⟨fun _=>hs,fun _=>rfl⟩) [18] [⟨Qav 1 24,28,none⟩] [lc 24,.c (.sl 0 0 3 3)] vTt,gs (A) [cS 0,yR 1 8,yR 25 4] (.tup [yR 31 16,cS 47]),gs (Bt) [cS 0,yR 9 8,yR 1 8,yR 17 8] (.tup [cTt,lc 0]),gs (G0) [cS 0,yR 1 8,yR 9 8,yR 17 8] (.tup [yQ 48,cS 51,lc 0]),
      gsm (N) [73] [⟨Qav 1 8,28,none⟩] [cS 0,.c (.sl 0 0 1 1)] (rS 52),gs (Mt) [yR 25 4] vTt,gs (Qea 1 (by decide) (by decide)) [lc 1] (rQ 53),gs (C) [yR 25 4,yQ 53] (rS 56),
      gsm (E) [36,9,1] [⟨[.sym 0],3,none⟩,⟨Qav 1 8,28,none⟩,⟨Qav 25 4,26,none⟩] [yR 31 16,cS 47,lc 2,.c (.fn 59 [] [0,1,2])] vTt,
      gsm (P0) [96] [⟨Qav 1 24,28,none⟩] [cS 0,.c (.sl 0 0 3 3)] (.r (lc 0)),gs (Dt) [cS 0,yR 9 8,yR 1 8,yR 17 8] vTt,gs (W) [cS 0,yR 1 8,yR 9 8,yR 17 8] (.tup [yQ 57,cS 60]),
      gsm (T0) [138] [⟨(qS 57),26,none⟩] [yQ 48,lc 0,lc 0,.c (.fn 63 [] [0])] vTt,gs (Qdr) [] vTt]
     [gtN 3 (.sym 29) (li 24) (Sz y.s1) 24 l1,gtN 3 (.sym 30) (li 24) (Sz y.s2) 24 l2,bLt 3 56 hk,Qen 4 Tryz.underlying4 true true,bG (yR 1 8) (yR 9 8) x z false (fI e1),bG (yR 1 8) (yR 17 8) x w false (fI e2),bI .eql 3 (.sym 51) (.sym 60) s s true (by simp[Qdn])] [lS (.sym 26) y.s1 (.sym 29),lS (.sym 28) y.s2 (.sym 30)] ((fs18 .nil):Tr.FnsOk Tryz.prog _) 1 1 Tryz.func7 eo7 2000 [cS 0,yR 1 24,yR 25 4] vTt
omit hs l1 l2 in
def thr_lt4_L(p:Int)(x z w:Qbp)(y:Qdg)(ca:Qdg)(cb:Qbp)(cc:Qdg)(c1 n1:Int)(k:Int)(q:Rat)(s:Int):List GF:=[[gxi p],x.cells,z.cells,w.cells,y.cells,[gxi (Sz y.s1)],[gxi (Sz y.s2)],ca.cells,cb.cells,cc.cells,[gxi c1],[gxi n1],cF (1:Rat),[gxi k],cF q,[gxi s]].flatten
omit hs l1 l2 in
noncomputable def thr_lt4_T1(p:Int)(x z w:Qbp)(y:Qdg)(hs:¬(smHC x z w))(ca:Qdg)(cb:Qbp)(cc:Qdg)(c1 n1:Int)(k:Int)(q:Rat)(s:Int)(A:hA p x y ca cb cc c1)(Bt:hBt p x z w)(Dt:hDt p x z w)(G4:hG4 p x z w)(W:hW p x z w q s)(P0:hP0 p x z w)(N:hN p x n1)(Mt:hMt y)(C:hC y k)(E:hE p x y ca cb cc c1 (2:Int))(T4:hT4 q):List (GC Tryz.prog (thr_lt4_L p x z w y ca cb cc c1 n1 k q s) true):=[gsm (smH x z w true ⟨fun _=>hs,fun _=>rfl⟩) [18] [⟨Qav 1 24,28,none⟩] [lc 24,.c (.sl 0 0 3 3)] vTt,gs (A) [cS 0,yR 1 8,yR 25 4] (.tup [yR 31 16,cS 47]),gs (Bt) [cS 0,yR 9 8,yR 1 8,yR 17 8] (.tup [cTt,lc 0]),gs (G4) [cS 0,yR 1 8,yR 9 8,yR 17 8] (.tup [.row (zFA),lc 0,lc 4]),
   gsm (N) [73] [⟨Qav 1 8,28,none⟩] [cS 0,.c (.sl 0 0 1 1)] (rS 48),gs (Mt) [yR 25 4] vTt,gs (Qea 1 (by decide) (by decide)) [lc 1] (rQ 49),gs (C) [yR 25 4,yQ 49] (rS 52),
   gsm (E) [36,9,1] [⟨[.sym 0],3,none⟩,⟨Qav 1 8,28,none⟩,⟨Qav 25 4,26,none⟩] [yR 31 16,cS 47,lc 2,.c (.fn 59 [] [0,1,2])] vTt,
   gsm (P0) [96] [⟨Qav 1 24,28,none⟩] [cS 0,.c (.sl 0 0 3 3)] (.r (lc 0)),gs (Dt) [cS 0,yR 9 8,yR 1 8,yR 17 8] vTt,gs (W) [cS 0,yR 1 8,yR 9 8,yR 17 8] (.tup [yQ 53,cS 56]),
   gsm (T4) [138] [⟨(qS 53),26,none⟩] [.row (zFA),lc 4,lc 0,.c (.fn 63 [] [0])] vTt,gs (Qdr) [] vTt]
theorem thr_lt4(e1:¬(x=z))(e2:¬(x=w))  (k:Int) (q:Rat) (s:Int) (hk:k≤0)
  (A:hA p x y ca cb cc c1) (Bt:hBt p x z w) (Dt:hDt p x z w) (G4:hG4 p x z w) (W:hW p x z w q s) (P0:hP0 p x z w) (N:hN p x n1) (Mt:hMt y) (C:hC y k) (E:hE p x y ca cb cc c1 (2:Int)) (T4:hT4 q):SCt 7 [.c (gxi p),.row (x.cells++z.cells++w.cells),.row (y.cells)] (.r gTt) :=
  (Classical.em (0 = s)).elim (fun h0 => Qai (L := thr_lt4_L p x z w y ca cb cc c1 n1 k q s) Qad Qag
     (thr_lt4_T1 p x z w y hs ca cb cc c1 n1 k q s A Bt Dt G4 W P0 N Mt C E T4)
     [gtN 3 (.sym 29) (li 24) (Sz y.s1) 24 l1,gtN 3 (.sym 30) (li 24) (Sz y.s2) 24 l2,bLt 3 52 hk,Qen 4 Tryz.underlying4 true true,bG (yR 1 8) (yR 9 8) x z false (fI e1),bG (yR 1 8) (yR 17 8) x w false (fI e2),bI .eql 3 (li 0) (.sym 56) 0 s true (by simp[Qdn,h0])] [lS (.sym 26) y.s1 (.sym 29),lS (.sym 28) y.s2 (.sym 30)] ((fs18 .nil):Tr.FnsOk Tryz.prog _) 1 1 Tryz.func7 eo7 2000 [cS 0,yR 1 24,yR 25 4] vTt)
   (fun h0=>Qai (L:=thr_lt4_L p x z w y ca cb cc c1 n1 k q s) Qad Qag
     (thr_lt4_T1 p x z w y hs ca cb cc c1 n1 k q s A Bt Dt G4 W P0 N Mt C E T4)
     [gtN 3 (.sym 29) (li 24) (Sz y.s1) 24 l1,gtN 3 (.sym 30) (li 24) (Sz y.s2) 24 l2,bLt 3 52 hk,Qen 4 Tryz.underlying4 true true,bG (yR 1 8) (yR 9 8) x z false (fI e1),bG (yR 1 8) (yR 17 8) x w false (fI e2),bI .eql 3 (li 0) (.sym 56) 0 s false (by simp[Qdn,h0])] [lS (.sym 26) y.s1 (.sym 29),lS (.sym 28) y.s2 (.sym 30)] ((fs18 .nil):Tr.FnsOk Tryz.prog _) 1 1 Tryz.func7 eo7 2000 [cS 0,yR 1 24,yR 25 4] vTt)
theorem thr_lf0(e1:¬(x=z))(e2:¬(x=w))  (k:Int) (q:Rat) (s:Int) (hk:k≤0)
  (A:hA p x y ca cb cc c1) (Bf:hBf p x z w) (Df:hDf p x z w) (G0:hG0 p x z w q s) (W:hW p x z w q s) (P0:hP0 p x z w) (N:hN p x n1) (Mt:hMt y) (C:hC y k) (E:hE p x y ca cb cc c1 (2:Int)) (T0:hT0 q):SCt 7 [.c (gxi p),.row (x.cells++z.cells++w.cells),.row (y.cells)] (.r gTt) :=
  Qai (L := [[gxi p],x.cells,z.cells,w.cells,y.cells,[gxi (Sz y.s1)],[gxi (Sz y.s2)],ca.cells,cb.cells,cc.cells,[gxi c1],cF q,[gxi s],[gxi n1],cF (1 : Rat),[gxi k],cF q,[gxi s]].flatten) Qad Qag
     [gsm (smH x z w true ⟨fun _=>hs,fun _=>rfl⟩) [18] [⟨Qav 1 24,28,none⟩] [lc 24,.c (.sl 0 0 3 3)] vTt,gs (A) [cS 0,yR 1 8,yR 25 4] (.tup [yR 31 16,cS 47]),gs (Bf) [cS 0,yR 9 8,yR 1 8,yR 17 8] (.tup [cFf,lc 0]),gs (G0) [cS 0,yR 1 8,yR 9 8,yR 17 8] (.tup [yQ 48,cS 51,lc 0]),
      gsm (N) [73] [⟨Qav 1 8,28,none⟩] [cS 0,.c (.sl 0 0 1 1)] (rS 52),gs (Mt) [yR 25 4] vTt,gs (Qea 1 (by decide) (by decide)) [lc 1] (rQ 53),gs (C) [yR 25 4,yQ 53] (rS 56),
      gsm (E) [36,9,1] [⟨[.sym 0],3,none⟩,⟨Qav 1 8,28,none⟩,⟨Qav 25 4,26,none⟩] [yR 31 16,cS 47,lc 2,.c (.fn 59 [] [0,1,2])] vTt,
      gsm (P0) [96] [⟨Qav 1 24,28,none⟩] [cS 0,.c (.sl 0 0 3 3)] (.r (lc 0)),gs (Df) [cS 0,yR 9 8,yR 1 8,yR 17 8] vFf,gs (W) [cS 0,yR 1 8,yR 9 8,yR 17 8] (.tup [yQ 57,cS 60]),
      gsm (T0) [138] [⟨(qS 57),26,none⟩] [yQ 48,lc 0,lc 0,.c (.fn 63 [] [0])] vTt,gs (Qdr) [] vTt]
     [gtN 3 (.sym 29) (li 24) (Sz y.s1) 24 l1,gtN 3 (.sym 30) (li 24) (Sz y.s2) 24 l2,bLt 3 56 hk,Qen 4 Tryz.underlying4 false false,bG (yR 1 8) (yR 9 8) x z false (fI e1),bG (yR 1 8) (yR 17 8) x w false (fI e2),bI .eql 3 (.sym 51) (.sym 60) s s true (by simp[Qdn])] [lS (.sym 26) y.s1 (.sym 29),lS (.sym 28) y.s2 (.sym 30)] ((fs18 .nil):Tr.FnsOk Tryz.prog _) 1 1 Tryz.func7 eo7 2000 [cS 0,yR 1 24,yR 25 4] vTt
omit hs l1 l2 in
def thr_lf4_L(p:Int)(x z w:Qbp)(y:Qdg)(ca:Qdg)(cb:Qbp)(cc:Qdg)(c1 n1:Int)(k:Int)(q:Rat)(s:Int):List GF:=[[gxi p],x.cells,z.cells,w.cells,y.cells,[gxi (Sz y.s1)],[gxi (Sz y.s2)],ca.cells,cb.cells,cc.cells,[gxi c1],[gxi n1],cF (1:Rat),[gxi k],cF q,[gxi s]].flatten
omit hs l1 l2 in
noncomputable def thr_lf4_T1(p:Int)(x z w:Qbp)(y:Qdg)(hs:¬(smHC x z w))(ca:Qdg)(cb:Qbp)(cc:Qdg)(c1 n1:Int)(k:Int)(q:Rat)(s:Int)(A:hA p x y ca cb cc c1)(Bf:hBf p x z w)(Df:hDf p x z w)(G4:hG4 p x z w)(W:hW p x z w q s)(P0:hP0 p x z w)(N:hN p x n1)(Mt:hMt y)(C:hC y k)(E:hE p x y ca cb cc c1 (2:Int))(T4:hT4 q):List (GC Tryz.prog (thr_lf4_L p x z w y ca cb cc c1 n1 k q s) true):=[gsm (smH x z w true ⟨fun _=>hs,fun _=>rfl⟩) [18] [⟨Qav 1 24,28,none⟩] [lc 24,.c (.sl 0 0 3 3)] vTt,gs (A) [cS 0,yR 1 8,yR 25 4] (.tup [yR 31 16,cS 47]),gs (Bf) [cS 0,yR 9 8,yR 1 8,yR 17 8] (.tup [cFf,lc 0]),gs (G4) [cS 0,yR 1 8,yR 9 8,yR 17 8] (.tup [.row (zFA),lc 0,lc 4]),
   gsm (N) [73] [⟨Qav 1 8,28,none⟩] [cS 0,.c (.sl 0 0 1 1)] (rS 48),gs (Mt) [yR 25 4] vTt,gs (Qea 1 (by decide) (by decide)) [lc 1] (rQ 49),gs (C) [yR 25 4,yQ 49] (rS 52),
   gsm (E) [36,9,1] [⟨[.sym 0],3,none⟩,⟨Qav 1 8,28,none⟩,⟨Qav 25 4,26,none⟩] [yR 31 16,cS 47,lc 2,.c (.fn 59 [] [0,1,2])] vTt,
   gsm (P0) [96] [⟨Qav 1 24,28,none⟩] [cS 0,.c (.sl 0 0 3 3)] (.r (lc 0)),gs (Df) [cS 0,yR 9 8,yR 1 8,yR 17 8] vFf,gs (W) [cS 0,yR 1 8,yR 9 8,yR 17 8] (.tup [yQ 53,cS 56]),
   gsm (T4) [138] [⟨(qS 53),26,none⟩] [.row (zFA),lc 4,lc 0,.c (.fn 63 [] [0])] vTt,gs (Qdr) [] vTt]
theorem thr_lf4(e1:¬(x=z))(e2:¬(x=w))  (k:Int) (q:Rat) (s:Int) (hk:k≤0)
  (A:hA p x y ca cb cc c1) (Bf:hBf p x z w) (Df:hDf p x z w) (G4:hG4 p x z w) (W:hW p x z w q s) (P0:hP0 p x z w) (N:hN p x n1) (Mt:hMt y) (C:hC y k) (E:hE p x y ca cb cc c1 (2:Int)) (T4:hT4 q):SCt 7 [.c (gxi p),.row (x.cells++z.cells++w.cells),.row (y.cells)] (.r gTt) :=
  (Classical.em (0 = s)).elim (fun h0 => Qai (L := thr_lf4_L p x z w y ca cb cc c1 n1 k q s) Qad Qag
     (thr_lf4_T1 p x z w y hs ca cb cc c1 n1 k q s A Bf Df G4 W P0 N Mt C E T4)
     [gtN 3 (.sym 29) (li 24) (Sz y.s1) 24 l1,gtN 3 (.sym 30) (li 24) (Sz y.s2) 24 l2,bLt 3 52 hk,Qen 4 Tryz.underlying4 false false,bG (yR 1 8) (yR 9 8) x z false (fI e1),bG (yR 1 8) (yR 17 8) x w false (fI e2),bI .eql 3 (li 0) (.sym 56) 0 s true (by simp[Qdn,h0])] [lS (.sym 26) y.s1 (.sym 29),lS (.sym 28) y.s2 (.sym 30)] ((fs18 .nil):Tr.FnsOk Tryz.prog _) 1 1 Tryz.func7 eo7 2000 [cS 0,yR 1 24,yR 25 4] vTt)
   (fun h0=>Qai (L:=thr_lf4_L p x z w y ca cb cc c1 n1 k q s) Qad Qag
     (thr_lf4_T1 p x z w y hs ca cb cc c1 n1 k q s A Bf Df G4 W P0 N Mt C E T4)
     [gtN 3 (.sym 29) (li 24) (Sz y.s1) 24 l1,gtN 3 (.sym 30) (li 24) (Sz y.s2) 24 l2,bLt 3 52 hk,Qen 4 Tryz.underlying4 false false,bG (yR 1 8) (yR 9 8) x z false (fI e1),bG (yR 1 8) (yR 17 8) x w false (fI e2),bI .eql 3 (li 0) (.sym 56) 0 s false (by simp[Qdn,h0])] [lS (.sym 26) y.s1 (.sym 29),lS (.sym 28) y.s2 (.sym 30)] ((fs18 .nil):Tr.FnsOk Tryz.prog _) 1 1 Tryz.func7 eo7 2000 [cS 0,yR 1 24,yR 25 4] vTt)
theorem thr_g2  (k:Int) (hk:¬(k≤0))
  (A:hA p x y ca cb cc c1) (B2:hB2 p x z w) (G2:hG2 p x z w) (P2:hP2 p x z w) (N:hN p x n1) (Mt:hMt y) (C:hC y k) (E:hE p x y ca cb cc c1 n1):SCt 7 [.c (gxi p),.row (x.cells++z.cells++w.cells),.row (y.cells)] (.r gTt) :=
  Qai (L := [[gxi p],x.cells,z.cells,w.cells,y.cells,[gxi (Sz y.s1)],[gxi (Sz y.s2)],ca.cells,cb.cells,cc.cells,[gxi c1],[gxi n1],cF (1 : Rat),[gxi k]].flatten) Qad Qag
     [gsm (smH x z w true ⟨fun _=>hs,fun _=>rfl⟩) [18] [⟨Qav 1 24,28,none⟩] [lc 24,.c (.sl 0 0 3 3)] vTt,gs (A) [cS 0,yR 1 8,yR 25 4] (.tup [yR 31 16,cS 47]),gs (B2) [cS 0,yR 9 8,yR 1 8,yR 17 8] (.tup [cFf,lc 2]),gs (G2) [cS 0,yR 1 8,yR 9 8,yR 17 8] (.tup [.row (zFA),lc 0,lc 2]),
      gsm (N) [73] [⟨Qav 1 8,28,none⟩] [cS 0,.c (.sl 0 0 1 1)] (rS 48),gs (Mt) [yR 25 4] vTt,gs (Qea 1 (by decide) (by decide)) [lc 1] (rQ 49),gs (C) [yR 25 4,yQ 49] (rS 52),
      gsm (E) [36,9,1] [⟨[.sym 0],3,none⟩,⟨Qav 1 8,28,none⟩,⟨Qav 25 4,26,none⟩] [yR 31 16,cS 47,cS 48,.c (.fn 59 [] [0,1,2])] vTt,
      gsm (P2) [95] [⟨Qav 1 24,28,none⟩] [cS 0,.c (.sl 0 0 3 3)] (.r (lc 2)),gs (Qdr) [] vTt]
     [gtN 3 (.sym 29) (li 24) (Sz y.s1) 24 l1,gtN 3 (.sym 30) (li 24) (Sz y.s2) 24 l2,bLf 3 52 hk,Qen 4 Tryz.underlying4 false false,Qfh 26 (.row (zFA)) (.row (zFA)) (.agg (zV 2).toArray) (fun _ _ _=>by kernel_rfl)] [lS (.sym 26) y.s1 (.sym 29),lS (.sym 28) y.s2 (.sym 30)] wtfl6 1 2 Tryz.func7 eo7 2000 [cS 0,yR 1 24,yR 25 4] vTt
theorem thr_g350  (k:Int) (hk:¬(k≤0))
  (A:hA p x y ca cb cc c1) (B350:hB350 p x z w) (G350:hG350 p x z w) (P350:hP350 p x z w) (N:hN p x n1) (Mt:hMt y) (C:hC y k) (E:hE p x y ca cb cc c1 n1):SCt 7 [.c (gxi p),.row (x.cells++z.cells++w.cells),.row (y.cells)] (.r gTt) :=
  Qai (L := [[gxi p],x.cells,z.cells,w.cells,y.cells,[gxi (Sz y.s1)],[gxi (Sz y.s2)],ca.cells,cb.cells,cc.cells,[gxi c1],[gxi n1],cF (1 : Rat),[gxi k]].flatten) Qad Qag
     [gsm (smH x z w true ⟨fun _=>hs,fun _=>rfl⟩) [18] [⟨Qav 1 24,28,none⟩] [lc 24,.c (.sl 0 0 3 3)] vTt,gs (A) [cS 0,yR 1 8,yR 25 4] (.tup [yR 31 16,cS 47]),gs (B350) [cS 0,yR 9 8,yR 1 8,yR 17 8] (.tup [cFf,lc 350]),gs (G350) [cS 0,yR 1 8,yR 9 8,yR 17 8] (.tup [.row (zFA),lc 0,lc 350]),
      gsm (N) [73] [⟨Qav 1 8,28,none⟩] [cS 0,.c (.sl 0 0 1 1)] (rS 48),gs (Mt) [yR 25 4] vTt,gs (Qea 1 (by decide) (by decide)) [lc 1] (rQ 49),gs (C) [yR 25 4,yQ 49] (rS 52),
      gsm (E) [36,9,1] [⟨[.sym 0],3,none⟩,⟨Qav 1 8,28,none⟩,⟨Qav 25 4,26,none⟩] [yR 31 16,cS 47,cS 48,.c (.fn 59 [] [0,1,2])] vTt,
      gsm (P350) [95] [⟨Qav 1 24,28,none⟩] [cS 0,.c (.sl 0 0 3 3)] (.r (lc 350)),gs (Qdr) [] vTt]
     [gtN 3 (.sym 29) (li 24) (Sz y.s1) 24 l1,gtN 3 (.sym 30) (li 24) (Sz y.s2) 24 l2,bLf 3 52 hk,Qen 4 Tryz.underlying4 false false,Qfh 26 (.row (zFA)) (.row (zFA)) (.agg (zV 2).toArray) (fun _ _ _=>by kernel_rfl)] [lS (.sym 26) y.s1 (.sym 29),lS (.sym 28) y.s2 (.sym 30)] wtfl6 1 2 Tryz.func7 eo7 2000 [cS 0,yR 1 24,yR 25 4] vTt
theorem thr_gz(e1:x=z)  (k:Int) (hk:¬(k≤0))
  (A:hA p x y ca cb cc c1) (Bt:hBt p x z w) (Dt:hDt p x z w) (G200:hG200 p x z w) (P0:hP0 p x z w) (N:hN p x n1) (Mt:hMt y) (C:hC y k) (E:hE p x y ca cb cc c1 n1):SCt 7 [.c (gxi p),.row (x.cells++z.cells++w.cells),.row (y.cells)] (.r gTt) :=
  Qai (L := [[gxi p],x.cells,z.cells,w.cells,y.cells,[gxi (Sz y.s1)],[gxi (Sz y.s2)],ca.cells,cb.cells,cc.cells,[gxi c1],[gxi n1],cF (1 : Rat),[gxi k]].flatten) Qad Qag
     [gsm (smH x z w true ⟨fun _=>hs,fun _=>rfl⟩) [18] [⟨Qav 1 24,28,none⟩] [lc 24,.c (.sl 0 0 3 3)] vTt,gs (A) [cS 0,yR 1 8,yR 25 4] (.tup [yR 31 16,cS 47]),gs (Bt) [cS 0,yR 9 8,yR 1 8,yR 17 8] (.tup [cTt,lc 0]),gs (G200) [cS 0,yR 1 8,yR 9 8,yR 17 8] (.tup [.row (zFA),lc 0,lc 200]),
      gsm (N) [73] [⟨Qav 1 8,28,none⟩] [cS 0,.c (.sl 0 0 1 1)] (rS 48),gs (Mt) [yR 25 4] vTt,gs (Qea 1 (by decide) (by decide)) [lc 1] (rQ 49),gs (C) [yR 25 4,yQ 49] (rS 52),
      gsm (E) [36,9,1] [⟨[.sym 0],3,none⟩,⟨Qav 1 8,28,none⟩,⟨Qav 25 4,26,none⟩] [yR 31 16,cS 47,cS 48,.c (.fn 59 [] [0,1,2])] vTt,
      gsm (P0) [95] [⟨Qav 1 24,28,none⟩] [cS 0,.c (.sl 0 0 3 3)] (.r (lc 0)),gs (Dt) [cS 0,yR 9 8,yR 1 8,yR 17 8] vTt,gs (Qdr) [] vTt]
     [gtN 3 (.sym 29) (li 24) (Sz y.s1) 24 l1,gtN 3 (.sym 30) (li 24) (Sz y.s2) 24 l2,bLf 3 52 hk,Qen 4 Tryz.underlying4 true true,bG (yR 1 8) (yR 9 8) x z true (tI e1),Qfh 26 (.row (zFA)) (.row (zFA)) (.agg (zV 2).toArray) (fun _ _ _=>by kernel_rfl)] [lS (.sym 26) y.s1 (.sym 29),lS (.sym 28) y.s2 (.sym 30)] wtfl6 1 2 Tryz.func7 eo7 2000 [cS 0,yR 1 24,yR 25 4] vTt
theorem thr_gw(e1:¬(x=z))(e2:x=w)  (k:Int) (hk:¬(k≤0))
  (A:hA p x y ca cb cc c1) (Bt:hBt p x z w) (Dt:hDt p x z w) (G200:hG200 p x z w) (P0:hP0 p x z w) (N:hN p x n1) (Mt:hMt y) (C:hC y k) (E:hE p x y ca cb cc c1 n1):SCt 7 [.c (gxi p),.row (x.cells++z.cells++w.cells),.row (y.cells)] (.r gTt) :=
  Qai (L := [[gxi p],x.cells,z.cells,w.cells,y.cells,[gxi (Sz y.s1)],[gxi (Sz y.s2)],ca.cells,cb.cells,cc.cells,[gxi c1],[gxi n1],cF (1 : Rat),[gxi k]].flatten) Qad Qag
     [gsm (smH x z w true ⟨fun _=>hs,fun _=>rfl⟩) [18] [⟨Qav 1 24,28,none⟩] [lc 24,.c (.sl 0 0 3 3)] vTt,gs (A) [cS 0,yR 1 8,yR 25 4] (.tup [yR 31 16,cS 47]),gs (Bt) [cS 0,yR 9 8,yR 1 8,yR 17 8] (.tup [cTt,lc 0]),gs (G200) [cS 0,yR 1 8,yR 9 8,yR 17 8] (.tup [.row (zFA),lc 0,lc 200]),
      gsm (N) [73] [⟨Qav 1 8,28,none⟩] [cS 0,.c (.sl 0 0 1 1)] (rS 48),gs (Mt) [yR 25 4] vTt,gs (Qea 1 (by decide) (by decide)) [lc 1] (rQ 49),gs (C) [yR 25 4,yQ 49] (rS 52),
      gsm (E) [36,9,1] [⟨[.sym 0],3,none⟩,⟨Qav 1 8,28,none⟩,⟨Qav 25 4,26,none⟩] [yR 31 16,cS 47,cS 48,.c (.fn 59 [] [0,1,2])] vTt,
      gsm (P0) [95] [⟨Qav 1 24,28,none⟩] [cS 0,.c (.sl 0 0 3 3)] (.r (lc 0)),gs (Dt) [cS 0,yR 9 8,yR 1 8,yR 17 8] vTt,gs (Qdr) [] vTt]
     [gtN 3 (.sym 29) (li 24) (Sz y.s1) 24 l1,gtN 3 (.sym 30) (li 24) (Sz y.s2) 24 l2,bLf 3 52 hk,Qen 4 Tryz.underlying4 true true,bG (yR 1 8) (yR 9 8) x z false (fI e1),bG (yR 1 8) (yR 17 8) x w true (tI e2),Qfh 26 (.row (zFA)) (.row (zFA)) (.agg (zV 2).toArray) (fun _ _ _=>by kernel_rfl)] [lS (.sym 26) y.s1 (.sym 29),lS (.sym 28) y.s2 (.sym 30)] wtfl6 1 2 Tryz.func7 eo7 2000 [cS 0,yR 1 24,yR 25 4] vTt
theorem thr_gt0(e1:¬(x=z))(e2:¬(x=w))  (k:Int) (q:Rat) (s:Int) (hk:¬(k≤0))
  (A:hA p x y ca cb cc c1) (Bt:hBt p x z w) (Dt:hDt p x z w) (G0:hG0 p x z w q s) (W:hW p x z w q s) (P0:hP0 p x z w) (N:hN p x n1) (Mt:hMt y) (C:hC y k) (E:hE p x y ca cb cc c1 n1) (T0:hT0 q):SCt 7 [.c (gxi p),.row (x.cells++z.cells++w.cells),.row (y.cells)] (.r gTt) :=
  Qai (L := [[gxi p],x.cells,z.cells,w.cells,y.cells,[gxi (Sz y.s1)],[gxi (Sz y.s2)],ca.cells,cb.cells,cc.cells,[gxi c1],cF q,[gxi s],[gxi n1],cF (1 : Rat),[gxi k],cF q,[gxi s]].flatten) Qad Qag
     [gsm (smH x z w true ⟨fun _=>hs,fun _=>rfl⟩) [18] [⟨Qav 1 24,28,none⟩] [lc 24,.c (.sl 0 0 3 3)] vTt,gs (A) [cS 0,yR 1 8,yR 25 4] (.tup [yR 31 16,cS 47]),gs (Bt) [cS 0,yR 9 8,yR 1 8,yR 17 8] (.tup [cTt,lc 0]),gs (G0) [cS 0,yR 1 8,yR 9 8,yR 17 8] (.tup [yQ 48,cS 51,lc 0]),
      gsm (N) [73] [⟨Qav 1 8,28,none⟩] [cS 0,.c (.sl 0 0 1 1)] (rS 52),gs (Mt) [yR 25 4] vTt,gs (Qea 1 (by decide) (by decide)) [lc 1] (rQ 53),gs (C) [yR 25 4,yQ 53] (rS 56),
      gsm (E) [36,9,1] [⟨[.sym 0],3,none⟩,⟨Qav 1 8,28,none⟩,⟨Qav 25 4,26,none⟩] [yR 31 16,cS 47,cS 52,.c (.fn 59 [] [0,1,2])] vTt,
      gsm (P0) [95] [⟨Qav 1 24,28,none⟩] [cS 0,.c (.sl 0 0 3 3)] (.r (lc 0)),gs (Dt) [cS 0,yR 9 8,yR 1 8,yR 17 8] vTt,gs (W) [cS 0,yR 1 8,yR 9 8,yR 17 8] (.tup [yQ 57,cS 60]),
      gsm (T0) [137] [⟨(qS 57),26,none⟩] [yQ 48,lc 0,lc 0,.c (.fn 63 [] [0])] vTt,gs (Qdr) [] vTt]
     [gtN 3 (.sym 29) (li 24) (Sz y.s1) 24 l1,gtN 3 (.sym 30) (li 24) (Sz y.s2) 24 l2,bLf 3 56 hk,Qen 4 Tryz.underlying4 true true,bG (yR 1 8) (yR 9 8) x z false (fI e1),bG (yR 1 8) (yR 17 8) x w false (fI e2),bI .eql 3 (.sym 51) (.sym 60) s s true (by simp[Qdn])] [lS (.sym 26) y.s1 (.sym 29),lS (.sym 28) y.s2 (.sym 30)] ((fs18 .nil):Tr.FnsOk Tryz.prog _) 1 1 Tryz.func7 eo7 2000 [cS 0,yR 1 24,yR 25 4] vTt
omit hs l1 l2 in
def thr_gt4_L(p:Int)(x z w:Qbp)(y:Qdg)(ca:Qdg)(cb:Qbp)(cc:Qdg)(c1 n1:Int)(k:Int)(q:Rat)(s:Int):List GF:=[[gxi p],x.cells,z.cells,w.cells,y.cells,[gxi (Sz y.s1)],[gxi (Sz y.s2)],ca.cells,cb.cells,cc.cells,[gxi c1],[gxi n1],cF (1:Rat),[gxi k],cF q,[gxi s]].flatten
omit hs l1 l2 in
noncomputable def thr_gt4_T1(p:Int)(x z w:Qbp)(y:Qdg)(hs:¬(smHC x z w))(ca:Qdg)(cb:Qbp)(cc:Qdg)(c1 n1:Int)(k:Int)(q:Rat)(s:Int)(A:hA p x y ca cb cc c1)(Bt:hBt p x z w)(Dt:hDt p x z w)(G4:hG4 p x z w)(W:hW p x z w q s)(P0:hP0 p x z w)(N:hN p x n1)(Mt:hMt y)(C:hC y k)(E:hE p x y ca cb cc c1 n1)(T4:hT4 q):List (GC Tryz.prog (thr_gt4_L p x z w y ca cb cc c1 n1 k q s) true):=[gsm (smH x z w true ⟨fun _=>hs,fun _=>rfl⟩) [18] [⟨Qav 1 24,28,none⟩] [lc 24,.c (.sl 0 0 3 3)] vTt,gs (A) [cS 0,yR 1 8,yR 25 4] (.tup [yR 31 16,cS 47]),gs (Bt) [cS 0,yR 9 8,yR 1 8,yR 17 8] (.tup [cTt,lc 0]),gs (G4) [cS 0,yR 1 8,yR 9 8,yR 17 8] (.tup [.row (zFA),lc 0,lc 4]),
   gsm (N) [73] [⟨Qav 1 8,28,none⟩] [cS 0,.c (.sl 0 0 1 1)] (rS 48),gs (Mt) [yR 25 4] vTt,gs (Qea 1 (by decide) (by decide)) [lc 1] (rQ 49),gs (C) [yR 25 4,yQ 49] (rS 52),
   gsm (E) [36,9,1] [⟨[.sym 0],3,none⟩,⟨Qav 1 8,28,none⟩,⟨Qav 25 4,26,none⟩] [yR 31 16,cS 47,cS 48,.c (.fn 59 [] [0,1,2])] vTt,
   gsm (P0) [95] [⟨Qav 1 24,28,none⟩] [cS 0,.c (.sl 0 0 3 3)] (.r (lc 0)),gs (Dt) [cS 0,yR 9 8,yR 1 8,yR 17 8] vTt,gs (W) [cS 0,yR 1 8,yR 9 8,yR 17 8] (.tup [yQ 53,cS 56]),
   gsm (T4) [137] [⟨(qS 53),26,none⟩] [.row (zFA),lc 4,lc 0,.c (.fn 63 [] [0])] vTt,gs (Qdr) [] vTt]
theorem thr_gt4(e1:¬(x=z))(e2:¬(x=w))  (k:Int) (q:Rat) (s:Int) (hk:¬(k≤0))
  (A:hA p x y ca cb cc c1) (Bt:hBt p x z w) (Dt:hDt p x z w) (G4:hG4 p x z w) (W:hW p x z w q s) (P0:hP0 p x z w) (N:hN p x n1) (Mt:hMt y) (C:hC y k) (E:hE p x y ca cb cc c1 n1) (T4:hT4 q):SCt 7 [.c (gxi p),.row (x.cells++z.cells++w.cells),.row (y.cells)] (.r gTt) :=
  (Classical.em (0 = s)).elim (fun h0 => Qai (L := thr_gt4_L p x z w y ca cb cc c1 n1 k q s) Qad Qag
     (thr_gt4_T1 p x z w y hs ca cb cc c1 n1 k q s A Bt Dt G4 W P0 N Mt C E T4)
     [gtN 3 (.sym 29) (li 24) (Sz y.s1) 24 l1,gtN 3 (.sym 30) (li 24) (Sz y.s2) 24 l2,bLf 3 52 hk,Qen 4 Tryz.underlying4 true true,bG (yR 1 8) (yR 9 8) x z false (fI e1),bG (yR 1 8) (yR 17 8) x w false (fI e2),bI .eql 3 (li 0) (.sym 56) 0 s true (by simp[Qdn,h0])] [lS (.sym 26) y.s1 (.sym 29),lS (.sym 28) y.s2 (.sym 30)] ((fs18 .nil):Tr.FnsOk Tryz.prog _) 1 1 Tryz.func7 eo7 2000 [cS 0,yR 1 24,yR 25 4] vTt)
   (fun h0=>Qai (L:=thr_gt4_L p x z w y ca cb cc c1 n1 k q s) Qad Qag
     (thr_gt4_T1 p x z w y hs ca cb cc c1 n1 k q s A Bt Dt G4 W P0 N Mt C E T4)
     [gtN 3 (.sym 29) (li 24) (Sz y.s1) 24 l1,gtN 3 (.sym 30) (li 24) (Sz y.s2) 24 l2,bLf 3 52 hk,Qen 4 Tryz.underlying4 true true,bG (yR 1 8) (yR 9 8) x z false (fI e1),bG (yR 1 8) (yR 17 8) x w false (fI e2),bI .eql 3 (li 0) (.sym 56) 0 s false (by simp[Qdn,h0])] [lS (.sym 26) y.s1 (.sym 29),lS (.sym 28) y.s2 (.sym 30)] ((fs18 .nil):Tr.FnsOk Tryz.prog _) 1 1 Tryz.func7 eo7 2000 [cS 0,yR 1 24,yR 25 4] vTt)
theorem thr_gf0(e1:¬(x=z))(e2:¬(x=w))  (k:Int) (q:Rat) (s:Int) (hk:¬(k≤0))
  (A:hA p x y ca cb cc c1) (Bf:hBf p x z w) (Df:hDf p x z w) (G0:hG0 p x z w q s) (W:hW p x z w q s) (P0:hP0 p x z w) (N:hN p x n1) (Mt:hMt y) (C:hC y k) (E:hE p x y ca cb cc c1 n1) (T0:hT0 q):SCt 7 [.c (gxi p),.row (x.cells++z.cells++w.cells),.row (y.cells)] (.r gTt) :=
  Qai (L := [[gxi p],x.cells,z.cells,w.cells,y.cells,[gxi (Sz y.s1)],[gxi (Sz y.s2)],ca.cells,cb.cells,cc.cells,[gxi c1],cF q,[gxi s],[gxi n1],cF (1 : Rat),[gxi k],cF q,[gxi s]].flatten) Qad Qag
     [gsm (smH x z w true ⟨fun _=>hs,fun _=>rfl⟩) [18] [⟨Qav 1 24,28,none⟩] [lc 24,.c (.sl 0 0 3 3)] vTt,gs (A) [cS 0,yR 1 8,yR 25 4] (.tup [yR 31 16,cS 47]),gs (Bf) [cS 0,yR 9 8,yR 1 8,yR 17 8] (.tup [cFf,lc 0]),gs (G0) [cS 0,yR 1 8,yR 9 8,yR 17 8] (.tup [yQ 48,cS 51,lc 0]),
      gsm (N) [73] [⟨Qav 1 8,28,none⟩] [cS 0,.c (.sl 0 0 1 1)] (rS 52),gs (Mt) [yR 25 4] vTt,gs (Qea 1 (by decide) (by decide)) [lc 1] (rQ 53),gs (C) [yR 25 4,yQ 53] (rS 56),
      gsm (E) [36,9,1] [⟨[.sym 0],3,none⟩,⟨Qav 1 8,28,none⟩,⟨Qav 25 4,26,none⟩] [yR 31 16,cS 47,cS 52,.c (.fn 59 [] [0,1,2])] vTt,
      gsm (P0) [95] [⟨Qav 1 24,28,none⟩] [cS 0,.c (.sl 0 0 3 3)] (.r (lc 0)),gs (Df) [cS 0,yR 9 8,yR 1 8,yR 17 8] vFf,gs (W) [cS 0,yR 1 8,yR 9 8,yR 17 8] (.tup [yQ 57,cS 60]),
      gsm (T0) [137] [⟨(qS 57),26,none⟩] [yQ 48,lc 0,lc 0,.c (.fn 63 [] [0])] vTt,gs (Qdr) [] vTt]
     [gtN 3 (.sym 29) (li 24) (Sz y.s1) 24 l1,gtN 3 (.sym 30) (li 24) (Sz y.s2) 24 l2,bLf 3 56 hk,Qen 4 Tryz.underlying4 false false,bG (yR 1 8) (yR 9 8) x z false (fI e1),bG (yR 1 8) (yR 17 8) x w false (fI e2),bI .eql 3 (.sym 51) (.sym 60) s s true (by simp[Qdn])] [lS (.sym 26) y.s1 (.sym 29),lS (.sym 28) y.s2 (.sym 30)] ((fs18 .nil):Tr.FnsOk Tryz.prog _) 1 1 Tryz.func7 eo7 2000 [cS 0,yR 1 24,yR 25 4] vTt
omit hs l1 l2 in
def thr_gf4_L(p:Int)(x z w:Qbp)(y:Qdg)(ca:Qdg)(cb:Qbp)(cc:Qdg)(c1 n1:Int)(k:Int)(q:Rat)(s:Int):List GF:=[[gxi p],x.cells,z.cells,w.cells,y.cells,[gxi (Sz y.s1)],[gxi (Sz y.s2)],ca.cells,cb.cells,cc.cells,[gxi c1],[gxi n1],cF (1:Rat),[gxi k],cF q,[gxi s]].flatten
omit hs l1 l2 in
noncomputable def thr_gf4_T1(p:Int)(x z w:Qbp)(y:Qdg)(hs:¬(smHC x z w))(ca:Qdg)(cb:Qbp)(cc:Qdg)(c1 n1:Int)(k:Int)(q:Rat)(s:Int)(A:hA p x y ca cb cc c1)(Bf:hBf p x z w)(Df:hDf p x z w)(G4:hG4 p x z w)(W:hW p x z w q s)(P0:hP0 p x z w)(N:hN p x n1)(Mt:hMt y)(C:hC y k)(E:hE p x y ca cb cc c1 n1)(T4:hT4 q):List (GC Tryz.prog (thr_gf4_L p x z w y ca cb cc c1 n1 k q s) true):=[gsm (smH x z w true ⟨fun _=>hs,fun _=>rfl⟩) [18] [⟨Qav 1 24,28,none⟩] [lc 24,.c (.sl 0 0 3 3)] vTt,gs (A) [cS 0,yR 1 8,yR 25 4] (.tup [yR 31 16,cS 47]),gs (Bf) [cS 0,yR 9 8,yR 1 8,yR 17 8] (.tup [cFf,lc 0]),gs (G4) [cS 0,yR 1 8,yR 9 8,yR 17 8] (.tup [.row (zFA),lc 0,lc 4]),
   gsm (N) [73] [⟨Qav 1 8,28,none⟩] [cS 0,.c (.sl 0 0 1 1)] (rS 48),gs (Mt) [yR 25 4] vTt,gs (Qea 1 (by decide) (by decide)) [lc 1] (rQ 49),gs (C) [yR 25 4,yQ 49] (rS 52),
   gsm (E) [36,9,1] [⟨[.sym 0],3,none⟩,⟨Qav 1 8,28,none⟩,⟨Qav 25 4,26,none⟩] [yR 31 16,cS 47,cS 48,.c (.fn 59 [] [0,1,2])] vTt,
   gsm (P0) [95] [⟨Qav 1 24,28,none⟩] [cS 0,.c (.sl 0 0 3 3)] (.r (lc 0)),gs (Df) [cS 0,yR 9 8,yR 1 8,yR 17 8] vFf,gs (W) [cS 0,yR 1 8,yR 9 8,yR 17 8] (.tup [yQ 53,cS 56]),
   gsm (T4) [137] [⟨(qS 53),26,none⟩] [.row (zFA),lc 4,lc 0,.c (.fn 63 [] [0])] vTt,gs (Qdr) [] vTt]
theorem thr_gf4(e1:¬(x=z))(e2:¬(x=w))  (k:Int) (q:Rat) (s:Int) (hk:¬(k≤0))
  (A:hA p x y ca cb cc c1) (Bf:hBf p x z w) (Df:hDf p x z w) (G4:hG4 p x z w) (W:hW p x z w q s) (P0:hP0 p x z w) (N:hN p x n1) (Mt:hMt y) (C:hC y k) (E:hE p x y ca cb cc c1 n1) (T4:hT4 q):SCt 7 [.c (gxi p),.row (x.cells++z.cells++w.cells),.row (y.cells)] (.r gTt) :=
  (Classical.em (0 = s)).elim (fun h0 => Qai (L := thr_gf4_L p x z w y ca cb cc c1 n1 k q s) Qad Qag
     (thr_gf4_T1 p x z w y hs ca cb cc c1 n1 k q s A Bf Df G4 W P0 N Mt C E T4)
     [gtN 3 (.sym 29) (li 24) (Sz y.s1) 24 l1,gtN 3 (.sym 30) (li 24) (Sz y.s2) 24 l2,bLf 3 52 hk,Qen 4 Tryz.underlying4 false false,bG (yR 1 8) (yR 9 8) x z false (fI e1),bG (yR 1 8) (yR 17 8) x w false (fI e2),bI .eql 3 (li 0) (.sym 56) 0 s true (by simp[Qdn,h0])] [lS (.sym 26) y.s1 (.sym 29),lS (.sym 28) y.s2 (.sym 30)] ((fs18 .nil):Tr.FnsOk Tryz.prog _) 1 1 Tryz.func7 eo7 2000 [cS 0,yR 1 24,yR 25 4] vTt)
   (fun h0=>Qai (L:=thr_gf4_L p x z w y ca cb cc c1 n1 k q s) Qad Qag
     (thr_gf4_T1 p x z w y hs ca cb cc c1 n1 k q s A Bf Df G4 W P0 N Mt C E T4)
     [gtN 3 (.sym 29) (li 24) (Sz y.s1) 24 l1,gtN 3 (.sym 30) (li 24) (Sz y.s2) 24 l2,bLf 3 52 hk,Qen 4 Tryz.underlying4 false false,bG (yR 1 8) (yR 9 8) x z false (fI e1),bG (yR 1 8) (yR 17 8) x w false (fI e2),bI .eql 3 (li 0) (.sym 56) 0 s false (by simp[Qdn,h0])] [lS (.sym 26) y.s1 (.sym 29),lS (.sym 28) y.s2 (.sym 30)] ((fs18 .nil):Tr.FnsOk Tryz.prog _) 1 1 Tryz.func7 eo7 2000 [cS 0,yR 1 24,yR 25 4] vTt)
end
end Go.Proofs.YtmimficdpfmfgaaGreat
