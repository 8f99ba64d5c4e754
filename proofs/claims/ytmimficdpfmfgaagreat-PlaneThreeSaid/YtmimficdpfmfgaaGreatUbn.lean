/- Laws for the walk. -/
import Derived.Test.YtmimficdpfmfgaaGreatUbm
set_option linter.unusedVariables false
set_option linter.unusedSimpArgs false
set_option maxHeartbeats 4000000
set_option maxRecDepth 100000
namespace Go.Proofs.YtmimficdpfmfgaaGreat
open Go.RowKit Tr
open Classical
theorem cmpR_zero{x y:Rat}:Qfo x y=0↔x=y:=by
 unfold Qfo
 constructor
 ·intro h
  split at h
  ·omega
  ·split at h
   ·assumption
   ·omega
 ·rintro rfl
  simp[Rat.lt_irrefl]
theorem num_pos{x:Rat}:x.num.sign>0↔0<x:=by
 constructor
 ·intro h; exact Qbg (by omega)
 ·intro h
  rcases Int.lt_trichotomy x.num 0 with k|k|k
  ·exact absurd (Rat.num_nonneg.2 (Rat.le_of_lt h)) (by omega)
  ·exact absurd (Rat.num_eq_zero.1 k) (Rat.ne_of_gt h)
  ·rw[Int.sign_eq_one_of_pos k]; decide
theorem nm_comm(z w:QC):nm (z - w)=nm (w - z):=by simp only[nm,qsr,qsi]; grind
theorem far1_comm(z w:QC):far1 z w=far1 w z:=by
 unfold far1
 rw[nm_comm z w,Rat.mul_comm z.im]
def exc1(x z w:QC):Rat:=far1 z w - far1 x z*far1 x w
def mst1(x z w:QC):Rat:=(far1 x z*far1 x z - 1)*(far1 x w*far1 x w - 1)
theorem fe1{z w:QC}(hz:0<z.im)(hw:0<w.im):(1:Rat)+nm (z - w) / (z.im*w.im)*(2:Rat) / (4:Rat)=far1 z w:=by
 have h:=pne (Qdi hz hw)
 unfold far1
 grind
theorem angD1(x z w:QC)(hx:0<x.im)(hz:0<z.im)(hw:0<w.im):wt9 x z w=exc1 x z w:=by
 simp only[wt9,wt6,wt5,wt2,wt1,wt4,wt3]
 rw[fe1 hx hz,fe1 hx hw,fe1 hz hw]; rfl
theorem angQ1(x z w:QC)(hx:0<x.im)(hz:0<z.im)(hw:0<w.im):wt10 x z w=exc1 x z w*exc1 x z w / mst1 x z w:=by
 simp only[wt10,wt9,wt6,wt5,wt2,wt1,wt4,wt3,wt7,wt8]
 rw[fe1 hx hz,fe1 hx hw,fe1 hz hw]; rfl
theorem angDd1(x z w:QC)(hx:0<x.im)(hz:0<z.im)(hw:0<w.im):wt17 x z w=exc1 x z w:=by
 simp only[wt17,wt13,wt16,wt11,wt12]
 rfl
theorem angQd1(x z w:QC)(hx:0<x.im)(hz:0<z.im)(hw:0<w.im):wt19 x z w=exc1 x z w*exc1 x z w / mst1 x z w:=by
 simp only[wt19,wt17,wt13,wt16,wt11,wt12,wt18,wt14,wt15]
 rfl
theorem btwD1(x z w:QC)(hx:0<x.im)(hz:0<z.im)(hw:0<w.im):Qgs z x w=exc1 x z w:=by
 simp only[Qgs,wt6,wt5,wt49,wt48,wt4,wt3]
 rw[fe1 hx hz,fe1 hx hw,fe1 hz hw]; rfl
theorem btwM1(x z w:QC)(hx:0<x.im)(hz:0<z.im)(hw:0<w.im):(wt50 z x)*(wt8 x w)=mst1 x z w:=by
 simp only[wt50,wt49,wt48,wt8,wt4,wt3]
 rw[fe1 hx hz,fe1 hx hw]; rfl
theorem btwDd1(x z w:QC)(hx:0<x.im)(hz:0<z.im)(hw:0<w.im):wt55 z x w=exc1 x z w:=by
 simp only[wt55,wt13,wt54,wt52,wt12]
 have e:(1:Rat)+nm (z - x) / (z.im*x.im+z.im*x.im)=far1 x z:=(show far1 z x=_ from far1_comm z x)
 rw[e]; rfl
theorem btwMd1(x z w:QC)(hx:0<x.im)(hz:0<z.im)(hw:0<w.im):wt56 z x w=mst1 x z w:=by
 simp only[wt56,wt53,wt52,wt15,wt12]
 have e:(1:Rat)+nm (z - x) / (z.im*x.im+z.im*x.im)=far1 x z:=(show far1 z x=_ from far1_comm z x)
 rw[e]; rfl
theorem btw1(x z w:QC)(sx:Qab x)(sz:Qab z)(sw:Qab w)(hx:hN1 x)(hz:hN1 z)(hw:hN1 w)(e1:¬x=z)(e2:¬x=w):(SCt 55 [.c (gxi 1),.row (Qae z).cells,.row (Qae x).cells,.row (Qae w).cells] (.tup [gTt,gIi 0])∧SCt 61 [.c (gxi 1),.row (Qae z).cells,.row (Qae x).cells,.row (Qae w).cells] (.r gTt))∨(SCt 55 [.c (gxi 1),.row (Qae z).cells,.row (Qae x).cells,.row (Qae w).cells] (.tup [gFf,gIi 0])∧SCt 61 [.c (gxi 1),.row (Qae z).cells,.row (Qae x).cells,.row (Qae w).cells] (.r gFf)):=by
 have bx:=Qaa sx
 have bz:=Qaa sz
 have bw:=Qaa sw
 by_cases e3:z=w
 ·refine .inr ⟨pBtC1 z x w sz sx sw hz hx hw e1 e2 e3 ?_,dBtC1 z x w bz bx bw hz hx hw e1 e2 e3⟩
  rw[btwD1 x z w (Qbg hx) (Qbg hz) (Qbg hw),num_pos]
  subst e3
  have k:=far1_gt (Qbg hx) (Qbg hz) e1
  have e:far1 z z=1:=by
   have e0:nm (z - z)=0:=by simp only[nm,qsr,qsi]; grind
   unfold far1
   rw[e0]; grind
  unfold exc1
  rw[e]
  have k2:0<(far1 x z - 1)*(far1 x z+1):=Qdi (by grind) (by grind)
  grind
 ·have K:=pBtD1 z x w sz sx sw hz hx hw e1 e2 e3
  have D:=dBtD1 z x w bz bx bw hz hx hw e1 e2 e3
  have i1:(((Qgs z x w).num.sign)>0∧(Qfo ((Qgs z x w)*(Qgs z x w)) ((wt50 z x)*(wt8 x w)))=0)↔(0<exc1 x z w∧exc1 x z w*exc1 x z w=mst1 x z w):=by
   rw[btwD1 x z w (Qbg hx) (Qbg hz) (Qbg hw),btwM1 x z w (Qbg hx) (Qbg hz) (Qbg hw),num_pos,cmpR_zero]
  have i2:(((wt55 z x w).num.sign)>0∧((wt55 z x w)*(wt55 z x w))=(wt56 z x w))↔(0<exc1 x z w∧exc1 x z w*exc1 x z w=mst1 x z w):=by
   rw[btwDd1 x z w (Qbg hx) (Qbg hz) (Qbg hw),btwMd1 x z w (Qbg hx) (Qbg hz) (Qbg hw),num_pos]
  by_cases h:0<exc1 x z w∧exc1 x z w*exc1 x z w=mst1 x z w
  ·exact .inl ⟨K.t (i1.2 h),D.t (i2.2 h)⟩
  ·exact .inr ⟨K.f (fun k=>h (i1.1 k)),D.f (fun k=>h (i2.1 k))⟩
theorem ang1(x z w:QC)(sx:Qab x)(sz:Qab z)(sw:Qab w)(hx:hN1 x)(hz:hN1 z)(hw:hN1 w)(n1:¬x=z)(n2:¬x=w):∃(q:Rat) (s:Int),SCt 62 [.c (gxi 1),.row (Qae x).cells,.row (Qae z).cells,.row (Qae w).cells] (.tup [.row (rF q),.c (gxi s)]) ∧
  ((Qap q∧SCt 56 [.c (gxi 1),.row (Qae x).cells,.row (Qae z).cells,.row (Qae w).cells] (.tup [.row (rF q),.c (gxi s),gIi 0]))∨(¬Qap q∧SCt 56 [.c (gxi 1),.row (Qae x).cells,.row (Qae z).cells,.row (Qae w).cells] (.tup [.row zFG,gIi 0,gIi 4]))):=by
 have K:=pAng1 x z w sx sz sw hx hz hw n1 n2
 have D:=dAng1 x z w (Qaa sx) (Qaa sz) (Qaa sw) hx hz hw n1 n2
 simp only[angD1 x z w (Qbg hx) (Qbg hz) (Qbg hw),angQ1 x z w (Qbg hx) (Qbg hz) (Qbg hw)] at K
 simp only[angDd1 x z w (Qbg hx) (Qbg hz) (Qbg hw),angQd1 x z w (Qbg hx) (Qbg hz) (Qbg hw)] at D
 refine⟨_,_,D,?_⟩
 by_cases h:Qap (exc1 x z w*exc1 x z w / mst1 x z w)
 ·exact .inl ⟨h,K.t h⟩
 ·exact .inr ⟨h,K.f h⟩
theorem far2_comm(z w:QC):far2 z w=far2 w z:=by
 unfold far2
 rw[nm_comm z w,Rat.mul_comm (1 - nm z)]
def exc2(x z w:QC):Rat:=far2 z w - far2 x z*far2 x w
def mst2(x z w:QC):Rat:=(far2 x z*far2 x z - 1)*(far2 x w*far2 x w - 1)
theorem fe2{z w:QC}(hz:0<(1 - nm z))(hw:0<(1 - nm w)):(1:Rat)+nm (z - w) / ((1 - nm z)*(1 - nm w))*(2:Rat) / (1:Rat)=far2 z w:=by
 have h:=pne (Qdi hz hw)
 unfold far2
 grind
theorem angD2(x z w:QC)(hx:0<(1 - nm x))(hz:0<(1 - nm z))(hw:0<(1 - nm w)):wt31 x z w=exc2 x z w:=by
 simp only[wt31,wt28,wt27,wt26,wt22,wt21,wt20,Qfg,wt24,wt23]
 rw[fe2 hx hz,fe2 hx hw,fe2 hz hw]; rfl
theorem angQ2(x z w:QC)(hx:0<(1 - nm x))(hz:0<(1 - nm z))(hw:0<(1 - nm w)):wt32 x z w=exc2 x z w*exc2 x z w / mst2 x z w:=by
 simp only[wt32,wt31,wt28,wt27,wt26,wt22,wt21,wt20,Qfg,wt24,wt23,wt29,wt30]
 rw[fe2 hx hz,fe2 hx hw,fe2 hz hw]; rfl
theorem angDd2(x z w:QC)(hx:0<(1 - nm x))(hz:0<(1 - nm z))(hw:0<(1 - nm w)):wt39 x z w=exc2 x z w:=by
 simp only[wt39,wt35,wt26,wt38,wt33,wt20,wt34,wt23]
 rfl
theorem angQd2(x z w:QC)(hx:0<(1 - nm x))(hz:0<(1 - nm z))(hw:0<(1 - nm w)):wt41 x z w=exc2 x z w*exc2 x z w / mst2 x z w:=by
 simp only[wt41,wt39,wt35,wt26,wt38,wt33,wt20,wt34,wt23,wt40,wt36,wt37]
 rfl
theorem btwD2(x z w:QC)(hx:0<(1 - nm x))(hz:0<(1 - nm z))(hw:0<(1 - nm w)):Qgt z x w=exc2 x z w:=by
 simp only[Qgt,wt28,wt27,wt26,wt59,wt58,wt57,Qfg,wt24,wt23]
 rw[fe2 hx hz,fe2 hx hw,fe2 hz hw]; rfl
theorem btwM2(x z w:QC)(hx:0<(1 - nm x))(hz:0<(1 - nm z))(hw:0<(1 - nm w)):(wt60 z x)*(wt30 x w)=mst2 x z w:=by
 simp only[wt60,wt59,wt58,wt57,wt30,Qfg,wt24,wt23]
 rw[fe2 hx hz,fe2 hx hw]; rfl
theorem btwDd2(x z w:QC)(hx:0<(1 - nm x))(hz:0<(1 - nm z))(hw:0<(1 - nm w)):wt66 z x w=exc2 x z w:=by
 simp only[wt66,wt35,wt26,wt65,wt63,wt62,wt34,wt23]
 have e:(1:Rat)+(nm (z - x)+nm (z - x)) / ((1 - nm z)*(1 - nm x))=far2 x z:=(show far2 z x=_ from far2_comm z x)
 rw[e]; rfl
theorem btwMd2(x z w:QC)(hx:0<(1 - nm x))(hz:0<(1 - nm z))(hw:0<(1 - nm w)):wt67 z x w=mst2 x z w:=by
 simp only[wt67,wt64,wt63,wt62,wt37,wt34,wt23]
 have e:(1:Rat)+(nm (z - x)+nm (z - x)) / ((1 - nm z)*(1 - nm x))=far2 x z:=(show far2 z x=_ from far2_comm z x)
 rw[e]; rfl
theorem btw2(x z w:QC)(sx:Qab x)(sz:Qab z)(sw:Qab w)(hx:hN2 x)(hz:hN2 z)(hw:hN2 w)(e1:¬x=z)(e2:¬x=w):(SCt 55 [.c (gxi 2),.row (Qae z).cells,.row (Qae x).cells,.row (Qae w).cells] (.tup [gTt,gIi 0])∧SCt 61 [.c (gxi 2),.row (Qae z).cells,.row (Qae x).cells,.row (Qae w).cells] (.r gTt))∨(SCt 55 [.c (gxi 2),.row (Qae z).cells,.row (Qae x).cells,.row (Qae w).cells] (.tup [gFf,gIi 0])∧SCt 61 [.c (gxi 2),.row (Qae z).cells,.row (Qae x).cells,.row (Qae w).cells] (.r gFf)):=by
 have bx:=Qaa sx
 have bz:=Qaa sz
 have bw:=Qaa sw
 by_cases e3:z=w
 ·refine .inr ⟨pBtC2 z x w sz sx sw hz hx hw e1 e2 e3 ?_,dBtC2 z x w bz bx bw hz hx hw e1 e2 e3⟩
  rw[btwD2 x z w (Qbg hx) (Qbg hz) (Qbg hw),num_pos]
  subst e3
  have k:=far2_gt (Qbg hx) (Qbg hz) e1
  have e:far2 z z=1:=by
   have e0:nm (z - z)=0:=by simp only[nm,qsr,qsi]; grind
   unfold far2
   rw[e0]; grind
  unfold exc2
  rw[e]
  have k2:0<(far2 x z - 1)*(far2 x z+1):=Qdi (by grind) (by grind)
  grind
 ·have K:=pBtD2 z x w sz sx sw hz hx hw e1 e2 e3
  have D:=dBtD2 z x w bz bx bw hz hx hw e1 e2 e3
  have i1:(((Qgt z x w).num.sign)>0∧(Qfo ((Qgt z x w)*(Qgt z x w)) ((wt60 z x)*(wt30 x w)))=0)↔(0<exc2 x z w∧exc2 x z w*exc2 x z w=mst2 x z w):=by
   rw[btwD2 x z w (Qbg hx) (Qbg hz) (Qbg hw),btwM2 x z w (Qbg hx) (Qbg hz) (Qbg hw),num_pos,cmpR_zero]
  have i2:(((wt66 z x w).num.sign)>0∧((wt66 z x w)*(wt66 z x w))=(wt67 z x w))↔(0<exc2 x z w∧exc2 x z w*exc2 x z w=mst2 x z w):=by
   rw[btwDd2 x z w (Qbg hx) (Qbg hz) (Qbg hw),btwMd2 x z w (Qbg hx) (Qbg hz) (Qbg hw),num_pos]
  by_cases h:0<exc2 x z w∧exc2 x z w*exc2 x z w=mst2 x z w
  ·exact .inl ⟨K.t (i1.2 h),D.t (i2.2 h)⟩
  ·exact .inr ⟨K.f (fun k=>h (i1.1 k)),D.f (fun k=>h (i2.1 k))⟩
theorem ang2(x z w:QC)(sx:Qab x)(sz:Qab z)(sw:Qab w)(hx:hN2 x)(hz:hN2 z)(hw:hN2 w)(n1:¬x=z)(n2:¬x=w):∃(q:Rat) (s:Int),SCt 62 [.c (gxi 2),.row (Qae x).cells,.row (Qae z).cells,.row (Qae w).cells] (.tup [.row (rF q),.c (gxi s)]) ∧
  ((Qap q∧SCt 56 [.c (gxi 2),.row (Qae x).cells,.row (Qae z).cells,.row (Qae w).cells] (.tup [.row (rF q),.c (gxi s),gIi 0]))∨(¬Qap q∧SCt 56 [.c (gxi 2),.row (Qae x).cells,.row (Qae z).cells,.row (Qae w).cells] (.tup [.row zFG,gIi 0,gIi 4]))):=by
 have K:=pAng2 x z w sx sz sw hx hz hw n1 n2
 have D:=dAng2 x z w (Qaa sx) (Qaa sz) (Qaa sw) hx hz hw n1 n2
 simp only[angD2 x z w (Qbg hx) (Qbg hz) (Qbg hw),angQ2 x z w (Qbg hx) (Qbg hz) (Qbg hw)] at K
 simp only[angDd2 x z w (Qbg hx) (Qbg hz) (Qbg hw),angQd2 x z w (Qbg hx) (Qbg hz) (Qbg hw)] at D
 refine⟨_,_,D,?_⟩
 by_cases h:Qap (exc2 x z w*exc2 x z w / mst2 x z w)
 ·exact .inl ⟨h,K.t h⟩
 ·exact .inr ⟨h,K.f h⟩
end Go.Proofs.YtmimficdpfmfgaaGreat
set_option linter.unusedSimpArgs false
namespace Go.Proofs.YtmimficdpfmfgaaGreat
open Go.RowKit Tr
open Classical
structure Qdg where
 n1:Bool
 n2:Bool
 s1:ByteArray
 s2:ByteArray
def Qdg.cells(f:Qdg):List GF:=[gx (.bool f.n1),gx (.string f.s1),gx (.bool f.n2),gx (.string f.s2)]
def rawF(q:Rat):Qdg:=⟨decide (q.num<0),false,Qcf q.num.natAbs,Qcf q.den⟩
def zRF:Qdg:=⟨false,false,⟨#[]⟩,⟨#[]⟩⟩
def zRG:Qbp:=⟨false,false,false,false,⟨#[]⟩,⟨#[]⟩,⟨#[]⟩,⟨#[]⟩⟩
end Go.Proofs.YtmimficdpfmfgaaGreat
namespace Go.Proofs.YtmimficdpfmfgaaGreat
open Go.RowKit Tr
def Qdg.val(f:Qdg):Value:=.agg #[.bool f.n1,.string f.s1,.bool f.n2,.string f.s2]
def Qdg.Sz(f:Qdg):Prop:=f.s1.size≤1000000000∧f.s2.size≤1000000000
theorem rawF_val(q:Rat):(rawF q).val=Qep q:=rfl
theorem rawF_inj{f g:Qdg}(e:f.val=g.val):f=g:=by
 obtain⟨n1,n2,s1,s2⟩:=f
 obtain⟨m1,m2,t1,t2⟩:=g
 simp only[Qdg.val,Value.agg.injEq,Array.mk.injEq,List.cons.injEq,Value.bool.injEq,Value.string.injEq,and_true] at e
 obtain⟨rfl,rfl,rfl,rfl⟩:=e
 rfl
theorem fOk_raw{f:Qdg}(h:Qde f.val):∃ q,f=rawF q∧Qap q:=by
 obtain⟨q,e,hs⟩:=h
 exact⟨q,rawF_inj (by rw[e,rawF_val]),hs⟩
theorem rawF_sz{q:Rat}(h:Qap q):(rawF q).Sz:=⟨Nat.le_trans h.1 (by decide),Nat.le_trans h.2 (by decide)⟩
theorem pFMay(f:Qdg)(hs:f.Sz)(r:Bool)(hr:r=true↔Qde f.val):SCt 150 [.row f.cells] (B1 r) :=
 spec1 eo150 fun w A u _ _ hu=>by
  have h1:=hs.1
  have h2:=hs.2
  rw[(FR.val_ok (u:=f.val) (x:=.row f.cells) (by kernel_rfl)).1 hu]
  exact(May_any f.n1 f.n2 f.s1 f.s2 (by omega) (by omega) r hr w).mono fun r' w' h=>⟨_,h.1,rfl,h.2⟩
theorem pFMayQ(q:Rat)(h:Qap q):SCt 150 [F1 q] (.r gTt) :=
 pFMay (rawF q) (rawF_sz h) true ⟨fun _=>⟨q,rfl,h.1,h.2⟩,fun _=>rfl⟩
theorem pERatN(f:Qdg)(hs:f.Sz)(h:¬Qde f.val):SCt 148 [.row f.cells] (.r (.c (gl .nilp))) :=
 spec1 eo148 fun w A u _ _ hu=>by
  have h1:=hs.1
  have h2:=hs.2
  rw[(FR.val_ok (u:=f.val) (x:=.row f.cells) (by kernel_rfl)).1 hu]
  refine(ERat_any f.n1 f.n2 f.s1 f.s2 (by omega) (by omega) w).mono ?_
  rintro e w' ⟨v,h1,h2,h3⟩
  rcases h2 with⟨_,rfl⟩|⟨q,e2,hq,_⟩
  ·exact⟨_,h1,rfl,h3⟩
  ·exact absurd hq h
theorem pERatA(f:Qdg)(hs:f.Sz):SCt 148 [.row f.cells] (.r (.c ga)):=by
 by_cases h:Qde f.val
 ·obtain⟨q,rfl,hq⟩:=fOk_raw h
  exact(pERat q hq).anyL rfl
 ·exact(pERatN f hs h).anyL rfl
theorem rfMay(f:Qdg)(r:Bool)(hr:r=true↔Qde f.val):Qbm Tryz.prog false 57 [.row f.cells] (B1 r) :=
 Qcn eo57 (fmay f.n1 f.n2 f.s1 f.s2 r hr) (by kernel_rfl) (by kernel_rfl)
theorem rfMayQ(q:Rat)(h:Qap q):Qbm Tryz.prog false 57 [F1 q] (.r gTt) :=
 rfMay (rawF q) true ⟨fun _=>⟨q,rfl,h.1,h.2⟩,fun _=>rfl⟩
end Go.Proofs.YtmimficdpfmfgaaGreat
