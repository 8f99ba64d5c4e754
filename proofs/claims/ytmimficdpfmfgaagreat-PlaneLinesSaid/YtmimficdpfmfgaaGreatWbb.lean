/- Laws. -/
import Derived.Test.YtmimficdpfmfgaaGreatWba
set_option linter.all false
set_option maxHeartbeats 4000000
set_option maxRecDepth 100000
namespace Go.Proofs.YtmimficdpfmfgaaGreat
open Go.RowKit Tr Proofs.Tryz
open Classical
def Kac{x y:Rat}(h:x=y):Qig x y=0:=by
 subst h;unfold Qig;simp[Rat.lt_irrefl]
def Qpu{x:Rat}(h:0<x):¬x.num.sign<=0:=fun k=>Ubf k h
def Qlh(a b e d:Rat):Prop:=SCt 158 [.row (rF a++rF b++rF e++rF d)] (.tup [.row [gr a,gro b,gro e,gr d],gTt])
def wz1(b e d:Rat):Rat:=(nm (⟨b,e⟩:QC))-((1:Rat)*d)
def wz2(b e:Rat):QC:=(⟨b*((1:Rat)⁻¹),e*((1:Rat)⁻¹)⟩:QC)
def Utd(b e:Rat){k:Nat}(b_b:RL b k)(b_e:RL e k):ZL (wz2 b e) (1*k+2):=(Qau (Qad (Qau b_b b_e).1 (Qca dK (rj 1))) (Qad (Qau b_b b_e).2 (Qca dK (rj 1)))).mn
def Ukp:FnsOk prog [⟨238,Tryz.f238,2000⟩,⟨239,Tryz.f239,2000⟩,⟨240,Tryz.f240,2000⟩]:=(Uny (Unz (Uoa .nil)))
def whA(b e d:Rat)(b_b:RL b 256)(b_e:RL e 256)(b_d:RL d 256)(sb:Qag b)(se:Qag e)(sd:Qag d)(g0:¬(((wz1 b e d).num.sign)<=0))(g1:(wz2 b e)=(⟨b,e⟩:QC))(g2:(Qig (d*((1:Rat)⁻¹)) d)=0):SCt 158 [.row (rG (⟨(1:Rat),b⟩:QC)++rG (⟨e,d⟩:QC))] (.tup [.row ([gr (1:Rat),gro b,gro e,gr d]),gTt]) :=
  Qas (L := [cF (1 : Rat),cF b,cF e,cF d,cn (⟨b,e⟩ : QC),[gr (1 : Rat),gr d,gr (nm (⟨b,e⟩ : QC)),gr ((1 : Rat) * d),gr (wz1 b e d),gxi ((wz1 b e d).num.sign),gr b,gr e,gr ((1 : Rat)⁻¹),gr ((1 : Rat) * ((1 : Rat)⁻¹))],cn (wz2 b e),[gr (d * ((1 : Rat)⁻¹)),gxi (Qig (d * ((1 : Rat)⁻¹)) d)]].flatten) Qae Qai
     [Qbw eo78,gs (Qgl (⟨b,e⟩:QC) (⟨sb,se⟩:Qaj (⟨b,e⟩:QC))) [.row (gR 3)] (.tup [sy [12,13],cTt]),gs (Qcm (1:Rat) dK) [yQ 0] (rS 14),gs (Qcm d sd) [yQ 9] (rS 15),gs (Qee _ ((Qau b_b b_e).mn)) [sy [12,13]] (rS 16),gs (Qiz (Qgz (1:Rat) d (ri 1) b_d.mn)) [cS 14,cS 15] (rS 17),
      Kas (nm (⟨b,e⟩:QC)) ((1:Rat)*d) (Qbe (Qau b_b b_e)) (Qad (rj 1) b_d) (by decide) 37 (.c (.sym 16)) (.c (.sym 17)) (.sym 18),gs (Qbb (wz1 b e d)) [cS 18] (rS 19),gs (Qcr _ ((Qau b_b b_e).mn)) [sy [12,13]] (.tup [cS 20,cS 21]),gs (Qik (1:Rat) 1 dK) [cS 14] (.r (lc 1)),
      Qqg (1:Rat) dK (rj 1) (by decide) 30 (.c (.sym 14)) (.sym 22),gs (Qiz (Qgz (1:Rat) _ (ri 1) ((Qca dK (rj 1)).mn))) [cS 14,cS 22] (rS 23),gs (Qdh _ _ ((Qau b_b b_e).mn) ((Qca dK (rj 1)).mn)) [sy [12,13],cS 22] (.r (sy [24,25])),gs (Qiz (Qgz d _ b_d.mn ((Qca dK (rj 1)).mn))) [cS 15,cS 22] (rS 26),gs (Krz ((1:Rat)*((1:Rat)⁻¹)) (1:Rat) 0 (Qad (rj 1) (Qca dK (rj 1))) (rj 1) (by decide) dK) [cS 23,cS 14] (.r (lc 0)),gs (Qsq (wz2 b e) (⟨b,e⟩:QC) (Utd b e b_b b_e) (Qau b_b b_e) (by decide) true (tI g1)) [sy [24,25],sy [12,13]] vTt,gs (Keo (d*((1:Rat)⁻¹)) d (Qad b_d (Qca dK (rj 1))) b_d (by decide)) [cS 26,cS 15] (rS 27)]
     [Qhd (1:Rat) (.sym 14),Qhd d (.sym 15),bLf 3 19 g0,bEt 3 27 g2] [] Ukp 1 2 func158 eo158 2000 [.row (gL [0,6])] (.tup [.row [.sym 14,.sym 12,.sym 13,.sym 15],cTt])
def Urb(b e d:Rat)(sb:Qag b)(se:Qag e)(sd:Qag d)(hp:0<(b*b+e*e-1*d:Rat)):Qlh (1:Rat) b e d :=
 whA b e d (Qao sb) (Qao se) (Qao sd) sb se sd (by rw[show(wz1 b e d)=(b*b+e*e-1*d:Rat) from by simp only[wz1,nm]<;>grind];exact Qpu hp) (by apply Qcj<;>simp only[wz2,nm]<;>grind) (Kac (by grind))
def wz3(e d:Rat):Rat:=(nm (⟨(1:Rat),e⟩:QC))-((0:Rat)*d)
def wz4(e:Rat):QC:=(⟨(1:Rat)*((1:Rat)⁻¹),e*((1:Rat)⁻¹)⟩:QC)
def Ute(e:Rat){k:Nat}(b_e:RL e k):ZL (wz4 e) (1*k+4):=(Qau (Qad (Qau (ri 1) (b_e.upby 2)).1 (Qca dK (rj 1))) (Qad (Qau (ri 1) (b_e.upby 2)).2 (Qca dK (rj 1)))).mn
def whB(e d:Rat)(b_e:RL e 256)(b_d:RL d 256)(se:Qag e)(sd:Qag d)(g0:¬(((wz3 e d).num.sign)<=0))(g1:(wz4 e)=(⟨(1:Rat),e⟩:QC))(g2:(Qig (d*((1:Rat)⁻¹)) d)=0):SCt 158 [.row (rG (⟨(0:Rat),(1:Rat)⟩:QC)++rG (⟨e,d⟩:QC))] (.tup [.row ([gr (0:Rat),gro (1:Rat),gro e,gr d]),gTt]) :=
  Qas (L := [cF (0 : Rat),cF (1 : Rat),cF e,cF d,cn (⟨(1 : Rat),e⟩ : QC),[gr (0 : Rat),gr d,gr (nm (⟨(1 : Rat),e⟩ : QC)),gr ((0 : Rat) * d),gr (wz3 e d),gxi ((wz3 e d).num.sign),gr (1 : Rat),gr e,gr ((1 : Rat)⁻¹),gr ((0 : Rat) * ((1 : Rat)⁻¹))],cn (wz4 e),[gr (d * ((1 : Rat)⁻¹)),gxi (Qig (d * ((1 : Rat)⁻¹)) d)]].flatten) Qae Qai
     [Qbw eo78,gs (Qgl (⟨(1:Rat),e⟩:QC) (⟨(show Qag (1:Rat) from dK),se⟩:Qaj (⟨(1:Rat),e⟩:QC))) [.row (gR 3)] (.tup [sy [12,13],cTt]),gs (Qcm (0:Rat) dK) [yQ 0] (rS 14),gs (Qcm d sd) [yQ 9] (rS 15),gs (Qee _ ((Qau (ri 1) (b_e.upby 2)).mn)) [sy [12,13]] (rS 16),gs (Qiz (Qgz (0:Rat) d (ri 0) b_d.mn)) [cS 14,cS 15] (rS 17),
      Kas (nm (⟨(1:Rat),e⟩:QC)) ((0:Rat)*d) (Qbe (Qau (ri 1) (b_e.upby 2))) (Qad (rj 0) b_d) (by decide) 37 (.c (.sym 16)) (.c (.sym 17)) (.sym 18),gs (Qbb (wz3 e d)) [cS 18] (rS 19),gs (Qcr _ ((Qau (ri 1) (b_e.upby 2)).mn)) [sy [12,13]] (.tup [cS 20,cS 21]),gs (Qik (0:Rat) 0 dK) [cS 14] (.r (lc 0)),gs (Qik (1:Rat) 1 dK) [cS 20] (.r (lc 1)),
      Qqg (1:Rat) dK (rj 1) (by decide) 30 (.c (.sym 20)) (.sym 22),gs (Qiz (Qgz (0:Rat) _ (ri 0) ((Qca dK (rj 1)).mn))) [cS 14,cS 22] (rS 23),gs (Qdh _ _ ((Qau (ri 1) (b_e.upby 2)).mn) ((Qca dK (rj 1)).mn)) [sy [12,13],cS 22] (.r (sy [24,25])),gs (Qiz (Qgz d _ b_d.mn ((Qca dK (rj 1)).mn))) [cS 15,cS 22] (rS 26),gs (Krz ((0:Rat)*((1:Rat)⁻¹)) (0:Rat) 0 (Qad (rj 0) (Qca dK (rj 1))) (rj 0) (by decide) dK) [cS 23,cS 14] (.r (lc 0)),gs (Qsq (wz4 e) (⟨(1:Rat),e⟩:QC) (Ute e b_e) (Qau (ri 1) (b_e.upby 2)) (by decide) true (tI g1)) [sy [24,25],sy [12,13]] vTt,gs (Keo (d*((1:Rat)⁻¹)) d (Qad b_d (Qca dK (rj 1))) b_d (by decide)) [cS 26,cS 15] (rS 27)]
     [Qhd (0:Rat) (.sym 14),Qhd d (.sym 15),bLf 3 19 g0,bEt 3 27 g2] [] Ukp 1 2 func158 eo158 2000 [.row (gL [0,6])] (.tup [.row [.sym 14,.sym 12,.sym 13,.sym 15],cTt])
def Uec(e d:Rat)(se:Qag e)(sd:Qag d)(hp:0<(1*1+e*e-0*d:Rat)):Qlh (0:Rat) (1:Rat) e d :=
 whB e d (Qao se) (Qao sd) se sd (by rw[show(wz3 e d)=(1*1+e*e-0*d:Rat) from by simp only[wz3,nm]<;>grind];exact Qpu hp) (by apply Qcj<;>simp only[wz4,nm]<;>grind) (Kac (by grind))
def wz5(d:Rat):Rat:=(nm (⟨0,1⟩:QC))-((0:Rat)*d)
def wz6 :Rat:=(0:Rat)*(((⟨0,1⟩:QC).im)⁻¹)
def Utf :RL wz6 4:=(Qad (rj 0) (Qca dK (Qar (⟨0,1⟩:QC) (Qbq 0 1)))).mn
def whC(d:Rat)(b_d:RL d 256)(sd:Qag d)(g0:¬(((wz5 d).num.sign)<=0))(g1:(Qig (d*(((⟨0,1⟩:QC).im)⁻¹)) d)=0):SCt 158 [.row (rG (⟨(0:Rat),(0:Rat)⟩:QC)++rG (⟨(1:Rat),d⟩:QC))] (.tup [.row ([gr (0:Rat),gro ((⟨0,1⟩:QC).re),gro ((⟨0,1⟩:QC).im),gr d]),gTt]) :=
  Qas (L := [cF (0 : Rat),cF (0 : Rat),cF (1 : Rat),cF d,cn (⟨0,1⟩ : QC),[gr (0 : Rat),gr d,gr (nm (⟨0,1⟩ : QC)),gr ((0 : Rat) * d),gr (wz5 d),gxi ((wz5 d).num.sign),gr ((⟨0,1⟩ : QC).re),gr ((⟨0,1⟩ : QC).im),gr (((⟨0,1⟩ : QC).im)⁻¹),gr wz6],cn (⟨0,1⟩ : QC),[gr (d * (((⟨0,1⟩ : QC).im)⁻¹)),gxi (Qig (d * (((⟨0,1⟩ : QC).im)⁻¹)) d)]].flatten) Qae Qai
     [Qbw eo78,gs (Qgl (⟨(0:Rat),(1:Rat)⟩:QC) (⟨(show Qag (0:Rat) from dK),(show Qag (1:Rat) from dK)⟩:Qaj (⟨(0:Rat),(1:Rat)⟩:QC))) [.row (gR 3)] (.tup [sy [12,13],cTt]),gs (Qcm (0:Rat) dK) [yQ 0] (rS 14),gs (Qcm d sd) [yQ 9] (rS 15),gs (Qee (⟨0,1⟩:QC) ((Qbq 0 1).mn)) [sy [12,13]] (rS 16),gs (Qiz (Qgz (0:Rat) d (ri 0) b_d.mn)) [cS 14,cS 15] (rS 17),
      Kas (nm (⟨0,1⟩:QC)) ((0:Rat)*d) (Qbe (Qbq 0 1)) (Qad (rj 0) b_d) (by decide) 37 (.c (.sym 16)) (.c (.sym 17)) (.sym 18),gs (Qbb (wz5 d)) [cS 18] (rS 19),gs (Qcr (⟨0,1⟩:QC) ((Qbq 0 1).mn)) [sy [12,13]] (.tup [cS 20,cS 21]),gs (Qik (0:Rat) 0 dK) [cS 14] (.r (lc 0)),gs (Qik ((⟨0,1⟩:QC).re) 0 dK) [cS 20] (.r (lc 0)),
      Qqg ((⟨0,1⟩:QC).im) dK (Qar (⟨0,1⟩:QC) (Qbq 0 1)) (by decide) 30 (.c (.sym 21)) (.sym 22),gs (Qiz (Qgz (0:Rat) _ (ri 0) ((Qca dK (Qar (⟨0,1⟩:QC) (Qbq 0 1))).mn))) [cS 14,cS 22] (rS 23),gs (Qdh (⟨0,1⟩:QC) _ ((Qbq 0 1).mn) ((Qca dK (Qar (⟨0,1⟩:QC) (Qbq 0 1))).mn)) [sy [12,13],cS 22] (.r (sy [24,25])),gs (Qiz (Qgz d _ b_d.mn ((Qca dK (Qar (⟨0,1⟩:QC) (Qbq 0 1))).mn))) [cS 15,cS 22] (rS 26),gs (Krz wz6 (0:Rat) 0 Utf (rj 0) (by decide) dK) [cS 23,cS 14] (.r (lc 0)),gs (Qsq (⟨0,1⟩:QC) (⟨0,1⟩:QC) (Qbq 0 1) (Qbq 0 1) (by decide) true (tI rfl)) [sy [24,25],sy [12,13]] vTt,gs (Keo (d*(((⟨0,1⟩:QC).im)⁻¹)) d (Qad b_d (Qca dK (Qar (⟨0,1⟩:QC) (Qbq 0 1)))) b_d (by decide)) [cS 26,cS 15] (rS 27)]
     [Qhd (0:Rat) (.sym 14),Qhd d (.sym 15),bLf 3 19 g0,bEt 3 27 g1] [] Ukp 1 2 func158 eo158 2000 [.row (gL [0,6])] (.tup [.row [.sym 14,.sym 12,.sym 13,.sym 15],cTt])
def Urc(d:Rat)(sd:Qag d)(hp:0<(0*0+1*1-0*d:Rat)):Qlh (0:Rat) (0:Rat) (1:Rat) d :=
 whC d (Qao sd) sd (by rw[show(wz5 d)=(0*0+1*1-0*d:Rat) from by simp only[wz5,nm]<;>grind];exact Qpu hp) (Kac (by grind))
def Umu(a b e d:Rat)(b_a:RL a 256)(b_b:RL b 256)(b_e:RL e 256)(b_d:RL d 256)(hW:Qlh a b e d):SCt 185 [.row (rG (⟨a,b⟩:QC)++rG (⟨e,d⟩:QC))] (.r (gIi 0)) :=
  Qco (L := [cF a,cF b,cF e,cF d,[gr a],cn (⟨b,e⟩ : QC),[gr d]].flatten) Qae Qai
     [Qbw eo78,gs (hW) [.row (gL [0,6])] (.tup [yR 12 4,cTt])]
     [] [] func185 eo185 2000 [.row (gL [0,6])] (.r (lc 0))
structure V5 where
 a:Rat
 b:Rat
 e:Rat
 d:Rat
 z:QC
structure V5.O(v:V5):Prop where
 a:Qag v.a
 b:Qag v.b
 e:Qag v.e
 d:Qag v.d
 z:Qaj v.z
def V5.O.A{v:V5}(B:v.O):RL v.a 256:=Qao B.a
def V5.O.B{v:V5}(B:v.O):RL v.b 256:=Qao B.b
def V5.O.E{v:V5}(B:v.O):RL v.e 256:=Qao B.e
def V5.O.D{v:V5}(B:v.O):RL v.d 256:=Qao B.d
def wx1(v:V5):Rat:=Qam v.a v.b v.e v.d (0:Rat) (0:Rat) (1:Rat) (0:Rat)
def Usq:FnsOk prog [⟨119,Tryz.f119,2000⟩,⟨70,Tryz.f70,2000⟩,⟨167,Tryz.f167,2000⟩,⟨244,Tryz.f244,2000⟩,⟨245,Tryz.f245,2000⟩,⟨81,Tryz.f81,2000⟩,⟨121,Tryz.f121,2000⟩,⟨99,Tryz.f99,2000⟩,⟨97,Tryz.f97,2000⟩]:=(Qup (Kqh (Qsa (Qsb (Qsc (Knm (Qrz (Ucv (Uwm .nil)))))))))
def Upu(v:V5)(B:v.O)(hz:¬(v.z.im.num.sign<=0))(hq:((wx1 v).num.sign)=0)(hW:Qlh v.a v.b v.e v.d):SCt 100 [gIi 1,.row (rG (⟨v.a,v.b⟩:QC)++rG (⟨v.e,v.d⟩:QC)),.row ((Qan v.z).cells)] (.tup [.row ([gfn 244,gl (.int .i64 0),gl (.int .i64 0),gl (.int .i64 1),gl (.int .i64 0),gl (.int .i64 2)]++(Qan (⟨0,1⟩:QC)).cells),.row ([gr v.a,gr v.b,gr v.e,gr v.d]),.row ([gro v.z.re,gro v.z.im]),gIi 0]) :=
  Qas (L := [cF v.a,cF v.b,cF v.e,cF v.d,(Qan v.z).cells,(Qan (⟨0,1⟩ : QC)).cells,(Qan (⟨0,0⟩ : QC)).cells,cn v.z,[gr v.z.re,gr v.z.im,gxi v.z.im.num.sign,gr v.a,gr v.b,gr v.e,gr v.d,gr (0 : Rat),gr (1 : Rat),gr (wx1 v),gxi ((wx1 v).num.sign)]].flatten) Qae Qai
     [Qbw eo78,gpi 0 1 20,gpi 0 0 28,gs (Qgl v.z B.z) [yR 12 8] (.tup [sy [36,37],cTt]),gs (Qcr _ ((Qab B.z).mn)) [sy [36,37]] (.tup [cS 38,cS 39]),gs (Qbb v.z.im) [cS 39] (rS 40),gs (Umu v.a v.b v.e v.d (B.A.mn) (B.B.mn) (B.E.mn) (B.D.mn) hW) [.row (gL [0,6])] (.r (lc 0)),gs (Qcm v.a B.a) [yQ 0] (rS 41),gs (Qcm v.b B.b) [yQ 3] (rS 42),gs (Qcm v.e B.e) [yQ 6] (rS 43),gs (Qcm v.d B.d) [yQ 9] (rS 44),gs (pnr 0) [lc 0,lc 1] (rS 45),gs (pnr 1) [lc 1,lc 1] (rS 46),gs (Qjq _ _ _ _ (0:Rat) (0:Rat) (1:Rat) (0:Rat) (B.A.mn) (B.B.mn) (B.E.mn) (B.D.mn) (ri 0) (ri 0) (ri 1) (ri 0)) [yR 41 4,.row [.sym 45,.sym 45,.sym 46,.sym 45]] (rS 47),gs (Qbb (wx1 v)) [cS 47] (rS 48)]
     [bLf 3 40 hz,bNf 3 48 hq] [] Usq 1 3 func100 eo100 2000 [lc 1,.row (gL [0,6]),yR 12 8] (.tup [.row (flA [[.fn 244 [] [],.lit (.int .i64 0),.lit (.int .i64 0),.lit (.int .i64 1),.lit (.int .i64 0),.lit (.int .i64 2)],Qbd 20 8]),yR 41 4,sy [36,37],lc 0])
def wx2(v:V5):Rat:=Qam v.a v.b v.e v.d (1:Rat) (0:Rat) (0:Rat) (-1:Rat)
def Ukx(v:V5)(B:v.O)(hz:¬((((1:Rat)-(nm v.z)).num.sign)<=0))(hq:((wx2 v).num.sign)=0)(hW:Qlh v.a v.b v.e v.d):SCt 100 [gIi 2,.row (rG (⟨v.a,v.b⟩:QC)++rG (⟨v.e,v.d⟩:QC)),.row ((Qan v.z).cells)] (.tup [.row ([gfn 245,gl (.int .i64 1),gl (.int .i64 0),gl (.int .i64 0),gl (.int .i64 (-1)),gl (.int .i64 1)]++(Qan (⟨0,0⟩:QC)).cells),.row ([gr v.a,gr v.b,gr v.e,gr v.d]),.row ([gro v.z.re,gro v.z.im]),gIi 0]) :=
  Qas (L := [cF v.a,cF v.b,cF v.e,cF v.d,(Qan v.z).cells,(Qan (⟨0,1⟩ : QC)).cells,(Qan (⟨0,0⟩ : QC)).cells,cn v.z,[gr (1 : Rat),gr (nm v.z),gr ((1 : Rat)-(nm v.z)),gxi (((1 : Rat)-(nm v.z)).num.sign),gr v.a,gr v.b,gr v.e,gr v.d,gr (0 : Rat),gr (-1 : Rat),gr (wx2 v),gxi ((wx2 v).num.sign)]].flatten) Qae Qai
     [Qbw eo78,gpi 0 1 20,gpi 0 0 28,gs (Qgl v.z B.z) [yR 12 8] (.tup [sy [36,37],cTt]),gs (pnr 1) [lc 1,lc 1] (rS 38),gs (Qee _ ((Qab B.z).mn)) [sy [36,37]] (rS 39),gs (Qcw (1:Rat) _ (ri 1) ((Qbe (Qab B.z)).mn)) [cS 38,cS 39] (rS 40),gs (Qbb ((1:Rat)-(nm v.z))) [cS 40] (rS 41),gs (Umu v.a v.b v.e v.d (B.A.mn) (B.B.mn) (B.E.mn) (B.D.mn) hW) [.row (gL [0,6])] (.r (lc 0)),gs (Qcm v.a B.a) [yQ 0] (rS 42),gs (Qcm v.b B.b) [yQ 3] (rS 43),gs (Qcm v.e B.e) [yQ 6] (rS 44),gs (Qcm v.d B.d) [yQ 9] (rS 45),gs (pnr 0) [lc 0,lc 1] (rS 46),gs (pnr (-1)) [lc (-1),lc 1] (rS 47),gs (Qjq _ _ _ _ (1:Rat) (0:Rat) (0:Rat) (-1:Rat) (B.A.mn) (B.B.mn) (B.E.mn) (B.D.mn) (ri 1) (ri 0) (ri 0) (ri (-1))) [yR 42 4,.row [.sym 38,.sym 46,.sym 46,.sym 47]] (rS 48),gs (Qbb (wx2 v)) [cS 48] (rS 49)]
     [bLf 3 41 hz,bNf 3 49 hq] [] Usq 1 3 func100 eo100 2000 [lc 2,.row (gL [0,6]),yR 12 8] (.tup [.row (flA [[.fn 245 [] [],.lit (.int .i64 1),.lit (.int .i64 0),.lit (.int .i64 0),.lit (.int .i64 (-1)),.lit (.int .i64 1)],Qbd 28 8]),yR 42 4,sy [36,37],lc 0])
def Ucd:FnsOk prog [⟨70,Tryz.f70,2000⟩,⟨167,Tryz.f167,2000⟩,⟨244,Tryz.f244,2000⟩,⟨245,Tryz.f245,2000⟩,⟨81,Tryz.f81,2000⟩,⟨121,Tryz.f121,2000⟩,⟨99,Tryz.f99,2000⟩,⟨97,Tryz.f97,2000⟩]:=(Kqh (Qsa (Qsb (Qsc (Knm (Qrz (Ucv (Uwm .nil))))))))
def Krr(v:V5):List GF:=[cF v.a,cF v.b,cF v.e,cF v.d,(Qan (⟨0,1⟩:QC)).cells,(Qan (⟨0,0⟩:QC)).cells,[gr v.a,gr v.b,gr v.e,gr v.d,gr (0:Rat),gr (1:Rat),gr (wx1 v),gxi ((wx1 v).num.sign)]].flatten
noncomputable def Krs(v:V5)(B:v.O)(hW:Qlh v.a v.b v.e v.d):List (GC prog (Krr v) true):=[Qbw eo78,gpi 0 1 12,gpi 0 0 20,gs (Umu v.a v.b v.e v.d (B.A.mn) (B.B.mn) (B.E.mn) (B.D.mn) hW) [.row (gL [0,6])] (.r (lc 0)),gs (Qcm v.a B.a) [yQ 0] (rS 28),gs (Qcm v.b B.b) [yQ 3] (rS 29),gs (Qcm v.e B.e) [yQ 6] (rS 30),gs (Qcm v.d B.d) [yQ 9] (rS 31),gs (pnr 0) [lc 0,lc 1] (rS 32),gs (pnr 1) [lc 1,lc 1] (rS 33),gs (Qjq _ _ _ _ (0:Rat) (0:Rat) (1:Rat) (0:Rat) (B.A.mn) (B.B.mn) (B.E.mn) (B.D.mn) (ri 0) (ri 0) (ri 1) (ri 0)) [yR 28 4,.row [.sym 32,.sym 32,.sym 33,.sym 32]] (rS 34),gs (Qbb (wx1 v)) [cS 34] (rS 35)]
def Uhy(v:V5)(B:v.O)(hW:Qlh v.a v.b v.e v.d)(h0:((wx1 v).num.sign)=0):SCt 21 [gIi 1,.row (rG (⟨v.a,v.b⟩:QC)++rG (⟨v.e,v.d⟩:QC))] (.tup [gTt,gIi 0]) :=
  Qas (L := Krr v) Qae Qai
     (Krs v B hW)
     [bEt 3 35 h0] [] Ucd 1 3 func21 eo21 2000 [lc 1,.row (gL [0,6])] (.tup [cTt,lc 0])
def Uhz(v:V5)(B:v.O)(hW:Qlh v.a v.b v.e v.d)(h0:¬(((wx1 v).num.sign)=0)):SCt 21 [gIi 1,.row (rG (⟨v.a,v.b⟩:QC)++rG (⟨v.e,v.d⟩:QC))] (.tup [gFf,gIi 0]) :=
  Qas (L := Krr v) Qae Qai
     (Krs v B hW)
     [bEf 3 35 h0] [] Ucd 1 3 func21 eo21 2000 [lc 1,.row (gL [0,6])] (.tup [cFf,lc 0])
def wx3(v:V5):QC:=(⟨v.b,0⟩:QC)+((⟨v.e,0⟩:QC)*(⟨0,1⟩:QC))
def Qjs{v:V5}(B:v.O):ZL (wx3 v) 777:=(Qht (Qau (B.B.upby 1) Qda) (Qct (Qau (B.E.upby 1) Qda) (Qbq 0 1))).mn
def wx4(v:V5):QC:=((⟨0,0⟩:QC)-(cj (wx3 v)))*(cj v.z)
def Kcx{v:V5}(B:v.O):ZL (wx4 v) 3603:=(Qct (Qrr (Qeg (Qjs B))) (Qeg (Qab B.z))).mn
def wx5(v:V5):QC:=(⟨((cj v.z).re)*v.a,((cj v.z).im)*v.a⟩:QC)
def Kcy{v:V5}(B:v.O):ZL (wx5 v) 1280:=(Qau (Qad (Qeg (Qab B.z)).1 B.A) (Qad (Qeg (Qab B.z)).2 B.A)).mn
def wx6(v:V5):QC:=((wx4 v)-(⟨v.d,0⟩:QC))/((wx5 v)+(wx3 v))
def Kkk{v:V5}(B:v.O)(hD:¬(((wx5 v)+(wx3 v))=(⟨0,0⟩:QC))):ZL (wx6 v) 20072:=(Qxd hD (Qec (Kcx B) (Qau (B.D.upby 1) Qda)) (Qht (Kcy B) (Qjs B))).mn
def Uce:FnsOk prog [⟨119,Tryz.f119,2000⟩,⟨70,Tryz.f70,2000⟩,⟨167,Tryz.f167,2000⟩,⟨244,Tryz.f244,2000⟩,⟨245,Tryz.f245,2000⟩,⟨81,Tryz.f81,2000⟩,⟨121,Tryz.f121,2000⟩,⟨99,Tryz.f99,2000⟩,⟨106,Tryz.f106,2000⟩]:=(Qup (Kqh (Qsa (Qsb (Qsc (Knm (Qrz (Ucv (Uvz .nil)))))))))
def Krv(v:V5):List GF:=[cF v.a,cF v.b,cF v.e,cF v.d,(Qan v.z).cells,(Qan (⟨0,1⟩:QC)).cells,[gr v.a,gr v.b,gr v.e,gr v.d],cn v.z,cn (⟨v.b,0⟩:QC),cn (⟨v.e,0⟩:QC),cn (⟨0,1⟩:QC),cn ((⟨v.e,0⟩:QC)*(⟨0,1⟩:QC)),cn (wx3 v),cn (cj v.z),cn (cj (wx3 v)),cn ((⟨0,0⟩:QC)-(cj (wx3 v))),cn (wx4 v),cn (⟨v.d,0⟩:QC),cn ((wx4 v)-(⟨v.d,0⟩:QC)),cn (wx5 v),cn ((wx5 v)+(wx3 v)),cn (wx6 v),(Qan (wx6 v)).cells].flatten
noncomputable def Krw(v:V5)(B:v.O)(hz:¬(v.z.im.num.sign<=0))(hq:((wx1 v).num.sign)=0)(hD:¬(((wx5 v)+(wx3 v))=(⟨0,0⟩:QC)))(hW:Qlh v.a v.b v.e v.d):List (GC prog (Krv v) true):=[Qbw eo78,gs (Upu v B hz hq hW) [lc 1,.row (gL [0,6]),yR 12 8] (.tup [.row (flA [[.fn 244 [] [],.lit (.int .i64 0),.lit (.int .i64 0),.lit (.int .i64 1),.lit (.int .i64 0),.lit (.int .i64 2)],Qbd 20 8]),yR 28 4,sy [32,33],lc 0]),gs (Qdp v.b) [cS 29] (.r (sy [34,35])),gs (Qdp v.e) [cS 30] (.r (sy [36,37])),gs (Qsp 0 1) [lc 0,lc 1] (.r (sy [38,39])),gs (Qfi _ (⟨0,1⟩:QC) (Qau (B.E.upby 1) Qda) (Qbq 0 1) (by decide)) [sy [36,37],sy [38,39]] (.r (sy [40,41])),gs (Qqh _ _ (Qau (B.B.upby 1) Qda) (Qct (Qau (B.E.upby 1) Qda) (Qbq 0 1)) (by decide)) [sy [34,35],sy [40,41]] (.r (sy [42,43])),gs (Qlk _ ((Qab B.z).mn)) [sy [32,33]] (.r (sy [44,45])),gs (Qlk _ ((Qjs B).mn)) [sy [42,43]] (.r (sy [46,47])),gs (Kbk _ ((Qeg (Qjs B)).mn)) [sy [46,47]] (.r (sy [48,49])),gs (Qfi _ _ (Qrr (Qeg (Qjs B))) (Qeg (Qab B.z)) (by decide)) [sy [48,49],sy [44,45]] (.r (sy [50,51])),gs (Qdp v.d) [cS 31] (.r (sy [52,53])),gs (Qem _ _ (Kcx B) (Qau (B.D.upby 1) Qda) (by decide)) [sy [50,51],sy [52,53]] (.r (sy [54,55])),gs (Qdh _ _ ((Qeg (Qab B.z)).mn) (B.A.mn)) [sy [44,45],cS 28] (.r (sy [56,57])),gs (Qqh _ _ (Kcy B) (Qjs B) (by decide)) [sy [56,57],sy [42,43]] (.r (sy [58,59])),gs (Kem _ _ hD (Qec (Kcx B) (Qau (B.D.upby 1) Qda)) (Qht (Kcy B) (Qjs B)) (by decide)) [sy [54,55],sy [58,59]] (.r (sy [60,61]))]
def Uic(v:V5)(B:v.O)(hz:¬(v.z.im.num.sign<=0))(hq:((wx1 v).num.sign)=0)(hD:¬(((wx5 v)+(wx3 v))=(⟨0,0⟩:QC)))(hW:Qlh v.a v.b v.e v.d)(h0:Qaj (wx6 v)):SCt 24 [gIi 1,.row (rG (⟨v.a,v.b⟩:QC)++rG (⟨v.e,v.d⟩:QC)),.row ((Qan v.z).cells)] (.tup [.row ((Qan (wx6 v)).cells),gIi 0]) :=
  Qas (L := Krv v) Qae Qai
     ((Krw v B hz hq hD hW)++[gs (Qej _ ((Kkk B hD).mn) h0) [sy [60,61]] (.tup [yR 62 8,lc 0])])
     [] [] Uce 1 4 func24 eo24 2000 [lc 1,.row (gL [0,6]),yR 12 8] (.tup [yR 62 8,lc 0])
def Uid(v:V5)(B:v.O)(hz:¬(v.z.im.num.sign<=0))(hq:((wx1 v).num.sign)=0)(hD:¬(((wx5 v)+(wx3 v))=(⟨0,0⟩:QC)))(hW:Qlh v.a v.b v.e v.d)(h0:¬(Qaj (wx6 v))):SCt 24 [gIi 1,.row (rG (⟨v.a,v.b⟩:QC)++rG (⟨v.e,v.d⟩:QC)),.row ((Qan v.z).cells)] (.tup [.row (zGG),gIi 4]) :=
  Qas (L := Krv v) Qae Qai
     ((Krw v B hz hq hD hW)++[gs (Qex (wx6 v) ((Kkk B hD).mn) h0) [sy [60,61]] (.tup [.row (zGA),lc 4])])
     [] [] Uce 1 4 func24 eo24 2000 [lc 1,.row (gL [0,6]),yR 12 8] (.tup [.row (zGA),lc 4])
def wx7(v:V5):Rat:=up0 (0:Rat) (0:Rat) (1:Rat) v.a v.b v.e (1:Rat) (-v.z.re) v.z.im
def Qea{v:V5}(B:v.O):RL (wx7 v) 174200:=(Qst (0:Rat) (0:Rat) (1:Rat) (0:Rat) v.a v.b v.e v.d (1:Rat) (-v.z.re) v.z.im (nm v.z) (ri 0) (ri 0) (ri 1) (ri 0) (B.A.upby 4097) (B.B.mn) (B.E.mn) (B.D.mn) (ri 1) ((Qah ((Qab B.z).1)).mn) (((Qab B.z).2).mn) ((Qbe (Qab B.z)).mn)).mn
def wx8(v:V5):Rat:=up1 (0:Rat) (1:Rat) (0:Rat) v.a v.e v.d (1:Rat) v.z.im (nm v.z)
def Qjt{v:V5}(B:v.O):RL (wx8 v) 209050:=(Qsu (0:Rat) (0:Rat) (1:Rat) (0:Rat) v.a v.b v.e v.d (1:Rat) (-v.z.re) v.z.im (nm v.z) (ri 0) (ri 0) (ri 1) (ri 0) (B.A.upby 4097) (B.B.mn) (B.E.mn) (B.D.mn) (ri 1) ((Qah ((Qab B.z).1)).mn) (((Qab B.z).2).mn) ((Qbe (Qab B.z)).mn)).mn
def wx9(v:V5):Rat:=up2 (0:Rat) (0:Rat) (0:Rat) v.a v.b v.d (1:Rat) (-v.z.re) (nm v.z)
def Qju{v:V5}(B:v.O):RL (wx9 v) 209050:=(Qsv (0:Rat) (0:Rat) (1:Rat) (0:Rat) v.a v.b v.e v.d (1:Rat) (-v.z.re) v.z.im (nm v.z) (ri 0) (ri 0) (ri 1) (ri 0) (B.A.upby 4097) (B.B.mn) (B.E.mn) (B.D.mn) (ri 1) ((Qah ((Qab B.z).1)).mn) (((Qab B.z).2).mn) ((Qbe (Qab B.z)).mn)).mn
def Qfy(v:V5):Rat:=up3 (0:Rat) (1:Rat) (0:Rat) v.b v.e v.d (-v.z.re) v.z.im (nm v.z)
def Qhp{v:V5}(B:v.O):RL (Qfy v) 174200:=(Qsw (0:Rat) (0:Rat) (1:Rat) (0:Rat) v.a v.b v.e v.d (1:Rat) (-v.z.re) v.z.im (nm v.z) (ri 0) (ri 0) (ri 1) (ri 0) (B.A.upby 4097) (B.B.mn) (B.E.mn) (B.D.mn) (ri 1) ((Qah ((Qab B.z).1)).mn) (((Qab B.z).2).mn) ((Qbe (Qab B.z)).mn)).mn
def Ucf:FnsOk prog [⟨119,Tryz.f119,2000⟩,⟨70,Tryz.f70,2000⟩,⟨167,Tryz.f167,2000⟩,⟨244,Tryz.f244,2000⟩,⟨245,Tryz.f245,2000⟩,⟨81,Tryz.f81,2000⟩,⟨121,Tryz.f121,2000⟩,⟨99,Tryz.f99,2000⟩]:=(Qup (Kqh (Qsa (Qsb (Qsc (Knm (Qrz (Ucv .nil))))))))
def Ksa(v:V5):List GF:=[cF v.a,cF v.b,cF v.e,cF v.d,(Qan v.z).cells,(Qan (⟨0,1⟩:QC)).cells,[gr v.a,gr v.b,gr v.e,gr v.d],cn v.z,[gr (0:Rat),gr (1:Rat),gr (1:Rat),gr (-v.z.re),gr v.z.im,gr (nm v.z),gr (wx7 v),gr (wx8 v),gr (wx9 v),gr (Qfy v)],Quo (wx7 v) (wx8 v) (wx9 v) (Qfy v)].flatten
noncomputable def Ksb(v:V5)(B:v.O)(hz:¬(v.z.im.num.sign<=0))(hq:((wx1 v).num.sign)=0)(hW:Qlh v.a v.b v.e v.d):List (GC prog (Ksa v) true):=[Qbw eo78,gs (Upu v B hz hq hW) [lc 1,.row (gL [0,6]),yR 12 8] (.tup [.row (flA [[.fn 244 [] [],.lit (.int .i64 0),.lit (.int .i64 0),.lit (.int .i64 1),.lit (.int .i64 0),.lit (.int .i64 2)],Qbd 20 8]),yR 28 4,sy [32,33],lc 0]),gs (pnr 0) [lc 0,lc 1] (rS 34),gs (pnr 1) [lc 1,lc 1] (rS 35),gs (Qhf _ ((Qab B.z).mn)) [sy [32,33]] (.r (yR 36 4)),
   gsG (Qnf (0:Rat) (0:Rat) (1:Rat) (0:Rat) v.a v.b v.e v.d (1:Rat) (-v.z.re) v.z.im (nm v.z) (ri 0) (ri 0) (ri 1) (ri 0) (B.A.mn) (B.B.mn) (B.E.mn) (B.D.mn) (ri 1) ((Qah ((Qab B.z).1)).mn) (((Qab B.z).2).mn) ((Qbe (Qab B.z)).mn)) 20 ⟨flA [[.sym 34,.sym 34,.sym 35,.sym 34],Qbd 28 4,Qbd 36 4],143,none⟩ [.c (.sl 0 0 3 3)] (.r (yR 40 4))]
def Uig(v:V5)(B:v.O)(hz:¬(v.z.im.num.sign<=0))(hq:((wx1 v).num.sign)=0)(hW:Qlh v.a v.b v.e v.d)(hP:0<Qam (wx7 v) (wx8 v) (wx9 v) (Qfy v) (wx7 v) (wx8 v) (wx9 v) (Qfy v))(h0:Koh (wx7 v) (wx8 v) (wx9 v) (Qfy v)):SCt 22 [gIi 1,.row (rG (⟨v.a,v.b⟩:QC)++rG (⟨v.e,v.d⟩:QC)),.row ((Qan v.z).cells)] (.tup [.row (Quo (wx7 v) (wx8 v) (wx9 v) (Qfy v)),gIi 0]) :=
  Qas (L := Ksa v) Qae Qai
     ((Ksb v B hz hq hW)++[gs ((Kbj (wx7 v) (wx8 v) (wx9 v) (Qfy v) ((Qea B).mn) ((Qjt B).mn) ((Qju B).mn) ((Qhp B).mn) (Qun hP)).t h0) [yR 40 4] (.tup [yR 44 16,lc 0])])
     [] [] Ucf 1 4 func22 eo22 2000 [lc 1,.row (gL [0,6]),yR 12 8] (.tup [yR 44 16,lc 0])
def Uih(v:V5)(B:v.O)(hz:¬(v.z.im.num.sign<=0))(hq:((wx1 v).num.sign)=0)(hW:Qlh v.a v.b v.e v.d)(hP:0<Qam (wx7 v) (wx8 v) (wx9 v) (Qfy v) (wx7 v) (wx8 v) (wx9 v) (Qfy v))(h0:¬(Koh (wx7 v) (wx8 v) (wx9 v) (Qfy v))):SCt 22 [gIi 1,.row (rG (⟨v.a,v.b⟩:QC)++rG (⟨v.e,v.d⟩:QC)),.row ((Qan v.z).cells)] (.tup [.row (zGG++zGG),gIi 4]) :=
  Qas (L := Ksa v) Qae Qai
     ((Ksb v B hz hq hW)++[gs ((Kbj (wx7 v) (wx8 v) (wx9 v) (Qfy v) ((Qea B).mn) ((Qjt B).mn) ((Qju B).mn) ((Qhp B).mn) (Qun hP)).f h0) [yR 40 4] (.tup [.row (flA [zGA,zGA]),lc 4])])
     [] [] Ucf 1 4 func22 eo22 2000 [lc 1,.row (gL [0,6]),yR 12 8] (.tup [.row (flA [zGA,zGA]),lc 4])
def Krt(v:V5):List GF:=[cF v.a,cF v.b,cF v.e,cF v.d,(Qan (⟨0,1⟩:QC)).cells,(Qan (⟨0,0⟩:QC)).cells,[gr v.a,gr v.b,gr v.e,gr v.d,gr (1:Rat),gr (0:Rat),gr (-1:Rat),gr (wx2 v),gxi ((wx2 v).num.sign)]].flatten
noncomputable def Kru(v:V5)(B:v.O)(hW:Qlh v.a v.b v.e v.d):List (GC prog (Krt v) true):=[Qbw eo78,gpi 0 1 12,gpi 0 0 20,gs (Umu v.a v.b v.e v.d (B.A.mn) (B.B.mn) (B.E.mn) (B.D.mn) hW) [.row (gL [0,6])] (.r (lc 0)),gs (Qcm v.a B.a) [yQ 0] (rS 28),gs (Qcm v.b B.b) [yQ 3] (rS 29),gs (Qcm v.e B.e) [yQ 6] (rS 30),gs (Qcm v.d B.d) [yQ 9] (rS 31),gs (pnr 1) [lc 1,lc 1] (rS 32),gs (pnr 0) [lc 0,lc 1] (rS 33),gs (pnr (-1)) [lc (-1),lc 1] (rS 34),gs (Qjq _ _ _ _ (1:Rat) (0:Rat) (0:Rat) (-1:Rat) (B.A.mn) (B.B.mn) (B.E.mn) (B.D.mn) (ri 1) (ri 0) (ri 0) (ri (-1))) [yR 28 4,.row [.sym 32,.sym 33,.sym 33,.sym 34]] (rS 35),gs (Qbb (wx2 v)) [cS 35] (rS 36)]
def Uia(v:V5)(B:v.O)(hW:Qlh v.a v.b v.e v.d)(h0:((wx2 v).num.sign)=0):SCt 21 [gIi 2,.row (rG (⟨v.a,v.b⟩:QC)++rG (⟨v.e,v.d⟩:QC))] (.tup [gTt,gIi 0]) :=
  Qas (L := Krt v) Qae Qai
     (Kru v B hW)
     [bEt 3 36 h0] [] Ucd 1 3 func21 eo21 2000 [lc 2,.row (gL [0,6])] (.tup [cTt,lc 0])
def Uib(v:V5)(B:v.O)(hW:Qlh v.a v.b v.e v.d)(h0:¬(((wx2 v).num.sign)=0)):SCt 21 [gIi 2,.row (rG (⟨v.a,v.b⟩:QC)++rG (⟨v.e,v.d⟩:QC))] (.tup [gFf,gIi 0]) :=
  Qas (L := Krt v) Qae Qai
     (Kru v B hW)
     [bEf 3 36 h0] [] Ucd 1 3 func21 eo21 2000 [lc 2,.row (gL [0,6])] (.tup [cFf,lc 0])
def Krx(v:V5):List GF:=[cF v.a,cF v.b,cF v.e,cF v.d,(Qan v.z).cells,(Qan (⟨0,0⟩:QC)).cells,[gr v.a,gr v.b,gr v.e,gr v.d],cn v.z,cn (⟨v.b,0⟩:QC),cn (⟨v.e,0⟩:QC),cn (⟨0,1⟩:QC),cn ((⟨v.e,0⟩:QC)*(⟨0,1⟩:QC)),cn (wx3 v),cn (cj v.z),cn (cj (wx3 v)),cn ((⟨0,0⟩:QC)-(cj (wx3 v))),cn (wx4 v),cn (⟨v.d,0⟩:QC),cn ((wx4 v)-(⟨v.d,0⟩:QC)),cn (wx5 v),cn ((wx5 v)+(wx3 v)),cn (wx6 v),(Qan (wx6 v)).cells].flatten
noncomputable def Kry(v:V5)(B:v.O)(hz:¬((((1:Rat)-(nm v.z)).num.sign)<=0))(hq:((wx2 v).num.sign)=0)(hD:¬(((wx5 v)+(wx3 v))=(⟨0,0⟩:QC)))(hW:Qlh v.a v.b v.e v.d):List (GC prog (Krx v) true):=[Qbw eo78,gs (Ukx v B hz hq hW) [lc 2,.row (gL [0,6]),yR 12 8] (.tup [.row (flA [[.fn 245 [] [],.lit (.int .i64 1),.lit (.int .i64 0),.lit (.int .i64 0),.lit (.int .i64 (-1)),.lit (.int .i64 1)],Qbd 20 8]),yR 28 4,sy [32,33],lc 0]),gs (Qdp v.b) [cS 29] (.r (sy [34,35])),gs (Qdp v.e) [cS 30] (.r (sy [36,37])),gs (Qsp 0 1) [lc 0,lc 1] (.r (sy [38,39])),gs (Qfi _ (⟨0,1⟩:QC) (Qau (B.E.upby 1) Qda) (Qbq 0 1) (by decide)) [sy [36,37],sy [38,39]] (.r (sy [40,41])),gs (Qqh _ _ (Qau (B.B.upby 1) Qda) (Qct (Qau (B.E.upby 1) Qda) (Qbq 0 1)) (by decide)) [sy [34,35],sy [40,41]] (.r (sy [42,43])),gs (Qlk _ ((Qab B.z).mn)) [sy [32,33]] (.r (sy [44,45])),gs (Qlk _ ((Qjs B).mn)) [sy [42,43]] (.r (sy [46,47])),gs (Kbk _ ((Qeg (Qjs B)).mn)) [sy [46,47]] (.r (sy [48,49])),gs (Qfi _ _ (Qrr (Qeg (Qjs B))) (Qeg (Qab B.z)) (by decide)) [sy [48,49],sy [44,45]] (.r (sy [50,51])),gs (Qdp v.d) [cS 31] (.r (sy [52,53])),gs (Qem _ _ (Kcx B) (Qau (B.D.upby 1) Qda) (by decide)) [sy [50,51],sy [52,53]] (.r (sy [54,55])),gs (Qdh _ _ ((Qeg (Qab B.z)).mn) (B.A.mn)) [sy [44,45],cS 28] (.r (sy [56,57])),gs (Qqh _ _ (Kcy B) (Qjs B) (by decide)) [sy [56,57],sy [42,43]] (.r (sy [58,59])),gs (Kem _ _ hD (Qec (Kcx B) (Qau (B.D.upby 1) Qda)) (Qht (Kcy B) (Qjs B)) (by decide)) [sy [54,55],sy [58,59]] (.r (sy [60,61]))]
def Uie(v:V5)(B:v.O)(hz:¬((((1:Rat)-(nm v.z)).num.sign)<=0))(hq:((wx2 v).num.sign)=0)(hD:¬(((wx5 v)+(wx3 v))=(⟨0,0⟩:QC)))(hW:Qlh v.a v.b v.e v.d)(h0:Qaj (wx6 v)):SCt 24 [gIi 2,.row (rG (⟨v.a,v.b⟩:QC)++rG (⟨v.e,v.d⟩:QC)),.row ((Qan v.z).cells)] (.tup [.row ((Qan (wx6 v)).cells),gIi 0]) :=
  Qas (L := Krx v) Qae Qai
     ((Kry v B hz hq hD hW)++[gs (Qej _ ((Kkk B hD).mn) h0) [sy [60,61]] (.tup [yR 62 8,lc 0])])
     [] [] Uce 1 4 func24 eo24 2000 [lc 2,.row (gL [0,6]),yR 12 8] (.tup [yR 62 8,lc 0])
def Uif(v:V5)(B:v.O)(hz:¬((((1:Rat)-(nm v.z)).num.sign)<=0))(hq:((wx2 v).num.sign)=0)(hD:¬(((wx5 v)+(wx3 v))=(⟨0,0⟩:QC)))(hW:Qlh v.a v.b v.e v.d)(h0:¬(Qaj (wx6 v))):SCt 24 [gIi 2,.row (rG (⟨v.a,v.b⟩:QC)++rG (⟨v.e,v.d⟩:QC)),.row ((Qan v.z).cells)] (.tup [.row (zGG),gIi 4]) :=
  Qas (L := Krx v) Qae Qai
     ((Kry v B hz hq hD hW)++[gs (Qex (wx6 v) ((Kkk B hD).mn) h0) [sy [60,61]] (.tup [.row (zGA),lc 4])])
     [] [] Uce 1 4 func24 eo24 2000 [lc 2,.row (gL [0,6]),yR 12 8] (.tup [.row (zGA),lc 4])
def Qcl(v:V5):Rat:=up0 (1:Rat) (0:Rat) (0:Rat) v.a v.b v.e (1:Rat) (-v.z.re) v.z.im
def Qde{v:V5}(B:v.O):RL (Qcl v) 174200:=(Qst (1:Rat) (0:Rat) (0:Rat) (-1:Rat) v.a v.b v.e v.d (1:Rat) (-v.z.re) v.z.im (nm v.z) (ri 1) (ri 0) (ri 0) (ri (-1)) (B.A.upby 4097) (B.B.mn) (B.E.mn) (B.D.mn) (ri 1) ((Qah ((Qab B.z).1)).mn) (((Qab B.z).2).mn) ((Qbe (Qab B.z)).mn)).mn
def Qeu(v:V5):Rat:=up1 (1:Rat) (0:Rat) (-1:Rat) v.a v.e v.d (1:Rat) v.z.im (nm v.z)
def Qgo{v:V5}(B:v.O):RL (Qeu v) 209050:=(Qsu (1:Rat) (0:Rat) (0:Rat) (-1:Rat) v.a v.b v.e v.d (1:Rat) (-v.z.re) v.z.im (nm v.z) (ri 1) (ri 0) (ri 0) (ri (-1)) (B.A.upby 4097) (B.B.mn) (B.E.mn) (B.D.mn) (ri 1) ((Qah ((Qab B.z).1)).mn) (((Qab B.z).2).mn) ((Qbe (Qab B.z)).mn)).mn
def Qev(v:V5):Rat:=up2 (1:Rat) (0:Rat) (-1:Rat) v.a v.b v.d (1:Rat) (-v.z.re) (nm v.z)
def Qgp{v:V5}(B:v.O):RL (Qev v) 209050:=(Qsv (1:Rat) (0:Rat) (0:Rat) (-1:Rat) v.a v.b v.e v.d (1:Rat) (-v.z.re) v.z.im (nm v.z) (ri 1) (ri 0) (ri 0) (ri (-1)) (B.A.upby 4097) (B.B.mn) (B.E.mn) (B.D.mn) (ri 1) ((Qah ((Qab B.z).1)).mn) (((Qab B.z).2).mn) ((Qbe (Qab B.z)).mn)).mn
def Qfx(v:V5):Rat:=up3 (0:Rat) (0:Rat) (-1:Rat) v.b v.e v.d (-v.z.re) v.z.im (nm v.z)
def Qhq{v:V5}(B:v.O):RL (Qfx v) 174200:=(Qsw (1:Rat) (0:Rat) (0:Rat) (-1:Rat) v.a v.b v.e v.d (1:Rat) (-v.z.re) v.z.im (nm v.z) (ri 1) (ri 0) (ri 0) (ri (-1)) (B.A.upby 4097) (B.B.mn) (B.E.mn) (B.D.mn) (ri 1) ((Qah ((Qab B.z).1)).mn) (((Qab B.z).2).mn) ((Qbe (Qab B.z)).mn)).mn
def Ksc(v:V5):List GF:=[cF v.a,cF v.b,cF v.e,cF v.d,(Qan v.z).cells,(Qan (⟨0,0⟩:QC)).cells,[gr v.a,gr v.b,gr v.e,gr v.d],cn v.z,[gr (1:Rat),gr (0:Rat),gr (-1:Rat),gr (1:Rat),gr (-v.z.re),gr v.z.im,gr (nm v.z),gr (Qcl v),gr (Qeu v),gr (Qev v),gr (Qfx v)],Quo (Qcl v) (Qeu v) (Qev v) (Qfx v)].flatten
noncomputable def Ksd(v:V5)(B:v.O)(hz:¬((((1:Rat)-(nm v.z)).num.sign)<=0))(hq:((wx2 v).num.sign)=0)(hW:Qlh v.a v.b v.e v.d):List (GC prog (Ksc v) true):=[Qbw eo78,gs (Ukx v B hz hq hW) [lc 2,.row (gL [0,6]),yR 12 8] (.tup [.row (flA [[.fn 245 [] [],.lit (.int .i64 1),.lit (.int .i64 0),.lit (.int .i64 0),.lit (.int .i64 (-1)),.lit (.int .i64 1)],Qbd 20 8]),yR 28 4,sy [32,33],lc 0]),gs (pnr 1) [lc 1,lc 1] (rS 34),gs (pnr 0) [lc 0,lc 1] (rS 35),gs (pnr (-1)) [lc (-1),lc 1] (rS 36),gs (Qhf _ ((Qab B.z).mn)) [sy [32,33]] (.r (yR 37 4)),
   gsG (Qnf (1:Rat) (0:Rat) (0:Rat) (-1:Rat) v.a v.b v.e v.d (1:Rat) (-v.z.re) v.z.im (nm v.z) (ri 1) (ri 0) (ri 0) (ri (-1)) (B.A.mn) (B.B.mn) (B.E.mn) (B.D.mn) (ri 1) ((Qah ((Qab B.z).1)).mn) (((Qab B.z).2).mn) ((Qbe (Qab B.z)).mn)) 20 ⟨flA [[.sym 34,.sym 35,.sym 35,.sym 36],Qbd 28 4,Qbd 37 4],143,none⟩ [.c (.sl 0 0 3 3)] (.r (yR 41 4))]
def Uii(v:V5)(B:v.O)(hz:¬((((1:Rat)-(nm v.z)).num.sign)<=0))(hq:((wx2 v).num.sign)=0)(hW:Qlh v.a v.b v.e v.d)(hP:0<Qam (Qcl v) (Qeu v) (Qev v) (Qfx v) (Qcl v) (Qeu v) (Qev v) (Qfx v))(h0:Koh (Qcl v) (Qeu v) (Qev v) (Qfx v)):SCt 22 [gIi 2,.row (rG (⟨v.a,v.b⟩:QC)++rG (⟨v.e,v.d⟩:QC)),.row ((Qan v.z).cells)] (.tup [.row (Quo (Qcl v) (Qeu v) (Qev v) (Qfx v)),gIi 0]) :=
  Qas (L := Ksc v) Qae Qai
     ((Ksd v B hz hq hW)++[gs ((Kbj (Qcl v) (Qeu v) (Qev v) (Qfx v) ((Qde B).mn) ((Qgo B).mn) ((Qgp B).mn) ((Qhq B).mn) (Qun hP)).t h0) [yR 41 4] (.tup [yR 45 16,lc 0])])
     [] [] Ucf 1 4 func22 eo22 2000 [lc 2,.row (gL [0,6]),yR 12 8] (.tup [yR 45 16,lc 0])
def Uij(v:V5)(B:v.O)(hz:¬((((1:Rat)-(nm v.z)).num.sign)<=0))(hq:((wx2 v).num.sign)=0)(hW:Qlh v.a v.b v.e v.d)(hP:0<Qam (Qcl v) (Qeu v) (Qev v) (Qfx v) (Qcl v) (Qeu v) (Qev v) (Qfx v))(h0:¬(Koh (Qcl v) (Qeu v) (Qev v) (Qfx v))):SCt 22 [gIi 2,.row (rG (⟨v.a,v.b⟩:QC)++rG (⟨v.e,v.d⟩:QC)),.row ((Qan v.z).cells)] (.tup [.row (zGG++zGG),gIi 4]) :=
  Qas (L := Ksc v) Qae Qai
     ((Ksd v B hz hq hW)++[gs ((Kbj (Qcl v) (Qeu v) (Qev v) (Qfx v) ((Qde B).mn) ((Qgo B).mn) ((Qgp B).mn) ((Qhq B).mn) (Qun hP)).f h0) [yR 41 4] (.tup [.row (flA [zGA,zGA]),lc 4])])
     [] [] Ucf 1 4 func22 eo22 2000 [lc 2,.row (gL [0,6]),yR 12 8] (.tup [.row (flA [zGA,zGA]),lc 4])
def Qdv{x y:Rat}(h:x≠0)(k:y≠0):x*y≠0:=by grind
def Qdm(v:V5):QC:=(⟨v.b,0⟩:QC)-((⟨v.e,0⟩:QC)*(⟨0,1⟩:QC))
def Qbl{v:V5}(B:v.O):ZL (Qdm v) 777:=(Qec (Qau (B.B.upby 1) Qda) (Qct (Qau (B.E.upby 1) Qda) (Qbq 0 1))).mn
def Kni(v:V5):QC:=(⟨(wx9 v),0⟩:QC)*(⟨0,1⟩:QC)
def Kfk{v:V5}(B:v.O):ZL (Kni v) 418107:=(Qct (Qau ((Qju B).upby 1) Qda) (Qbq 0 1)).mn
def Qjx(v:V5):QC:=(⟨(wx8 v),0⟩:QC)-(Kni v)
def Qfd{v:V5}(B:v.O):ZL (Qjx v) 627159:=(Qec (Qau ((Qjt B).upby 1) Qda) (Kfk B)).mn
def Uek(v:V5):QC:=(⟨0,0⟩:QC)-(Qjx v)
def Kfl{v:V5}(B:v.O):ZL (Uek v) 627159:=(Qrr (Qfd B)).mn
def Uel(v:V5):QC:=(⟨((Uek v).re)*((wx7 v)⁻¹),((Uek v).im)*((wx7 v)⁻¹)⟩:QC)
def Qzb{v:V5}(B:v.O)(f2:¬(((wx7 v).num.sign)=0)):ZL (Uel v) 801359:=(Qau (Qad (Kfl B).1 (Qca (Qak f2) (Qea B))) (Qad (Kfl B).2 (Qca (Qak f2) (Qea B)))).mn
def Knt(v:V5):QC:=(Uel v)*(cj (Qdm v))
def Kfm{v:V5}(B:v.O)(f2:¬(((wx7 v).num.sign)=0)):ZL (Knt v) 1604273:=(Qct (Qzb B f2) (Qeg (Qbl B))).mn
def Qzc(v:V5):Rat:=((Knt v).re)*(2:Rat)
def Qme{v:V5}(B:v.O)(f2:¬(((wx7 v).num.sign)=0)):RL (Qzc v) 3208546:=(Qaa ((Knt v).re) (2:Rat) (Qbo (Knt v) (Kfm B f2)) (ri 2)).mn
def Ulm(v:V5):Rat:=((Qzc v)+v.d)/((nm (Qdm v))*(2:Rat))
def Kfn{v:V5}(B:v.O)(f2:¬(((wx7 v).num.sign)=0))(hN:¬(nm (Qdm v)=0)):RL (Ulm v) 6423311:=(Qei (Qdv hN (by decide)) (Qbv (Qzc v) v.d (Qme B f2) (B.D.mn)) (Qaa (nm (Qdm v)) (2:Rat) (Qbe (Qbl B)) (ri 2))).mn
def Usc(v:V5):QC:=(⟨((Qdm v).re)*(Ulm v),((Qdm v).im)*(Ulm v)⟩:QC)
def Kut{v:V5}(B:v.O)(f2:¬(((wx7 v).num.sign)=0))(hN:¬(nm (Qdm v)=0)):ZL (Usc v) 6424088:=(Qau (Qad (Qbl B).1 (Kfn B f2 hN)) (Qad (Qbl B).2 (Kfn B f2 hN))).mn
def Uln(v:V5):QC:=(Uel v)-(Usc v)
def Qua{v:V5}(B:v.O)(f2:¬(((wx7 v).num.sign)=0))(hN:¬(nm (Qdm v)=0)):ZL (Uln v) 7225448:=(Qec (Qzb B f2) (Kut B f2 hN)).mn
def Uue(v:V5):Rat:=Qam (wx7 v) (wx8 v) (wx9 v) (Qfy v) (wx7 v) (wx8 v) (wx9 v) (Qfy v)
def Kuu{v:V5}(B:v.O):RL (Uue v) 3344809:=(Qfn (wx7 v) (wx8 v) (wx9 v) (Qfy v) (wx7 v) (wx8 v) (wx9 v) (Qfy v) ((Qea B).mn) (Qjt B) (Qju B) ((Qhp B).mn) ((Qea B).mn) (Qjt B) (Qju B) ((Qhp B).mn)).mn
def Usd(v:V5):Rat:=(Uue v)/((wx7 v)*(wx7 v))
def Kuv{v:V5}(B:v.O)(f2:¬(((wx7 v).num.sign)=0)):RL (Usd v) 3693209:=(Qei (Qdv (Qak f2) (Qak f2)) (Kuu B) (Qaa (wx7 v) (wx7 v) (Qea B) (Qea B))).mn
def Uuf(v:V5):Rat:=((Qzc v)+v.d)*((Qzc v)+v.d)
def Kuw{v:V5}(B:v.O)(f2:¬(((wx7 v).num.sign)=0)):RL (Uuf v) 12834186:=(Qaa ((Qzc v)+v.d) ((Qzc v)+v.d) (Qbv (Qzc v) v.d (Qme B f2) (B.D.mn)) (Qbv (Qzc v) v.d (Qme B f2) (B.D.mn))).mn
def Use(v:V5):Rat:=(Uuf v)/((nm (Qdm v))*(4:Rat))
def Kux{v:V5}(B:v.O)(f2:¬(((wx7 v).num.sign)=0))(hN:¬(nm (Qdm v)=0)):RL (Use v) 12840404:=(Qei (Qdv hN (by decide)) (Kuw B f2) (Qaa (nm (Qdm v)) (4:Rat) (Qbe (Qbl B)) (ri 4))).mn
def Uug(v:V5):Rat:=(Usd v)-(Use v)
def Kuy{v:V5}(B:v.O)(f2:¬(((wx7 v).num.sign)=0))(hN:¬(nm (Qdm v)=0)):RL (Uug v) 25680809:=(Qba (Usd v) (Use v) ((Kuv B f2).mn) (Kux B f2 hN)).mn
def Kde(v:V5):Rat:=(Uug v)/(nm (Qdm v))
def Qub{v:V5}(B:v.O)(f2:¬(((wx7 v).num.sign)=0))(hN:¬(nm (Qdm v)=0)):RL (Kde v) 25683918:=(Qei hN (Kuy B f2 hN) (Qbe (Qbl B))).mn
noncomputable def Uka(v:V5):QC:=(⟨(((Qdm v)*(⟨0,1⟩:QC)).re)*(sqr (Kde v)),(((Qdm v)*(⟨0,1⟩:QC)).im)*(sqr (Kde v))⟩:QC)
def Quc{v:V5}(B:v.O)(f2:¬(((wx7 v).num.sign)=0))(hN:¬(nm (Qdm v)=0)):ZL (Uka v) 25685478:=(Qau (Qad (Qct (Qbl B) (Qbq 0 1)).1 (Qdr (Qub B f2 hN))) (Qad (Qct (Qbl B) (Qbq 0 1)).2 (Qdr (Qub B f2 hN)))).mn
noncomputable def Qoz(v:V5):QC:=(Uln v)+(Uka v)
def Kfo{v:V5}(B:v.O)(f2:¬(((wx7 v).num.sign)=0))(hN:¬(nm (Qdm v)=0)):ZL (Qoz v) 32910927:=(Qht (Qua B f2 hN) (Quc B f2 hN)).mn
noncomputable def Kxa(v:V5):QC:=(Uln v)-(Uka v)
def Kuz{v:V5}(B:v.O)(f2:¬(((wx7 v).num.sign)=0))(hN:¬(nm (Qdm v)=0)):ZL (Kxa v) 32910927:=(Qec (Qua B f2 hN) (Quc B f2 hN)).mn
def Qfp:FnsOk prog [⟨119,Tryz.f119,2000⟩,⟨70,Tryz.f70,2000⟩,⟨167,Tryz.f167,2000⟩,⟨244,Tryz.f244,2000⟩,⟨245,Tryz.f245,2000⟩,⟨81,Tryz.f81,2000⟩,⟨121,Tryz.f121,2000⟩,⟨99,Tryz.f99,2000⟩,⟨104,Tryz.f104,2000⟩]:=(Qup (Kqh (Qsa (Qsb (Qsc (Knm (Qrz (Ucv (Uvy .nil)))))))))
noncomputable def Qlu(v:V5):List GF:=[cF v.a,cF v.b,cF v.e,cF v.d,(Qan v.z).cells,(Qan (⟨0,1⟩:QC)).cells,[gr v.a,gr v.b,gr v.e,gr v.d],cn v.z,[gr (0:Rat),gr (1:Rat),gr (1:Rat),gr (-v.z.re),gr v.z.im,gr (nm v.z),gr (wx7 v),gr (wx8 v),gr (wx9 v),gr (Qfy v),gxi v.a.num.sign],cn (⟨v.b,0⟩:QC),cn (⟨v.e,0⟩:QC),cn (⟨0,1⟩:QC),cn ((⟨v.e,0⟩:QC)*(⟨0,1⟩:QC)),cn (Qdm v),[gr (nm (Qdm v)),gxi ((wx7 v).num.sign)],cn (⟨(wx8 v),0⟩:QC),cn (⟨(wx9 v),0⟩:QC),cn (Kni v),cn (Qjx v),cn (Uek v),[gr ((wx7 v)⁻¹)],cn (Uel v),cn (cj (Qdm v)),cn (Knt v),[gr ((Knt v).re),gr ((Knt v).im),gr (2:Rat),gr (Qzc v),gr ((Qzc v)+v.d),gr ((nm (Qdm v))*(2:Rat)),gr (Ulm v)],cn (Usc v),cn (Uln v),[gr (Uue v),gr ((wx7 v)*(wx7 v)),gr (Usd v),gr (Uuf v),gr (4:Rat),gr ((nm (Qdm v))*(4:Rat)),gr (Use v),gr (Uug v),gr (Kde v),gr (sqr (Kde v))],cn ((Qdm v)*(⟨0,1⟩:QC)),cn (Uka v),cn (Qoz v),[gr ((Qoz v).re),gr ((Qoz v).im),gxi (((Qoz v).im).num.sign)],(Qan (Qoz v)).cells,cn (Kxa v),(Qan (Kxa v)).cells,[ga]].flatten
structure Qpw(v:V5):Prop where
 B:v.O
 hz:¬(v.z.im.num.sign<=0)
 f0:((wx1 v).num.sign)=0
 f2:¬(((wx7 v).num.sign)=0)
 hN:¬(nm (Qdm v)=0)
 hW:Qlh v.a v.b v.e v.d
 f1:v.a.num.sign=0
noncomputable def Kid(v:V5)(H:Qpw v):List (GC prog (Qlu v) true):=[Qbw eo78,gs (Upu v H.B H.hz H.f0 H.hW) [lc 1,.row (gL [0,6]),yR 12 8] (.tup [.row (flA [[.fn 244 [] [],.lit (.int .i64 0),.lit (.int .i64 0),.lit (.int .i64 1),.lit (.int .i64 0),.lit (.int .i64 2)],Qbd 20 8]),yR 28 4,sy [32,33],lc 0]),gs (pnr 0) [lc 0,lc 1] (rS 34),gs (pnr 1) [lc 1,lc 1] (rS 35),gs (Qhf _ ((Qab H.B.z).mn)) [sy [32,33]] (.r (yR 36 4)),
   gsG (Qnf (0:Rat) (0:Rat) (1:Rat) (0:Rat) v.a v.b v.e v.d (1:Rat) (-v.z.re) v.z.im (nm v.z) (ri 0) (ri 0) (ri 1) (ri 0) (H.B.A.mn) (H.B.B.mn) (H.B.E.mn) (H.B.D.mn) (ri 1) ((Qah ((Qab H.B.z).1)).mn) (((Qab H.B.z).2).mn) ((Qbe (Qab H.B.z)).mn)) 22 ⟨flA [[.sym 34,.sym 34,.sym 35,.sym 34],Qbd 28 4,Qbd 36 4],143,none⟩ [.c (.sl 0 0 3 3)] (.r (yR 40 4)),gs (Qbb v.a) [cS 28] (rS 44),gs (Qdp v.b) [cS 29] (.r (sy [45,46])),gs (Qdp v.e) [cS 30] (.r (sy [47,48])),gs (Qsp 0 1) [lc 0,lc 1] (.r (sy [49,50])),gs (Qfi _ (⟨0,1⟩:QC) (Qau (H.B.E.upby 1) Qda) (Qbq 0 1) (by decide)) [sy [47,48],sy [49,50]] (.r (sy [51,52])),gs (Qem _ _ (Qau (H.B.B.upby 1) Qda) (Qct (Qau (H.B.E.upby 1) Qda) (Qbq 0 1)) (by decide)) [sy [45,46],sy [51,52]] (.r (sy [53,54])),gs (Qee _ ((Qbl H.B).mn)) [sy [53,54]] (rS 55),gs (Qbb (wx7 v)) [cS 40] (rS 56),gs (Qdp (wx8 v)) [cS 41] (.r (sy [57,58])),gs (Qdp (wx9 v)) [cS 42] (.r (sy [59,60])),gs (Qfi _ (⟨0,1⟩:QC) (Qau ((Qju H.B).upby 1) Qda) (Qbq 0 1) (by decide)) [sy [59,60],sy [49,50]] (.r (sy [61,62])),gs (Qem _ _ (Qau ((Qjt H.B).upby 1) Qda) (Kfk H.B) (by decide)) [sy [57,58],sy [61,62]] (.r (sy [63,64])),gs (Kbk _ ((Qfd H.B).mn)) [sy [63,64]] (.r (sy [65,66])),
   Qqg (wx7 v) (Qak H.f2) (Qea H.B) (by decide) 57 (.c (.sym 40)) (.sym 67),gs (Qdh _ _ ((Kfl H.B).mn) ((Qca (Qak H.f2) (Qea H.B)).mn)) [sy [65,66],cS 67] (.r (sy [68,69])),gs (Qlk _ ((Qbl H.B).mn)) [sy [53,54]] (.r (sy [70,71])),gs (Qfi _ _ (Qzb H.B H.f2) (Qeg (Qbl H.B)) (by decide)) [sy [68,69],sy [70,71]] (.r (sy [72,73])),gs (Qcr _ ((Kfm H.B H.f2).mn)) [sy [72,73]] (.tup [cS 74,cS 75]),gs (pnr 2) [lc 2,lc 1] (rS 76),gs (Qax _ (2:Rat) ((Qbo (Knt v) (Kfm H.B H.f2)).mn) (ri 2)) [cS 74,cS 76] (rS 77),gs (Qkk _ _ ((Qme H.B H.f2).mn) (H.B.D.mn)) [cS 77,cS 31] (rS 78),gs (Qax _ (2:Rat) ((Qbe (Qbl H.B)).mn) (ri 2)) [cS 55,cS 76] (rS 79),gs (Qcc _ _ ((Qbv (Qzc v) v.d (Qme H.B H.f2) (H.B.D.mn)).mn) ((Qaa (nm (Qdm v)) (2:Rat) (Qbe (Qbl H.B)) (ri 2)).mn) (Qdv H.hN (by decide))) [cS 78,cS 79] (rS 80),gs (Qdh _ _ ((Qbl H.B).mn) ((Kfn H.B H.f2 H.hN).mn)) [sy [53,54],cS 80] (.r (sy [81,82])),gs (Qem _ _ (Qzb H.B H.f2) (Kut H.B H.f2 H.hN) (by decide)) [sy [68,69],sy [81,82]] (.r (sy [83,84])),gs (Qjq _ _ _ _ _ _ _ _ ((Qea H.B).mn) ((Qjt H.B).mn) ((Qju H.B).mn) ((Qhp H.B).mn) ((Qea H.B).mn) ((Qjt H.B).mn) ((Qju H.B).mn) ((Qhp H.B).mn)) [yR 40 4,yR 40 4] (rS 85),gs (Qax _ _ ((Qea H.B).mn) ((Qea H.B).mn)) [cS 40,cS 40] (rS 86),gs (Qcc _ _ ((Kuu H.B).mn) ((Qaa (wx7 v) (wx7 v) (Qea H.B) (Qea H.B)).mn) (Qdv (Qak H.f2) (Qak H.f2))) [cS 85,cS 86] (rS 87),gs (Qax _ _ ((Qbv (Qzc v) v.d (Qme H.B H.f2) (H.B.D.mn)).mn) ((Qbv (Qzc v) v.d (Qme H.B H.f2) (H.B.D.mn)).mn)) [cS 78,cS 78] (rS 88),gs (pnr 4) [lc 4,lc 1] (rS 89),gs (Qax _ (4:Rat) ((Qbe (Qbl H.B)).mn) (ri 4)) [cS 55,cS 89] (rS 90),gs (Qcc _ _ ((Kuw H.B H.f2).mn) ((Qaa (nm (Qdm v)) (4:Rat) (Qbe (Qbl H.B)) (ri 4)).mn) (Qdv H.hN (by decide))) [cS 88,cS 90] (rS 91),gs (Qcw _ _ ((Kuv H.B H.f2).mn) ((Kux H.B H.f2 H.hN).mn)) [cS 87,cS 91] (rS 92),gs (Qcc _ _ ((Kuy H.B H.f2 H.hN).mn) ((Qbe (Qbl H.B)).mn) H.hN) [cS 92,cS 55] (rS 93)]
noncomputable def Qrd(v:V5)(H:Qpw v)(h0:Qer (Kde v)):List (GC prog (Qlu v) true):=(Kid v H)++[gs (Qwc _ ((Qub H.B H.f2 H.hN).mn) h0) [cS 93] (.tup [cS 94,cTt]),gs (Qfi _ (⟨0,1⟩:QC) (Qbl H.B) (Qbq 0 1) (by decide)) [sy [53,54],sy [49,50]] (.r (sy [95,96])),gs (Qdh _ _ ((Qct (Qbl H.B) (Qbq 0 1)).mn) ((Qdr (Qub H.B H.f2 H.hN)).mn)) [sy [95,96],cS 94] (.r (sy [97,98])),gs (Qqh _ _ (Qua H.B H.f2 H.hN) (Quc H.B H.f2 H.hN) (by decide)) [sy [83,84],sy [97,98]] (.r (sy [99,100])),gs (Qcr _ ((Kfo H.B H.f2 H.hN).mn)) [sy [99,100]] (.tup [cS 101,cS 102]),gs (Qbb ((Qoz v).im)) [cS 102] (rS 103)]
def Kic(v:V5)(H:Qpw v)(h0:Qer (Kde v))(h1:(((Qoz v).im).num.sign)>0)(h2:Qaj (Qoz v)):SCt 23 [gIi 1,.row (rG (⟨v.a,v.b⟩:QC)++rG (⟨v.e,v.d⟩:QC)),.row ((Qan v.z).cells)] (.tup [.row ((Qan (Qoz v)).cells),gIi 0]) :=
  Qas (L := Qlu v) Qae Qai
     ((Qrd v H h0)++[gs (Qej _ ((Kfo H.B H.f2 H.hN).mn) h2) [sy [99,100]] (.tup [yR 104 8,lc 0])])
     [bNf 3 44 H.f1,bEf 3 56 H.f2,gtY 3 (.sym 103) (li 0) (((Qoz v).im).num.sign) 0 h1] [] Qfp 1 5 func23 eo23 2000 [lc 1,.row (gL [0,6]),yR 12 8] (.tup [yR 104 8,lc 0])
def Kzq(v:V5)(H:Qpw v)(h0:Qer (Kde v))(h1:(((Qoz v).im).num.sign)>0)(h2:¬(Qaj (Qoz v))):SCt 23 [gIi 1,.row (rG (⟨v.a,v.b⟩:QC)++rG (⟨v.e,v.d⟩:QC)),.row ((Qan v.z).cells)] (.tup [.row (zGG),gIi 4]) :=
  Qas (L := Qlu v) Qae Qai
     ((Qrd v H h0)++[gs (Qex (Qoz v) ((Kfo H.B H.f2 H.hN).mn) h2) [sy [99,100]] (.tup [.row (zGA),lc 4])])
     [bNf 3 44 H.f1,bEf 3 56 H.f2,gtY 3 (.sym 103) (li 0) (((Qoz v).im).num.sign) 0 h1] [] Qfp 1 5 func23 eo23 2000 [lc 1,.row (gL [0,6]),yR 12 8] (.tup [.row (zGA),lc 4])
def Kzr(v:V5)(H:Qpw v)(h0:Qer (Kde v))(h1:¬((((Qoz v).im).num.sign)>0))(h2:Qaj (Kxa v)):SCt 23 [gIi 1,.row (rG (⟨v.a,v.b⟩:QC)++rG (⟨v.e,v.d⟩:QC)),.row ((Qan v.z).cells)] (.tup [.row ((Qan (Kxa v)).cells),gIi 0]) :=
  Qas (L := Qlu v) Qae Qai
     ((Qrd v H h0)++[gs (Qem _ _ (Qua H.B H.f2 H.hN) (Quc H.B H.f2 H.hN) (by decide)) [sy [83,84],sy [97,98]] (.r (sy [112,113])),gs (Qej _ ((Kuz H.B H.f2 H.hN).mn) h2) [sy [112,113]] (.tup [yR 114 8,lc 0])])
     [bNf 3 44 H.f1,bEf 3 56 H.f2,gtN 3 (.sym 103) (li 0) (((Qoz v).im).num.sign) 0 h1] [] Qfp 1 5 func23 eo23 2000 [lc 1,.row (gL [0,6]),yR 12 8] (.tup [yR 114 8,lc 0])
def Kzs(v:V5)(H:Qpw v)(h0:Qer (Kde v))(h1:¬((((Qoz v).im).num.sign)>0))(h2:¬(Qaj (Kxa v))):SCt 23 [gIi 1,.row (rG (⟨v.a,v.b⟩:QC)++rG (⟨v.e,v.d⟩:QC)),.row ((Qan v.z).cells)] (.tup [.row (zGG),gIi 4]) :=
  Qas (L := Qlu v) Qae Qai
     ((Qrd v H h0)++[gs (Qem _ _ (Qua H.B H.f2 H.hN) (Quc H.B H.f2 H.hN) (by decide)) [sy [83,84],sy [97,98]] (.r (sy [112,113])),gs (Qex (Kxa v) ((Kuz H.B H.f2 H.hN).mn) h2) [sy [112,113]] (.tup [.row (zGA),lc 4])])
     [bNf 3 44 H.f1,bEf 3 56 H.f2,gtN 3 (.sym 103) (li 0) (((Qoz v).im).num.sign) 0 h1] [] Qfp 1 5 func23 eo23 2000 [lc 1,.row (gL [0,6]),yR 12 8] (.tup [.row (zGA),lc 4])
def Kzt(v:V5)(H:Qpw v)(h0:¬(Qer (Kde v))):SCt 23 [gIi 1,.row (rG (⟨v.a,v.b⟩:QC)++rG (⟨v.e,v.d⟩:QC)),.row ((Qan v.z).cells)] (.tup [.row (zGG),gIi 7]) :=
  Qas (L := Qlu v) Qae Qai
     ((Kid v H)++[gs (Qos _ ((Qub H.B H.f2 H.hN).mn) h0) [cS 93] (.tup [cS 122,cFf])])
     [bNf 3 44 H.f1,bEf 3 56 H.f2] [] Qfp 1 5 func23 eo23 2000 [lc 1,.row (gL [0,6]),yR 12 8] (.tup [.row (zGA),lc 7])
def Qnz(v:V5):QC:=(⟨(((⟨0,0⟩:QC)-(Qdm v)).re)*(v.a⁻¹),(((⟨0,0⟩:QC)-(Qdm v)).im)*(v.a⁻¹)⟩:QC)
def Qfh{v:V5}(B:v.O)(f1:¬(v.a.num.sign=0)):ZL (Qnz v) 1033:=(Qau (Qad (Qrr (Qbl B)).1 (Qca (Qak f1) B.A)) (Qad (Qrr (Qbl B)).2 (Qca (Qak f1) B.A))).mn
def Knu(v:V5):QC:=(Qnz v)*(cj (Qjx v))
def Kfp{v:V5}(B:v.O)(f1:¬(v.a.num.sign=0)):ZL (Knu v) 1256385:=(Qct (Qfh B f1) (Qeg (Qfd B))).mn
def Uem(v:V5):Rat:=((Knu v).re)*(2:Rat)
def Kva{v:V5}(B:v.O)(f1:¬(v.a.num.sign=0)):RL (Uem v) 2512770:=(Qaa ((Knu v).re) (2:Rat) (Qbo (Knu v) (Kfp B f1)) (ri 2)).mn
def Knv(v:V5):Rat:=(Uem v)+(Qfy v)
def Qpa{v:V5}(B:v.O)(f1:¬(v.a.num.sign=0)):RL (Knv v) 5025541:=(Qbv (Uem v) (Qfy v) (Kva B f1) ((Qhp B).mn)).mn
def Usf(v:V5):Rat:=(nm (Qjx v))*(2:Rat)
def Kvb{v:V5}(B:v.O):RL (Usf v) 5017274:=(Qaa (nm (Qjx v)) (2:Rat) (Qbe (Qfd B)) (ri 2)).mn
def Ulo(v:V5):Rat:=(Knv v)/(Usf v)
def Kfq{v:V5}(B:v.O)(f1:¬(v.a.num.sign=0))(hN:¬(nm (Qjx v)=0)):RL (Ulo v) 10042815:=(Qei (Qdv hN (by decide)) (Qpa B f1) (Kvb B)).mn
def Usg(v:V5):QC:=(⟨((Qjx v).re)*(Ulo v),((Qjx v).im)*(Ulo v)⟩:QC)
def Kvc{v:V5}(B:v.O)(f1:¬(v.a.num.sign=0))(hN:¬(nm (Qjx v)=0)):ZL (Usg v) 10669974:=(Qau (Qad (Qfd B).1 (Kfq B f1 hN)) (Qad (Qfd B).2 (Kfq B f1 hN))).mn
def Ulp(v:V5):QC:=(Qnz v)-(Usg v)
def Qud{v:V5}(B:v.O)(f1:¬(v.a.num.sign=0))(hN:¬(nm (Qjx v)=0)):ZL (Ulp v) 10671008:=(Qec (Qfh B f1) (Kvc B f1 hN)).mn
def Kcw(v:V5):Rat:=(Qam v.a v.b v.e v.d v.a v.b v.e v.d)/(v.a*v.a)
def Qkp{v:V5}(B:v.O)(f1:¬(v.a.num.sign=0)):RL (Kcw v) 4617:=(Qei (Qdv (Qak f1) (Qak f1)) (Qfn v.a v.b v.e v.d v.a v.b v.e v.d B.A B.B B.E B.D B.A B.B B.E B.D) (Qaa v.a v.a B.A B.A)).mn
def Uuh(v:V5):Rat:=(Knv v)*(Knv v)
def Kvd{v:V5}(B:v.O)(f1:¬(v.a.num.sign=0)):RL (Uuh v) 10051082:=(Qaa (Knv v) (Knv v) (Qpa B f1) (Qpa B f1)).mn
def Uui(v:V5):Rat:=(nm (Qjx v))*(4:Rat)
def Kve{v:V5}(B:v.O):RL (Uui v) 5017274:=(Qaa (nm (Qjx v)) (4:Rat) (Qbe (Qfd B)) (ri 4)).mn
def Ush(v:V5):Rat:=(Uuh v)/(Uui v)
def Kvf{v:V5}(B:v.O)(f1:¬(v.a.num.sign=0))(hN:¬(nm (Qjx v)=0)):RL (Ush v) 15068356:=(Qei (Qdv hN (by decide)) (Kvd B f1) (Kve B)).mn
def Uuj(v:V5):Rat:=(Kcw v)-(Ush v)
def Kvg{v:V5}(B:v.O)(f1:¬(v.a.num.sign=0))(hN:¬(nm (Qjx v)=0)):RL (Uuj v) 30136713:=(Qba (Kcw v) (Ush v) ((Qkp B f1).mn) (Kvf B f1 hN)).mn
def Kki(v:V5):Rat:=(Uuj v)/(nm (Qjx v))
def Que{v:V5}(B:v.O)(f1:¬(v.a.num.sign=0))(hN:¬(nm (Qjx v)=0)):RL (Kki v) 32645350:=(Qei hN (Kvg B f1 hN) (Qbe (Qfd B))).mn
def Ulq(v:V5):QC:=(Qjx v)*(⟨0,1⟩:QC)
def Kfr{v:V5}(B:v.O):ZL (Ulq v) 1254323:=(Qct (Qfd B) (Qbq 0 1)).mn
noncomputable def Ulr(v:V5):QC:=(⟨((Ulq v).re)*(sqr (Kki v)),((Ulq v).im)*(sqr (Kki v))⟩:QC)
def Quf{v:V5}(B:v.O)(f1:¬(v.a.num.sign=0))(hN:¬(nm (Qjx v)=0)):ZL (Ulr v) 33899674:=(Qau (Qad (Kfr B).1 (Qdr (Que B f1 hN))) (Qad (Kfr B).2 (Qdr (Que B f1 hN)))).mn
noncomputable def Qqn(v:V5):QC:=(Ulp v)+(Ulr v)
def Kfs{v:V5}(B:v.O)(f1:¬(v.a.num.sign=0))(hN:¬(nm (Qjx v)=0)):ZL (Qqn v) 44570683:=(Qht (Qud B f1 hN) (Quf B f1 hN)).mn
noncomputable def Kxb(v:V5):QC:=(Ulp v)-(Ulr v)
def Kvh{v:V5}(B:v.O)(f1:¬(v.a.num.sign=0))(hN:¬(nm (Qjx v)=0)):ZL (Kxb v) 44570683:=(Qec (Qud B f1 hN) (Quf B f1 hN)).mn
noncomputable def Qlt(v:V5):List GF:=[cF v.a,cF v.b,cF v.e,cF v.d,(Qan v.z).cells,(Qan (⟨0,1⟩:QC)).cells,[gr v.a,gr v.b,gr v.e,gr v.d],cn v.z,[gr (0:Rat),gr (1:Rat),gr (1:Rat),gr (-v.z.re),gr v.z.im,gr (nm v.z),gr (wx7 v),gr (wx8 v),gr (wx9 v),gr (Qfy v),gxi v.a.num.sign,gxi ((wx7 v).num.sign)],cn (⟨(wx8 v),0⟩:QC),cn (⟨(wx9 v),0⟩:QC),cn (⟨0,1⟩:QC),cn (Kni v),cn (Qjx v),[gr (nm (Qjx v))],cn (⟨v.b,0⟩:QC),cn (⟨v.e,0⟩:QC),cn ((⟨v.e,0⟩:QC)*(⟨0,1⟩:QC)),cn (Qdm v),cn ((⟨0,0⟩:QC)-(Qdm v)),[gr (v.a⁻¹)],cn (Qnz v),cn (cj (Qjx v)),cn (Knu v),[gr ((Knu v).re),gr ((Knu v).im),gr (2:Rat),gr (Uem v),gr (Knv v),gr (Usf v),gr (Ulo v)],cn (Usg v),cn (Ulp v),[gr (Qam v.a v.b v.e v.d v.a v.b v.e v.d),gr (v.a*v.a),gr (Kcw v),gr (Uuh v),gr (4:Rat),gr (Uui v),gr (Ush v),gr (Uuj v),gr (Kki v),gr (sqr (Kki v))],cn (Ulq v),cn (Ulr v),cn (Qqn v),[gr ((Qqn v).re),gr ((Qqn v).im),gxi (((Qqn v).im).num.sign)],(Qan (Qqn v)).cells,cn (Kxb v),(Qan (Kxb v)).cells,[ga]].flatten
structure Qpv(v:V5):Prop where
 B:v.O
 hz:¬(v.z.im.num.sign<=0)
 f0:((wx1 v).num.sign)=0
 f1:¬(v.a.num.sign=0)
 hN:¬(nm (Qjx v)=0)
 hW:Qlh v.a v.b v.e v.d
 f2:((wx7 v).num.sign)=0
noncomputable def Kib(v:V5)(H:Qpv v):List (GC prog (Qlt v) true):=[Qbw eo78,gs (Upu v H.B H.hz H.f0 H.hW) [lc 1,.row (gL [0,6]),yR 12 8] (.tup [.row (flA [[.fn 244 [] [],.lit (.int .i64 0),.lit (.int .i64 0),.lit (.int .i64 1),.lit (.int .i64 0),.lit (.int .i64 2)],Qbd 20 8]),yR 28 4,sy [32,33],lc 0]),gs (pnr 0) [lc 0,lc 1] (rS 34),gs (pnr 1) [lc 1,lc 1] (rS 35),gs (Qhf _ ((Qab H.B.z).mn)) [sy [32,33]] (.r (yR 36 4)),
   gsG (Qnf (0:Rat) (0:Rat) (1:Rat) (0:Rat) v.a v.b v.e v.d (1:Rat) (-v.z.re) v.z.im (nm v.z) (ri 0) (ri 0) (ri 1) (ri 0) (H.B.A.mn) (H.B.B.mn) (H.B.E.mn) (H.B.D.mn) (ri 1) ((Qah ((Qab H.B.z).1)).mn) (((Qab H.B.z).2).mn) ((Qbe (Qab H.B.z)).mn)) 22 ⟨flA [[.sym 34,.sym 34,.sym 35,.sym 34],Qbd 28 4,Qbd 36 4],143,none⟩ [.c (.sl 0 0 3 3)] (.r (yR 40 4)),gs (Qbb v.a) [cS 28] (rS 44),gs (Qbb (wx7 v)) [cS 40] (rS 45),gs (Qdp (wx8 v)) [cS 41] (.r (sy [46,47])),gs (Qdp (wx9 v)) [cS 42] (.r (sy [48,49])),gs (Qsp 0 1) [lc 0,lc 1] (.r (sy [50,51])),gs (Qfi _ (⟨0,1⟩:QC) (Qau ((Qju H.B).upby 1) Qda) (Qbq 0 1) (by decide)) [sy [48,49],sy [50,51]] (.r (sy [52,53])),gs (Qem _ _ (Qau ((Qjt H.B).upby 1) Qda) (Kfk H.B) (by decide)) [sy [46,47],sy [52,53]] (.r (sy [54,55])),gs (Qee _ ((Qfd H.B).mn)) [sy [54,55]] (rS 56),gs (Qdp v.b) [cS 29] (.r (sy [57,58])),gs (Qdp v.e) [cS 30] (.r (sy [59,60])),gs (Qfi _ (⟨0,1⟩:QC) (Qau (H.B.E.upby 1) Qda) (Qbq 0 1) (by decide)) [sy [59,60],sy [50,51]] (.r (sy [61,62])),gs (Qem _ _ (Qau (H.B.B.upby 1) Qda) (Qct (Qau (H.B.E.upby 1) Qda) (Qbq 0 1)) (by decide)) [sy [57,58],sy [61,62]] (.r (sy [63,64])),gs (Kbk _ ((Qbl H.B).mn)) [sy [63,64]] (.r (sy [65,66])),
   Qqg v.a (Qak H.f1) H.B.A (by decide) 57 (.c (.sym 28)) (.sym 67),gs (Qdh _ _ ((Qrr (Qbl H.B)).mn) ((Qca (Qak H.f1) H.B.A).mn)) [sy [65,66],cS 67] (.r (sy [68,69])),gs (Qlk _ ((Qfd H.B).mn)) [sy [54,55]] (.r (sy [70,71])),gs (Qfi _ _ (Qfh H.B H.f1) (Qeg (Qfd H.B)) (by decide)) [sy [68,69],sy [70,71]] (.r (sy [72,73])),gs (Qcr _ ((Kfp H.B H.f1).mn)) [sy [72,73]] (.tup [cS 74,cS 75]),gs (pnr 2) [lc 2,lc 1] (rS 76),gs (Qax _ (2:Rat) ((Qbo (Knu v) (Kfp H.B H.f1)).mn) (ri 2)) [cS 74,cS 76] (rS 77),gs (Qkk _ _ ((Kva H.B H.f1).mn) ((Qhp H.B).mn)) [cS 77,cS 43] (rS 78),gs (Qax _ (2:Rat) ((Qbe (Qfd H.B)).mn) (ri 2)) [cS 56,cS 76] (rS 79),gs (Qcc _ _ ((Qpa H.B H.f1).mn) ((Kvb H.B).mn) (Qdv H.hN (by decide))) [cS 78,cS 79] (rS 80),gs (Qdh _ _ ((Qfd H.B).mn) ((Kfq H.B H.f1 H.hN).mn)) [sy [54,55],cS 80] (.r (sy [81,82])),gs (Qem _ _ (Qfh H.B H.f1) (Kvc H.B H.f1 H.hN) (by decide)) [sy [68,69],sy [81,82]] (.r (sy [83,84])),gs (Qjq _ _ _ _ _ _ _ _ (H.B.A.mn) (H.B.B.mn) (H.B.E.mn) (H.B.D.mn) (H.B.A.mn) (H.B.B.mn) (H.B.E.mn) (H.B.D.mn)) [yR 28 4,yR 28 4] (rS 85),gs (Qax _ _ (H.B.A.mn) (H.B.A.mn)) [cS 28,cS 28] (rS 86),gs (Qcc _ _ ((Qfn v.a v.b v.e v.d v.a v.b v.e v.d H.B.A H.B.B H.B.E H.B.D H.B.A H.B.B H.B.E H.B.D).mn) ((Qaa v.a v.a H.B.A H.B.A).mn) (Qdv (Qak H.f1) (Qak H.f1))) [cS 85,cS 86] (rS 87),gs (Qax _ _ ((Qpa H.B H.f1).mn) ((Qpa H.B H.f1).mn)) [cS 78,cS 78] (rS 88),gs (pnr 4) [lc 4,lc 1] (rS 89),gs (Qax _ (4:Rat) ((Qbe (Qfd H.B)).mn) (ri 4)) [cS 56,cS 89] (rS 90),gs (Qcc _ _ ((Kvd H.B H.f1).mn) ((Kve H.B).mn) (Qdv H.hN (by decide))) [cS 88,cS 90] (rS 91),gs (Qcw _ _ ((Qkp H.B H.f1).mn) ((Kvf H.B H.f1 H.hN).mn)) [cS 87,cS 91] (rS 92),gs (Qcc _ _ ((Kvg H.B H.f1 H.hN).mn) ((Qbe (Qfd H.B)).mn) H.hN) [cS 92,cS 56] (rS 93)]
noncomputable def Qrc(v:V5)(H:Qpv v)(h0:Qer (Kki v)):List (GC prog (Qlt v) true):=(Kib v H)++[gs (Qwc _ ((Que H.B H.f1 H.hN).mn) h0) [cS 93] (.tup [cS 94,cTt]),gs (Qfi _ (⟨0,1⟩:QC) (Qfd H.B) (Qbq 0 1) (by decide)) [sy [54,55],sy [50,51]] (.r (sy [95,96])),gs (Qdh _ _ ((Kfr H.B).mn) ((Qdr (Que H.B H.f1 H.hN)).mn)) [sy [95,96],cS 94] (.r (sy [97,98])),gs (Qqh _ _ (Qud H.B H.f1 H.hN) (Quf H.B H.f1 H.hN) (by decide)) [sy [83,84],sy [97,98]] (.r (sy [99,100])),gs (Qcr _ ((Kfs H.B H.f1 H.hN).mn)) [sy [99,100]] (.tup [cS 101,cS 102]),gs (Qbb ((Qqn v).im)) [cS 102] (rS 103)]
def Kzl(v:V5)(H:Qpv v)(h0:Qer (Kki v))(h1:(((Qqn v).im).num.sign)>0)(h2:Qaj (Qqn v)):SCt 23 [gIi 1,.row (rG (⟨v.a,v.b⟩:QC)++rG (⟨v.e,v.d⟩:QC)),.row ((Qan v.z).cells)] (.tup [.row ((Qan (Qqn v)).cells),gIi 0]) :=
  Qas (L := Qlt v) Qae Qai
     ((Qrc v H h0)++[gs (Qej _ ((Kfs H.B H.f1 H.hN).mn) h2) [sy [99,100]] (.tup [yR 104 8,lc 0])])
     [bNt 3 44 H.f1,bNf 3 45 H.f2,bEf 3 44 H.f1,gtY 3 (.sym 103) (li 0) (((Qqn v).im).num.sign) 0 h1] [] Qfp 1 5 func23 eo23 2000 [lc 1,.row (gL [0,6]),yR 12 8] (.tup [yR 104 8,lc 0])
def Kzm(v:V5)(H:Qpv v)(h0:Qer (Kki v))(h1:(((Qqn v).im).num.sign)>0)(h2:¬(Qaj (Qqn v))):SCt 23 [gIi 1,.row (rG (⟨v.a,v.b⟩:QC)++rG (⟨v.e,v.d⟩:QC)),.row ((Qan v.z).cells)] (.tup [.row (zGG),gIi 4]) :=
  Qas (L := Qlt v) Qae Qai
     ((Qrc v H h0)++[gs (Qex (Qqn v) ((Kfs H.B H.f1 H.hN).mn) h2) [sy [99,100]] (.tup [.row (zGA),lc 4])])
     [bNt 3 44 H.f1,bNf 3 45 H.f2,bEf 3 44 H.f1,gtY 3 (.sym 103) (li 0) (((Qqn v).im).num.sign) 0 h1] [] Qfp 1 5 func23 eo23 2000 [lc 1,.row (gL [0,6]),yR 12 8] (.tup [.row (zGA),lc 4])
def Kzn(v:V5)(H:Qpv v)(h0:Qer (Kki v))(h1:¬((((Qqn v).im).num.sign)>0))(h2:Qaj (Kxb v)):SCt 23 [gIi 1,.row (rG (⟨v.a,v.b⟩:QC)++rG (⟨v.e,v.d⟩:QC)),.row ((Qan v.z).cells)] (.tup [.row ((Qan (Kxb v)).cells),gIi 0]) :=
  Qas (L := Qlt v) Qae Qai
     ((Qrc v H h0)++[gs (Qem _ _ (Qud H.B H.f1 H.hN) (Quf H.B H.f1 H.hN) (by decide)) [sy [83,84],sy [97,98]] (.r (sy [112,113])),gs (Qej _ ((Kvh H.B H.f1 H.hN).mn) h2) [sy [112,113]] (.tup [yR 114 8,lc 0])])
     [bNt 3 44 H.f1,bNf 3 45 H.f2,bEf 3 44 H.f1,gtN 3 (.sym 103) (li 0) (((Qqn v).im).num.sign) 0 h1] [] Qfp 1 5 func23 eo23 2000 [lc 1,.row (gL [0,6]),yR 12 8] (.tup [yR 114 8,lc 0])
def Kzo(v:V5)(H:Qpv v)(h0:Qer (Kki v))(h1:¬((((Qqn v).im).num.sign)>0))(h2:¬(Qaj (Kxb v))):SCt 23 [gIi 1,.row (rG (⟨v.a,v.b⟩:QC)++rG (⟨v.e,v.d⟩:QC)),.row ((Qan v.z).cells)] (.tup [.row (zGG),gIi 4]) :=
  Qas (L := Qlt v) Qae Qai
     ((Qrc v H h0)++[gs (Qem _ _ (Qud H.B H.f1 H.hN) (Quf H.B H.f1 H.hN) (by decide)) [sy [83,84],sy [97,98]] (.r (sy [112,113])),gs (Qex (Kxb v) ((Kvh H.B H.f1 H.hN).mn) h2) [sy [112,113]] (.tup [.row (zGA),lc 4])])
     [bNt 3 44 H.f1,bNf 3 45 H.f2,bEf 3 44 H.f1,gtN 3 (.sym 103) (li 0) (((Qqn v).im).num.sign) 0 h1] [] Qfp 1 5 func23 eo23 2000 [lc 1,.row (gL [0,6]),yR 12 8] (.tup [.row (zGA),lc 4])
def Kzp(v:V5)(H:Qpv v)(h0:¬(Qer (Kki v))):SCt 23 [gIi 1,.row (rG (⟨v.a,v.b⟩:QC)++rG (⟨v.e,v.d⟩:QC)),.row ((Qan v.z).cells)] (.tup [.row (zGG),gIi 7]) :=
  Qas (L := Qlt v) Qae Qai
     ((Kib v H)++[gs (Qos _ ((Que H.B H.f1 H.hN).mn) h0) [cS 93] (.tup [cS 122,cFf])])
     [bNt 3 44 H.f1,bNf 3 45 H.f2,bEf 3 44 H.f1] [] Qfp 1 5 func23 eo23 2000 [lc 1,.row (gL [0,6]),yR 12 8] (.tup [.row (zGA),lc 7])
