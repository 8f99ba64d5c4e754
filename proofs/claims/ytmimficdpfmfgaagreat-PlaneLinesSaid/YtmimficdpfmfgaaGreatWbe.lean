/- Laws. -/
import Derived.Test.YtmimficdpfmfgaaGreatWbd
set_option linter.all false
set_option maxHeartbeats 4000000
set_option maxRecDepth 100000
namespace Go.Proofs.YtmimficdpfmfgaaGreat
open Go.RowKit Tr Proofs.Tryz
open Classical
def Qdw(z w:QC):Int:=if Qig z.re w.re=0 then Qig z.im w.im else Qig z.re w.re
def Kpo(z w:QC):List GF:=[cG z,cG w,[gxi (Qig z.re w.re),gxi (Qig z.im w.im)]].flatten
noncomputable def Kpp(z w:QC)(b_z:ZL z 100000000)(b_w:ZL w 100000000):List (GC prog (Kpo z w) true):=[Qbw eo78,gs (Uis z.re w.re (b_z.1.mn) (b_w.1.mn)) [yQ 0,yQ 6] (rS 12),gs (Uis z.im w.im (b_z.2.mn) (b_w.2.mn)) [yQ 3,yQ 9] (rS 13)]
def Vad(z w:QC)(b_z:ZL z 100000000)(b_w:ZL w 100000000) :SCt 207 [.row ([gl (.bool false)]++rG z),.row ([gl (.bool false)]++rG w)] (if(Qig z.re w.re)=0 then .r (.c (gxi (Qig z.im w.im))) else .r (.c (gxi (Qig z.re w.re)))) :=
  (Classical.em ((Qig z.re w.re) = 0)).elim (fun h0 => .it h0 (Qas (L := Kpo z w) Qae Qai
     (Kpp z w b_z b_w)
     [bNf 3 12 h0] [] ((Kyx .nil):Tr.FnsOk prog _) 1 2 func207 eo207 2000 [.row (flA [[.lit (.bool false)],gR 0]),.row (flA [[.lit (.bool false)],gR 6])] (rS 13)))
   (fun h0=>.ie (fun h=>h0 h) (Qas (L:=Kpo z w) Qae Qai
     (Kpp z w b_z b_w)
     [bNt 3 12 h0] [] ((Kyx .nil):Tr.FnsOk prog _) 1 2 func207 eo207 2000 [.row (flA [[.lit (.bool false)],gR 0]),.row (flA [[.lit (.bool false)],gR 6])] (rS 12)))
def Uys(z w:QC)(b_z:ZL z 100000000)(b_w:ZL w 100000000):SCt 207 [.row ([gl (.bool false)]++rG z),.row ([gl (.bool false)]++rG w)] (.r (.c (gxi (Qdw z w)))):=by
 have h:=Vad z w b_z b_w;unfold Qdw
 by_cases k:Qig z.re w.re=0
 .rw[if_pos k] at h ⊢;exact h
 .rw[if_neg k] at h ⊢;exact h
def hi(p:Int)(x:QC):Prop:=if p=1 then 0<x.im else 0<1-nm x
def hi1{x:QC}:hi 1 x↔0<x.im:=by unfold hi;rw[if_pos rfl]
def hi2{x:QC}:hi 2 x↔0<1-nm x:=by unfold hi;rw[if_neg (by decide)]
def Qra{x:Rat}:x.num.sign>0↔0<x:=by
 constructor
 .intro h;exact Kmt (by omega)
 .intro h;rcases Int.lt_trichotomy x.num 0 with k|k|k
  .exact absurd (Rat.num_nonneg.2 (Rat.le_of_lt h)) (by omega)
  .exact absurd (Rat.num_eq_zero.1 k) (Rat.ne_of_gt h)
  .rw[axn k];decide
def Uci:FnsOk prog [⟨136,Tryz.f136,2000⟩,⟨138,Tryz.f138,2000⟩]:=(Kyw (Kdy .nil))
def Kpr(x:QC):List GF:=[cG x,[gxi x.im.num.sign]].flatten
def Uuy(x:QC)(b_x:ZL x 6000000) :SCt 96 [gIi 1,.row (rG x)] (if x.im.num.sign>0 then .r gTt else .r gFf) :=
  (Classical.em (x.im.num.sign > 0)).elim (fun h0 => .it h0 (Qas (L := Kpr x) Qae Qai
     [Qbw eo78,gs (Qcp x.im) [yQ 3] (rS 6)]
     [gtY 3 (.sym 6) (li 0) x.im.num.sign 0 h0] [] Uci 1 2 func96 eo96 2000 [lc 1,.row (gR 0)] vTt))
   (fun h0=>.ie (fun h=>h0 h) (Qas (L:=Kpr x) Qae Qai
     [Qbw eo78,gs (Qcp x.im) [yQ 3] (rS 6)]
     [gtN 3 (.sym 6) (li 0) x.im.num.sign 0 h0] [] Uci 1 2 func96 eo96 2000 [lc 1,.row (gR 0)] vFf))
def Kdo(x:QC):List GF:=[cG x,cF (1:Rat),cF (nm x),cF ((1:Rat)-(nm x)),[gxi (((1:Rat)-(nm x)).num.sign)]].flatten
noncomputable def Khg(x:QC)(b_x:ZL x 6000000):List (GC prog (Kdo x) true):=[Qbw eo78,gs (Qfv 1 (by decide) (by decide)) [lc 1] (rQ 6),gs (Qlg x b_x.mn) [.row (gR 0)] (rQ 9),gs (Qcz (1:Rat) (nm x) (ri 1) ((Qbe b_x).mn)) [yQ 6,yQ 9] (rQ 12),gs (Qcp ((1:Rat)-(nm x))) [yQ 12] (rS 15)]
def Uuz(x:QC)(b_x:ZL x 6000000) :SCt 96 [gIi 2,.row (rG x)] (if(((1:Rat)-(nm x)).num.sign)>0 then .r gTt else .r gFf) :=
  (Classical.em ((((1 : Rat)-(nm x)).num.sign) > 0)).elim (fun h0 => .it h0 (Qas (L := Kdo x) Qae Qai
     (Khg x b_x)
     [gtY 3 (.sym 15) (li 0) (((1:Rat)-(nm x)).num.sign) 0 h0] [] Uci 1 2 func96 eo96 2000 [lc 2,.row (gR 0)] vTt))
   (fun h0=>.ie (fun h=>h0 h) (Qas (L:=Kdo x) Qae Qai
     (Khg x b_x)
     [gtN 3 (.sym 15) (li 0) (((1:Rat)-(nm x)).num.sign) 0 h0] [] Uci 1 2 func96 eo96 2000 [lc 2,.row (gR 0)] vFf))
def Qgc(p:Int)(x:QC)(hp:p=1\/p=2)(b_x:ZL x 6000000)(b:Bool)(hb:b=true↔hi p x):SCt 96 [.c (gxi p),.row (rG x)] (.r (.c (gl (.bool b)))):=by
 rcases hp with rfl|rfl
 .have h:=Uuy x b_x
  by_cases k:x.im.num.sign>0
  .rw[if_pos k] at h;rw[hb.2 (hi1.2 (Qra.1 k))];exact h
  .rw[if_neg k] at h;rw[show b=false from Bool.eq_false_iff.2 (fun e=>k (Qra.2 (hi1.1 (hb.1 e))))];exact h
 .have h:=Uuz x b_x
  by_cases k:((1:Rat)-(nm x)).num.sign>0
  .rw[if_pos k] at h;rw[hb.2 (hi2.2 (Qra.1 k))];exact h
  .rw[if_neg k] at h;rw[show b=false from Bool.eq_false_iff.2 (fun e=>k (Qra.2 (hi2.1 (hb.1 e))))];exact h
def Ukh(v:W13):Rat:=nm (⟨(-v.u1)*((1:Rat)/v.u0),v.u2*((1:Rat)/v.u0)⟩:QC)
def Kgf{v:W13}(B:v.O)(f2:¬(v.u0.num.sign=0)):RL (Ukh v) 520009:=(Qbe (Qau (Qad (Qah B.u1) (Qcs (Qak f2) (rj 1) B.u0)) (Qad B.u2 (Qcs (Qak f2) (rj 1) B.u0)))).mn
def Uki(v:W13):QC:=(⟨v.m1,v.m2⟩:QC)*(⟨(-v.u1)*((1:Rat)/v.u0),v.u2*((1:Rat)/v.u0)⟩:QC)
def Qzg{v:W13}(B:v.O)(f2:¬(v.u0.num.sign=0)):ZL (Uki v) 390005:=(Qct (Qau B.m1 B.m2) (Qau (Qad (Qah B.u1) (Qcs (Qak f2) (rj 1) B.u0)) (Qad B.u2 (Qcs (Qak f2) (rj 1) B.u0)))).mn
def Usr(v:W13):Rat:=((Uki v).re)+((Uki v).re)
def Kwg{v:W13}(B:v.O)(f2:¬(v.u0.num.sign=0)):RL (Usr v) 780011:=(Qaz ((Qzg B f2).1) ((Qzg B f2).1)).mn
def Koe(v:W13):Rat:=(v.m0*(Ukh v))+(Usr v)
def Qmg{v:W13}(B:v.O)(f2:¬(v.u0.num.sign=0)):RL (Koe v) 1365021:=(Qaz (Qad B.m0 (Kgf B f2)) (Kwg B f2)).mn
def Kwh(v:W13):Rat:=(2:Rat)*(nm (⟨v.m1,v.m2⟩:QC))
def Qzh{v:W13}(B:v.O):RL (Kwh v) 260003:=(Qad (rj 2) (Qbe (Qau B.m1 B.m2))).mn
def Uet(v:W13):Rat:=((Koe v)+v.m3)/(Kwh v)
def Qzi{v:W13}(B:v.O)(f2:¬(v.u0.num.sign=0))(hN:¬(nm (⟨v.m1,v.m2⟩:QC)=0)):RL (Uet v) 1690025:=(Qcs (Qdv (by decide) hN) (Qaz (Qmg B f2) B.m3) (Qzh B)).mn
def Uma(v:W13):Rat:=((cj (⟨v.m1,v.m2⟩:QC)).re)*(Uet v)
def Kwi{v:W13}(B:v.O)(f2:¬(v.u0.num.sign=0))(hN:¬(nm (⟨v.m1,v.m2⟩:QC)=0)):RL (Uma v) 1755025:=(Qad ((Qeg (Qau B.m1 B.m2)).1) (Qzi B f2 hN)).mn
def Umb(v:W13):Rat:=((cj (⟨v.m1,v.m2⟩:QC)).im)*(Uet v)
def Kwj{v:W13}(B:v.O)(f2:¬(v.u0.num.sign=0))(hN:¬(nm (⟨v.m1,v.m2⟩:QC)=0)):RL (Umb v) 1755025:=(Qad ((Qeg (Qau B.m1 B.m2)).2) (Qzi B f2 hN)).mn
def Ueu(v:W13):QC:=(⟨(-v.u1)*((1:Rat)/v.u0),v.u2*((1:Rat)/v.u0)⟩:QC)-(⟨Uma v,Umb v⟩:QC)
def Qzj{v:W13}(B:v.O)(f2:¬(v.u0.num.sign=0))(hN:¬(nm (⟨v.m1,v.m2⟩:QC)=0)):ZL (Ueu v) 1885028:=(Qec (Qau (Qad (Qah B.u1) (Qcs (Qak f2) (rj 1) B.u0)) (Qad B.u2 (Qcs (Qak f2) (rj 1) B.u0))) (Qau (Kwi B f2 hN) (Kwj B f2 hN))).mn
def Uss(v:W13):Rat:=((Koe v)+v.m3)*((Koe v)+v.m3)
def Kwk{v:W13}(B:v.O)(f2:¬(v.u0.num.sign=0)):RL (Uss v) 2860044:=(Qad (Qaz (Qmg B f2) B.m3) (Qaz (Qmg B f2) B.m3)).mn
def Ucg(v:W13):Rat:=(4:Rat)*(nm (⟨v.m1,v.m2⟩:QC))
def Qzk{v:W13}(B:v.O):RL (Ucg v) 260003:=(Qad (rj 4) (Qbe (Qau B.m1 B.m2))).mn
def Ust(v:W13):Rat:=(Uss v)/(Ucg v)
def Kwl{v:W13}(B:v.O)(f2:¬(v.u0.num.sign=0))(hN:¬(nm (⟨v.m1,v.m2⟩:QC)=0)):RL (Ust v) 3120047:=(Qcs (Qdv (by decide) hN) (Kwk B f2) (Qzk B)).mn
def Usu(v:W13):Rat:=(Qam v.u0 v.u1 v.u2 v.u3 v.u0 v.u1 v.u2 v.u3)/(v.u0*v.u0)
def Kwm{v:W13}(B:v.O)(f2:¬(v.u0.num.sign=0)):RL (Usu v) 650005:=(Qcs (Qdv (Qak f2) (Qak f2)) (Qdj v.u0 v.u1 v.u2 v.u3 v.u0 v.u1 v.u2 v.u3 B.u0 B.u1 B.u2 B.u3 B.u0 B.u1 B.u2 B.u3) (Qad B.u0 B.u0)).mn
def Usv(v:W13):Rat:=(Usu v)-(Ust v)
def Kwn{v:W13}(B:v.O)(f2:¬(v.u0.num.sign=0))(hN:¬(nm (⟨v.m1,v.m2⟩:QC)=0)):RL (Usv v) 3770053:=(Qcb (Kwm B f2) (Kwl B f2 hN)).mn
def Kkn(v:W13):Rat:=(Usv v)/(nm (⟨v.m1,v.m2⟩:QC))
def Kgg{v:W13}(B:v.O)(f2:¬(v.u0.num.sign=0))(hN:¬(nm (⟨v.m1,v.m2⟩:QC)=0)):RL (Kkn v) 4030054:=(Qcs hN (Kwn B f2 hN) (Qbe (Qau B.m1 B.m2))).mn
noncomputable def Uev(v:W13):Rat:=sqr (Kkn v)
def Qzl{v:W13}(B:v.O)(f2:¬(v.u0.num.sign=0))(hN:¬(nm (⟨v.m1,v.m2⟩:QC)=0)):RL (Uev v) 4030055:=(Qdr (Kgg B f2 hN)).mn
noncomputable def Uew(v:W13):Rat:=(-((cj (⟨v.m1,v.m2⟩:QC)).im))*(Uev v)
def Qzm{v:W13}(B:v.O)(f2:¬(v.u0.num.sign=0))(hN:¬(nm (⟨v.m1,v.m2⟩:QC)=0)):RL (Uew v) 4095055:=(Qad (Qah ((Qeg (Qau B.m1 B.m2)).2)) (Qzl B f2 hN)).mn
noncomputable def Uex(v:W13):Rat:=((cj (⟨v.m1,v.m2⟩:QC)).re)*(Uev v)
def Qzn{v:W13}(B:v.O)(f2:¬(v.u0.num.sign=0))(hN:¬(nm (⟨v.m1,v.m2⟩:QC)=0)):RL (Uex v) 4095055:=(Qad ((Qeg (Qau B.m1 B.m2)).1) (Qzl B f2 hN)).mn
noncomputable def Qpd(v:W13):QC:=(Ueu v)+(⟨Uew v,Uex v⟩:QC)
def Qpe{v:W13}(B:v.O)(f2:¬(v.u0.num.sign=0))(hN:¬(nm (⟨v.m1,v.m2⟩:QC)=0)):ZL (Qpd v) 5980084:=(Qht (Qzj B f2 hN) (Qau (Qzm B f2 hN) (Qzn B f2 hN))).mn
noncomputable def Qpf(v:W13):QC:=(Ueu v)-(⟨Uew v,Uex v⟩:QC)
def Qpg{v:W13}(B:v.O)(f2:¬(v.u0.num.sign=0))(hN:¬(nm (⟨v.m1,v.m2⟩:QC)=0)):ZL (Qpf v) 5980084:=(Qec (Qzj B f2 hN) (Qau (Qzm B f2 hN) (Qzn B f2 hN))).mn
def Quy:FnsOk prog [⟨114,Tryz.f114,2000⟩,⟨113,Tryz.f113,2000⟩,⟨143,Tryz.f143,2000⟩,⟨200,Tryz.f200,2000⟩,⟨197,Tryz.f197,2000⟩,⟨202,Tryz.f202,2000⟩,⟨204,Tryz.f204,2000⟩,⟨206,Tryz.f206,2000⟩,⟨254,Tryz.f254,2000⟩,⟨203,Tryz.f203,2000⟩,⟨184,Tryz.f184,2000⟩,⟨93,Tryz.f93,2000⟩,⟨199,Tryz.f199,2000⟩]:=(Uno (Qxr (Ugu (Uns (Kea (Unt (Unv (Unw (Kyx (Unu (Unq (Ukv (Unr .nil)))))))))))))
noncomputable def Qlo(v:W13):List GF:=[[gxi v.p],cF v.a,cF v.b,cF v.e,cF v.d,cG v.z,cF v.u0,cF v.u1,cF v.u2,cF v.u3,cF v.m0,cF v.m1,cF v.m2,cF v.m3,[gxi v.a.num.sign],cF (-v.u1),cF (1:Rat),cF ((1:Rat)/v.u0),cF ((-v.u1)*((1:Rat)/v.u0)),cF (v.u2*((1:Rat)/v.u0)),cF (nm (⟨v.m1,v.m2⟩:QC)),cF (Ukh v),cF (v.m0*(Ukh v)),cG (Uki v),cF (Usr v),cF (Koe v),cF ((Koe v)+v.m3),cG (cj (⟨v.m1,v.m2⟩:QC)),cF (2:Rat),cF (Kwh v),cF (Uet v),cF (Uma v),cF (Umb v),cG (Ueu v),cF (Uss v),cF (4:Rat),cF (Ucg v),cF (Ust v),cF (Qam v.u0 v.u1 v.u2 v.u3 v.u0 v.u1 v.u2 v.u3),cF (v.u0*v.u0),cF (Usu v),cF (Usv v),cF (Kkn v),cF (Uev v),cF (-((cj (⟨v.m1,v.m2⟩:QC)).im)),cF (Uew v),cF (Uex v),cG (Qpd v),cG (Qpf v),[gxi (Qdw (Qpd v) (Qpf v))]].flatten
structure Qpn(v:W13):Prop where
 B:v.O
 f2:¬(v.u0.num.sign=0)
 hN:¬(nm (⟨v.m1,v.m2⟩:QC)=0)
 hUp:SCt 32 [.c (gxi v.p),.row (rF v.a++rF v.b++rF v.e++rF v.d),G1 v.z] (.r (.row (rF v.u0++rF v.u1++rF v.u2++rF v.u3)))
 hL:SCt 198 [.row (rF v.a++rF v.b++rF v.e++rF v.d),.row (rF v.u0++rF v.u1++rF v.u2++rF v.u3)] (.r (gIi 2))
 hA:SCt 201 [.row (rF v.a++rF v.b++rF v.e++rF v.d),.row (rF v.u0++rF v.u1++rF v.u2++rF v.u3)] (.tup [.row (rF v.m0++rF v.m1++rF v.m2++rF v.m3),gTt])
 hp:v.p=1\/v.p=2
 f1:v.a.num.sign=0
noncomputable def Khe(v:W13)(H:Qpn v):List (GC prog (Qlo v) true):=[Qbw eo78,gs (H.hUp) [cS 0,.row (gL [1,7]),.row (gR 13)] (.r (.row (gL [19,25]))),gs (H.hL) [.row (gL [1,7]),.row (gL [19,25])] (.r (lc 2)),gs (H.hA) [.row (gL [1,7]),.row (gL [19,25])] (.tup [.row (gL [31,37]),cTt]),gs (Qcp v.a) [yQ 1] (rS 43),gs (Qhg v.u1) [yQ 22] (rQ 44),gs (Qfv 1 (by decide) (by decide)) [lc 1] (rQ 47),gs (Qcn (1:Rat) v.u0 (ri 1) (H.B.u0.mn) (Qak H.f2)) [yQ 47,yQ 19] (rQ 50),gs (Qat (-v.u1) ((1:Rat)/v.u0) ((Qah H.B.u1).mn) ((Qcs (Qak H.f2) (rj 1) H.B.u0).mn)) [yQ 44,yQ 50] (rQ 53),gs (Qat v.u2 ((1:Rat)/v.u0) (H.B.u2.mn) ((Qcs (Qak H.f2) (rj 1) H.B.u0).mn)) [yQ 25,yQ 50] (rQ 56),gs (Qlg (⟨v.m1,v.m2⟩:QC) ((Qau H.B.m1 H.B.m2).mn)) [.row (gR 34)] (rQ 59),gs (Qlg (⟨(-v.u1)*((1:Rat)/v.u0),v.u2*((1:Rat)/v.u0)⟩:QC) ((Qau (Qad (Qah H.B.u1) (Qcs (Qak H.f2) (rj 1) H.B.u0)) (Qad H.B.u2 (Qcs (Qak H.f2) (rj 1) H.B.u0))).mn)) [.row (gR 53)] (rQ 62),gs (Qat v.m0 (Ukh v) (H.B.m0.mn) ((Kgf H.B H.f2).mn)) [yQ 31,yQ 62] (rQ 65),gs (Kir (⟨v.m1,v.m2⟩:QC) (⟨(-v.u1)*((1:Rat)/v.u0),v.u2*((1:Rat)/v.u0)⟩:QC) ((Qau H.B.m1 H.B.m2).mn) ((Qau (Qad (Qah H.B.u1) (Qcs (Qak H.f2) (rj 1) H.B.u0)) (Qad H.B.u2 (Qcs (Qak H.f2) (rj 1) H.B.u0))).mn)) [.row (gR 34),.row (gR 53)] (.r (.row (gR 68))),gs (Qek ((Uki v).re) ((Uki v).re) (((Qzg H.B H.f2).1).mn) (((Qzg H.B H.f2).1).mn)) [yQ 68,yQ 68] (rQ 74),gs (Qek (v.m0*(Ukh v)) (Usr v) ((Qad H.B.m0 (Kgf H.B H.f2)).mn) ((Kwg H.B H.f2).mn)) [yQ 65,yQ 74] (rQ 77),gs (Qek (Koe v) v.m3 ((Qmg H.B H.f2).mn) (H.B.m3.mn)) [yQ 77,yQ 40] (rQ 80),gs (Uin (⟨v.m1,v.m2⟩:QC)) [.row (gR 34)] (.r (.row (gR 83))),gs (Qfv 2 (by decide) (by decide)) [lc 2] (rQ 89),gs (Qat (2:Rat) (nm (⟨v.m1,v.m2⟩:QC)) (ri 2) ((Qbe (Qau H.B.m1 H.B.m2)).mn)) [yQ 89,yQ 59] (rQ 92),gs (Qcn ((Koe v)+v.m3) (Kwh v) ((Qaz (Qmg H.B H.f2) H.B.m3).mn) ((Qzh H.B).mn) (Qdv (by decide) H.hN)) [yQ 80,yQ 92] (rQ 95),gs (Qat ((cj (⟨v.m1,v.m2⟩:QC)).re) (Uet v) (((Qeg (Qau H.B.m1 H.B.m2)).1).mn) ((Qzi H.B H.f2 H.hN).mn)) [yQ 83,yQ 95] (rQ 98),gs (Qat ((cj (⟨v.m1,v.m2⟩:QC)).im) (Uet v) (((Qeg (Qau H.B.m1 H.B.m2)).2).mn) ((Qzi H.B H.f2 H.hN).mn)) [yQ 86,yQ 95] (rQ 101),gs (Kiq (⟨(-v.u1)*((1:Rat)/v.u0),v.u2*((1:Rat)/v.u0)⟩:QC) (⟨Uma v,Umb v⟩:QC) ((Qau (Qad (Qah H.B.u1) (Qcs (Qak H.f2) (rj 1) H.B.u0)) (Qad H.B.u2 (Qcs (Qak H.f2) (rj 1) H.B.u0))).mn) ((Qau (Kwi H.B H.f2 H.hN) (Kwj H.B H.f2 H.hN)).mn)) [.row (gR 53),.row (gR 98)] (.r (.row (gR 104))),gs (Qat ((Koe v)+v.m3) ((Koe v)+v.m3) ((Qaz (Qmg H.B H.f2) H.B.m3).mn) ((Qaz (Qmg H.B H.f2) H.B.m3).mn)) [yQ 80,yQ 80] (rQ 110),gs (Qfv 4 (by decide) (by decide)) [lc 4] (rQ 113),gs (Qat (4:Rat) (nm (⟨v.m1,v.m2⟩:QC)) (ri 4) ((Qbe (Qau H.B.m1 H.B.m2)).mn)) [yQ 113,yQ 59] (rQ 116),gs (Qcn (Uss v) (Ucg v) ((Kwk H.B H.f2).mn) ((Qzk H.B).mn) (Qdv (by decide) H.hN)) [yQ 110,yQ 116] (rQ 119),gs (Qlj v.u0 v.u1 v.u2 v.u3 v.u0 v.u1 v.u2 v.u3 (H.B.u0.mn) (H.B.u1.mn) (H.B.u2.mn) (H.B.u3.mn) (H.B.u0.mn) (H.B.u1.mn) (H.B.u2.mn) (H.B.u3.mn)) [.row (gL [19,25]),.row (gL [19,25])] (rQ 122),gs (Qat v.u0 v.u0 (H.B.u0.mn) (H.B.u0.mn)) [yQ 19,yQ 19] (rQ 125),gs (Qcn (Qam v.u0 v.u1 v.u2 v.u3 v.u0 v.u1 v.u2 v.u3) (v.u0*v.u0) ((Qdj v.u0 v.u1 v.u2 v.u3 v.u0 v.u1 v.u2 v.u3 H.B.u0 H.B.u1 H.B.u2 H.B.u3 H.B.u0 H.B.u1 H.B.u2 H.B.u3).mn) ((Qad H.B.u0 H.B.u0).mn) (Qdv (Qak H.f2) (Qak H.f2))) [yQ 122,yQ 125] (rQ 128),gs (Qcz (Usu v) (Ust v) ((Kwm H.B H.f2).mn) ((Kwl H.B H.f2 H.hN).mn)) [yQ 128,yQ 119] (rQ 131),gs (Qcn (Usv v) (nm (⟨v.m1,v.m2⟩:QC)) ((Kwn H.B H.f2 H.hN).mn) ((Qbe (Qau H.B.m1 H.B.m2)).mn) H.hN) [yQ 131,yQ 59] (rQ 134)]
noncomputable def Qqw(v:W13)(H:Qpn v)(h0:Qer (Kkn v)):List (GC prog (Qlo v) true):=(Khe v H)++[gs (Udp (Kkn v) ((Kgg H.B H.f2 H.hN).mn) h0) [yQ 134] (.tup [yQ 137,cTt]),gs (Qhg ((cj (⟨v.m1,v.m2⟩:QC)).im)) [yQ 86] (rQ 140),gs (Qat (-((cj (⟨v.m1,v.m2⟩:QC)).im)) (Uev v) ((Qah ((Qeg (Qau H.B.m1 H.B.m2)).2)).mn) ((Qzl H.B H.f2 H.hN).mn)) [yQ 140,yQ 137] (rQ 143),gs (Qat ((cj (⟨v.m1,v.m2⟩:QC)).re) (Uev v) (((Qeg (Qau H.B.m1 H.B.m2)).1).mn) ((Qzl H.B H.f2 H.hN).mn)) [yQ 83,yQ 137] (rQ 146),gs (Uas (Ueu v) (⟨Uew v,Uex v⟩:QC) ((Qzj H.B H.f2 H.hN).mn) ((Qau (Qzm H.B H.f2 H.hN) (Qzn H.B H.f2 H.hN)).mn)) [.row (gR 104),.row (gR 143)] (.r (.row (gR 149))),gs (Kiq (Ueu v) (⟨Uew v,Uex v⟩:QC) ((Qzj H.B H.f2 H.hN).mn) ((Qau (Qzm H.B H.f2 H.hN) (Qzn H.B H.f2 H.hN)).mn)) [.row (gR 104),.row (gR 143)] (.r (.row (gR 155))),gs (Uys (Qpd v) (Qpf v) ((Qpe H.B H.f2 H.hN).mn) ((Qpg H.B H.f2 H.hN).mn)) [.row (flA [[.lit (.bool false)],gR 149]),.row (flA [[.lit (.bool false)],gR 155])] (rS 161)]
def Kxz(v:W13)(H:Qpn v)(h0:Qer (Kkn v))(h1:(Qdw (Qpd v) (Qpf v))>0)(h2:¬(hi v.p (Qpf v)))(h3:hi v.p (Qpd v)):SCt 30 [.c (gxi v.p),.row (rG (⟨v.a,v.b⟩:QC)++rG (⟨v.e,v.d⟩:QC)),.row (rG v.z)] (.tup [.row (rG (Qpd v)),gTt]) :=
  Qas (L := Qlo v) Qae Qai
     ((Qqw v H h0)++[gs (Qgc v.p (Qpf v) H.hp ((Qpg H.B H.f2 H.hN).mn) false (fI h2)) [cS 0,.row (gR 155)] vFf,gs (Qgc v.p (Qpd v) H.hp ((Qpe H.B H.f2 H.hN).mn) true (tI h3)) [cS 0,.row (gR 149)] vTt])
     [bEt 3 43 H.f1,gtY 3 (.sym 161) (li 0) (Qdw (Qpd v) (Qpf v)) 0 h1] [] Quy 1 5 func30 eo30 2000 [cS 0,.row (gL [1,7]),.row (gR 13)] (.tup [.row (gR 149),cTt])
def Kya(v:W13)(H:Qpn v)(h0:Qer (Kkn v))(h1:(Qdw (Qpd v) (Qpf v))>0)(h2:hi v.p (Qpf v)):SCt 30 [.c (gxi v.p),.row (rG (⟨v.a,v.b⟩:QC)++rG (⟨v.e,v.d⟩:QC)),.row (rG v.z)] (.tup [.row (rG (Qpf v)),gTt]) :=
  Qas (L := Qlo v) Qae Qai
     ((Qqw v H h0)++[gs (Qgc v.p (Qpf v) H.hp ((Qpg H.B H.f2 H.hN).mn) true (tI h2)) [cS 0,.row (gR 155)] vTt])
     [bEt 3 43 H.f1,gtY 3 (.sym 161) (li 0) (Qdw (Qpd v) (Qpf v)) 0 h1] [] Quy 1 5 func30 eo30 2000 [cS 0,.row (gL [1,7]),.row (gR 13)] (.tup [.row (gR 155),cTt])
def Kyb(v:W13)(H:Qpn v)(h0:Qer (Kkn v))(h1:¬((Qdw (Qpd v) (Qpf v))>0))(h2:¬(hi v.p (Qpd v)))(h3:hi v.p (Qpf v)):SCt 30 [.c (gxi v.p),.row (rG (⟨v.a,v.b⟩:QC)++rG (⟨v.e,v.d⟩:QC)),.row (rG v.z)] (.tup [.row (rG (Qpf v)),gTt]) :=
  Qas (L := Qlo v) Qae Qai
     ((Qqw v H h0)++[gs (Qgc v.p (Qpd v) H.hp ((Qpe H.B H.f2 H.hN).mn) false (fI h2)) [cS 0,.row (gR 149)] vFf,gs (Qgc v.p (Qpf v) H.hp ((Qpg H.B H.f2 H.hN).mn) true (tI h3)) [cS 0,.row (gR 155)] vTt])
     [bEt 3 43 H.f1,gtN 3 (.sym 161) (li 0) (Qdw (Qpd v) (Qpf v)) 0 h1] [] Quy 1 5 func30 eo30 2000 [cS 0,.row (gL [1,7]),.row (gR 13)] (.tup [.row (gR 155),cTt])
def Kyc(v:W13)(H:Qpn v)(h0:Qer (Kkn v))(h1:¬((Qdw (Qpd v) (Qpf v))>0))(h2:hi v.p (Qpd v)):SCt 30 [.c (gxi v.p),.row (rG (⟨v.a,v.b⟩:QC)++rG (⟨v.e,v.d⟩:QC)),.row (rG v.z)] (.tup [.row (rG (Qpd v)),gTt]) :=
  Qas (L := Qlo v) Qae Qai
     ((Qqw v H h0)++[gs (Qgc v.p (Qpd v) H.hp ((Qpe H.B H.f2 H.hN).mn) true (tI h2)) [cS 0,.row (gR 149)] vTt])
     [bEt 3 43 H.f1,gtN 3 (.sym 161) (li 0) (Qdw (Qpd v) (Qpf v)) 0 h1] [] Quy 1 5 func30 eo30 2000 [cS 0,.row (gL [1,7]),.row (gR 13)] (.tup [.row (gR 149),cTt])
def Kyd(v:W13)(H:Qpn v)(h0:¬(Qer (Kkn v))):SCt 30 [.c (gxi v.p),.row (rG (⟨v.a,v.b⟩:QC)++rG (⟨v.e,v.d⟩:QC)),.row (rG v.z)] (.tup [.row (zGG),gFf]) :=
  Qas (L := Qlo v) Qae Qai
     ((Khe v H)++[gs (Ksm (Kkn v) ((Kgg H.B H.f2 H.hN).mn) h0) [yQ 134] (.tup [.row (zFA),cFf])])
     [bEt 3 43 H.f1] [] Quy 1 5 func30 eo30 2000 [cS 0,.row (gL [1,7]),.row (gR 13)] (.tup [.row (zGA),cFf])
def Ukj(v:W13):Rat:=nm (⟨(-v.b)*((1:Rat)/v.a),v.e*((1:Rat)/v.a)⟩:QC)
def Kgh{v:W13}(B:v.O)(f1:¬(v.a.num.sign=0)):RL (Ukj v) 520009:=(Qbe (Qau (Qad (Qah B.b) (Qcs (Qak f1) (rj 1) B.a)) (Qad B.e (Qcs (Qak f1) (rj 1) B.a)))).mn
def Ukk(v:W13):QC:=(⟨v.m1,v.m2⟩:QC)*(⟨(-v.b)*((1:Rat)/v.a),v.e*((1:Rat)/v.a)⟩:QC)
def Qzo{v:W13}(B:v.O)(f1:¬(v.a.num.sign=0)):ZL (Ukk v) 390005:=(Qct (Qau B.m1 B.m2) (Qau (Qad (Qah B.b) (Qcs (Qak f1) (rj 1) B.a)) (Qad B.e (Qcs (Qak f1) (rj 1) B.a)))).mn
def Usw(v:W13):Rat:=((Ukk v).re)+((Ukk v).re)
def Kwo{v:W13}(B:v.O)(f1:¬(v.a.num.sign=0)):RL (Usw v) 780011:=(Qaz ((Qzo B f1).1) ((Qzo B f1).1)).mn
def Kof(v:W13):Rat:=(v.m0*(Ukj v))+(Usw v)
def Qmh{v:W13}(B:v.O)(f1:¬(v.a.num.sign=0)):RL (Kof v) 1365021:=(Qaz (Qad B.m0 (Kgh B f1)) (Kwo B f1)).mn
def Uey(v:W13):Rat:=((Kof v)+v.m3)/(Kwh v)
def Qzp{v:W13}(B:v.O)(f1:¬(v.a.num.sign=0))(hN:¬(nm (⟨v.m1,v.m2⟩:QC)=0)):RL (Uey v) 1690025:=(Qcs (Qdv (by decide) hN) (Qaz (Qmh B f1) B.m3) (Qzh B)).mn
def Umc(v:W13):Rat:=((cj (⟨v.m1,v.m2⟩:QC)).re)*(Uey v)
def Kwp{v:W13}(B:v.O)(f1:¬(v.a.num.sign=0))(hN:¬(nm (⟨v.m1,v.m2⟩:QC)=0)):RL (Umc v) 1755025:=(Qad ((Qeg (Qau B.m1 B.m2)).1) (Qzp B f1 hN)).mn
def Umd(v:W13):Rat:=((cj (⟨v.m1,v.m2⟩:QC)).im)*(Uey v)
def Kwq{v:W13}(B:v.O)(f1:¬(v.a.num.sign=0))(hN:¬(nm (⟨v.m1,v.m2⟩:QC)=0)):RL (Umd v) 1755025:=(Qad ((Qeg (Qau B.m1 B.m2)).2) (Qzp B f1 hN)).mn
def Ufa(v:W13):QC:=(⟨(-v.b)*((1:Rat)/v.a),v.e*((1:Rat)/v.a)⟩:QC)-(⟨Umc v,Umd v⟩:QC)
def Qzq{v:W13}(B:v.O)(f1:¬(v.a.num.sign=0))(hN:¬(nm (⟨v.m1,v.m2⟩:QC)=0)):ZL (Ufa v) 1885028:=(Qec (Qau (Qad (Qah B.b) (Qcs (Qak f1) (rj 1) B.a)) (Qad B.e (Qcs (Qak f1) (rj 1) B.a))) (Qau (Kwp B f1 hN) (Kwq B f1 hN))).mn
def Usx(v:W13):Rat:=((Kof v)+v.m3)*((Kof v)+v.m3)
def Kwr{v:W13}(B:v.O)(f1:¬(v.a.num.sign=0)):RL (Usx v) 2860044:=(Qad (Qaz (Qmh B f1) B.m3) (Qaz (Qmh B f1) B.m3)).mn
def Usy(v:W13):Rat:=(Usx v)/(Ucg v)
def Kws{v:W13}(B:v.O)(f1:¬(v.a.num.sign=0))(hN:¬(nm (⟨v.m1,v.m2⟩:QC)=0)):RL (Usy v) 3120047:=(Qcs (Qdv (by decide) hN) (Kwr B f1) (Qzk B)).mn
def Usz(v:W13):Rat:=(Qam v.a v.b v.e v.d v.a v.b v.e v.d)/(v.a*v.a)
def Kwt{v:W13}(B:v.O)(f1:¬(v.a.num.sign=0)):RL (Usz v) 650005:=(Qcs (Qdv (Qak f1) (Qak f1)) (Qdj v.a v.b v.e v.d v.a v.b v.e v.d B.a B.b B.e B.d B.a B.b B.e B.d) (Qad B.a B.a)).mn
def Uta(v:W13):Rat:=(Usz v)-(Usy v)
def Kwu{v:W13}(B:v.O)(f1:¬(v.a.num.sign=0))(hN:¬(nm (⟨v.m1,v.m2⟩:QC)=0)):RL (Uta v) 3770053:=(Qcb (Kwt B f1) (Kws B f1 hN)).mn
def Qzu(v:W13):Rat:=(Uta v)/(nm (⟨v.m1,v.m2⟩:QC))
def Qph{v:W13}(B:v.O)(f1:¬(v.a.num.sign=0))(hN:¬(nm (⟨v.m1,v.m2⟩:QC)=0)):RL (Qzu v) 4030054:=(Qcs hN (Kwu B f1 hN) (Qbe (Qau B.m1 B.m2))).mn
noncomputable def Ufb(v:W13):Rat:=(-((cj (⟨v.m1,v.m2⟩:QC)).im))*(sqr (Qzu v))
def Qzr{v:W13}(B:v.O)(f1:¬(v.a.num.sign=0))(hN:¬(nm (⟨v.m1,v.m2⟩:QC)=0)):RL (Ufb v) 4095055:=(Qad (Qah ((Qeg (Qau B.m1 B.m2)).2)) (Qdr (Qph B f1 hN))).mn
noncomputable def Ufc(v:W13):Rat:=((cj (⟨v.m1,v.m2⟩:QC)).re)*(sqr (Qzu v))
def Qzs{v:W13}(B:v.O)(f1:¬(v.a.num.sign=0))(hN:¬(nm (⟨v.m1,v.m2⟩:QC)=0)):RL (Ufc v) 4095055:=(Qad ((Qeg (Qau B.m1 B.m2)).1) (Qdr (Qph B f1 hN))).mn
noncomputable def Qpi(v:W13):QC:=(Ufa v)+(⟨Ufb v,Ufc v⟩:QC)
def Qpj{v:W13}(B:v.O)(f1:¬(v.a.num.sign=0))(hN:¬(nm (⟨v.m1,v.m2⟩:QC)=0)):ZL (Qpi v) 5980084:=(Qht (Qzq B f1 hN) (Qau (Qzr B f1 hN) (Qzs B f1 hN))).mn
noncomputable def Qpk(v:W13):QC:=(Ufa v)-(⟨Ufb v,Ufc v⟩:QC)
def Qpl{v:W13}(B:v.O)(f1:¬(v.a.num.sign=0))(hN:¬(nm (⟨v.m1,v.m2⟩:QC)=0)):ZL (Qpk v) 5980084:=(Qec (Qzq B f1 hN) (Qau (Qzr B f1 hN) (Qzs B f1 hN))).mn
noncomputable def Qlp(v:W13):List GF:=[[gxi v.p],cF v.a,cF v.b,cF v.e,cF v.d,cG v.z,cF v.u0,cF v.u1,cF v.u2,cF v.u3,cF v.m0,cF v.m1,cF v.m2,cF v.m3,[gxi v.a.num.sign],cF (-v.b),cF (1:Rat),cF ((1:Rat)/v.a),cF ((-v.b)*((1:Rat)/v.a)),cF (v.e*((1:Rat)/v.a)),cF (nm (⟨v.m1,v.m2⟩:QC)),cF (Ukj v),cF (v.m0*(Ukj v)),cG (Ukk v),cF (Usw v),cF (Kof v),cF ((Kof v)+v.m3),cG (cj (⟨v.m1,v.m2⟩:QC)),cF (2:Rat),cF (Kwh v),cF (Uey v),cF (Umc v),cF (Umd v),cG (Ufa v),cF (Usx v),cF (4:Rat),cF (Ucg v),cF (Usy v),cF (Qam v.a v.b v.e v.d v.a v.b v.e v.d),cF (v.a*v.a),cF (Usz v),cF (Uta v),cF (Qzu v),cF (sqr (Qzu v)),cF (-((cj (⟨v.m1,v.m2⟩:QC)).im)),cF (Ufb v),cF (Ufc v),cG (Qpi v),cG (Qpk v),[gxi (Qdw (Qpi v) (Qpk v))]].flatten
structure Qpo(v:W13):Prop where
 B:v.O
 f1:¬(v.a.num.sign=0)
 hN:¬(nm (⟨v.m1,v.m2⟩:QC)=0)
 hUp:SCt 32 [.c (gxi v.p),.row (rF v.a++rF v.b++rF v.e++rF v.d),G1 v.z] (.r (.row (rF v.u0++rF v.u1++rF v.u2++rF v.u3)))
 hL:SCt 198 [.row (rF v.a++rF v.b++rF v.e++rF v.d),.row (rF v.u0++rF v.u1++rF v.u2++rF v.u3)] (.r (gIi 2))
 hA:SCt 201 [.row (rF v.a++rF v.b++rF v.e++rF v.d),.row (rF v.u0++rF v.u1++rF v.u2++rF v.u3)] (.tup [.row (rF v.m0++rF v.m1++rF v.m2++rF v.m3),gTt])
 hp:v.p=1\/v.p=2
noncomputable def Khf(v:W13)(H:Qpo v):List (GC prog (Qlp v) true):=[Qbw eo78,gs (H.hUp) [cS 0,.row (gL [1,7]),.row (gR 13)] (.r (.row (gL [19,25]))),gs (H.hL) [.row (gL [1,7]),.row (gL [19,25])] (.r (lc 2)),gs (H.hA) [.row (gL [1,7]),.row (gL [19,25])] (.tup [.row (gL [31,37]),cTt]),gs (Qcp v.a) [yQ 1] (rS 43),gs (Qhg v.b) [yQ 4] (rQ 44),gs (Qfv 1 (by decide) (by decide)) [lc 1] (rQ 47),gs (Qcn (1:Rat) v.a (ri 1) (H.B.a.mn) (Qak H.f1)) [yQ 47,yQ 1] (rQ 50),gs (Qat (-v.b) ((1:Rat)/v.a) ((Qah H.B.b).mn) ((Qcs (Qak H.f1) (rj 1) H.B.a).mn)) [yQ 44,yQ 50] (rQ 53),gs (Qat v.e ((1:Rat)/v.a) (H.B.e.mn) ((Qcs (Qak H.f1) (rj 1) H.B.a).mn)) [yQ 7,yQ 50] (rQ 56),gs (Qlg (⟨v.m1,v.m2⟩:QC) ((Qau H.B.m1 H.B.m2).mn)) [.row (gR 34)] (rQ 59),gs (Qlg (⟨(-v.b)*((1:Rat)/v.a),v.e*((1:Rat)/v.a)⟩:QC) ((Qau (Qad (Qah H.B.b) (Qcs (Qak H.f1) (rj 1) H.B.a)) (Qad H.B.e (Qcs (Qak H.f1) (rj 1) H.B.a))).mn)) [.row (gR 53)] (rQ 62),gs (Qat v.m0 (Ukj v) (H.B.m0.mn) ((Kgh H.B H.f1).mn)) [yQ 31,yQ 62] (rQ 65),gs (Kir (⟨v.m1,v.m2⟩:QC) (⟨(-v.b)*((1:Rat)/v.a),v.e*((1:Rat)/v.a)⟩:QC) ((Qau H.B.m1 H.B.m2).mn) ((Qau (Qad (Qah H.B.b) (Qcs (Qak H.f1) (rj 1) H.B.a)) (Qad H.B.e (Qcs (Qak H.f1) (rj 1) H.B.a))).mn)) [.row (gR 34),.row (gR 53)] (.r (.row (gR 68))),gs (Qek ((Ukk v).re) ((Ukk v).re) (((Qzo H.B H.f1).1).mn) (((Qzo H.B H.f1).1).mn)) [yQ 68,yQ 68] (rQ 74),gs (Qek (v.m0*(Ukj v)) (Usw v) ((Qad H.B.m0 (Kgh H.B H.f1)).mn) ((Kwo H.B H.f1).mn)) [yQ 65,yQ 74] (rQ 77),gs (Qek (Kof v) v.m3 ((Qmh H.B H.f1).mn) (H.B.m3.mn)) [yQ 77,yQ 40] (rQ 80),gs (Uin (⟨v.m1,v.m2⟩:QC)) [.row (gR 34)] (.r (.row (gR 83))),gs (Qfv 2 (by decide) (by decide)) [lc 2] (rQ 89),gs (Qat (2:Rat) (nm (⟨v.m1,v.m2⟩:QC)) (ri 2) ((Qbe (Qau H.B.m1 H.B.m2)).mn)) [yQ 89,yQ 59] (rQ 92),gs (Qcn ((Kof v)+v.m3) (Kwh v) ((Qaz (Qmh H.B H.f1) H.B.m3).mn) ((Qzh H.B).mn) (Qdv (by decide) H.hN)) [yQ 80,yQ 92] (rQ 95),gs (Qat ((cj (⟨v.m1,v.m2⟩:QC)).re) (Uey v) (((Qeg (Qau H.B.m1 H.B.m2)).1).mn) ((Qzp H.B H.f1 H.hN).mn)) [yQ 83,yQ 95] (rQ 98),gs (Qat ((cj (⟨v.m1,v.m2⟩:QC)).im) (Uey v) (((Qeg (Qau H.B.m1 H.B.m2)).2).mn) ((Qzp H.B H.f1 H.hN).mn)) [yQ 86,yQ 95] (rQ 101),gs (Kiq (⟨(-v.b)*((1:Rat)/v.a),v.e*((1:Rat)/v.a)⟩:QC) (⟨Umc v,Umd v⟩:QC) ((Qau (Qad (Qah H.B.b) (Qcs (Qak H.f1) (rj 1) H.B.a)) (Qad H.B.e (Qcs (Qak H.f1) (rj 1) H.B.a))).mn) ((Qau (Kwp H.B H.f1 H.hN) (Kwq H.B H.f1 H.hN)).mn)) [.row (gR 53),.row (gR 98)] (.r (.row (gR 104))),gs (Qat ((Kof v)+v.m3) ((Kof v)+v.m3) ((Qaz (Qmh H.B H.f1) H.B.m3).mn) ((Qaz (Qmh H.B H.f1) H.B.m3).mn)) [yQ 80,yQ 80] (rQ 110),gs (Qfv 4 (by decide) (by decide)) [lc 4] (rQ 113),gs (Qat (4:Rat) (nm (⟨v.m1,v.m2⟩:QC)) (ri 4) ((Qbe (Qau H.B.m1 H.B.m2)).mn)) [yQ 113,yQ 59] (rQ 116),gs (Qcn (Usx v) (Ucg v) ((Kwr H.B H.f1).mn) ((Qzk H.B).mn) (Qdv (by decide) H.hN)) [yQ 110,yQ 116] (rQ 119),gs (Qlj v.a v.b v.e v.d v.a v.b v.e v.d (H.B.a.mn) (H.B.b.mn) (H.B.e.mn) (H.B.d.mn) (H.B.a.mn) (H.B.b.mn) (H.B.e.mn) (H.B.d.mn)) [.row (gL [1,7]),.row (gL [1,7])] (rQ 122),gs (Qat v.a v.a (H.B.a.mn) (H.B.a.mn)) [yQ 1,yQ 1] (rQ 125),gs (Qcn (Qam v.a v.b v.e v.d v.a v.b v.e v.d) (v.a*v.a) ((Qdj v.a v.b v.e v.d v.a v.b v.e v.d H.B.a H.B.b H.B.e H.B.d H.B.a H.B.b H.B.e H.B.d).mn) ((Qad H.B.a H.B.a).mn) (Qdv (Qak H.f1) (Qak H.f1))) [yQ 122,yQ 125] (rQ 128),gs (Qcz (Usz v) (Usy v) ((Kwt H.B H.f1).mn) ((Kws H.B H.f1 H.hN).mn)) [yQ 128,yQ 119] (rQ 131),gs (Qcn (Uta v) (nm (⟨v.m1,v.m2⟩:QC)) ((Kwu H.B H.f1 H.hN).mn) ((Qbe (Qau H.B.m1 H.B.m2)).mn) H.hN) [yQ 131,yQ 59] (rQ 134)]
noncomputable def Qqx(v:W13)(H:Qpo v)(h0:Qer (Qzu v)):List (GC prog (Qlp v) true):=(Khf v H)++[gs (Udp (Qzu v) ((Qph H.B H.f1 H.hN).mn) h0) [yQ 134] (.tup [yQ 137,cTt]),gs (Qhg ((cj (⟨v.m1,v.m2⟩:QC)).im)) [yQ 86] (rQ 140),gs (Qat (-((cj (⟨v.m1,v.m2⟩:QC)).im)) (sqr (Qzu v)) ((Qah ((Qeg (Qau H.B.m1 H.B.m2)).2)).mn) ((Qdr (Qph H.B H.f1 H.hN)).mn)) [yQ 140,yQ 137] (rQ 143),gs (Qat ((cj (⟨v.m1,v.m2⟩:QC)).re) (sqr (Qzu v)) (((Qeg (Qau H.B.m1 H.B.m2)).1).mn) ((Qdr (Qph H.B H.f1 H.hN)).mn)) [yQ 83,yQ 137] (rQ 146),gs (Uas (Ufa v) (⟨Ufb v,Ufc v⟩:QC) ((Qzq H.B H.f1 H.hN).mn) ((Qau (Qzr H.B H.f1 H.hN) (Qzs H.B H.f1 H.hN)).mn)) [.row (gR 104),.row (gR 143)] (.r (.row (gR 149))),gs (Kiq (Ufa v) (⟨Ufb v,Ufc v⟩:QC) ((Qzq H.B H.f1 H.hN).mn) ((Qau (Qzr H.B H.f1 H.hN) (Qzs H.B H.f1 H.hN)).mn)) [.row (gR 104),.row (gR 143)] (.r (.row (gR 155))),gs (Uys (Qpi v) (Qpk v) ((Qpj H.B H.f1 H.hN).mn) ((Qpl H.B H.f1 H.hN).mn)) [.row (flA [[.lit (.bool false)],gR 149]),.row (flA [[.lit (.bool false)],gR 155])] (rS 161)]
def Kye(v:W13)(H:Qpo v)(h0:Qer (Qzu v))(h1:(Qdw (Qpi v) (Qpk v))>0)(h2:¬(hi v.p (Qpk v)))(h3:hi v.p (Qpi v)):SCt 30 [.c (gxi v.p),.row (rG (⟨v.a,v.b⟩:QC)++rG (⟨v.e,v.d⟩:QC)),.row (rG v.z)] (.tup [.row (rG (Qpi v)),gTt]) :=
  Qas (L := Qlp v) Qae Qai
     ((Qqx v H h0)++[gs (Qgc v.p (Qpk v) H.hp ((Qpl H.B H.f1 H.hN).mn) false (fI h2)) [cS 0,.row (gR 155)] vFf,gs (Qgc v.p (Qpi v) H.hp ((Qpj H.B H.f1 H.hN).mn) true (tI h3)) [cS 0,.row (gR 149)] vTt])
     [bEf 3 43 H.f1,gtY 3 (.sym 161) (li 0) (Qdw (Qpi v) (Qpk v)) 0 h1] [] Quy 1 5 func30 eo30 2000 [cS 0,.row (gL [1,7]),.row (gR 13)] (.tup [.row (gR 149),cTt])
def Kyf(v:W13)(H:Qpo v)(h0:Qer (Qzu v))(h1:(Qdw (Qpi v) (Qpk v))>0)(h2:hi v.p (Qpk v)):SCt 30 [.c (gxi v.p),.row (rG (⟨v.a,v.b⟩:QC)++rG (⟨v.e,v.d⟩:QC)),.row (rG v.z)] (.tup [.row (rG (Qpk v)),gTt]) :=
  Qas (L := Qlp v) Qae Qai
     ((Qqx v H h0)++[gs (Qgc v.p (Qpk v) H.hp ((Qpl H.B H.f1 H.hN).mn) true (tI h2)) [cS 0,.row (gR 155)] vTt])
     [bEf 3 43 H.f1,gtY 3 (.sym 161) (li 0) (Qdw (Qpi v) (Qpk v)) 0 h1] [] Quy 1 5 func30 eo30 2000 [cS 0,.row (gL [1,7]),.row (gR 13)] (.tup [.row (gR 155),cTt])
def Kyg(v:W13)(H:Qpo v)(h0:Qer (Qzu v))(h1:¬((Qdw (Qpi v) (Qpk v))>0))(h2:¬(hi v.p (Qpi v)))(h3:hi v.p (Qpk v)):SCt 30 [.c (gxi v.p),.row (rG (⟨v.a,v.b⟩:QC)++rG (⟨v.e,v.d⟩:QC)),.row (rG v.z)] (.tup [.row (rG (Qpk v)),gTt]) :=
  Qas (L := Qlp v) Qae Qai
     ((Qqx v H h0)++[gs (Qgc v.p (Qpi v) H.hp ((Qpj H.B H.f1 H.hN).mn) false (fI h2)) [cS 0,.row (gR 149)] vFf,gs (Qgc v.p (Qpk v) H.hp ((Qpl H.B H.f1 H.hN).mn) true (tI h3)) [cS 0,.row (gR 155)] vTt])
     [bEf 3 43 H.f1,gtN 3 (.sym 161) (li 0) (Qdw (Qpi v) (Qpk v)) 0 h1] [] Quy 1 5 func30 eo30 2000 [cS 0,.row (gL [1,7]),.row (gR 13)] (.tup [.row (gR 155),cTt])
def Kyh(v:W13)(H:Qpo v)(h0:Qer (Qzu v))(h1:¬((Qdw (Qpi v) (Qpk v))>0))(h2:hi v.p (Qpi v)):SCt 30 [.c (gxi v.p),.row (rG (⟨v.a,v.b⟩:QC)++rG (⟨v.e,v.d⟩:QC)),.row (rG v.z)] (.tup [.row (rG (Qpi v)),gTt]) :=
  Qas (L := Qlp v) Qae Qai
     ((Qqx v H h0)++[gs (Qgc v.p (Qpi v) H.hp ((Qpj H.B H.f1 H.hN).mn) true (tI h2)) [cS 0,.row (gR 149)] vTt])
     [bEf 3 43 H.f1,gtN 3 (.sym 161) (li 0) (Qdw (Qpi v) (Qpk v)) 0 h1] [] Quy 1 5 func30 eo30 2000 [cS 0,.row (gL [1,7]),.row (gR 13)] (.tup [.row (gR 149),cTt])
def Kyi(v:W13)(H:Qpo v)(h0:¬(Qer (Qzu v))):SCt 30 [.c (gxi v.p),.row (rG (⟨v.a,v.b⟩:QC)++rG (⟨v.e,v.d⟩:QC)),.row (rG v.z)] (.tup [.row (zGG),gFf]) :=
  Qas (L := Qlp v) Qae Qai
     ((Khf v H)++[gs (Ksm (Qzu v) ((Qph H.B H.f1 H.hN).mn) h0) [yQ 134] (.tup [.row (zFA),cFf])])
     [bEf 3 43 H.f1] [] Quy 1 5 func30 eo30 2000 [cS 0,.row (gL [1,7]),.row (gR 13)] (.tup [.row (zGA),cFf])
def Uur(v:W13):Rat:=(v.e*((-v.u3)*(1/2:Rat)))-(v.u2*((-v.d)*(1/2:Rat)))
def Kwv{v:W13}(B:v.O):RL (Uur v) 260005:=(Qcb (Qad B.e (Qad (Qah B.u3) (Qeb (1/2:Rat) 2 dK))) (Qad B.u2 (Qad (Qah B.d) (Qeb (1/2:Rat) 2 dK)))).mn
def Uus(v:W13):Rat:=(v.b*((-v.u3)*(1/2:Rat)))-(v.u1*((-v.d)*(1/2:Rat)))
def Kww{v:W13}(B:v.O):RL (Uus v) 260005:=(Qcb (Qad B.b (Qad (Qah B.u3) (Qeb (1/2:Rat) 2 dK))) (Qad B.u1 (Qad (Qah B.d) (Qeb (1/2:Rat) 2 dK)))).mn
def Ukl(v:W13):Rat:=(Uur v)/((v.e*v.u1)-(v.b*v.u2))
def Ukm{v:W13}(B:v.O)(hD:¬(((v.e*v.u1)-(v.b*v.u2))=0)):RL (Ukl v) 520006:=(Qcs hD (Kwv B) (Qcb (Qad B.e B.u1) (Qad B.b B.u2))).mn
def Ukn(v:W13):Rat:=(Uus v)/((v.e*v.u1)-(v.b*v.u2))
def Uko{v:W13}(B:v.O)(hD:¬(((v.e*v.u1)-(v.b*v.u2))=0)):RL (Ukn v) 520006:=(Qcs hD (Kww B) (Qcb (Qad B.e B.u1) (Qad B.b B.u2))).mn
def Uyk:FnsOk prog [⟨114,Tryz.f114,2000⟩,⟨113,Tryz.f113,2000⟩,⟨201,Tryz.f201,2000⟩,⟨143,Tryz.f143,2000⟩,⟨200,Tryz.f200,2000⟩,⟨197,Tryz.f197,2000⟩,⟨202,Tryz.f202,2000⟩,⟨204,Tryz.f204,2000⟩,⟨206,Tryz.f206,2000⟩,⟨254,Tryz.f254,2000⟩,⟨203,Tryz.f203,2000⟩,⟨184,Tryz.f184,2000⟩,⟨93,Tryz.f93,2000⟩,⟨199,Tryz.f199,2000⟩]:=(Uno (Qxr (Uwf (Ugu (Uns (Kea (Unt (Unv (Unw (Kyx (Unu (Unq (Ukv (Unr .nil))))))))))))))
def Kpq(v:W13):List GF:=[[gxi v.p],cF v.a,cF v.b,cF v.e,cF v.d,cG v.z,cF v.u0,cF v.u1,cF v.u2,cF v.u3,cF (1:Rat),[gxi v.a.num.sign,gxi v.u0.num.sign],cF (-v.d),cF (1/2:Rat),cF ((-v.d)*(1/2:Rat)),cF (-v.u3),cF ((-v.u3)*(1/2:Rat)),cF (v.e*v.u1),cF (v.b*v.u2),cF ((v.e*v.u1)-(v.b*v.u2)),cF (v.e*((-v.u3)*(1/2:Rat))),cF (v.u2*((-v.d)*(1/2:Rat))),cF (Uur v),cF (v.b*((-v.u3)*(1/2:Rat))),cF (v.u1*((-v.d)*(1/2:Rat))),cF (Uus v),cF (Ukl v),cF (Ukn v)].flatten
structure Ucq(v:W13):Prop where
 B:v.O
 hD:¬(((v.e*v.u1)-(v.b*v.u2))=0)
 hUp:SCt 32 [.c (gxi v.p),.row (rF v.a++rF v.b++rF v.e++rF v.d),G1 v.z] (.r (.row (rF v.u0++rF v.u1++rF v.u2++rF v.u3)))
 hL:SCt 198 [.row (rF v.a++rF v.b++rF v.e++rF v.d),.row (rF v.u0++rF v.u1++rF v.u2++rF v.u3)] (.r (gIi 2))
 hp:v.p=1\/v.p=2
 f1:v.a.num.sign=0
 f2:v.u0.num.sign=0
noncomputable def Kyk(v:W13)(H:Ucq v):List (GC prog (Kpq v) true):=[Qbw eo78,gs (H.hUp) [cS 0,.row (gL [1,7]),.row (gR 13)] (.r (.row (gL [19,25]))),gs (H.hL) [.row (gL [1,7]),.row (gL [19,25])] (.r (lc 2)),gs (Qfv 1 (by decide) (by decide)) [lc 1] (rQ 31),gs (Qcp v.a) [yQ 1] (rS 34),gs (Qcp v.u0) [yQ 19] (rS 35),gs (Qhg v.d) [yQ 10] (rQ 36),gs (Qou 1 2 (1/2:Rat) (by decide) (by decide) (by decide) (by decide) (by decide) dK) [lc 1,lc 2] (rQ 39),gs (Qat (-v.d) (1/2:Rat) ((Qah H.B.d).mn) ((Qeb (1/2:Rat) 2 dK).mn)) [yQ 36,yQ 39] (rQ 42),gs (Qhg v.u3) [yQ 28] (rQ 45),gs (Qat (-v.u3) (1/2:Rat) ((Qah H.B.u3).mn) ((Qeb (1/2:Rat) 2 dK).mn)) [yQ 45,yQ 39] (rQ 48),gs (Qat v.e v.u1 (H.B.e.mn) (H.B.u1.mn)) [yQ 7,yQ 22] (rQ 51),gs (Qat v.b v.u2 (H.B.b.mn) (H.B.u2.mn)) [yQ 4,yQ 25] (rQ 54),gs (Qcz (v.e*v.u1) (v.b*v.u2) ((Qad H.B.e H.B.u1).mn) ((Qad H.B.b H.B.u2).mn)) [yQ 51,yQ 54] (rQ 57),gs (Qat v.e ((-v.u3)*(1/2:Rat)) (H.B.e.mn) ((Qad (Qah H.B.u3) (Qeb (1/2:Rat) 2 dK)).mn)) [yQ 7,yQ 48] (rQ 60),gs (Qat v.u2 ((-v.d)*(1/2:Rat)) (H.B.u2.mn) ((Qad (Qah H.B.d) (Qeb (1/2:Rat) 2 dK)).mn)) [yQ 25,yQ 42] (rQ 63),gs (Qcz (v.e*((-v.u3)*(1/2:Rat))) (v.u2*((-v.d)*(1/2:Rat))) ((Qad H.B.e (Qad (Qah H.B.u3) (Qeb (1/2:Rat) 2 dK))).mn) ((Qad H.B.u2 (Qad (Qah H.B.d) (Qeb (1/2:Rat) 2 dK))).mn)) [yQ 60,yQ 63] (rQ 66),gs (Qat v.b ((-v.u3)*(1/2:Rat)) (H.B.b.mn) ((Qad (Qah H.B.u3) (Qeb (1/2:Rat) 2 dK)).mn)) [yQ 4,yQ 48] (rQ 69),gs (Qat v.u1 ((-v.d)*(1/2:Rat)) (H.B.u1.mn) ((Qad (Qah H.B.d) (Qeb (1/2:Rat) 2 dK)).mn)) [yQ 22,yQ 42] (rQ 72),gs (Qcz (v.b*((-v.u3)*(1/2:Rat))) (v.u1*((-v.d)*(1/2:Rat))) ((Qad H.B.b (Qad (Qah H.B.u3) (Qeb (1/2:Rat) 2 dK))).mn) ((Qad H.B.u1 (Qad (Qah H.B.d) (Qeb (1/2:Rat) 2 dK))).mn)) [yQ 69,yQ 72] (rQ 75),gs (Qcn (Uur v) ((v.e*v.u1)-(v.b*v.u2)) ((Kwv H.B).mn) ((Qcb (Qad H.B.e H.B.u1) (Qad H.B.b H.B.u2)).mn) H.hD) [yQ 66,yQ 57] (rQ 78),gs (Qcn (Uus v) ((v.e*v.u1)-(v.b*v.u2)) ((Kww H.B).mn) ((Qcb (Qad H.B.e H.B.u1) (Qad H.B.b H.B.u2)).mn) H.hD) [yQ 75,yQ 57] (rQ 81)]
def Kyj(v:W13)(H:Ucq v)(h0:hi v.p (⟨Ukl v,Ukn v⟩:QC)):SCt 30 [.c (gxi v.p),.row (rG (⟨v.a,v.b⟩:QC)++rG (⟨v.e,v.d⟩:QC)),.row (rG v.z)] (.tup [.row (rG (⟨Ukl v,Ukn v⟩:QC)),gTt]) :=
  Qas (L := Kpq v) Qae Qai
     ((Kyk v H)++[gs (Qgc v.p (⟨Ukl v,Ukn v⟩:QC) H.hp ((Qau (Ukm H.B H.hD) (Uko H.B H.hD)).mn) true (tI h0)) [cS 0,.row (gR 78)] vTt])
     [bEt 3 34 H.f1,bEt 3 35 H.f2] [] Uyk 1 5 func30 eo30 2000 [cS 0,.row (gL [1,7]),.row (gR 13)] (.tup [.row (gR 78),cTt])
def dF(p:Int)(ca:Qbm)(cb:Qbg)(cc:Qbm)(z x:QC):Prop:=SCt 30 [.c (gxi p),.row (ca.cells++cb.cells++cc.cells),.row (Qan z).cells] (.tup [G1 x,gTt])/\ZL x 100000000
def dN(p:Int)(ca:Qbm)(cb:Qbg)(cc:Qbm)(z:QC):Prop:=SCt 30 [.c (gxi p),.row (ca.cells++cb.cells++cc.cells),.row (Qan z).cells] (.tup [.row zGG,gFf])
def Uxp{m1 m2 p q r s N:Rat}(hN:N≠0)(n0:N=m1*m1+m2*m2):p=r-m1*(-2*(m1*(p-r)-m2*(q-s))/(N*2))+m2*((m2*(p-r)+m1*(q-s))/N):=by
 have e1:-2*(m1*(p-r)-m2*(q-s))/(N*2)=-((m1*(p-r)-m2*(q-s))/N):=by grind
 rw[e1];have e2:(p-r)*N=m1*(m1*(p-r)-m2*(q-s))+m2*(m2*(p-r)+m1*(q-s)):=by rw[n0];grind
 generalize m1*(p-r)-m2*(q-s)=a at *
 generalize m2*(p-r)+m1*(q-s)=b at *
 have e3:(r-m1*-(a/N)+m2*(b/N))*N=p*N:=by
  have:a/N*N=a:=by grind
  have:b/N*N=b:=by grind
  grind
 grind
def Uxo{m1 m2 p q r s N:Rat}(hN:N≠0)(n0:N=m1*m1+m2*m2):q=s+m2*(-2*(m1*(p-r)-m2*(q-s))/(N*2))+m1*((m2*(p-r)+m1*(q-s))/N):=by
 have e1:-2*(m1*(p-r)-m2*(q-s))/(N*2)=-((m1*(p-r)-m2*(q-s))/N):=by grind
 rw[e1];have e2:(q-s)*N=-(m2*(m1*(p-r)-m2*(q-s)))+m1*(m2*(p-r)+m1*(q-s)):=by rw[n0];grind
 generalize m1*(p-r)-m2*(q-s)=a at *
 generalize m2*(p-r)+m1*(q-s)=b at *
 have e3:(s+m2*-(a/N)+m1*(b/N))*N=q*N:=by
  have:a/N*N=a:=by grind
  have:b/N*N=b:=by grind
  grind
 grind
def Uiu{k0 k1 k2 k3 m1 m2 m3 r s v N R:Rat}{x:QC}(hk:k0≠0)(hN:N≠0)(eN:N=m1*m1+m2*m2)(er:r=-k1/k0)(es:s=k2/k0)(ev:v=(r*m1-s*m2)*2+m3)
  (eR:R=Qam k0 k1 k2 k3 k0 k1 k2 k3/(k0*k0)) (h1:vl k0 k1 k2 k3 x=0) (h2:vl 0 m1 m2 m3 x=0):(R-v*v/(N*4))/N=((m2*(x.re-r)+m1*(x.im-s))/N)*((m2*(x.re-r)+m1*(x.im-s))/N):=by
 have c1:R=(x.re-r)*(x.re-r)+(x.im-s)*(x.im-s):=by
  rw[eR,er,es];unfold Qam;unfold vl nm at h1;grind
 have c2:v=-2*(m1*(x.re-r)-m2*(x.im-s)):=by
  rw[ev];unfold vl at h2;grind
 rw[c1,c2];refine Udw hN ?_;generalize x.re-r=p;generalize x.im-s=q;have k:=Uzx (w:=m1*p-m2*q) hN;have c:(p*p+q*q)*N-(m1*p-m2*q)*(m1*p-m2*q)=(m2*p+m1*q)*(m2*p+m1*q):=by rw[eN];grind
 rw[←c,←k];grind
def Udn{k0 k1 k2 k3 m1 m2 m3:Rat}{x:QC}(hk:k0≠0)(hN:fN m1 m2≠0)(h1:vl k0 k1 k2 k3 x=0)(h2:vl 0 m1 m2 m3 x=0) :
  x=fX m1 m2 m3 k0 k1 k2 (sqr (fQ m1 m2 m3 k0 k1 k2 k3))\/x=fX m1 m2 m3 k0 k1 k2 (-sqr (fQ m1 m2 m3 k0 k1 k2 k3)):=by
 have hq:=Qxq hk hN h1 h2;have hs:=(Qhi hq).2;generalize sqr (fQ m1 m2 m3 k0 k1 k2 k3)=t at *
 have e:fQ m1 m2 m3 k0 k1 k2 k3=((m2*(x.re - -k1/k0)+m1*(x.im-k2/k0))/fN m1 m2)*((m2*(x.re - -k1/k0)+m1*(x.im-k2/k0))/fN m1 m2):=Uiu hk hN rfl rfl rfl rfl rfl h1 h2;rw[e] at hs;have key:x=fX m1 m2 m3 k0 k1 k2 ((m2*(x.re - -k1/k0)+m1*(x.im-k2/k0))/fN m1 m2):=by
  have c2:fV m1 m2 m3 k0 k1 k2=-2*(m1*(x.re - -k1/k0)-m2*(x.im-k2/k0)):=by unfold fV;unfold vl at h2;grind
  unfold fX ctX;rw[c2];generalize -k1/k0=r;generalize k2/k0=s;have n0:fN m1 m2=m1*m1+m2*m2:=rfl;apply Qcj
  .show x.re=r-m1*(-2*(m1*(x.re-r)-m2*(x.im-s))/(fN m1 m2*2))+m2*((m2*(x.re-r)+m1*(x.im-s))/fN m1 m2);exact Uxp hN n0
  .show x.im=s+m2*(-2*(m1*(x.re-r)-m2*(x.im-s))/(fN m1 m2*2))+m1*((m2*(x.re-r)+m1*(x.im-s))/fN m1 m2);exact Uxo hN n0
 generalize (m2*(x.re - -k1/k0)+m1*(x.im-k2/k0))/fN m1 m2=s at *
 have f:(t-s)*(t+s)=0:=by grind
 rcases axt.1 f with f|f
 .have:s=t:=by grind
  subst this;exact .inl key
 .have:s=-t:=by grind
  subst this;exact .inr key
def dSv(v:W13)(h:v.m0=0):Koe v+v.m3=fV v.m1 v.m2 v.m3 v.u0 v.u1 v.u2:=by
 simp only[Koe,Ukh,Usr,Uki,fV,qmr,qmi,Rat.div_def,h];grind
def dSq(v:W13)(h:v.m0=0):Kkn v=fQ v.m1 v.m2 v.m3 v.u0 v.u1 v.u2 v.u3:=by
 have x:=dSv v h;have n:nm (⟨v.m1,v.m2⟩:QC)=fN v.m1 v.m2:=rfl;simp only[Kkn,Usv,Usu,Ust,Uss,Ucg,n,x];rw[Rat.mul_comm 4];rfl
def dSp(v:W13)(h:v.m0=0):Qpd v=fX v.m1 v.m2 v.m3 v.u0 v.u1 v.u2 (sqr (fQ v.m1 v.m2 v.m3 v.u0 v.u1 v.u2 v.u3)):=by
 have x:=dSv v h;have n:nm (⟨v.m1,v.m2⟩:QC)=fN v.m1 v.m2:=rfl;rw[←dSq v h];unfold fX ctX;rw[←x,←n];apply Qcj<;>simp only[Qpd,Ueu,Uma,Uet,Kwh,Umb,Uew,Uev,Uex,cj,qar,qai,qsr,qsi,qmr,qmi,Rat.div_def]<;>grind
def dSm(v:W13)(h:v.m0=0):Qpf v=fX v.m1 v.m2 v.m3 v.u0 v.u1 v.u2 (-sqr (fQ v.m1 v.m2 v.m3 v.u0 v.u1 v.u2 v.u3)):=by
 have x:=dSv v h;have n:nm (⟨v.m1,v.m2⟩:QC)=fN v.m1 v.m2:=rfl;rw[←dSq v h];unfold fX ctX;rw[←x,←n];apply Qcj<;>simp only[Qpf,Ueu,Uma,Uet,Kwh,Umb,Uew,Uev,Uex,cj,qar,qai,qsr,qsi,qmr,qmi,Rat.div_def]<;>grind
def Uyt(v:W13)(H:Qpn v)(h0:v.m0=0)(hk:v.u0≠0)(hKM:∀ x,(vl v.a v.b v.e v.d x=0/\vl v.u0 v.u1 v.u2 v.u3 x=0)↔(vl v.u0 v.u1 v.u2 v.u3 x=0/\vl 0 v.m1 v.m2 v.m3 x=0)) :
  (∀ x0,hi v.p x0->(vl v.a v.b v.e v.d x0=0/\vl v.u0 v.u1 v.u2 v.u3 x0=0)->(∀ y,hi v.p y->(vl v.a v.b v.e v.d y=0/\vl v.u0 v.u1 v.u2 v.u3 y=0)->y=x0)->dF v.p (Qbx v.a) (Qan ⟨v.b,v.e⟩) (Qbx v.d) v.z x0) /\
  ((¬∃ x,vl v.a v.b v.e v.d x=0/\vl v.u0 v.u1 v.u2 v.u3 x=0)->dN v.p (Qbx v.a) (Qan ⟨v.b,v.e⟩) (Qbx v.d) v.z):=by
 have hN:fN v.m1 v.m2≠0:=H.hN;have eP:=dSp v h0;have eM:=dSm v h0;have eQ:=dSq v h0;refine⟨fun x0 ih hb hu=>?_,fun hn=>Kyd v H (fun hr=>hn ?_)⟩
 .have hb':=(hKM x0).1 hb;have hr:Qer (Kkn v):=by rw[eQ];exact Qxq hk hN hb'.1 hb'.2
  have ht:=(Qhi hr).2;rw[eQ] at ht;obtain⟨⟨p1,p2⟩,q1,q2⟩:=Qli (l3:=v.m3) hk hN rfl rfl rfl rfl rfl ht;have bp:=(hKM _).2 ⟨p2,p1⟩;have bm:=(hKM _).2 ⟨q2,q1⟩;have x2:=Udn hk hN hb'.1 hb'.2;replace bp:vl v.a v.b v.e v.d (Qpd v)=0/\vl v.u0 v.u1 v.u2 v.u3 (Qpd v)=0:=by rw[eP];exact bp
  replace bm:vl v.a v.b v.e v.d (Qpf v)=0/\vl v.u0 v.u1 v.u2 v.u3 (Qpf v)=0:=by rw[eM];exact bm
  rw[<-eP,<-eM] at x2
  by_cases c:(Qdw (Qpd v) (Qpf v))>0
  .by_cases i:hi v.p (Qpf v)
   .rw[<-hu _ i bm];exact⟨Kya v H hr c i,(Qpg H.B H.f2 H.hN).mn⟩
   .have j:hi v.p (Qpd v):=by
     rcases x2 with e|e
     .rw[<-e];exact ih
     .exact absurd (by rw[<-e];exact ih) i
    rw[<-hu _ j bp];exact⟨Kxz v H hr c i j,(Qpe H.B H.f2 H.hN).mn⟩
  .by_cases i:hi v.p (Qpd v)
   .rw[<-hu _ i bp];exact⟨Kyc v H hr c i,(Qpe H.B H.f2 H.hN).mn⟩
   .have j:hi v.p (Qpf v):=by
     rcases x2 with e|e
     .exact absurd (by rw[<-e];exact ih) i
     .rw[<-e];exact ih
    rw[<-hu _ j bm];exact⟨Kyb v H hr c i j,(Qpg H.B H.f2 H.hN).mn⟩
 .have ht:=(Qhi hr).2;rw[eQ] at ht;obtain⟨⟨p1,p2⟩,_⟩:=Qli (l3:=v.m3) hk hN rfl rfl rfl rfl rfl ht;exact⟨_,(hKM _).2 ⟨p2,p1⟩⟩
def dTv(v:W13)(h:v.m0=0):Kof v+v.m3=fV v.m1 v.m2 v.m3 v.a v.b v.e:=by
 simp only[Kof,Ukj,Usw,Ukk,fV,qmr,qmi,Rat.div_def,h];grind
def dTq(v:W13)(h:v.m0=0):Qzu v=fQ v.m1 v.m2 v.m3 v.a v.b v.e v.d:=by
 have x:=dTv v h;have n:nm (⟨v.m1,v.m2⟩:QC)=fN v.m1 v.m2:=rfl;simp only[Qzu,Uta,Usz,Usy,Usx,Ucg,n,x];rw[Rat.mul_comm 4];rfl
def dTp(v:W13)(h:v.m0=0):Qpi v=fX v.m1 v.m2 v.m3 v.a v.b v.e (sqr (fQ v.m1 v.m2 v.m3 v.a v.b v.e v.d)):=by
 have x:=dTv v h;have n:nm (⟨v.m1,v.m2⟩:QC)=fN v.m1 v.m2:=rfl;rw[←dTq v h];unfold fX ctX;rw[←x,←n];apply Qcj<;>simp only[Qpi,Ufa,Umc,Uey,Kwh,Umd,Ufb,Ufc,cj,qar,qai,qsr,qsi,qmr,qmi,Rat.div_def]<;>grind
def dTm(v:W13)(h:v.m0=0):Qpk v=fX v.m1 v.m2 v.m3 v.a v.b v.e (-sqr (fQ v.m1 v.m2 v.m3 v.a v.b v.e v.d)):=by
 have x:=dTv v h;have n:nm (⟨v.m1,v.m2⟩:QC)=fN v.m1 v.m2:=rfl;rw[←dTq v h];unfold fX ctX;rw[←x,←n];apply Qcj<;>simp only[Qpk,Ufa,Umc,Uey,Kwh,Umd,Ufb,Ufc,cj,qar,qai,qsr,qsi,qmr,qmi,Rat.div_def]<;>grind
def Utp(v:W13)(H:Qpo v)(h0:v.m0=0)(hk:v.a≠0)(hKM:∀ x,(vl v.a v.b v.e v.d x=0/\vl v.u0 v.u1 v.u2 v.u3 x=0)↔(vl v.a v.b v.e v.d x=0/\vl 0 v.m1 v.m2 v.m3 x=0)) :
  (∀ x0,hi v.p x0->(vl v.a v.b v.e v.d x0=0/\vl v.u0 v.u1 v.u2 v.u3 x0=0)->(∀ y,hi v.p y->(vl v.a v.b v.e v.d y=0/\vl v.u0 v.u1 v.u2 v.u3 y=0)->y=x0)->dF v.p (Qbx v.a) (Qan ⟨v.b,v.e⟩) (Qbx v.d) v.z x0) /\
  ((¬∃ x,vl v.a v.b v.e v.d x=0/\vl v.u0 v.u1 v.u2 v.u3 x=0)->dN v.p (Qbx v.a) (Qan ⟨v.b,v.e⟩) (Qbx v.d) v.z):=by
 have hN:fN v.m1 v.m2≠0:=H.hN;have eP:=dTp v h0;have eM:=dTm v h0;have eQ:=dTq v h0;refine⟨fun x0 ih hb hu=>?_,fun hn=>Kyi v H (fun hr=>hn ?_)⟩
 .have hb':=(hKM x0).1 hb;have hr:Qer (Qzu v):=by rw[eQ];exact Qxq hk hN hb'.1 hb'.2
  have ht:=(Qhi hr).2;rw[eQ] at ht;obtain⟨⟨p1,p2⟩,q1,q2⟩:=Qli (l3:=v.m3) hk hN rfl rfl rfl rfl rfl ht;have bp:=(hKM _).2 ⟨p2,p1⟩;have bm:=(hKM _).2 ⟨q2,q1⟩;have x2:=Udn hk hN hb'.1 hb'.2;replace bp:vl v.a v.b v.e v.d (Qpi v)=0/\vl v.u0 v.u1 v.u2 v.u3 (Qpi v)=0:=by rw[eP];exact bp
  replace bm:vl v.a v.b v.e v.d (Qpk v)=0/\vl v.u0 v.u1 v.u2 v.u3 (Qpk v)=0:=by rw[eM];exact bm
  rw[<-eP,<-eM] at x2
  by_cases c:(Qdw (Qpi v) (Qpk v))>0
  .by_cases i:hi v.p (Qpk v)
   .rw[<-hu _ i bm];exact⟨Kyf v H hr c i,(Qpl H.B H.f1 H.hN).mn⟩
   .have j:hi v.p (Qpi v):=by
     rcases x2 with e|e
     .rw[<-e];exact ih
     .exact absurd (by rw[<-e];exact ih) i
    rw[<-hu _ j bp];exact⟨Kye v H hr c i j,(Qpj H.B H.f1 H.hN).mn⟩
  .by_cases i:hi v.p (Qpi v)
   .rw[<-hu _ i bp];exact⟨Kyh v H hr c i,(Qpj H.B H.f1 H.hN).mn⟩
   .have j:hi v.p (Qpk v):=by
     rcases x2 with e|e
     .exact absurd (by rw[<-e];exact ih) i
     .rw[<-e];exact ih
    rw[<-hu _ j bm];exact⟨Kyg v H hr c i j,(Qpl H.B H.f1 H.hN).mn⟩
 .have ht:=(Qhi hr).2;rw[eQ] at ht;obtain⟨⟨p1,p2⟩,_⟩:=Qli (l3:=v.m3) hk hN rfl rfl rfl rfl rfl ht;exact⟨_,(hKM _).2 ⟨p2,p1⟩⟩
def Kgu{f0 f1 f2:Rat}{k:Nat}(h0:RL f0 k)(h1:RL f1 k)(h2:RL f2 k):RL (byF f0 f1 f2) k:=by
 unfold byF
 split
 .split
  .exact h2
  .exact h1
 .exact h0
def Kse(a b e d u0 u1 u2 u3:Rat):Qam a b e d u0 u1 u2 u3=Qam u0 u1 u2 u3 a b e d:=by
 unfold Qam;grind
def Qyt{u0 u1 u2 u3 c:Rat}{x:QC}(hc:c≠0):vl (u0/c) (u1/c) (u2/c) (u3/c) x=0↔vl u0 u1 u2 u3 x=0:=by
 rw[Ura];constructor
 .intro h;grind
 .intro h;rw[h];exact Ukq c
def Koy{f0 f1 f2 f3:Rat}(h:0<Qam f0 f1 f2 f3 f0 f1 f2 f3)(k:f0≠0):f0/byF f0 f1 f2=1:=by
 have e:byF f0 f1 f2=f0:=by unfold byF;rw[if_neg k]
 rw[e];grind
def Kdp(v:W13)(B:v.O)(hP:0<Qam v.a v.b v.e v.d v.a v.b v.e v.d)(hQ:0<Qam v.u0 v.u1 v.u2 v.u3 v.u0 v.u1 v.u2 v.u3)(h0:Qam v.a v.b v.e v.d v.u0 v.u1 v.u2 v.u3=0) :
  SCt 198 [.row (rF v.a++rF v.b++rF v.e++rF v.d),.row (rF v.u0++rF v.u1++rF v.u2++rF v.u3)] (.r (gIi 2)) :=
 Vae v B (fun h=>by obtain⟨h1,h2,h3,h4⟩:=h;rw[<-h1,<-h2,<-h3,<-h4] at h0;rw[h0] at hP;exact absurd hP (by decide)) (pne (Qqy hP hQ)) (by
  have e:Ukb v=0:=by
   show Qam v.a v.b v.e v.d v.u0 v.u1 v.u2 v.u3*Qam v.a v.b v.e v.d v.u0 v.u1 v.u2 v.u3/wy9 v=0;rw[h0,Rat.mul_zero];exact Ukq _
  rw[e];decide +kernel)
def Uyu(v:W13)(ha:v.a=1)(hu:v.u0=1)(hP:0<Qam v.a v.b v.e v.d v.a v.b v.e v.d)(hQ:0<Qam v.u0 v.u1 v.u2 v.u3 v.u0 v.u1 v.u2 v.u3)(h0:Qam v.a v.b v.e v.d v.u0 v.u1 v.u2 v.u3=0) :
  Kkm v=0/\0<Qam (Kkm v) (Kob v) (Koc v) (Kod v) (Kkm v) (Kob v) (Koc v) (Kod v):=by
 have e:Qam (Kkm v) (Kob v) (Koc v) (Kod v) (Kkm v) (Kob v) (Koc v) (Kod v)=Qam v.a v.b v.e v.d v.a v.b v.e v.d+Qam v.u0 v.u1 v.u2 v.u3 v.u0 v.u1 v.u2 v.u3-2*Qam v.a v.b v.e v.d v.u0 v.u1 v.u2 v.u3:=by
  simp only[Kkm,Kob,Koc,Kod];unfold Qam;grind
 refine⟨by simp only[Kkm,ha,hu];grind,?_⟩;rw[e,h0];grind
def ub1{a b e d:Rat}{z:QC}(sa:Qag a)(sb:Qag b)(se:Qag e)(sd:Qag d)(sz:Qaj z) :
  RL (upr 1 a b e d z).1 15413/\RL (upr 1 a b e d z).2.1 15413/\RL (upr 1 a b e d z).2.2.1 15413/\RL (upr 1 a b e d z).2.2.2 15413:=by
 have i0:∀ n:Int,-9223372036854775808<=n->n<9223372036854775808->RL (n:Rat) 1025:=fun n h k=>(Qml n h k).mn
 have ra:=(Qao sa).mono (show 256<=1025 by omega);have rb:=(Qao sb).mono (show 256<=1025 by omega);have re:=(Qao se).mono (show 256<=1025 by omega);have rd:=(Qao sd).mono (show 256<=1025 by omega);have rz:=Qmm sz;have zr:RL (-z.re) 1025:=(Qah rz.1).mn;have zi:RL z.im 1025:=RL.mono rz.2 (by omega);have zn:RL (nm z) 1025:=(Qbe rz).mn;have o0:RL (0:Rat) 1025:=i0 0 (by decide) (by decide);have o1:RL (1:Rat) 1025:=i0 1 (by decide) (by decide);have om:RL (-1:Rat) 1025:=i0 (-1) (by decide) (by decide);exact⟨Qmq 0 0 1 0 a b e d 1 (-z.re) z.im (nm z) o0 o0 o1 o0 ra rb re rd o1 zr zi zn,Qmr 0 0 1 0 a b e d 1 (-z.re) z.im (nm z) o0 o0 o1 o0 ra rb re rd o1 zr zi zn,
  Qms 0 0 1 0 a b e d 1 (-z.re) z.im (nm z) o0 o0 o1 o0 ra rb re rd o1 zr zi zn,Qmt 0 0 1 0 a b e d 1 (-z.re) z.im (nm z) o0 o0 o1 o0 ra rb re rd o1 zr zi zn⟩
def Uzd{a b e d:Rat}{z:QC}(C:CO a b e d)(he:e=0)(sz:Qaj z)(hz:0<z.im) :
  SCt 32 [.c (gxi 1),.row (rF a++rF b++rF e++rF d),G1 z] (.r (.row (Quo (upr 1 a b e d z).1 (upr 1 a b e d z).2.1 (upr 1 a b e d z).2.2.1 (upr 1 a b e d z).2.2.2))) :=
 Vaf a b e d z (Qbu C.sa) (Qbu C.sb) (Qbu C.se) (Qbu C.sd) (Qab sz) (Qtm he hz C.hp)
def ub2{a b e d:Rat}{z:QC}(sa:Qag a)(sb:Qag b)(se:Qag e)(sd:Qag d)(sz:Qaj z) :
  RL (upr 2 a b e d z).1 15413/\RL (upr 2 a b e d z).2.1 15413/\RL (upr 2 a b e d z).2.2.1 15413/\RL (upr 2 a b e d z).2.2.2 15413:=by
 have i0:∀ n:Int,-9223372036854775808<=n->n<9223372036854775808->RL (n:Rat) 1025:=fun n h k=>(Qml n h k).mn
 have ra:=(Qao sa).mono (show 256<=1025 by omega);have rb:=(Qao sb).mono (show 256<=1025 by omega);have re:=(Qao se).mono (show 256<=1025 by omega);have rd:=(Qao sd).mono (show 256<=1025 by omega);have rz:=Qmm sz;have zr:RL (-z.re) 1025:=(Qah rz.1).mn;have zi:RL z.im 1025:=RL.mono rz.2 (by omega);have zn:RL (nm z) 1025:=(Qbe rz).mn;have o0:RL (0:Rat) 1025:=i0 0 (by decide) (by decide);have o1:RL (1:Rat) 1025:=i0 1 (by decide) (by decide);have om:RL (-1:Rat) 1025:=i0 (-1) (by decide) (by decide);exact⟨Qmq 1 0 0 (-1) a b e d 1 (-z.re) z.im (nm z) o1 o0 o0 om ra rb re rd o1 zr zi zn,Qmr 1 0 0 (-1) a b e d 1 (-z.re) z.im (nm z) o1 o0 o0 om ra rb re rd o1 zr zi zn,
  Qms 1 0 0 (-1) a b e d 1 (-z.re) z.im (nm z) o1 o0 o0 om ra rb re rd o1 zr zi zn,Qmt 1 0 0 (-1) a b e d 1 (-z.re) z.im (nm z) o1 o0 o0 om ra rb re rd o1 zr zi zn⟩
def Uze{a b e d:Rat}{z:QC}(C:CO a b e d)(he:a=d)(sz:Qaj z)(hz:0<1-nm z) :
  SCt 32 [.c (gxi 2),.row (rF a++rF b++rF e++rF d),G1 z] (.r (.row (Quo (upr 2 a b e d z).1 (upr 2 a b e d z).2.1 (upr 2 a b e d z).2.2.1 (upr 2 a b e d z).2.2.2))) :=
 Vag a b e d z (Qbu C.sa) (Qbu C.sb) (Qbu C.se) (Qbu C.sd) (Qab sz) (Qtn he hz C.hp)
def Kdb{x y:Rat}{k l m:Nat}(h:y≠0)(hx:RL x k)(hy:RL y l)(hm:k+l<=m):RL (x/y) m:=(Qcs h hx hy).mono (by omega)
def Qii{x:Rat}(h:x≠0):¬(x.num.sign=0):=fun k=>h (sgz k)
def uq1{a b e d:Rat}{z x y:QC}(C:CO a b e d)(he:e=0)(hz:0<z.im)(hx:0<x.im)(hy:0<y.im)(h:Kxg 1 a b e d z x)(k:Kxg 1 a b e d z y):y=x:=by
 subst he;have hQ:=Qtm (a:=a) (b:=b) (e:=0) (d:=d) (z:=z) rfl hz C.hp;have ho:=Qid 1 a b 0 d z (by simp);have hb:=Qwq a b d z;obtain⟨h1,h2⟩:=h;obtain⟨k1,k2⟩:=k;have hp:=C.hp;rw[hb] at hQ ho h2 k2;exact Uyc hp hQ ho hy hx k1 k2 h1 h2
def uq2{a b e d:Rat}{z x y:QC}(C:CO a b e d)(he:a=d)(hz:0<1-nm z)(hx:0<1-nm x)(hy:0<1-nm y)(h:Kxg 2 a b e d z x)(k:Kxg 2 a b e d z y):y=x:=by
 subst he;have hQ:=Qtn (a:=a) (b:=b) (e:=e) (d:=a) (z:=z) rfl hz C.hp;have ho:=Qid 2 a b e a z (by simp);have hb:=Qwr a b e z;obtain⟨h1,h2⟩:=h;obtain⟨k1,k2⟩:=k;have hp:=C.hp;rw[hb] at hQ ho h2 k2;exact Uyd hp hQ ho hy hx k1 k2 h1 h2
