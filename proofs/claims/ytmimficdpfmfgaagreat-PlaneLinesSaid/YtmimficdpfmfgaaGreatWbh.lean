/- Laws. -/
import Derived.Test.YtmimficdpfmfgaaGreatWbg
set_option linter.all false
set_option maxHeartbeats 4000000
set_option maxRecDepth 100000
namespace Go.Proofs.YtmimficdpfmfgaaGreat
open Go.RowKit Tr Proofs.Tryz
open Classical
def Quz:FnsOk prog [⟨108,Tryz.f108,2000⟩,⟨109,Tryz.f109,2000⟩,⟨194,Tryz.f194,2000⟩]:=(Kyv (Kdx (Kdz .nil)))
def Uyr(ya:Qbm)(yb:Qbg)(yc:Qbm)(ha:¬(Qey ya.val)):SCt 25 [.row (ya.cells++yb.cells++yc.cells)] (.r (gIi 2)) :=
  Qas (L := [ya.cells,yb.cells,yc.cells].flatten) Qae Qai
     [Qbw eo78,gs (Uit ya false (fI ha)) [yR 0 4] vFf]
     [] [] Quz 1 3 func25 eo25 2000 [yR 0 16] (.r (lc 2))
def Vaa(a:Rat)(yb:Qbg)(yc:Qbm)(b_a:RL a 65000)(sa:Qag a)(hb:¬(GOk yb.val)):SCt 25 [.row (rF a++yb.cells++yc.cells)] (.r (gIi 2)) :=
  Qas (L := [cF a,yb.cells,yc.cells].flatten) Qae Qai
     [Qbw eo78,gs (Qll a sa) [yQ 0] vTt,gs (Qqj yb false (fI hb)) [yR 3 8] vFf]
     [] [] Quz 1 3 func25 eo25 2000 [.row (flA [[.sym 0,.sym 1,.lit (.bool false)],Qbd 2 13])] (.r (lc 2))
def Vab(a:Rat)(w:QC)(yc:Qbm)(b_a:RL a 65000)(b_w:Qaj w)(sa:Qag a)(hc:¬(Qey yc.val)):SCt 25 [.row (rG (⟨a,w.re⟩:QC)++rF w.im++yc.cells)] (.r (gIi 2)) :=
  Qas (L := [cF a,(Qan w).cells,yc.cells].flatten) Qae Qai
     [Qbw eo78,gs (Qll a sa) [yQ 0] vTt,gs (Qqj (Qan w) true (tI (Qjj b_w))) [yR 3 8] vTt,gs (Uit yc false (fI hc)) [yR 11 4] vFf]
     [] [] Quz 1 3 func25 eo25 2000 [.row (flA [[.sym 0,.sym 1,.lit (.bool false)],Qbd 2 13])] (.r (lc 2))
def bCn{L:List GF}(x y:AR)(a b c d a' b' c' d':Rat)(r:Bool)(hr:r=true↔(a=a'/\b=b'/\c=c'/\d=d'))(hx:x.gv L=some (Knl a b c d):=by kernel_rfl)(hy:y.gv L=some (Knl a' b' c' d'):=by kernel_rfl):GB prog L :=
 gb .neq 47 x y (.lit (.bool !r)) (Ufo kR (fun w=>Qtc w a b c d a' b' c' d' r hr)) hx hy rfl
def Vac(a:Rat)(w:QC)(d:Rat)(b_a:RL a 1024)(b_w:Qaj w)(b_d:RL d 1024)(sa:Qag a)(sd:Qag d)(hp:(((nm w)-(a*d)).num.sign)<=0):SCt 25 [.row (rG (⟨a,w.re⟩:QC)++rG (⟨w.im,d⟩:QC))] (.r (gIi 2)) :=
  Qas (L := [cF a,(Qan w).cells,cF d,cF (nm w),cF (a * d),cF ((nm w)-(a * d)),[gxi (((nm w)-(a * d)).num.sign)]].flatten) Qae Qai
     [Qbw eo78,gs (Qll a sa) [yQ 0] vTt,gs (Qqj (Qan w) true (tI (Qjj b_w))) [yR 3 8] vTt,gs (Qll d sd) [yQ 11] vTt,gs (Qlg w ((Qab b_w).mn)) [yR 3 8] (rQ 14),gs (Qat a d b_a.mn b_d.mn) [yQ 0,yQ 11] (rQ 17),gs (Qcz (nm w) (a*d) ((Qbe (Qab b_w)).mn) ((Qad b_a b_d).mn)) [yQ 14,yQ 17] (rQ 20),gs (Qcp ((nm w)-(a*d))) [yQ 20] (rS 23)]
     [bLt 3 23 hp] [] Quz 1 3 func25 eo25 2000 [.row (flA [[.sym 0,.sym 1,.lit (.bool false)],Qbd 2 11,[.lit (.bool false),.sym 13]])] (.r (lc 2))
def Kpi(a:Rat)(w:QC)(d:Rat):List GF:=[cF a,(Qan w).cells,cF d,cF (nm w),cF (a*d),cF ((nm w)-(a*d)),[gxi (((nm w)-(a*d)).num.sign),gxi a.num.sign],cF (a/a),cF (w.re/a),cF (w.im/a),cF (d/a)].flatten
noncomputable def Kpj(a:Rat)(w:QC)(d:Rat)(b_a:RL a 1024)(b_w:Qaj w)(b_d:RL d 1024)(sa:Qag a)(sd:Qag d)(f0:¬(a.num.sign=0)):List (GC prog (Kpi a w d) true):=[Qbw eo78,gs (Qll a sa) [yQ 0] vTt,gs (Qqj (Qan w) true (tI (Qjj b_w))) [yR 3 8] vTt,gs (Qll d sd) [yQ 11] vTt,gs (Qlg w ((Qab b_w).mn)) [yR 3 8] (rQ 14),gs (Qat a d b_a.mn b_d.mn) [yQ 0,yQ 11] (rQ 17),gs (Qcz (nm w) (a*d) ((Qbe (Qab b_w)).mn) ((Qad b_a b_d).mn)) [yQ 14,yQ 17] (rQ 20),gs (Qcp ((nm w)-(a*d))) [yQ 20] (rS 23),gs (Qcp a) [yQ 0] (rS 24),gs (Qcn a a b_a.mn b_a.mn (Qak f0)) [yQ 0,yQ 0] (rQ 25),gs (Qcn w.re a (((Qab b_w).1).mn) b_a.mn (Qak f0)) [yR 3 4,yQ 0] (rQ 28),gs (Qcn w.im a (((Qab b_w).2).mn) b_a.mn (Qak f0)) [yR 7 4,yQ 0] (rQ 31),gs (Qcn d a b_d.mn b_a.mn (Qak f0)) [yQ 11,yQ 0] (rQ 34)]
def Ufv(a:Rat)(w:QC)(d:Rat)(b_a:RL a 1024)(b_w:Qaj w)(b_d:RL d 1024)(sa:Qag a)(sd:Qag d)(hp:¬((((nm w)-(a*d)).num.sign)<=0))(f0:¬(a.num.sign=0))(h0:(a/a)=a/\(w.re/a)=w.re/\(w.im/a)=w.im/\(d/a)=d):SCt 25 [.row (rG (⟨a,w.re⟩:QC)++rG (⟨w.im,d⟩:QC))] (.r (gIi 0)) :=
  Qas (L := Kpi a w d) Qae Qai
     (Kpj a w d b_a b_w b_d sa sd f0)
     [bLf 3 23 hp,bEf 3 24 f0,bCn (.row (gL [25,31])) (.row (flA [[.sym 0,.sym 1,.lit (.bool false)],Qbd 2 11,[.lit (.bool false),.sym 13]])) (a/a) (w.re/a) (w.im/a) (d/a) a w.re w.im d true (tI h0)] [] Quz 1 3 func25 eo25 2000 [.row (flA [[.sym 0,.sym 1,.lit (.bool false)],Qbd 2 11,[.lit (.bool false),.sym 13]])] (.r (lc 0))
def Ufw(a:Rat)(w:QC)(d:Rat)(b_a:RL a 1024)(b_w:Qaj w)(b_d:RL d 1024)(sa:Qag a)(sd:Qag d)(hp:¬((((nm w)-(a*d)).num.sign)<=0))(f0:¬(a.num.sign=0))(h0:¬((a/a)=a/\(w.re/a)=w.re/\(w.im/a)=w.im/\(d/a)=d)):SCt 25 [.row (rG (⟨a,w.re⟩:QC)++rG (⟨w.im,d⟩:QC))] (.r (gIi 2)) :=
  Qas (L := Kpi a w d) Qae Qai
     (Kpj a w d b_a b_w b_d sa sd f0)
     [bLf 3 23 hp,bEf 3 24 f0,bCn (.row (gL [25,31])) (.row (flA [[.sym 0,.sym 1,.lit (.bool false)],Qbd 2 11,[.lit (.bool false),.sym 13]])) (a/a) (w.re/a) (w.im/a) (d/a) a w.re w.im d false (fI h0)] [] Quz 1 3 func25 eo25 2000 [.row (flA [[.sym 0,.sym 1,.lit (.bool false)],Qbd 2 11,[.lit (.bool false),.sym 13]])] (.r (lc 2))
def Kpk(a:Rat)(w:QC)(d:Rat):List GF:=[cF a,(Qan w).cells,cF d,cF (nm w),cF (a*d),cF ((nm w)-(a*d)),[gxi (((nm w)-(a*d)).num.sign),gxi a.num.sign,gxi w.re.num.sign],cF (a/w.re),cF (w.re/w.re),cF (w.im/w.re),cF (d/w.re)].flatten
noncomputable def Kpl(a:Rat)(w:QC)(d:Rat)(b_a:RL a 1024)(b_w:Qaj w)(b_d:RL d 1024)(sa:Qag a)(sd:Qag d)(f1:¬(w.re.num.sign=0)):List (GC prog (Kpk a w d) true):=[Qbw eo78,gs (Qll a sa) [yQ 0] vTt,gs (Qqj (Qan w) true (tI (Qjj b_w))) [yR 3 8] vTt,gs (Qll d sd) [yQ 11] vTt,gs (Qlg w ((Qab b_w).mn)) [yR 3 8] (rQ 14),gs (Qat a d b_a.mn b_d.mn) [yQ 0,yQ 11] (rQ 17),gs (Qcz (nm w) (a*d) ((Qbe (Qab b_w)).mn) ((Qad b_a b_d).mn)) [yQ 14,yQ 17] (rQ 20),gs (Qcp ((nm w)-(a*d))) [yQ 20] (rS 23),gs (Qcp a) [yQ 0] (rS 24),gs (Qcp w.re) [yR 3 4] (rS 25),gs (Qcn a w.re b_a.mn (((Qab b_w).1).mn) (Qak f1)) [yQ 0,yR 3 4] (rQ 26),gs (Qcn w.re w.re (((Qab b_w).1).mn) (((Qab b_w).1).mn) (Qak f1)) [yR 3 4,yR 3 4] (rQ 29),gs (Qcn w.im w.re (((Qab b_w).2).mn) (((Qab b_w).1).mn) (Qak f1)) [yR 7 4,yR 3 4] (rQ 32),gs (Qcn d w.re b_d.mn (((Qab b_w).1).mn) (Qak f1)) [yQ 11,yR 3 4] (rQ 35)]
def Ufx(a:Rat)(w:QC)(d:Rat)(b_a:RL a 1024)(b_w:Qaj w)(b_d:RL d 1024)(sa:Qag a)(sd:Qag d)(hp:¬((((nm w)-(a*d)).num.sign)<=0))(f0:a.num.sign=0)(f1:¬(w.re.num.sign=0))(h0:(a/w.re)=a/\(w.re/w.re)=w.re/\(w.im/w.re)=w.im/\(d/w.re)=d):SCt 25 [.row (rG (⟨a,w.re⟩:QC)++rG (⟨w.im,d⟩:QC))] (.r (gIi 0)) :=
  Qas (L := Kpk a w d) Qae Qai
     (Kpl a w d b_a b_w b_d sa sd f1)
     [bLf 3 23 hp,bEt 3 24 f0,bEf 3 25 f1,bCn (.row (gL [26,32])) (.row (flA [[.sym 0,.sym 1,.lit (.bool false)],Qbd 2 11,[.lit (.bool false),.sym 13]])) (a/w.re) (w.re/w.re) (w.im/w.re) (d/w.re) a w.re w.im d true (tI h0)] [] Quz 1 3 func25 eo25 2000 [.row (flA [[.sym 0,.sym 1,.lit (.bool false)],Qbd 2 11,[.lit (.bool false),.sym 13]])] (.r (lc 0))
def Ufy(a:Rat)(w:QC)(d:Rat)(b_a:RL a 1024)(b_w:Qaj w)(b_d:RL d 1024)(sa:Qag a)(sd:Qag d)(hp:¬((((nm w)-(a*d)).num.sign)<=0))(f0:a.num.sign=0)(f1:¬(w.re.num.sign=0))(h0:¬((a/w.re)=a/\(w.re/w.re)=w.re/\(w.im/w.re)=w.im/\(d/w.re)=d)):SCt 25 [.row (rG (⟨a,w.re⟩:QC)++rG (⟨w.im,d⟩:QC))] (.r (gIi 2)) :=
  Qas (L := Kpk a w d) Qae Qai
     (Kpl a w d b_a b_w b_d sa sd f1)
     [bLf 3 23 hp,bEt 3 24 f0,bEf 3 25 f1,bCn (.row (gL [26,32])) (.row (flA [[.sym 0,.sym 1,.lit (.bool false)],Qbd 2 11,[.lit (.bool false),.sym 13]])) (a/w.re) (w.re/w.re) (w.im/w.re) (d/w.re) a w.re w.im d false (fI h0)] [] Quz 1 3 func25 eo25 2000 [.row (flA [[.sym 0,.sym 1,.lit (.bool false)],Qbd 2 11,[.lit (.bool false),.sym 13]])] (.r (lc 2))
def Kpm(a:Rat)(w:QC)(d:Rat):List GF:=[cF a,(Qan w).cells,cF d,cF (nm w),cF (a*d),cF ((nm w)-(a*d)),[gxi (((nm w)-(a*d)).num.sign),gxi a.num.sign,gxi w.re.num.sign],cF (a/w.im),cF (w.re/w.im),cF (w.im/w.im),cF (d/w.im)].flatten
noncomputable def Kpn(a:Rat)(w:QC)(d:Rat)(b_a:RL a 1024)(b_w:Qaj w)(b_d:RL d 1024)(sa:Qag a)(sd:Qag d)(f2:¬(w.im.num.sign=0)):List (GC prog (Kpm a w d) true):=[Qbw eo78,gs (Qll a sa) [yQ 0] vTt,gs (Qqj (Qan w) true (tI (Qjj b_w))) [yR 3 8] vTt,gs (Qll d sd) [yQ 11] vTt,gs (Qlg w ((Qab b_w).mn)) [yR 3 8] (rQ 14),gs (Qat a d b_a.mn b_d.mn) [yQ 0,yQ 11] (rQ 17),gs (Qcz (nm w) (a*d) ((Qbe (Qab b_w)).mn) ((Qad b_a b_d).mn)) [yQ 14,yQ 17] (rQ 20),gs (Qcp ((nm w)-(a*d))) [yQ 20] (rS 23),gs (Qcp a) [yQ 0] (rS 24),gs (Qcp w.re) [yR 3 4] (rS 25),gs (Qcn a w.im b_a.mn (((Qab b_w).2).mn) (Qak f2)) [yQ 0,yR 7 4] (rQ 26),gs (Qcn w.re w.im (((Qab b_w).1).mn) (((Qab b_w).2).mn) (Qak f2)) [yR 3 4,yR 7 4] (rQ 29),gs (Qcn w.im w.im (((Qab b_w).2).mn) (((Qab b_w).2).mn) (Qak f2)) [yR 7 4,yR 7 4] (rQ 32),gs (Qcn d w.im b_d.mn (((Qab b_w).2).mn) (Qak f2)) [yQ 11,yR 7 4] (rQ 35)]
def Ufz(a:Rat)(w:QC)(d:Rat)(b_a:RL a 1024)(b_w:Qaj w)(b_d:RL d 1024)(sa:Qag a)(sd:Qag d)(hp:¬((((nm w)-(a*d)).num.sign)<=0))(f0:a.num.sign=0)(f1:w.re.num.sign=0)(f2:¬(w.im.num.sign=0))(h0:(a/w.im)=a/\(w.re/w.im)=w.re/\(w.im/w.im)=w.im/\(d/w.im)=d):SCt 25 [.row (rG (⟨a,w.re⟩:QC)++rG (⟨w.im,d⟩:QC))] (.r (gIi 0)) :=
  Qas (L := Kpm a w d) Qae Qai
     (Kpn a w d b_a b_w b_d sa sd f2)
     [bLf 3 23 hp,bEt 3 24 f0,bEt 3 25 f1,bCn (.row (gL [26,32])) (.row (flA [[.sym 0,.sym 1,.lit (.bool false)],Qbd 2 11,[.lit (.bool false),.sym 13]])) (a/w.im) (w.re/w.im) (w.im/w.im) (d/w.im) a w.re w.im d true (tI h0)] [] Quz 1 3 func25 eo25 2000 [.row (flA [[.sym 0,.sym 1,.lit (.bool false)],Qbd 2 11,[.lit (.bool false),.sym 13]])] (.r (lc 0))
def Uga(a:Rat)(w:QC)(d:Rat)(b_a:RL a 1024)(b_w:Qaj w)(b_d:RL d 1024)(sa:Qag a)(sd:Qag d)(hp:¬((((nm w)-(a*d)).num.sign)<=0))(f0:a.num.sign=0)(f1:w.re.num.sign=0)(f2:¬(w.im.num.sign=0))(h0:¬((a/w.im)=a/\(w.re/w.im)=w.re/\(w.im/w.im)=w.im/\(d/w.im)=d)):SCt 25 [.row (rG (⟨a,w.re⟩:QC)++rG (⟨w.im,d⟩:QC))] (.r (gIi 2)) :=
  Qas (L := Kpm a w d) Qae Qai
     (Kpn a w d b_a b_w b_d sa sd f2)
     [bLf 3 23 hp,bEt 3 24 f0,bEt 3 25 f1,bCn (.row (gL [26,32])) (.row (flA [[.sym 0,.sym 1,.lit (.bool false)],Qbd 2 11,[.lit (.bool false),.sym 13]])) (a/w.im) (w.re/w.im) (w.im/w.im) (d/w.im) a w.re w.im d false (fI h0)] [] Quz 1 3 func25 eo25 2000 [.row (flA [[.sym 0,.sym 1,.lit (.bool false)],Qbd 2 11,[.lit (.bool false),.sym 13]])] (.r (lc 2))
def Kge:FnsOk prog [⟨158,Tryz.f158,2000⟩,⟨238,Tryz.f238,2000⟩,⟨239,Tryz.f239,2000⟩,⟨240,Tryz.f240,2000⟩]:=(Uwc (Uny (Unz (Uoa .nil))))
def Vcg(ya:Qbm)(yb:Qbg)(yc:Qbm)(b_ya:ya.Sz)(b_yb:Qbg.Sz yb)(b_yc:yc.Sz)(hb:¬(GOk yb.val)):SCt 185 [.row (ya.cells++yb.cells++yc.cells)] (.r (gIi 2)) :=
  Qas (L := [ya.cells,yb.cells,yc.cells,[ga,ga,ga,ga]].flatten) Qae Qai
     [Qbw eo78,gs (Krn yb b_yb false (fI hb)) [yR 4 8] (.tup [sy [16,17],cFf]),gs (Kro ya b_ya) [yR 0 4] (rS 18),gs (Kro yc b_yc) [yR 12 4] (rS 19)]
     [] [] Kge 1 3 func185 eo185 2000 [yR 0 16] (.r (lc 2))
def Vcf(ya:Qbm)(w:QC)(yc:Qbm)(b_ya:ya.Sz)(b_w:Qaj w)(b_yc:yc.Sz)(ha:¬(Qey ya.val)):SCt 185 [.row (ya.cells++(Qan w).cells++yc.cells)] (.r (gIi 2)) :=
  Qas (L := [ya.cells,(Qan w).cells,yc.cells,cn w,[ga]].flatten) Qae Qai
     [Qbw eo78,gs (Qgl w b_w) [yR 4 8] (.tup [sy [16,17],cTt]),gs (Krp ya b_ya ha) [yR 0 4] (.r (.c (.lit .nilp))),gs (Kro yc b_yc) [yR 12 4] (rS 18)]
     [gb .eql 114 (.c (.lit .nilp)) (.c (.lit .nilp)) lTt (fun _ _ _=>by kernel_rfl) (vx:=.pointer none) (vy:=.pointer none) (v:=.bool true) kR kR kR] [] Kge 1 3 func185 eo185 2000 [yR 0 16] (.r (lc 2))
def Vch(a:Rat)(w:QC)(yc:Qbm)(b_a:RL a 1024)(b_w:Qaj w)(b_yc:yc.Sz)(sa:Qag a)(hc:¬(Qey yc.val)):SCt 185 [.row (rG (⟨a,w.re⟩:QC)++rF w.im++yc.cells)] (.r (gIi 2)) :=
  Qas (L := [cF a,(Qan w).cells,yc.cells,cn w,[gr a]].flatten) Qae Qai
     [Qbw eo78,gs (Qgl w b_w) [yR 3 8] (.tup [sy [15,16],cTt]),gs (Qcm a sa) [yQ 0] (rS 17),gs (Krp yc b_yc hc) [yR 11 4] (.r (.c (.lit .nilp)))]
     [Qhd a (.sym 17),gb .eql 114 (.c (.lit .nilp)) (.c (.lit .nilp)) lTt (fun _ _ _=>by kernel_rfl) (vx:=.pointer none) (vy:=.pointer none) (v:=.bool true) kR kR kR] [] Kge 1 3 func185 eo185 2000 [.row (flA [[.sym 0,.sym 1,.lit (.bool false)],Qbd 2 13])] (.r (lc 2))
def Vci(a:Rat)(w:QC)(d:Rat)(b_a:RL a 1024)(b_w:Qaj w)(b_d:RL d 1024)(sa:Qag a)(sd:Qag d)(hp:(((nm w)-(a*d)).num.sign)<=0):SCt 185 [.row (rG (⟨a,w.re⟩:QC)++rG (⟨w.im,d⟩:QC))] (.r (gIi 2)) :=
  Qas (L := [cF a,(Qan w).cells,cF d,cn w,[gr a,gr d,gr (nm w),gr (a * d),gr ((nm w)-(a * d)),gxi (((nm w)-(a * d)).num.sign)]].flatten) Qae Qai
     [Qbw eo78,gs (Qgl w b_w) [yR 3 8] (.tup [sy [14,15],cTt]),gs (Qcm a sa) [yQ 0] (rS 16),gs (Qcm d sd) [yQ 11] (rS 17),gs (Qee w ((Qab b_w).mn)) [sy [14,15]] (rS 18),gs (Qiz (Qgz a d b_a.mn b_d.mn)) [cS 16,cS 17] (rS 19),
      Kas (nm w) (a*d) (Qbe (Qab b_w)) (Qad b_a b_d) (by decide) 46 (.c (.sym 18)) (.c (.sym 19)) (.sym 20),gs (Qbb ((nm w)-(a*d))) [cS 20] (rS 21)]
     [Qhd a (.sym 16),Qhd d (.sym 17),bLt 3 21 hp] [] Kge 1 3 func185 eo185 2000 [.row (flA [[.sym 0,.sym 1,.lit (.bool false)],Qbd 2 11,[.lit (.bool false),.sym 13]])] (.r (lc 2))
def Uyg(a:Rat)(w:QC):QC:=(⟨w.re*(a⁻¹),w.im*(a⁻¹)⟩:QC)
def Udj(a:Rat)(w:QC)(d:Rat):List GF:=[cF a,(Qan w).cells,cF d,cn w,[gr a,gr d,gr (nm w),gr (a*d),gr ((nm w)-(a*d)),gxi (((nm w)-(a*d)).num.sign),gr w.re,gr w.im,gxi a.num.sign,gr (a⁻¹),gr (a*(a⁻¹))],cn (Uyg a w),[gr (d*(a⁻¹)),gxi (Qig (a*(a⁻¹)) a),gxi (Qig (d*(a⁻¹)) d)]].flatten
noncomputable def Uhs(a:Rat)(w:QC)(d:Rat)(b_a:RL a 1024)(b_w:Qaj w)(b_d:RL d 1024)(sa:Qag a)(sd:Qag d)(f0:¬(a.num.sign=0)):List (GC prog (Udj a w d) true):=[Qbw eo78,gs (Qgl w b_w) [yR 3 8] (.tup [sy [14,15],cTt]),gs (Qcm a sa) [yQ 0] (rS 16),gs (Qcm d sd) [yQ 11] (rS 17),gs (Qee w ((Qab b_w).mn)) [sy [14,15]] (rS 18),gs (Qiz (Qgz a d b_a.mn b_d.mn)) [cS 16,cS 17] (rS 19),
   Kas (nm w) (a*d) (Qbe (Qab b_w)) (Qad b_a b_d) (by decide) 46 (.c (.sym 18)) (.c (.sym 19)) (.sym 20),gs (Qbb ((nm w)-(a*d))) [cS 20] (rS 21),gs (Qcr w ((Qab b_w).mn)) [sy [14,15]] (.tup [cS 22,cS 23]),gs (Qbb a) [cS 16] (rS 24),
   Qqg a (Qak f0) b_a (by decide) 39 (.c (.sym 16)) (.sym 25),gs (Qiz (Qgz a _ b_a.mn ((Qca (Qak f0) b_a).mn))) [cS 16,cS 25] (rS 26),gs (Qdh w _ ((Qab b_w).mn) ((Qca (Qak f0) b_a).mn)) [sy [14,15],cS 25] (.r (sy [27,28])),gs (Qiz (Qgz d _ b_d.mn ((Qca (Qak f0) b_a).mn))) [cS 17,cS 25] (rS 29),gs (Keo (a*(a⁻¹)) a (Qad b_a (Qca (Qak f0) b_a)) b_a (by decide)) [cS 26,cS 16] (rS 30)]
def Uhr(a:Rat)(w:QC)(d:Rat)(b_a:RL a 1024)(b_w:Qaj w)(b_d:RL d 1024)(sa:Qag a)(sd:Qag d)(hp:¬((((nm w)-(a*d)).num.sign)<=0))(f0:¬(a.num.sign=0))(h0:¬((Qig (a*(a⁻¹)) a)=0)):SCt 185 [.row (rG (⟨a,w.re⟩:QC)++rG (⟨w.im,d⟩:QC))] (.r (gIi 2)) :=
  Qas (L := Udj a w d) Qae Qai
     (Uhs a w d b_a b_w b_d sa sd f0)
     [Qhd a (.sym 16),Qhd d (.sym 17),bLf 3 21 hp,bEf 3 24 f0,bEf 3 30 h0] [] Kge 1 3 func185 eo185 2000 [.row (flA [[.sym 0,.sym 1,.lit (.bool false)],Qbd 2 11,[.lit (.bool false),.sym 13]])] (.r (lc 2))
def Kur(w:QC):QC:=(⟨w.re*(w.re⁻¹),w.im*(w.re⁻¹)⟩:QC)
def Ucb(w:QC)(b_w:Qaj w)(f1:¬(w.re.num.sign=0)):ZL (Kur w) 2048:=(Qau (Qad (Qab b_w).1 (Qca (Qak f1) (Qbo w (Qab b_w)))) (Qad (Qab b_w).2 (Qca (Qak f1) (Qbo w (Qab b_w))))).mn
def Udk(a:Rat)(w:QC)(d:Rat):List GF:=[cF a,(Qan w).cells,cF d,cn w,[gr a,gr d,gr (nm w),gr (a*d),gr ((nm w)-(a*d)),gxi (((nm w)-(a*d)).num.sign),gr w.re,gr w.im,gxi a.num.sign,gxi w.re.num.sign,gr (w.re⁻¹),gr (a*(w.re⁻¹))],cn (Kur w),[gr (d*(w.re⁻¹)),gxi (Qig (a*(w.re⁻¹)) a),gxi (Qig (d*(w.re⁻¹)) d)]].flatten
noncomputable def Uhu(a:Rat)(w:QC)(d:Rat)(b_a:RL a 1024)(b_w:Qaj w)(b_d:RL d 1024)(sa:Qag a)(sd:Qag d)(f1:¬(w.re.num.sign=0)):List (GC prog (Udk a w d) true):=[Qbw eo78,gs (Qgl w b_w) [yR 3 8] (.tup [sy [14,15],cTt]),gs (Qcm a sa) [yQ 0] (rS 16),gs (Qcm d sd) [yQ 11] (rS 17),gs (Qee w ((Qab b_w).mn)) [sy [14,15]] (rS 18),gs (Qiz (Qgz a d b_a.mn b_d.mn)) [cS 16,cS 17] (rS 19),
   Kas (nm w) (a*d) (Qbe (Qab b_w)) (Qad b_a b_d) (by decide) 46 (.c (.sym 18)) (.c (.sym 19)) (.sym 20),gs (Qbb ((nm w)-(a*d))) [cS 20] (rS 21),gs (Qcr w ((Qab b_w).mn)) [sy [14,15]] (.tup [cS 22,cS 23]),gs (Qbb a) [cS 16] (rS 24),gs (Qbb w.re) [cS 22] (rS 25),
   Qqg w.re (Qak f1) (Qbo w (Qab b_w)) (by decide) 39 (.c (.sym 22)) (.sym 26),gs (Qiz (Qgz a _ b_a.mn ((Qca (Qak f1) (Qbo w (Qab b_w))).mn))) [cS 16,cS 26] (rS 27),gs (Qdh w _ ((Qab b_w).mn) ((Qca (Qak f1) (Qbo w (Qab b_w))).mn)) [sy [14,15],cS 26] (.r (sy [28,29])),gs (Qiz (Qgz d _ b_d.mn ((Qca (Qak f1) (Qbo w (Qab b_w))).mn))) [cS 17,cS 26] (rS 30),gs (Keo (a*(w.re⁻¹)) a (Qad b_a (Qca (Qak f1) (Qbo w (Qab b_w)))) b_a (by decide)) [cS 27,cS 16] (rS 31)]
def Uht(a:Rat)(w:QC)(d:Rat)(b_a:RL a 1024)(b_w:Qaj w)(b_d:RL d 1024)(sa:Qag a)(sd:Qag d)(hp:¬((((nm w)-(a*d)).num.sign)<=0))(f0:a.num.sign=0)(f1:¬(w.re.num.sign=0))(h0:(Qig (a*(w.re⁻¹)) a)=0)(h1:¬((Kur w)=w)):SCt 185 [.row (rG (⟨a,w.re⟩:QC)++rG (⟨w.im,d⟩:QC))] (.r (gIi 2)) :=
  Qas (L := Udk a w d) Qae Qai
     ((Uhu a w d b_a b_w b_d sa sd f1)++[gs (Qsq (Kur w) w (Ucb w b_w f1) (Qab b_w) (by decide) false (fI h1)) [sy [28,29],sy [14,15]] vFf])
     [Qhd a (.sym 16),Qhd d (.sym 17),bLf 3 21 hp,bEt 3 24 f0,bEf 3 25 f1,bEt 3 31 h0] [] Kge 1 3 func185 eo185 2000 [.row (flA [[.sym 0,.sym 1,.lit (.bool false)],Qbd 2 11,[.lit (.bool false),.sym 13]])] (.r (lc 2))
def Kus(w:QC):QC:=(⟨w.re*(w.im⁻¹),w.im*(w.im⁻¹)⟩:QC)
def Ucc(w:QC)(b_w:Qaj w)(f2:¬(w.im.num.sign=0)):ZL (Kus w) 2048:=(Qau (Qad (Qab b_w).1 (Qca (Qak f2) (Qar w (Qab b_w)))) (Qad (Qab b_w).2 (Qca (Qak f2) (Qar w (Qab b_w))))).mn
def Udl(a:Rat)(w:QC)(d:Rat):List GF:=[cF a,(Qan w).cells,cF d,cn w,[gr a,gr d,gr (nm w),gr (a*d),gr ((nm w)-(a*d)),gxi (((nm w)-(a*d)).num.sign),gr w.re,gr w.im,gxi a.num.sign,gxi w.re.num.sign,gr (w.im⁻¹),gr (a*(w.im⁻¹))],cn (Kus w),[gr (d*(w.im⁻¹)),gxi (Qig (a*(w.im⁻¹)) a),gxi (Qig (d*(w.im⁻¹)) d)]].flatten
noncomputable def Uhw(a:Rat)(w:QC)(d:Rat)(b_a:RL a 1024)(b_w:Qaj w)(b_d:RL d 1024)(sa:Qag a)(sd:Qag d)(f2:¬(w.im.num.sign=0)):List (GC prog (Udl a w d) true):=[Qbw eo78,gs (Qgl w b_w) [yR 3 8] (.tup [sy [14,15],cTt]),gs (Qcm a sa) [yQ 0] (rS 16),gs (Qcm d sd) [yQ 11] (rS 17),gs (Qee w ((Qab b_w).mn)) [sy [14,15]] (rS 18),gs (Qiz (Qgz a d b_a.mn b_d.mn)) [cS 16,cS 17] (rS 19),
   Kas (nm w) (a*d) (Qbe (Qab b_w)) (Qad b_a b_d) (by decide) 46 (.c (.sym 18)) (.c (.sym 19)) (.sym 20),gs (Qbb ((nm w)-(a*d))) [cS 20] (rS 21),gs (Qcr w ((Qab b_w).mn)) [sy [14,15]] (.tup [cS 22,cS 23]),gs (Qbb a) [cS 16] (rS 24),gs (Qbb w.re) [cS 22] (rS 25),
   Qqg w.im (Qak f2) (Qar w (Qab b_w)) (by decide) 39 (.c (.sym 23)) (.sym 26),gs (Qiz (Qgz a _ b_a.mn ((Qca (Qak f2) (Qar w (Qab b_w))).mn))) [cS 16,cS 26] (rS 27),gs (Qdh w _ ((Qab b_w).mn) ((Qca (Qak f2) (Qar w (Qab b_w))).mn)) [sy [14,15],cS 26] (.r (sy [28,29])),gs (Qiz (Qgz d _ b_d.mn ((Qca (Qak f2) (Qar w (Qab b_w))).mn))) [cS 17,cS 26] (rS 30),gs (Keo (a*(w.im⁻¹)) a (Qad b_a (Qca (Qak f2) (Qar w (Qab b_w)))) b_a (by decide)) [cS 27,cS 16] (rS 31)]
def Uhv(a:Rat)(w:QC)(d:Rat)(b_a:RL a 1024)(b_w:Qaj w)(b_d:RL d 1024)(sa:Qag a)(sd:Qag d)(hp:¬((((nm w)-(a*d)).num.sign)<=0))(f0:a.num.sign=0)(f1:w.re.num.sign=0)(f2:¬(w.im.num.sign=0))(h0:(Qig (a*(w.im⁻¹)) a)=0)(h1:¬((Kus w)=w)):SCt 185 [.row (rG (⟨a,w.re⟩:QC)++rG (⟨w.im,d⟩:QC))] (.r (gIi 2)) :=
  Qas (L := Udl a w d) Qae Qai
     ((Uhw a w d b_a b_w b_d sa sd f2)++[gs (Qsq (Kus w) w (Ucc w b_w f2) (Qab b_w) (by decide) false (fI h1)) [sy [28,29],sy [14,15]] vFf])
     [Qhd a (.sym 16),Qhd d (.sym 17),bLf 3 21 hp,bEt 3 24 f0,bEt 3 25 f1,bEt 3 31 h0] [] Kge 1 3 func185 eo185 2000 [.row (flA [[.sym 0,.sym 1,.lit (.bool false)],Qbd 2 11,[.lit (.bool false),.sym 13]])] (.r (lc 2))
def Uuw{a b e d:Rat}(C:CO a b e d):hKg a b e d:=Umu a b e d (Qao C.sa) (Qao C.sb) (Qao C.se) (Qao C.sd) C.wh
def Kko(ya:Qbm)(yb:Qbg)(yc:Qbm):Prop:=hK2 ya yb yc/\hKp ya yb yc
def Let(a b e d:Rat):Prop:=CO a b e d/\hK0 (Qbx a) (Qan ⟨b,e⟩) (Qbx d)
def Uft{x y:Rat}(h:Qig x y=0):x=y:=by
 unfold Qig at h
 split at h
 .omega
 .split at h
  .assumption
  .omega
def Uqs{x:Rat}(h:¬(x.num.sign<=0)):0<x:=Kmt h
def ckX{a d:Rat}{w:QC}(sa:Qag a)(sw:Qaj w)(sd:Qag d)(hp:¬((((nm w)-(a*d)).num.sign)<=0))(f0:¬(a.num.sign=0)):Kko (Qbx a) (Qan w) (Qbx d)\/Let a w.re w.im d:=by
 have a0:a≠0:=fun h=>f0 (sg0 h)
 by_cases h:a=1
 .subst h;have hp':=Uqs hp;refine Or.inr ⟨⟨Urb w.re w.im d sw.1 sw.2 sd (by unfold nm at hp';grind),sa,sw.1,sw.2,sd,(by unfold Qam;unfold nm at hp';grind),Or.inl rfl⟩,?_⟩;exact Ufv 1 w d (Qbu sa) sw (Qbu sd) sa sd hp f0 (by refine⟨?_,?_,?_,?_⟩<;>grind)
 .refine Or.inl ⟨Ufw a w d (Qbu sa) sw (Qbu sd) sa sd hp f0 (fun k=>h (by have:=k.1;grind)),?_⟩;exact Uhr a w d (Qbu sa) sw (Qbu sd) sa sd hp f0 (fun k=>h (by have:=Uft k;grind))
def ckY{a d:Rat}{w:QC}(sa:Qag a)(sw:Qaj w)(sd:Qag d)(hp:¬((((nm w)-(a*d)).num.sign)<=0))(f0:a.num.sign=0)(f1:¬(w.re.num.sign=0)):Kko (Qbx a) (Qan w) (Qbx d)\/Let a w.re w.im d:=by
 have a0:a=0:=sgz f0;have b0:w.re≠0:=fun h=>f1 (sg0 h)
 by_cases h:w.re=1
 .refine Or.inr ⟨⟨?_,sa,sw.1,sw.2,sd,?_,Or.inr (Or.inl ⟨a0,h⟩)⟩,?_⟩
  .rw[a0,h];exact Uec w.im d sw.2 sd (by have:=rsq w.im;grind)
  .rw[a0,h];unfold Qam;have:=rsq w.im;grind
  .exact Ufx a w d (Qbu sa) sw (Qbu sd) sa sd hp f0 f1 (by rw[a0,h];refine⟨?_,?_,?_,?_⟩<;>grind)
 .refine Or.inl ⟨Ufy a w d (Qbu sa) sw (Qbu sd) sa sd hp f0 f1 (fun k=>h (by have:=k.2.1;grind)),?_⟩;exact Uht a w d (Qbu sa) sw (Qbu sd) sa sd hp f0 f1 (Kac (by rw[a0];grind)) (fun k=>h (by have:=congrArg QC.re k;simp only[Kur] at this;grind))
def ckZ{a d:Rat}{w:QC}(sa:Qag a)(sw:Qaj w)(sd:Qag d)(hp:¬((((nm w)-(a*d)).num.sign)<=0))(f0:a.num.sign=0)(f1:w.re.num.sign=0):Kko (Qbx a) (Qan w) (Qbx d)\/Let a w.re w.im d:=by
 have a0:a=0:=sgz f0;have b0:w.re=0:=sgz f1;have hp':=Uqs hp;have e0:w.im≠0:=by intro h;unfold nm at hp';rw[a0,b0,h,show(0:Rat)*0+0*0-0*d=0 from by grind] at hp';exact absurd hp' (by decide)
 have f2:¬(w.im.num.sign=0):=Qii e0
 by_cases h:w.im=1
 .refine Or.inr ⟨⟨?_,sa,sw.1,sw.2,sd,?_,Or.inr (Or.inr ⟨a0,b0,h⟩)⟩,?_⟩
  .rw[a0,b0,h];exact Urc d sd (by grind)
  .rw[a0,b0,h];unfold Qam;grind
  .exact Ufz a w d (Qbu sa) sw (Qbu sd) sa sd hp f0 f1 f2 (by rw[a0,b0,h];refine⟨?_,?_,?_,?_⟩<;>grind)
 .refine Or.inl ⟨Uga a w d (Qbu sa) sw (Qbu sd) sa sd hp f0 f1 f2 (fun k=>h (by have:=k.2.2.1;grind)),?_⟩;exact Uhv a w d (Qbu sa) sw (Qbu sd) sa sd hp f0 f1 f2 (Kac (by rw[a0];grind)) (fun k=>h (by have:=congrArg QC.im k;simp only[Kus] at this;grind))
def Umv(ya:Qbm)(yb:Qbg)(yc:Qbm)(ba:ya.Sz)(bb:Qbg.Sz yb)(bc:yc.Sz):Kko ya yb yc\/∃ a b e d,ya=Qbx a/\yb=Qan ⟨b,e⟩/\yc=Qbx d/\Let a b e d:=by
 by_cases hb:GOk yb.val
 .obtain⟨w,rfl,sw⟩:=Qse hb
  by_cases ha:Qey ya.val
  .obtain⟨a,rfl,sa⟩:=Qxn ha
   by_cases hc:Qey yc.val
   .obtain⟨d,rfl,sd⟩:=Qxn hc;have fin:(Kko (Qbx a) (Qan w) (Qbx d)\/Let a w.re w.im d)->Kko (Qbx a) (Qan w) (Qbx d)\/∃ a' b e d',Qbx a=Qbx a'/\Qan w=Qan ⟨b,e⟩/\Qbx d=Qbx d'/\Let a' b e d' :=
     fun h=>h.imp id fun h=>⟨a,w.re,w.im,d,rfl,rfl,rfl,h⟩
    by_cases hp:((nm w)-(a*d)).num.sign<=0
    .exact Or.inl ⟨Vac a w d (Qbu sa) sw (Qbu sd) sa sd hp,Vci a w d (Qbu sa) sw (Qbu sd) sa sd hp⟩
    .by_cases f0:a.num.sign=0
     .by_cases f1:w.re.num.sign=0
      .exact fin (ckZ sa sw sd hp f0 f1)
      .exact fin (ckY sa sw sd hp f0 f1)
     .exact fin (ckX sa sw sd hp f0)
   .exact Or.inl ⟨Vab a w yc ((Qbu sa).mono (by omega)) sw sa hc,Vch a w yc (Qbu sa) sw bc sa hc⟩
  .exact Or.inl ⟨Uyr ya (Qan w) yc ha,Vcf ya w yc ba sw bc ha⟩
 .refine Or.inl ⟨?_,Vcg ya yb yc ba bb bc hb⟩
  by_cases ha:Qey ya.val
  .obtain⟨a,rfl,sa⟩:=Qxn ha;exact Vaa a yb yc ((Qbu sa).mono (by omega)) sa hb
  .exact Uyr ya yb yc ha
def gP(f g:Qbm):Qbg:=⟨f.n1,f.n2,g.n1,g.n2,f.s1,f.s2,g.s1,g.s2⟩
def Uua(g1 g2:Qbg):List GF:=[g1.cells,g2.cells,[gxi (Sz g1.s1),gxi (Sz g1.s2),gxi (Sz g1.s3),gxi (Sz g1.s4),gxi (Sz g2.s1),gxi (Sz g2.s2),gxi (Sz g2.s3),gxi (Sz g2.s4)]].flatten
def Udt(g1 g2:Qbg)(k:Nat):Prop:=([(Sz g1.s1)>24,(Sz g1.s2)>24,(Sz g1.s3)>24,(Sz g1.s4)>24,(Sz g2.s1)>24,(Sz g2.s2)>24,(Sz g2.s3)>24,(Sz g2.s4)>24]:List Prop).getD k False
def Uzt(g1 g2:Qbg):List (GO prog (Uua g1 g2)):=[lS (.sym 1) g1.s1 (.sym 16),lS (.sym 3) g1.s2 (.sym 17),lS (.sym 5) g1.s3 (.sym 18),lS (.sym 7) g1.s4 (.sym 19),lS (.sym 9) g2.s1 (.sym 20),lS (.sym 11) g2.s2 (.sym 21),lS (.sym 13) g2.s3 (.sym 22),lS (.sym 15) g2.s4 (.sym 23)]
def Uzr(g1 g2:Qbg)(r:Nat->Bool)(hr:∀ k,k<8->(r k=true↔Udt g1 g2 k)):List (GB prog (Uua g1 g2)) :=
  [gtk 3 (.sym 16) (li 24) (Sz g1.s1) 24 (r 0) (hr 0 (by decide)),
   gtk 3 (.sym 17) (li 24) (Sz g1.s2) 24 (r 1) (hr 1 (by decide)),
   gtk 3 (.sym 18) (li 24) (Sz g1.s3) 24 (r 2) (hr 2 (by decide)),
   gtk 3 (.sym 19) (li 24) (Sz g1.s4) 24 (r 3) (hr 3 (by decide)),
   gtk 3 (.sym 20) (li 24) (Sz g2.s1) 24 (r 4) (hr 4 (by decide)),
   gtk 3 (.sym 21) (li 24) (Sz g2.s2) 24 (r 5) (hr 5 (by decide)),
   gtk 3 (.sym 22) (li 24) (Sz g2.s3) 24 (r 6) (hr 6 (by decide)),
   gtk 3 (.sym 23) (li 24) (Sz g2.s4) 24 (r 7) (hr 7 (by decide))]
def Uzs(g1 g2:Qbg)(r:Nat->Bool)(hr:∀ k,k<8->(r k=true↔Udt g1 g2 k))(b:Bool)(hev:evL (gcx tys true (Uua g1 g2) [] (Uzr g1 g2 r hr) (Uzt g1 g2)) Tryz.f9 2000 [⟨Qbd 0 16,28,none⟩] [lc 24,.c (.sl 0 0 2 2)] (.r (.c (.lit (.bool b))))=true):SMt 9 [(g1.cells++g2.cells,28)] [.f (gIi 24),.sl 0 0 2 2] (B1 b) :=
 Ung (L:=Uua g1 g2) Qae Qai [] (Uzr g1 g2 r hr) (Uzt g1 g2) func9 eo9 2000 [⟨Qbd 0 16,28,none⟩] [lc 24,.c (.sl 0 0 2 2)] (.r (.c (.lit (.bool b)))) hev
def Vct(g1 g2:Qbg)(k:Nat)(hk:k<8)(h:∀ j,j<k->¬Udt g1 g2 j)(hp:Udt g1 g2 k):SMt 9 [(g1.cells++g2.cells,28)] [.f (gIi 24),.sl 0 0 2 2] (B1 false):=by
 rcases(by omega:k=0\/k=1\/k=2\/k=3\/k=4\/k=5\/k=6\/k=7) with rfl|rfl|rfl|rfl|rfl|rfl|rfl|rfl
 all_goals exact Uzs g1 g2 (rNk (Udt g1 g2) _) (fun j _=>Udo h hp j) false kR
def Uqr(g1 g2:Qbg):Prop:=∃ k,k<8/\Udt g1 g2 k
def smU(g1 g2:Qbg)(b:Bool)(hb:b=true↔¬Uqr g1 g2):SMt 9 [(g1.cells++g2.cells,28)] [.f (gIi 24),.sl 0 0 2 2] (B1 b):=by
 cases b
 .obtain⟨k,hk,hp,h⟩:=Uda (Classical.byContradiction fun h=>by cases hb.2 h);exact Vct g1 g2 k hk h hp
 .exact Uzs g1 g2 (fun _=>false) (fun k hk=>⟨(fun e=>by cases e),fun e=>(hb.1 rfl ⟨k,hk,e⟩).elim⟩) true kR
def Vcr(ya:Qbm)(yb:Qbg)(yc:Qbm)(hs:Uqr (gP ya yc) yb):SCt 20 [gIi 24,.row (ya.cells++yb.cells++yc.cells)] (.r gFf) :=
  Qco (L := [ya.cells,yb.cells,yc.cells].flatten) Qae Qai
     [gsm (smU (gP ya yc) yb false ⟨(fun e=>by cases e),fun k_=>(k_ hs).elim⟩) [10] [⟨flA [Qbd 0 4,Qbd 12 4,Qbd 4 8],28,none⟩] [lc 24,.c (.sl 0 0 2 2)] vFf]
     [] [] func20 eo20 2000 [lc 24,yR 0 16] vFf
def Vcs(ya:Qbm)(yb:Qbg)(yc:Qbm)(hs:¬(Uqr (gP ya yc) yb)):SCt 20 [gIi 24,.row (ya.cells++yb.cells++yc.cells)] (.r gTt) :=
  Qco (L := [ya.cells,yb.cells,yc.cells].flatten) Qae Qai
     [gsm (smU (gP ya yc) yb true ⟨fun _=>hs,fun _=>rfl⟩) [10] [⟨flA [Qbd 0 4,Qbd 12 4,Qbd 4 8],28,none⟩] [lc 24,.c (.sl 0 0 2 2)] vTt]
     [] [] func20 eo20 2000 [lc 24,yR 0 16] vTt
def Uzm  :SCt 13 [gIi 1] (.r gTt) :=
  Qco (L := [].flatten) Qae Qai
     []
     [] [] func13 eo13 2000 [lc 1] vTt
def Uzn  :SCt 13 [gIi 2] (.r gTt) :=
  Qco (L := [].flatten) Qae Qai
     []
     [] [] func13 eo13 2000 [lc 2] vTt
def Uhj(p:Int)(ya:Qbm)(yb:Qbg)(yc:Qbm)(z:Qbg)(ba:ya.Sz)(bb:Qbg.Sz yb)(bc:yc.Sz)(bz:Qbg.Sz z)(hs:¬Qus z)(Ct:hCt ya yb yc):Law p ya yb yc z:=by
 rcases Umv ya yb yc ba bb bc with⟨K2,Kp⟩|⟨a,b,e,d,rfl,rfl,rfl,C,K0⟩
 .by_cases h1:p=1
  .subst h1;exact Uxv ya yb yc ba bb bc z bz hs Ct Uzm K2 Kp
  .by_cases h2:p=2
   .subst h2;exact Uxw ya yb yc ba bb bc z bz hs Ct Uzn K2 Kp
   .have Ak:=Uxu p ya yb yc z ba bb bc bz h1 h2 Kp;exact Uzi p ya yb yc z hs h1 h2 Ct (Uxs p ya yb yc ba bb bc h1 h2 Kp) (rU2 _ _ _ _ _ Ak) (rF2 _ _ _ _ _ Ak) (rV2 _ _ _ _ _ Ak)
 .have Kg:=Uuw C
  by_cases h1:p=1
  .subst h1;exact Uxx C z bz hs Ct Uzm K0 Kg
  .by_cases h2:p=2
   .subst h2;exact Uxy C z bz hs Ct Uzn K0 Kg
   .have sa:=Qao C.sa;have sb:=Qao C.sb;have se:=Qao C.se;have sd:=Qao C.sd;have Ak:=Uxt p a b e d z sa sb se sd bz h1 h2 C.sa C.sb C.se C.sd Kg;exact Uzi p _ _ _ z hs h1 h2 Ct (Uxr p a b e d sa sb se sd h1 h2 C.sa C.sb C.se C.sd Kg) (rU2 _ _ _ _ _ Ak) (rF2 _ _ _ _ _ Ak) (rV2 _ _ _ _ _ Ak)
def szZ{z:Qbg}(h:¬Qus z):Qbg.Sz z:=by
 have k:∀ k,k<4->¬Udu z k:=fun k hk e=>h ⟨k,hk,e⟩
 have a0:=k 0 (by decide);have a1:=k 1 (by decide);have a2:=k 2 (by decide);have a3:=k 3 (by decide);simp[Udu,Sz] at a0 a1 a2 a3;exact⟨by omega,by omega,by omega,by omega⟩
def szU{f g:Qbm}{y:Qbg}(h:¬Uqr (gP f g) y):f.Sz/\Qbg.Sz y/\g.Sz:=by
 have k:∀ k,k<8->¬Udt (gP f g) y k:=fun k hk e=>h ⟨k,hk,e⟩
 have a0:=k 0 (by decide);have a1:=k 1 (by decide);have a2:=k 2 (by decide);have a3:=k 3 (by decide);have a4:=k 4 (by decide);have a5:=k 5 (by decide);have a6:=k 6 (by decide);have a7:=k 7 (by decide);simp[Udt,Sz,gP] at a0 a1 a2 a3 a4 a5 a6 a7;exact⟨⟨by omega,by omega⟩,⟨by omega,by omega,by omega,by omega⟩,by omega,by omega⟩
def Klk(p:Int)(ya:Qbm)(yb:Qbg)(yc:Qbm)(z:Qbg):SCt 4 [.c (gxi p),.row (ya.cells++yb.cells++yc.cells),.row z.cells] (.r gTt):=by
 by_cases hs:Qus z
 .exact Vcb p ya yb yc z hs
 .by_cases hc:Uqr (gP ya yc) yb
  .exact Vcc p ya yb yc z hs (Vcr ya yb yc hc)
  .obtain⟨ba,bb,bc⟩:=szU hc;exact Uhj p ya yb yc z ba bb bc (szZ hs) hs (Vcs ya yb yc hc)
