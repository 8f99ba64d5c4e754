/- Laws for the walk. -/
import Derived.Test.YthklnbaddobieaaGreatYbk
set_option linter.unusedVariables false
set_option maxHeartbeats 4000000
set_option linter.unusedSimpArgs false
namespace Go.Proofs.YthklnbaddobieaaGreat
open Go.RowKit Tr
open Classical
theorem wxfl6:FnsOk Tryz.prog [⟨139,Tryz.f139,2000⟩,⟨193,Tryz.f193,2000⟩,⟨194,Tryz.f194,2000⟩,⟨195,Tryz.f195,2000⟩]:=(.cons (n:=2000) Tryz.func139 eo139 (.cons (n:=2000) Tryz.func193 eo193 (.cons (n:=2000) Tryz.func194 eo194 (.cons (n:=2000) Tryz.func195 eo195 .nil))))
theorem pCkB(ya:RawF)(yb:RawG)(yc:RawF)(b_ya:ya.Sz)(b_yb:RawG.Sz yb)(b_yc:yc.Sz)(hb:¬(GOk yb.val)):SpecC Tryz.prog true 74 [.row (ya.cells++yb.cells++yc.cells)] (.r (.c (gl (.int .i64 2)))) :=
  ev_spi (L := [ya.cells,yb.cells,yc.cells,[ga,ga],[ga],[ga]].flatten) tys_ok mixed
     [trimE eo82,gs (pEOfR yb b_yb false (fI hb)) [.row (syms 4 8)] (.tup [sy [16,17],.c (.lit (.bool false))]),gs (pERatA ya b_ya) [.row (syms 0 4)] (.r (.c (.sym 18))),gs (pERatA yc b_yc) [.row (syms 12 4)] (.r (.c (.sym 19)))]
     [] [] wxfl6 1 3 Tryz.func74 eo74 2000 [.row (syms 0 16)] (.r (.c (.lit (.int .i64 2))))
theorem pCkA(ya:RawF)(w:QC)(yc:RawF)(b_ya:ya.Sz)(b_w:ShortZ w)(b_yc:yc.Sz)(ha:¬(FracOk ya.val)):SpecC Tryz.prog true 74 [.row (ya.cells++(rawQ w).cells++yc.cells)] (.r (.c (gl (.int .i64 2)))) :=
  ev_spi (L := [ya.cells,(rawQ w).cells,yc.cells,cn w,[ga]].flatten) tys_ok mixed
     [trimE eo82,gs (pEOf w b_w) [.row (syms 4 8)] (.tup [sy [16,17],.c (.lit (.bool true))]),gs (pERatN ya b_ya ha) [.row (syms 0 4)] (.r (.c (.lit .nilp))),gs (pERatA yc b_yc) [.row (syms 12 4)] (.r (.c (.sym 18)))]
     [gb .eql 83 (.c (.lit .nilp)) (.c (.lit .nilp)) (.lit (.bool true)) (fun _ _ _=>by kernel_rfl) (vx:=.pointer none) (vy:=.pointer none) (v:=.bool true) (by kernel_rfl) (by kernel_rfl) (by kernel_rfl)] [] wxfl6 1 3 Tryz.func74 eo74 2000 [.row (syms 0 16)] (.r (.c (.lit (.int .i64 2))))
theorem pCkC(a:Rat)(w:QC)(yc:RawF)(b_a:RL a 1024)(b_w:ShortZ w)(b_yc:yc.Sz)(sa:ShortF a)(hc:¬(FracOk yc.val)):SpecC Tryz.prog true 74 [.row (rG (⟨a,w.re⟩:QC)++rF w.im++yc.cells)] (.r (.c (gl (.int .i64 2)))) :=
  ev_spi (L := [cF a,(rawQ w).cells,yc.cells,cn w,[gr a]].flatten) tys_ok mixed
     [trimE eo82,gs (pEOf w b_w) [.row (syms 3 8)] (.tup [sy [15,16],.c (.lit (.bool true))]),gs (pERat a sa) [.row [.sym 0,.sym 1,.lit (.bool false),.sym 2]] (.r (.c (.sym 17))),gs (pERatN yc b_yc hc) [.row (syms 11 4)] (.r (.c (.lit .nilp)))]
     [gbNilR a (.sym 17),gb .eql 83 (.c (.lit .nilp)) (.c (.lit .nilp)) (.lit (.bool true)) (fun _ _ _=>by kernel_rfl) (vx:=.pointer none) (vy:=.pointer none) (v:=.bool true) (by kernel_rfl) (by kernel_rfl) (by kernel_rfl)] [] wxfl6 1 3 Tryz.func74 eo74 2000 [.row (flA [[.sym 0,.sym 1,.lit (.bool false)],syms 2 13])] (.r (.c (.lit (.int .i64 2))))
theorem pCkP(a:Rat)(w:QC)(d:Rat)(b_a:RL a 1024)(b_w:ShortZ w)(b_d:RL d 1024)(sa:ShortF a)(sd:ShortF d)(hp:(((nm w) - (a*d)).num.sign)≤0):SpecC Tryz.prog true 74 [.row (rG (⟨a,w.re⟩:QC)++rG (⟨w.im,d⟩:QC))] (.r (.c (gl (.int .i64 2)))) :=
  ev_spi (L := [cF a,(rawQ w).cells,cF d,cn w,[gr a],[gr d],[gr (nm w)],[gr (a * d)],[gr ((nm w) - (a * d))],[gx (.int .i64 (((nm w) - (a * d)).num.sign))]].flatten) tys_ok mixed
     [trimE eo82,gs (pEOf w b_w) [.row (syms 3 8)] (.tup [sy [14,15],.c (.lit (.bool true))]),gs (pERat a sa) [.row [.sym 0,.sym 1,.lit (.bool false),.sym 2]] (.r (.c (.sym 16))),gs (pERat d sd) [.row [.sym 11,.sym 12,.lit (.bool false),.sym 13]] (.r (.c (.sym 17))),gs (eNorm0 w ((ZL_short b_w).mono (by omega))) [sy [14,15]] (.r (.c (.sym 18))),gs (argRR (eMul0 a d (b_a.mono (by omega)) (b_d.mono (by omega)))) [.c (.sym 16),.c (.sym 17)] (.r (.c (.sym 19))),
      gvSub (nm w) (a*d) (RL_nm (ZL_short b_w)) (RL_mul b_a b_d) (by decide) 46 (.c (.sym 18)) (.c (.sym 19)) (.sym 20),gs (pRSign ((nm w) - (a*d))) [.c (.sym 20)] (.r (.c (.sym 21)))]
     [gbNilR a (.sym 16),gbNilR d (.sym 17),bI .leq 3 (.sym 21) (.lit (.int .i64 0)) (((nm w) - (a*d)).num.sign) 0 true (by simp only[cmpB]; exact congrArg some (decide_eq_true hp))] [] wxfl6 1 3 Tryz.func74 eo74 2000 [.row (flA [[.sym 0,.sym 1,.lit (.bool false)],syms 2 11,[.lit (.bool false),.sym 13]])] (.r (.c (.lit (.int .i64 2))))
def wx134(a:Rat)(w:QC):QC:=(⟨w.re*(a⁻¹),w.im*(a⁻¹)⟩:QC)
def pCkX_L(a:Rat)(w:QC)(d:Rat):List GF:=[cF a,(rawQ w).cells,cF d,cn w,[gr a],[gr d],[gr (nm w)],[gr (a*d)],[gr ((nm w) - (a*d))],[gx (.int .i64 (((nm w) - (a*d)).num.sign))],[gr w.re],[gr w.im],[gx (.int .i64 a.num.sign)],[gr (a⁻¹)],[gr (a*(a⁻¹))],cn (wx134 a w),[gr (d*(a⁻¹))],[gx (.int .i64 (cmpR (a*(a⁻¹)) a))],[gx (.int .i64 (cmpR (d*(a⁻¹)) d))]].flatten
noncomputable def pCkX_T1(a:Rat)(w:QC)(d:Rat)(b_a:RL a 1024)(b_w:ShortZ w)(b_d:RL d 1024)(sa:ShortF a)(sd:ShortF d)(f0:¬(a.num.sign=0)):List (GC Tryz.prog (pCkX_L a w d) true):=[trimE eo82,gs (pEOf w b_w) [.row (syms 3 8)] (.tup [sy [14,15],.c (.lit (.bool true))]),gs (pERat a sa) [.row [.sym 0,.sym 1,.lit (.bool false),.sym 2]] (.r (.c (.sym 16))),gs (pERat d sd) [.row [.sym 11,.sym 12,.lit (.bool false),.sym 13]] (.r (.c (.sym 17))),gs (eNorm0 w ((ZL_short b_w).mono (by omega))) [sy [14,15]] (.r (.c (.sym 18))),gs (argRR (eMul0 a d (b_a.mono (by omega)) (b_d.mono (by omega)))) [.c (.sym 16),.c (.sym 17)] (.r (.c (.sym 19))),
   gvSub (nm w) (a*d) (RL_nm (ZL_short b_w)) (RL_mul b_a b_d) (by decide) 46 (.c (.sym 18)) (.c (.sym 19)) (.sym 20),gs (pRSign ((nm w) - (a*d))) [.c (.sym 20)] (.r (.c (.sym 21))),gs (eParts0 w ((ZL_short b_w).mono (by omega))) [sy [14,15]] (.tup [.c (.sym 22),.c (.sym 23)]),gs (pRSign a) [.c (.sym 16)] (.r (.c (.sym 24))),
   gvInv a (sgn_ne f0) b_a (by decide) 39 (.c (.sym 16)) (.sym 25),gs (argRR (eMul0 a (a⁻¹) (b_a.mono (by omega)) ((RL_inv (sgn_ne f0) b_a).mono (by omega)))) [.c (.sym 16),.c (.sym 25)] (.r (.c (.sym 26))),gs (pNScale w (a⁻¹) ((ZL_short b_w).mono (by omega)) ((RL_inv (sgn_ne f0) b_a).mono (by omega))) [sy [14,15],.c (.sym 25)] (.r (sy [27,28])),gs (argRR (eMul0 d (a⁻¹) (b_d.mono (by omega)) ((RL_inv (sgn_ne f0) b_a).mono (by omega)))) [.c (.sym 17),.c (.sym 25)] (.r (.c (.sym 29))),gs (pRCmp (a*(a⁻¹)) a (RL_mul b_a (RL_inv (sgn_ne f0) b_a)) b_a (by decide)) [.c (.sym 26),.c (.sym 16)] (.r (.c (.sym 30)))]
theorem pCkX_L1(a:Rat)(w:QC)(d:Rat)(b_a:RL a 1024)(b_w:ShortZ w)(b_d:RL d 1024)(sa:ShortF a)(sd:ShortF d)(hp:¬((((nm w) - (a*d)).num.sign)≤0))(f0:¬(a.num.sign=0))(h0:¬((cmpR (a*(a⁻¹)) a)=0)):SpecC Tryz.prog true 74 [.row (rG (⟨a,w.re⟩:QC)++rG (⟨w.im,d⟩:QC))] (.r (.c (gl (.int .i64 2)))) :=
  ev_spi (L := pCkX_L a w d) tys_ok mixed
     (pCkX_T1 a w d b_a b_w b_d sa sd f0)
     [gbNilR a (.sym 16),gbNilR d (.sym 17),bI .leq 3 (.sym 21) (.lit (.int .i64 0)) (((nm w) - (a*d)).num.sign) 0 false (by simp only[cmpB]; exact congrArg some (decide_eq_false hp)),bI .eql 3 (.sym 24) (.lit (.int .i64 0)) a.num.sign 0 false (by simp[cmpB,f0]),bI .eql 3 (.sym 30) (.lit (.int .i64 0)) (cmpR (a*(a⁻¹)) a) 0 false (by simp[cmpB,h0])] [] wxfl6 1 3 Tryz.func74 eo74 2000 [.row (flA [[.sym 0,.sym 1,.lit (.bool false)],syms 2 11,[.lit (.bool false),.sym 13]])] (.r (.c (.lit (.int .i64 2))))
def wx135(w:QC):QC:=(⟨w.re*(w.re⁻¹),w.im*(w.re⁻¹)⟩:QC)
theorem wx135_b0(w:QC)(b_w:ShortZ w)(f1:¬(w.re.num.sign=0)):ZL (wx135 w) 2048:=(ZL_mk (RL_mul (ZL_short b_w).1 (RL_inv (sgn_ne f1) (eParts0_b0_1 w (ZL_short b_w)))) (RL_mul (ZL_short b_w).2 (RL_inv (sgn_ne f1) (eParts0_b0_1 w (ZL_short b_w))))).mono (by omega)
def pCkY_L(a:Rat)(w:QC)(d:Rat):List GF:=[cF a,(rawQ w).cells,cF d,cn w,[gr a],[gr d],[gr (nm w)],[gr (a*d)],[gr ((nm w) - (a*d))],[gx (.int .i64 (((nm w) - (a*d)).num.sign))],[gr w.re],[gr w.im],[gx (.int .i64 a.num.sign)],[gx (.int .i64 w.re.num.sign)],[gr (w.re⁻¹)],[gr (a*(w.re⁻¹))],cn (wx135 w),[gr (d*(w.re⁻¹))],[gx (.int .i64 (cmpR (a*(w.re⁻¹)) a))],[gx (.int .i64 (cmpR (d*(w.re⁻¹)) d))]].flatten
noncomputable def pCkY_T1(a:Rat)(w:QC)(d:Rat)(b_a:RL a 1024)(b_w:ShortZ w)(b_d:RL d 1024)(sa:ShortF a)(sd:ShortF d)(f1:¬(w.re.num.sign=0)):List (GC Tryz.prog (pCkY_L a w d) true):=[trimE eo82,gs (pEOf w b_w) [.row (syms 3 8)] (.tup [sy [14,15],.c (.lit (.bool true))]),gs (pERat a sa) [.row [.sym 0,.sym 1,.lit (.bool false),.sym 2]] (.r (.c (.sym 16))),gs (pERat d sd) [.row [.sym 11,.sym 12,.lit (.bool false),.sym 13]] (.r (.c (.sym 17))),gs (eNorm0 w ((ZL_short b_w).mono (by omega))) [sy [14,15]] (.r (.c (.sym 18))),gs (argRR (eMul0 a d (b_a.mono (by omega)) (b_d.mono (by omega)))) [.c (.sym 16),.c (.sym 17)] (.r (.c (.sym 19))),
   gvSub (nm w) (a*d) (RL_nm (ZL_short b_w)) (RL_mul b_a b_d) (by decide) 46 (.c (.sym 18)) (.c (.sym 19)) (.sym 20),gs (pRSign ((nm w) - (a*d))) [.c (.sym 20)] (.r (.c (.sym 21))),gs (eParts0 w ((ZL_short b_w).mono (by omega))) [sy [14,15]] (.tup [.c (.sym 22),.c (.sym 23)]),gs (pRSign a) [.c (.sym 16)] (.r (.c (.sym 24))),gs (pRSign w.re) [.c (.sym 22)] (.r (.c (.sym 25))),
   gvInv w.re (sgn_ne f1) (eParts0_b0_1 w (ZL_short b_w)) (by decide) 39 (.c (.sym 22)) (.sym 26),gs (argRR (eMul0 a (w.re⁻¹) (b_a.mono (by omega)) ((RL_inv (sgn_ne f1) (eParts0_b0_1 w (ZL_short b_w))).mono (by omega)))) [.c (.sym 16),.c (.sym 26)] (.r (.c (.sym 27))),gs (pNScale w (w.re⁻¹) ((ZL_short b_w).mono (by omega)) ((RL_inv (sgn_ne f1) (eParts0_b0_1 w (ZL_short b_w))).mono (by omega))) [sy [14,15],.c (.sym 26)] (.r (sy [28,29])),gs (argRR (eMul0 d (w.re⁻¹) (b_d.mono (by omega)) ((RL_inv (sgn_ne f1) (eParts0_b0_1 w (ZL_short b_w))).mono (by omega)))) [.c (.sym 17),.c (.sym 26)] (.r (.c (.sym 30))),gs (pRCmp (a*(w.re⁻¹)) a (RL_mul b_a (RL_inv (sgn_ne f1) (eParts0_b0_1 w (ZL_short b_w)))) b_a (by decide)) [.c (.sym 27),.c (.sym 16)] (.r (.c (.sym 31)))]
theorem pCkY_L2(a:Rat)(w:QC)(d:Rat)(b_a:RL a 1024)(b_w:ShortZ w)(b_d:RL d 1024)(sa:ShortF a)(sd:ShortF d)(hp:¬((((nm w) - (a*d)).num.sign)≤0))(f0:a.num.sign=0)(f1:¬(w.re.num.sign=0))(h0:(cmpR (a*(w.re⁻¹)) a)=0)(h1:¬((wx135 w)=w)):SpecC Tryz.prog true 74 [.row (rG (⟨a,w.re⟩:QC)++rG (⟨w.im,d⟩:QC))] (.r (.c (gl (.int .i64 2)))) :=
  ev_spi (L := pCkY_L a w d) tys_ok mixed
     ((pCkY_T1 a w d b_a b_w b_d sa sd f1)++[gs (pNSame (wx135 w) w (wx135_b0 w b_w f1) (ZL_short b_w) (by decide) false (fI h1)) [sy [28,29],sy [14,15]] (.r (.c (.lit (.bool false))))])
     [gbNilR a (.sym 16),gbNilR d (.sym 17),bI .leq 3 (.sym 21) (.lit (.int .i64 0)) (((nm w) - (a*d)).num.sign) 0 false (by simp only[cmpB]; exact congrArg some (decide_eq_false hp)),bI .eql 3 (.sym 24) (.lit (.int .i64 0)) a.num.sign 0 true (by simp[cmpB,f0]),bI .eql 3 (.sym 25) (.lit (.int .i64 0)) w.re.num.sign 0 false (by simp[cmpB,f1]),bI .eql 3 (.sym 31) (.lit (.int .i64 0)) (cmpR (a*(w.re⁻¹)) a) 0 true (by simp[cmpB,h0])] [] wxfl6 1 3 Tryz.func74 eo74 2000 [.row (flA [[.sym 0,.sym 1,.lit (.bool false)],syms 2 11,[.lit (.bool false),.sym 13]])] (.r (.c (.lit (.int .i64 2))))
def wx136(w:QC):QC:=(⟨w.re*(w.im⁻¹),w.im*(w.im⁻¹)⟩:QC)
theorem wx136_b0(w:QC)(b_w:ShortZ w)(f2:¬(w.im.num.sign=0)):ZL (wx136 w) 2048:=(ZL_mk (RL_mul (ZL_short b_w).1 (RL_inv (sgn_ne f2) (eParts0_b0_4 w (ZL_short b_w)))) (RL_mul (ZL_short b_w).2 (RL_inv (sgn_ne f2) (eParts0_b0_4 w (ZL_short b_w))))).mono (by omega)
def pCkZ_L(a:Rat)(w:QC)(d:Rat):List GF:=[cF a,(rawQ w).cells,cF d,cn w,[gr a],[gr d],[gr (nm w)],[gr (a*d)],[gr ((nm w) - (a*d))],[gx (.int .i64 (((nm w) - (a*d)).num.sign))],[gr w.re],[gr w.im],[gx (.int .i64 a.num.sign)],[gx (.int .i64 w.re.num.sign)],[gr (w.im⁻¹)],[gr (a*(w.im⁻¹))],cn (wx136 w),[gr (d*(w.im⁻¹))],[gx (.int .i64 (cmpR (a*(w.im⁻¹)) a))],[gx (.int .i64 (cmpR (d*(w.im⁻¹)) d))]].flatten
noncomputable def pCkZ_T1(a:Rat)(w:QC)(d:Rat)(b_a:RL a 1024)(b_w:ShortZ w)(b_d:RL d 1024)(sa:ShortF a)(sd:ShortF d)(f2:¬(w.im.num.sign=0)):List (GC Tryz.prog (pCkZ_L a w d) true):=[trimE eo82,gs (pEOf w b_w) [.row (syms 3 8)] (.tup [sy [14,15],.c (.lit (.bool true))]),gs (pERat a sa) [.row [.sym 0,.sym 1,.lit (.bool false),.sym 2]] (.r (.c (.sym 16))),gs (pERat d sd) [.row [.sym 11,.sym 12,.lit (.bool false),.sym 13]] (.r (.c (.sym 17))),gs (eNorm0 w ((ZL_short b_w).mono (by omega))) [sy [14,15]] (.r (.c (.sym 18))),gs (argRR (eMul0 a d (b_a.mono (by omega)) (b_d.mono (by omega)))) [.c (.sym 16),.c (.sym 17)] (.r (.c (.sym 19))),
   gvSub (nm w) (a*d) (RL_nm (ZL_short b_w)) (RL_mul b_a b_d) (by decide) 46 (.c (.sym 18)) (.c (.sym 19)) (.sym 20),gs (pRSign ((nm w) - (a*d))) [.c (.sym 20)] (.r (.c (.sym 21))),gs (eParts0 w ((ZL_short b_w).mono (by omega))) [sy [14,15]] (.tup [.c (.sym 22),.c (.sym 23)]),gs (pRSign a) [.c (.sym 16)] (.r (.c (.sym 24))),gs (pRSign w.re) [.c (.sym 22)] (.r (.c (.sym 25))),
   gvInv w.im (sgn_ne f2) (eParts0_b0_4 w (ZL_short b_w)) (by decide) 39 (.c (.sym 23)) (.sym 26),gs (argRR (eMul0 a (w.im⁻¹) (b_a.mono (by omega)) ((RL_inv (sgn_ne f2) (eParts0_b0_4 w (ZL_short b_w))).mono (by omega)))) [.c (.sym 16),.c (.sym 26)] (.r (.c (.sym 27))),gs (pNScale w (w.im⁻¹) ((ZL_short b_w).mono (by omega)) ((RL_inv (sgn_ne f2) (eParts0_b0_4 w (ZL_short b_w))).mono (by omega))) [sy [14,15],.c (.sym 26)] (.r (sy [28,29])),gs (argRR (eMul0 d (w.im⁻¹) (b_d.mono (by omega)) ((RL_inv (sgn_ne f2) (eParts0_b0_4 w (ZL_short b_w))).mono (by omega)))) [.c (.sym 17),.c (.sym 26)] (.r (.c (.sym 30))),gs (pRCmp (a*(w.im⁻¹)) a (RL_mul b_a (RL_inv (sgn_ne f2) (eParts0_b0_4 w (ZL_short b_w)))) b_a (by decide)) [.c (.sym 27),.c (.sym 16)] (.r (.c (.sym 31)))]
theorem pCkZ_L2(a:Rat)(w:QC)(d:Rat)(b_a:RL a 1024)(b_w:ShortZ w)(b_d:RL d 1024)(sa:ShortF a)(sd:ShortF d)(hp:¬((((nm w) - (a*d)).num.sign)≤0))(f0:a.num.sign=0)(f1:w.re.num.sign=0)(f2:¬(w.im.num.sign=0))(h0:(cmpR (a*(w.im⁻¹)) a)=0)(h1:¬((wx136 w)=w)):SpecC Tryz.prog true 74 [.row (rG (⟨a,w.re⟩:QC)++rG (⟨w.im,d⟩:QC))] (.r (.c (gl (.int .i64 2)))) :=
  ev_spi (L := pCkZ_L a w d) tys_ok mixed
     ((pCkZ_T1 a w d b_a b_w b_d sa sd f2)++[gs (pNSame (wx136 w) w (wx136_b0 w b_w f2) (ZL_short b_w) (by decide) false (fI h1)) [sy [28,29],sy [14,15]] (.r (.c (.lit (.bool false))))])
     [gbNilR a (.sym 16),gbNilR d (.sym 17),bI .leq 3 (.sym 21) (.lit (.int .i64 0)) (((nm w) - (a*d)).num.sign) 0 false (by simp only[cmpB]; exact congrArg some (decide_eq_false hp)),bI .eql 3 (.sym 24) (.lit (.int .i64 0)) a.num.sign 0 true (by simp[cmpB,f0]),bI .eql 3 (.sym 25) (.lit (.int .i64 0)) w.re.num.sign 0 true (by simp[cmpB,f1]),bI .eql 3 (.sym 31) (.lit (.int .i64 0)) (cmpR (a*(w.im⁻¹)) a) 0 true (by simp[cmpB,h0])] [] wxfl6 1 3 Tryz.func74 eo74 2000 [.row (flA [[.sym 0,.sym 1,.lit (.bool false)],syms 2 11,[.lit (.bool false),.sym 13]])] (.r (.c (.lit (.int .i64 2))))
end Go.Proofs.YthklnbaddobieaaGreat
set_option linter.unusedSimpArgs false
namespace Go.Proofs.YthklnbaddobieaaGreat
open Go.RowKit Tr
open Classical
def jK2(ya:RawF)(yb:RawG)(yc:RawF):Prop:=SpecC Tryz.prog true 75 [.row (ya.cells++yb.cells++yc.cells)] (.r (.c (gl (.int .i64 2))))
def jK0(ya:RawF)(yb:RawG)(yc:RawF):Prop:=SpecC Tryz.prog true 75 [.row (ya.cells++yb.cells++yc.cells)] (.r (.c (gl (.int .i64 0))))
def jKp(ya:RawF)(yb:RawG)(yc:RawF):Prop:=SpecC Tryz.prog true 74 [.row (ya.cells++yb.cells++yc.cells)] (.r (.c (gl (.int .i64 2))))
def jKg(a b e d:Rat):Prop:=SpecC Tryz.prog true 74 [.row (rF a++rF b++rF e++rF d)] (.r (.c (gl (.int .i64 0))))
structure JO(a b e d:Rat):Prop where
 sa:ShortF a
 sb:ShortF b
 se:ShortF e
 sd:ShortF d
 kg:jKg a b e d
 k0:jK0 (rawF a) (rawQ ⟨b,e⟩) (rawF d)
theorem jo_mk{a b e d:Rat}(w:WhOk a b e d)(sa:ShortF a)(sb:ShortF b)(se:ShortF e)(sd:ShortF d)(k0:jK0 (rawF a) (rawQ ⟨b,e⟩) (rawF d)):JO a b e d :=
 ⟨sa,sb,se,sd,cChk a b e d (RL_short4 sa) (RL_short4 sb) (RL_short4 se) (RL_short4 sd) w,k0⟩
def JB(ya:RawF)(yb:RawG)(yc:RawF):Prop:=jK2 ya yb yc∧jKp ya yb yc
theorem jsg0{x:Rat}(h:x=0):x.num.sign=0:=by subst h; rfl
theorem jsgz{x:Rat}(h:x.num.sign=0):x=0:=Rat.num_eq_zero.1 (Int.sign_eq_zero_iff_zero.1 h)
theorem jne{x:Rat}(h:x≠0):¬(x.num.sign=0):=fun k=>h (jsgz k)
theorem jcz{x y:Rat}(h:cmpR x y=0):x=y:=by
 unfold cmpR at h
 split at h
 ·omega
 ·split at h
  ·assumption
  ·omega
theorem jpos{x:Rat}(h:¬(x.num.sign≤0)):0<x:=spos h
theorem jkX{a d:Rat}{w:QC}(sa:ShortF a)(sw:ShortZ w)(sd:ShortF d)(hp:¬((((nm w) - (a*d)).num.sign)≤0))(f0:¬(a.num.sign=0)):JB (rawF a) (rawQ w) (rawF d)∨JO a w.re w.im d:=by
 have a0:a≠0:=fun h=>f0 (jsg0 h)
 by_cases h:a=1
 ·subst h
  have hp':=jpos hp
  refine Or.inr (jo_mk (wheelA w.re w.im d sw.1 sw.2 sd (by unfold nm at hp'; grind)) sa sw.1 sw.2 sd ?_)
  exact dCkX_L0 1 w d (RL_short sa) sw (RL_short sd) sa sd hp f0 (by refine⟨?_,?_,?_,?_⟩<;>grind)
 ·refine Or.inl ⟨dCkX_L1 a w d (RL_short sa) sw (RL_short sd) sa sd hp f0 (fun k=>h (by have:=k.1; grind)),?_⟩
  exact pCkX_L1 a w d (RL_short sa) sw (RL_short sd) sa sd hp f0 (fun k=>h (by have:=jcz k; grind))
theorem jkY{a d:Rat}{w:QC}(sa:ShortF a)(sw:ShortZ w)(sd:ShortF d)(hp:¬((((nm w) - (a*d)).num.sign)≤0))(f0:a.num.sign=0)(f1:¬(w.re.num.sign=0)):JB (rawF a) (rawQ w) (rawF d)∨JO a w.re w.im d:=by
 have a0:a=0:=jsgz f0
 have b0:w.re≠0:=fun h=>f1 (jsg0 h)
 by_cases h:w.re=1
 ·refine Or.inr (jo_mk ?_ sa sw.1 sw.2 sd ?_)
  ·rw[a0,h]; exact wheelB w.im d sw.2 sd (by have:=rsq w.im; grind)
  ·exact dCkY_L0 a w d (RL_short sa) sw (RL_short sd) sa sd hp f0 f1 (by rw[a0,h]; refine⟨?_,?_,?_,?_⟩<;>grind)
 ·refine Or.inl ⟨dCkY_L1 a w d (RL_short sa) sw (RL_short sd) sa sd hp f0 f1 (fun k=>h (by have:=k.2.1; grind)),?_⟩
  exact pCkY_L2 a w d (RL_short sa) sw (RL_short sd) sa sd hp f0 f1 (cmpR_z (by rw[a0]; grind)) (fun k=>h (by have:=congrArg QC.re k; simp only[wx135] at this; grind))
theorem jkZ{a d:Rat}{w:QC}(sa:ShortF a)(sw:ShortZ w)(sd:ShortF d)(hp:¬((((nm w) - (a*d)).num.sign)≤0))(f0:a.num.sign=0)(f1:w.re.num.sign=0):JB (rawF a) (rawQ w) (rawF d)∨JO a w.re w.im d:=by
 have a0:a=0:=jsgz f0
 have b0:w.re=0:=jsgz f1
 have hp':=jpos hp
 have e0:w.im≠0:=by intro h; unfold nm at hp'; rw[a0,b0,h,show(0:Rat)*0+0*0 - 0*d=0 from by grind] at hp'; exact absurd hp' (by decide)
 have f2:¬(w.im.num.sign=0):=jne e0
 by_cases h:w.im=1
 ·refine Or.inr (jo_mk ?_ sa sw.1 sw.2 sd ?_)
  ·rw[a0,b0,h]; exact wheelC d sd (by grind)
  ·exact dCkZ_L0 a w d (RL_short sa) sw (RL_short sd) sa sd hp f0 f1 f2 (by rw[a0,b0,h]; refine⟨?_,?_,?_,?_⟩<;>grind)
 ·refine Or.inl ⟨dCkZ_L1 a w d (RL_short sa) sw (RL_short sd) sa sd hp f0 f1 f2 (fun k=>h (by have:=k.2.2.1; grind)),?_⟩
  exact pCkZ_L2 a w d (RL_short sa) sw (RL_short sd) sa sd hp f0 f1 f2 (cmpR_z (by rw[a0]; grind)) (fun k=>h (by have:=congrArg QC.im k; simp only[wx136] at this; grind))
theorem jk_all(ya:RawF)(yb:RawG)(yc:RawF)(ba:ya.Sz)(bb:RawG.Sz yb)(bc:yc.Sz):JB ya yb yc∨∃ a b e d,ya=rawF a∧yb=rawQ ⟨b,e⟩∧yc=rawF d∧JO a b e d:=by
 by_cases hb:GOk yb.val
 ·obtain⟨w,rfl,sw⟩:=gOk_raw hb
  by_cases ha:FracOk ya.val
  ·obtain⟨a,rfl,sa⟩:=fOk_raw ha
   by_cases hc:FracOk yc.val
   ·obtain⟨d,rfl,sd⟩:=fOk_raw hc
    have fin:(JB (rawF a) (rawQ w) (rawF d)∨JO a w.re w.im d)→JB (rawF a) (rawQ w) (rawF d)∨∃ a' b e d',rawF a=rawF a'∧rawQ w=rawQ ⟨b,e⟩∧rawF d=rawF d'∧JO a' b e d' :=
     fun h=>h.imp id fun h=>⟨a,w.re,w.im,d,rfl,rfl,rfl,h⟩
    by_cases hp:((nm w) - (a*d)).num.sign≤0
    ·exact Or.inl ⟨dCkP a w d (RL_short sa) sw (RL_short sd) sa sd hp,pCkP a w d (RL_short sa) sw (RL_short sd) sa sd hp⟩
    ·by_cases f0:a.num.sign=0
     ·by_cases f1:w.re.num.sign=0
      ·exact fin (jkZ sa sw sd hp f0 f1)
      ·exact fin (jkY sa sw sd hp f0 f1)
     ·exact fin (jkX sa sw sd hp f0)
   ·exact Or.inl ⟨dCkC a w yc ((RL_short sa).mono (by omega)) sw sa hc,pCkC a w yc (RL_short sa) sw bc sa hc⟩
  ·exact Or.inl ⟨dCkA ya (rawQ w) yc ha,pCkA ya w yc ba sw bc ha⟩
 ·refine Or.inl ⟨?_,pCkB ya yb yc ba bb bc hb⟩
  by_cases ha:FracOk ya.val
  ·obtain⟨a,rfl,sa⟩:=fOk_raw ha
   exact dCkB a yb yc ((RL_short sa).mono (by omega)) sa hb
  ·exact dCkA ya yb yc ha
end Go.Proofs.YthklnbaddobieaaGreat
set_option linter.unusedSimpArgs false
namespace Tr
def allS(r1 r2 r3 r4:Option Nat):Bool:=r1.isSome && (bothS r2 r3 && r4.isSome)
def pk(c:Bool)(r:Option Nat):Nat:=if c then r.getD 0 else 0
def ck(c:Bool):Int:=if c then 0 else 6
theorem finW_pk{r:Option Nat}(h:FinO r)(c:Bool):FinW (pk c r):=finW_if h c
end Tr
namespace Go.Proofs.YthklnbaddobieaaGreat
open Go.RowKit Tr
def CF(a b e d:Rat):List GF:=rF a++rF b++rF e++rF d
theorem pOf(a b e d:Rat)(J:JO a b e d){r1 r2 r3 r4:Option Nat}(h1:FltA a r1)(h2:FltA b r2)(h3:FltA e r3)(h4:FltA d r4){c:Bool}(hc:c=allS r1 r2 r3 r4) :
  SpecC Tryz.prog true 30 [.row (CF a b e d)] (.tup [.row [gx (.float .f64 (pk c r1)),gx (.complex .f64 (pk c r2) (pk c r3)),gx (.float .f64 (pk c r4))],.c (gx (.int .i64 (ck c)))]):=by
 have f1:=nFloat_any a J.sa h1
 have f4:=nFloat_any d J.sd h4
 have cx:=nCplx ⟨b,e⟩ ⟨J.sb,J.se⟩ h2 h3
 have K:=J.kg
 rw[upG] at f1 f4
 subst hc
 cases r1 with
 | none =>
  exact ev_sp (L:=CF a b e d++[gx (.complex .f64 (cA r2 r3) (cB r2 r3)),gx (.int .i64 (cE r2 r3)),gx (.float .f64 (r4.getD 0)),gx (.int .i64 (ecd r4))]) tys_ok mixed
   [gs K [.row (syms 0 16)] (.r (.c (.lit (.int .i64 0)))),gs f1 [.row (syms 0 4)] (.tup [.c (.lit (.flt 0)),.c (.lit (.int .i64 6))]),gs cx [.row (syms 4 8)] (.tup [.c (.sym 16),.c (.sym 17)]),gs f4 [.row (syms 12 4)] (.tup [.c (.sym 18),.c (.sym 19)])] [] []
   Tryz.func30 eo30 200 [.row (syms 0 16)] (.tup [.row [.lit (.flt 0),.lit (.cpl 0 0),.lit (.flt 0)],.c (.lit (.int .i64 6))])
 | some x =>
  have half:bothS r2 r3=false→SpecC Tryz.prog true 65 [.row (rG ⟨b,e⟩)] (.tup [.c (gl (.cpl 0 0)),.c (gl (.int .i64 6))])→SpecC Tryz.prog true 30 [.row (CF a b e d)] (.tup [.row [gl (.flt 0),gl (.cpl 0 0),gl (.flt 0)],.c (gl (.int .i64 6))]):=fun _ cx =>
   ev_sp (L:=CF a b e d++[gx (.float .f64 x),gx (.float .f64 (r4.getD 0)),gx (.int .i64 (ecd r4))]) tys_ok mixed
    [gs K [.row (syms 0 16)] (.r (.c (.lit (.int .i64 0)))),gs f1 [.row (syms 0 4)] (.tup [.c (.sym 16),.c (.lit (.int .i64 0))]),gs cx [.row (syms 4 8)] (.tup [.c (.lit (.cpl 0 0)),.c (.lit (.int .i64 6))]),gs f4 [.row (syms 12 4)] (.tup [.c (.sym 17),.c (.sym 18)])] [] []
    Tryz.func30 eo30 200 [.row (syms 0 16)] (.tup [.row [.lit (.flt 0),.lit (.cpl 0 0),.lit (.flt 0)],.c (.lit (.int .i64 6))])
  cases r2 with
  | none=>exact half rfl cx
  | some y=>cases r3 with
   | none=>exact half rfl cx
   | some z=>cases r4 with
    | none =>
     exact ev_sp (L:=CF a b e d++[gx (.float .f64 x),gx (.complex .f64 y z)]) tys_ok mixed
      [gs K [.row (syms 0 16)] (.r (.c (.lit (.int .i64 0)))),gs f1 [.row (syms 0 4)] (.tup [.c (.sym 16),.c (.lit (.int .i64 0))]),gs cx [.row (syms 4 8)] (.tup [.c (.sym 17),.c (.lit (.int .i64 0))]),gs f4 [.row (syms 12 4)] (.tup [.c (.lit (.flt 0)),.c (.lit (.int .i64 6))])] [] []
      Tryz.func30 eo30 200 [.row (syms 0 16)] (.tup [.row [.lit (.flt 0),.lit (.cpl 0 0),.lit (.flt 0)],.c (.lit (.int .i64 6))])
    | some t =>
     exact ev_sp (L:=CF a b e d++[gx (.float .f64 x),gx (.complex .f64 y z),gx (.float .f64 t)]) tys_ok mixed
      [gs K [.row (syms 0 16)] (.r (.c (.lit (.int .i64 0)))),gs f1 [.row (syms 0 4)] (.tup [.c (.sym 16),.c (.lit (.int .i64 0))]),gs cx [.row (syms 4 8)] (.tup [.c (.sym 17),.c (.lit (.int .i64 0))]),gs f4 [.row (syms 12 4)] (.tup [.c (.sym 18),.c (.lit (.int .i64 0))])] [] []
      Tryz.func30 eo30 200 [.row (syms 0 16)] (.tup [.row [.sym 16,.sym 17,.sym 18],.c (.lit (.int .i64 0))])
theorem dOf(a b e d:Rat)(J:JO a b e d){r1 r2 r3 r4:Option Nat}(h1:FltA a r1)(h2:FltA b r2)(h3:FltA e r3)(h4:FltA d r4){c:Bool}(hc:c=allS r1 r2 r3 r4) :
  SpecC Tryz.prog true 31 [.row (CF a b e d)] (.tup [.row [gx (.float .f64 (pk c r1)),gx (.float .f64 (pk c r2)),gx (.float .f64 (pk c r3)),gx (.float .f64 (pk c r4))],.c (gx (.int .i64 (ck c)))]):=by
 have f1:=dFloat a J.sa h1
 have f4:=dFloat d J.sd h4
 have cx:=dCplx ⟨b,e⟩ ⟨J.sb,J.se⟩ h2 h3
 have K:=J.k0
 rw[docG] at f1 f4
 subst hc
 cases r1 with
 | none =>
  exact ev_sp (L:=CF a b e d++[gx (.float .f64 (cA r2 r3)),gx (.float .f64 (cB r2 r3)),gx (.bool (bothS r2 r3)),gx (.float .f64 (r4.getD 0)),gx (.bool r4.isSome)]) tys_ok mixed
   [gs K [.row (syms 0 16)] (.r (.c (.lit (.int .i64 0)))),gp 14 [.row (syms 0 4)] (.tup [.c (.lit (.flt 0)),.c (.lit (.bool false))]) eo14 f1 (by kernel_rfl) (by kernel_rfl),gs cx [.row (syms 4 8)] (.tup [.row [.sym 16,.sym 17],.c (.sym 18)]),gp 14 [.row (syms 12 4)] (.tup [.c (.sym 19),.c (.sym 20)]) eo14 f4 (by kernel_rfl) (by kernel_rfl)] [] []
   Tryz.func31 eo31 200 [.row (syms 0 16)] (.tup [.row [.lit (.flt 0),.lit (.flt 0),.lit (.flt 0),.lit (.flt 0)],.c (.lit (.int .i64 6))])
 | some x =>
  have half:bothS r2 r3=false→SpecC Tryz.prog false 67 [.row (rG ⟨b,e⟩)] (.tup [.row [gl (.flt 0),gl (.flt 0)],.c (gl (.bool false))])→SpecC Tryz.prog true 31 [.row (CF a b e d)] (.tup [.row [gl (.flt 0),gl (.flt 0),gl (.flt 0),gl (.flt 0)],.c (gl (.int .i64 6))]):=fun _ cx =>
   ev_sp (L:=CF a b e d++[gx (.float .f64 x),gx (.float .f64 (r4.getD 0)),gx (.bool r4.isSome)]) tys_ok mixed
    [gs K [.row (syms 0 16)] (.r (.c (.lit (.int .i64 0)))),gp 14 [.row (syms 0 4)] (.tup [.c (.sym 16),.c (.lit (.bool true))]) eo14 f1 (by kernel_rfl) (by kernel_rfl),gs cx [.row (syms 4 8)] (.tup [.row [.lit (.flt 0),.lit (.flt 0)],.c (.lit (.bool false))]),gp 14 [.row (syms 12 4)] (.tup [.c (.sym 17),.c (.sym 18)]) eo14 f4 (by kernel_rfl) (by kernel_rfl)] [] []
    Tryz.func31 eo31 200 [.row (syms 0 16)] (.tup [.row [.lit (.flt 0),.lit (.flt 0),.lit (.flt 0),.lit (.flt 0)],.c (.lit (.int .i64 6))])
  cases r2 with
  | none=>exact half rfl cx
  | some y=>cases r3 with
   | none=>exact half rfl cx
   | some z=>cases r4 with
    | none =>
     exact ev_sp (L:=CF a b e d++[gx (.float .f64 x),gx (.float .f64 y),gx (.float .f64 z)]) tys_ok mixed
      [gs K [.row (syms 0 16)] (.r (.c (.lit (.int .i64 0)))),gp 14 [.row (syms 0 4)] (.tup [.c (.sym 16),.c (.lit (.bool true))]) eo14 f1 (by kernel_rfl) (by kernel_rfl),gs cx [.row (syms 4 8)] (.tup [.row [.sym 17,.sym 18],.c (.lit (.bool true))]),gp 14 [.row (syms 12 4)] (.tup [.c (.lit (.flt 0)),.c (.lit (.bool false))]) eo14 f4 (by kernel_rfl) (by kernel_rfl)] [] []
      Tryz.func31 eo31 200 [.row (syms 0 16)] (.tup [.row [.lit (.flt 0),.lit (.flt 0),.lit (.flt 0),.lit (.flt 0)],.c (.lit (.int .i64 6))])
    | some t =>
     exact ev_sp (L:=CF a b e d++[gx (.float .f64 x),gx (.float .f64 y),gx (.float .f64 z),gx (.float .f64 t)]) tys_ok mixed
      [gs K [.row (syms 0 16)] (.r (.c (.lit (.int .i64 0)))),gp 14 [.row (syms 0 4)] (.tup [.c (.sym 16),.c (.lit (.bool true))]) eo14 f1 (by kernel_rfl) (by kernel_rfl),gs cx [.row (syms 4 8)] (.tup [.row [.sym 17,.sym 18],.c (.lit (.bool true))]),gp 14 [.row (syms 12 4)] (.tup [.c (.sym 19),.c (.lit (.bool true))]) eo14 f4 (by kernel_rfl) (by kernel_rfl)] [] []
      Tryz.func31 eo31 200 [.row (syms 0 16)] (.tup [.row [.sym 16,.sym 17,.sym 18,.sym 19],.c (.lit (.int .i64 0))])
theorem pOf_bad(ya:RawF)(yb:RawG)(yc:RawF)(K:jKp ya yb yc):SpecC Tryz.prog true 30 [.row (ya.cells++yb.cells++yc.cells)] (.tup [.row [gl (.flt 0),gl (.cpl 0 0),gl (.flt 0)],.c (gl (.int .i64 2))]) :=
 ev_sp (L:=ya.cells++yb.cells++yc.cells) tys_ok mixed [gs K [.row (syms 0 16)] (.r (.c (.lit (.int .i64 2))))] [] []
  Tryz.func30 eo30 200 [.row (syms 0 16)] (.tup [.row [.lit (.flt 0),.lit (.cpl 0 0),.lit (.flt 0)],.c (.lit (.int .i64 2))])
theorem dOf_bad(ya:RawF)(yb:RawG)(yc:RawF)(K:jK2 ya yb yc):SpecC Tryz.prog true 31 [.row (ya.cells++yb.cells++yc.cells)] (.tup [.row [gl (.flt 0),gl (.flt 0),gl (.flt 0),gl (.flt 0)],.c (gl (.int .i64 2))]) :=
 ev_sp (L:=ya.cells++yb.cells++yc.cells) tys_ok mixed [gs K [.row (syms 0 16)] (.r (.c (.lit (.int .i64 2))))] [] []
  Tryz.func31 eo31 200 [.row (syms 0 16)] (.tup [.row [.lit (.flt 0),.lit (.flt 0),.lit (.flt 0),.lit (.flt 0)],.c (.lit (.int .i64 2))])
theorem dLike12(x y z t:Nat)(hx:FinW x)(hy:FinW y)(hz:FinW z)(ht:FinW t):PureC Tryz.prog 32 [.agg #[.float .f64 x,.float .f64 y,.float .f64 z,.float .f64 t],.agg #[.float .f64 x,.float .f64 y,.float .f64 z,.float .f64 t]] (.bool true) :=
  ev_pure (hp:=false) (L:=[gx (.float .f64 x),gx (.float .f64 y),gx (.float .f64 z),gx (.float .f64 t)]) tys_ok mixed
    [gp 76 [.c (.sym 0),.c (.sym 0)] (.r (.c (.lit (.bool true)))) eo76 (dLike x hx) (by kernel_rfl) (by kernel_rfl),gp 68 [.row [.sym 1,.sym 2],.row [.sym 1,.sym 2]] (.r (.c (.lit (.bool true)))) eo68 (dSame y z hy hz) (by kernel_rfl) (by kernel_rfl),gp 76 [.c (.sym 3),.c (.sym 3)] (.r (.c (.lit (.bool true)))) eo76 (dLike t ht) (by kernel_rfl) (by kernel_rfl)] [] []
    Tryz.func32 100 [.row (syms 0 4),.row (syms 0 4)] (.r (.c (.lit (.bool true)))) (by kernel_rfl) (by kernel_rfl) (by kernel_rfl)
theorem lNum12(x y:Nat):PureC Tryz.prog 77 [.complex .f64 x y] (.agg #[.float .f64 x,.float .f64 y]):=fun w=>by
 go_enter Tryz.func77,Tryz.ntmps77
 go_wp2
 refine bodyPost_ret (v:=.agg #[.float .f64 x,.float .f64 y]) (by simp[results,Tryz.results77,go_sem]) rfl ⟨rfl,?_⟩
 exact br.alloc (Nat.le_refl _) _
theorem lRing(x y z t:Nat):PureC Tryz.prog 33 [.agg #[.float .f64 x,.complex .f64 y z,.float .f64 t]] (.agg #[.float .f64 x,.float .f64 y,.float .f64 z,.float .f64 t]) :=
 ev_pure (hp:=false) (L:=[gx (.float .f64 x),gx (.complex .f64 y z),gx (.float .f64 t),gx (.float .f64 y),gx (.float .f64 z)]) tys_ok mixed
  [gp 77 [.c (.sym 1)] (.r (.row [.sym 3,.sym 4])) eo77 (lNum12 y z) (by kernel_rfl) (by kernel_rfl)] [] []
  Tryz.func33 100 [.row (syms 0 3)] (.r (.row [.sym 0,.sym 3,.sym 4,.sym 2])) (by kernel_rfl) (by kernel_rfl) (by kernel_rfl)
end Go.Proofs.YthklnbaddobieaaGreat
