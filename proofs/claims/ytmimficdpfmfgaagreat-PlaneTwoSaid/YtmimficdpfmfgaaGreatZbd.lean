/- Laws for the walk. -/
import Derived.Test.YtmimficdpfmfgaaGreatZbc
set_option linter.unusedVariables false
set_option maxHeartbeats 4000000
set_option linter.unusedSimpArgs false
namespace Go.Proofs.YtmimficdpfmfgaaGreat
open Go.RowKit Tr
open Classical
theorem eMul0(x y:Rat)(b_x:RL x 2000000000)(b_y:RL y 2000000000) :Qah Tryz.prog true 178 [.c (gro x),.c (gro y)] (.r (.c (gr (x*y)))) :=
  Qav (L := [[gro x],[gro y],[gr x],[gr y],[gr (x * y)]].flatten) tys_ok mixed
     [gs (pErat x) [.c (.sym 0)] (.r (.c (.sym 2))),gs (pErat y) [.c (.sym 1)] (.r (.c (.sym 3))),
      gvMul x y b_x b_y (by decide) 1 (.c (.sym 2)) (.c (.sym 3)) (.sym 4)]
     [] [] Tryz.func178 eo178 2000 [.c (.sym 0),.c (.sym 1)] (.r (.c (.sym 4)))
theorem Qbn(x:QC)(b_x:ZL x 2000000000) :Qah Tryz.prog true 189 [.row (cn x)] (.r (.c (gr ((x.re*x.re)+(x.im*x.im))))) :=
  Qav (L := [cn x,[gr (x.re * x.re)],[gr (x.im * x.im)],[gr ((x.re * x.re) + (x.im * x.im))]].flatten) tys_ok mixed
     [gs (eMul0 x.re x.re (b_x.1.mono (by omega)) (b_x.1.mono (by omega))) [.c (.sym 0),.c (.sym 0)] (.r (.c (.sym 2))),gs (eMul0 x.im x.im (b_x.2.mono (by omega)) (b_x.2.mono (by omega))) [.c (.sym 1),.c (.sym 1)] (.r (.c (.sym 3))),
      gvAdd (x.re*x.re) (x.im*x.im) (RL_mul b_x.1 b_x.1) (RL_mul b_x.2 b_x.2) (by decide) 2 (.c (.sym 2)) (.c (.sym 3)) (.sym 4)]
     [] [] Tryz.func189 eo189 2000 [sy [0,1]] (.r (.c (.sym 4)))
theorem eScale0(x:QC)(q:Rat)(b_x:ZL x 2000000000)(b_q:RL q 2000000000) :Qah Tryz.prog true 80 [.row (cn x),.c (gr q)] (.r (.row (cq (⟨x.re*q,x.im*q⟩:QC)))) :=
  Qav (L := [cn x,[gr q],[gr (x.re * q)],[gr (x.im * q)]].flatten) tys_ok mixed
     [gs (argOR (eMul0 x.re q (b_x.1.mono (by omega)) (b_q.mono (by omega)))) [.c (.sym 0),.c (.sym 2)] (.r (.c (.sym 3))),gs (argOR (eMul0 x.im q (b_x.2.mono (by omega)) (b_q.mono (by omega)))) [.c (.sym 1),.c (.sym 2)] (.r (.c (.sym 4)))]
     [] [] Tryz.func80 eo80 2000 [sy [0,1],.c (.sym 2)] (.r (sy [3,4]))
theorem pNScale(x:QC)(q:Rat)(b_x:ZL x 2000000000)(b_q:RL q 2000000000):Qah Tryz.prog true 80 [N1 x,.c (gr q)] (.r (N1 (⟨x.re*q,x.im*q⟩:QC))):=cn_res (eScale0 x q b_x b_q)
theorem Qaz(x:QC)(b_x:ZL x 2000000000) :Qah Tryz.prog true 188 [.row (cn x)] (.tup [.c (gr x.re),.c (gr x.im)]) :=
  Qav (L := [cn x,[gr x.re],[gr x.im]].flatten) tys_ok mixed
     [gs (pErat x.re) [.c (.sym 0)] (.r (.c (.sym 2))),gs (pErat x.im) [.c (.sym 1)] (.r (.c (.sym 3)))]
     [] [] Tryz.func188 eo188 2000 [sy [0,1]] (.tup [.c (.sym 2),.c (.sym 3)])
theorem eParts0_b0_1(x:QC){k:Nat}(b_x:ZL x k):RL x.re k:=(b_x.1).mono (by omega)
theorem Qak(x:QC){k:Nat}(b_x:ZL x k):RL x.im k:=(b_x.2).mono (by omega)
theorem eNeg0(x:QC)(b_x:ZL x 2000000000) :Qah Tryz.prog true 190 [.row (cn x)] (.r (.row (cq (ng x)))) :=
  Qav (L := [cn x,[gr x.re],[gr (-x.re)],[gr x.im],[gr (-x.im)]].flatten) tys_ok mixed
     [gs (pErat x.re) [.c (.sym 0)] (.r (.c (.sym 2))),
      gvNeg x.re (b_x.1.mono (by omega)) 2 (.c (.sym 2)) (.sym 3),gs (pErat x.im) [.c (.sym 1)] (.r (.c (.sym 4))),
      gvNeg x.im (b_x.2.mono (by omega)) 7 (.c (.sym 4)) (.sym 5)]
     [] [] Tryz.func190 eo190 2000 [sy [0,1]] (.r (sy [3,5]))
theorem pNNeg(x:QC)(b_x:ZL x 2000000000):Qah Tryz.prog true 190 [N1 x] (.r (N1 ((⟨0,0⟩:QC) - x))):=by
 rw[←ng_eq]; exact cn_res (eNeg0 x b_x)
theorem pl_add(x y:Rat)(b_x:RL x 2000000000)(b_y:RL y 2000000000) :Qah Tryz.prog true 151 [.c (gr x),.c (gr y)] (.r (.c (gr (x+y)))) :=
  Qav (L := [[gr x],[gr y],[gr (x + y)]].flatten) tys_ok mixed
     [gvAdd x y b_x b_y (by decide) 1 (.c (.sym 0)) (.c (.sym 1)) (.sym 2)]
     [] [] Tryz.func151 eo151 2000 [.c (.sym 0),.c (.sym 1)] (.r (.c (.sym 2)))
theorem Qcz(x y:Rat){k:Nat}(b_x:RL x k)(b_y:RL y k):RL (x+y) (2*k+1):=(RL_add b_x b_y).mono (by omega)
theorem Qay(x y:Rat)(b_x:RL x 2000000000)(b_y:RL y 2000000000) :Qah Tryz.prog true 130 [.c (gr x),.c (gr y)] (.r (.c (gr (x - y)))) :=
  Qav (L := [[gr x],[gr y],[gr (x - y)]].flatten) tys_ok mixed
     [gvSub x y b_x b_y (by decide) 1 (.c (.sym 0)) (.c (.sym 1)) (.sym 2)]
     [] [] Tryz.func130 eo130 2000 [.c (.sym 0),.c (.sym 1)] (.r (.c (.sym 2)))
theorem Qaj(x y:Rat){k:Nat}(b_x:RL x k)(b_y:RL y k):RL (x - y) (2*k+1):=(RL_sub b_x b_y).mono (by omega)
theorem Qao(x y:Rat)(b_x:RL x 2000000000)(b_y:RL y 2000000000) :Qah Tryz.prog true 131 [.c (gr x),.c (gr y)] (.r (.c (gr (x*y)))) :=
  Qav (L := [[gr x],[gr y],[gr (x * y)]].flatten) tys_ok mixed
     [gvMul x y b_x b_y (by decide) 1 (.c (.sym 0)) (.c (.sym 1)) (.sym 2)]
     [] [] Tryz.func131 eo131 2000 [.c (.sym 0),.c (.sym 1)] (.r (.c (.sym 2)))
theorem Qac(x y:Rat){k:Nat}(b_x:RL x k)(b_y:RL y k):RL (x*y) (2*k+0):=(RL_mul b_x b_y).mono (by omega)
theorem Qbe(x y:Rat)(b_x:RL x 2000000000)(b_y:RL y 2000000000)(h0:¬(y=0)):Qah Tryz.prog true 127 [.c (gr x),.c (gr y)] (.r (.c (gr (x / y)))) :=
  Qav (L := [[gr x],[gr y],[gr (x / y)]].flatten) tys_ok mixed
     [gvQuo x y h0 b_x b_y (by decide) 1 (.c (.sym 0)) (.c (.sym 1)) (.sym 2)]
     [] [] Tryz.func127 eo127 2000 [.c (.sym 0),.c (.sym 1)] (.r (.c (.sym 2)))
theorem Qad(x y:Rat){k:Nat}(b_x:RL x k)(b_y:RL y k)(h0:¬(y=0)):RL (x / y) (2*k+0):=(Qeb h0 b_x b_y).mono (by omega)
theorem pl_num2  :Qah Tryz.prog true 81 [.c (gl (.int .i64 2))] (.r (.c (gr (2:Rat)))) :=
  Qav (L := [[gr (2 : Rat)]].flatten) tys_ok mixed
     [gs (Qbb 2 1 (by decide) (by decide) (by decide) (by decide) (by decide)) [.c (.lit (.int .i64 2)),.c (.lit (.int .i64 1))] (.r (.c (.sym 0)))]
     [] [] Tryz.func81 eo81 2000 [.c (.lit (.int .i64 2))] (.r (.c (.sym 0)))
theorem pl_num2_b0_1 :RL (2:Rat) 2:=((RL_i64 2 (by decide) (by decide))).mono (by omega)
theorem pl_num1  :Qah Tryz.prog true 81 [.c (gl (.int .i64 1))] (.r (.c (gr (1:Rat)))) :=
  Qav (L := [[gr (1 : Rat)]].flatten) tys_ok mixed
     [gs (Qbb 1 1 (by decide) (by decide) (by decide) (by decide) (by decide)) [.c (.lit (.int .i64 1)),.c (.lit (.int .i64 1))] (.r (.c (.sym 0)))]
     [] [] Tryz.func81 eo81 2000 [.c (.lit (.int .i64 1))] (.r (.c (.sym 0)))
def wp1(f0:Rat)(f3:Rat)(g0:Rat)(g3:Rat):Rat:=((f0*g3)+(f3*g0)) / (2:Rat)
theorem wp1_b0(f0:Rat)(f3:Rat)(g0:Rat)(g3:Rat){k:Nat}(b_f0:RL f0 k)(b_f3:RL f3 k)(b_g0:RL g0 k)(b_g3:RL g3 k):RL (wp1 f0 f3 g0 g3) (8*k+4):=(Qad ((f0*g3)+(f3*g0)) (2:Rat) ((Qcz (f0*g3) (f3*g0) (Qac f0 g3 b_f0 b_g3) (Qac f3 g0 b_f3 b_g0)).upby 1) (pl_num2_b0_1.mono (by omega)) (by decide +kernel)).mono (by omega)
def wp2(f0:Rat)(f1:Rat)(f2:Rat)(f3:Rat)(g0:Rat)(g1:Rat)(g2:Rat)(g3:Rat):Rat:=((f1*g1)+(f2*g2)) - (wp1 f0 f3 g0 g3)
theorem pl_prod(f0 f1 f2 f3 g0 g1 g2 g3:Rat)(b_f0:RL f0 200000000)(b_f1:RL f1 200000000)(b_f2:RL f2 200000000)(b_f3:RL f3 200000000)(b_g0:RL g0 200000000)(b_g1:RL g1 200000000)(b_g2:RL g2 200000000)(b_g3:RL g3 200000000) :Qah Tryz.prog true 98 [.row (cq (⟨f0,f1⟩:QC)++cq (⟨f2,f3⟩:QC)),.row (cq (⟨g0,g1⟩:QC)++cq (⟨g2,g3⟩:QC))] (.r (.c (gr (wp2 f0 f1 f2 f3 g0 g1 g2 g3)))) :=
  Qav (L := [[gr f0],[gr f1],[gr f2],[gr f3],[gr g0],[gr g1],[gr g2],[gr g3],[gr (f1 * g1)],[gr (f2 * g2)],[gr ((f1 * g1) + (f2 * g2))],[gr (f0 * g3)],[gr (f3 * g0)],[gr ((f0 * g3) + (f3 * g0))],[gr (2 : Rat)],[gr (wp1 f0 f3 g0 g3)],[gr (wp2 f0 f1 f2 f3 g0 g1 g2 g3)]].flatten) tys_ok mixed
     [gs (Qao f1 g1 (b_f1.mono (by omega)) (b_g1.mono (by omega))) [.c (.sym 1),.c (.sym 5)] (.r (.c (.sym 8))),gs (Qao f2 g2 (b_f2.mono (by omega)) (b_g2.mono (by omega))) [.c (.sym 2),.c (.sym 6)] (.r (.c (.sym 9))),gs (pl_add (f1*g1) (f2*g2) ((Qac f1 g1 b_f1 b_g1).mono (by omega)) ((Qac f2 g2 b_f2 b_g2).mono (by omega))) [.c (.sym 8),.c (.sym 9)] (.r (.c (.sym 10))),gs (Qao f0 g3 (b_f0.mono (by omega)) (b_g3.mono (by omega))) [.c (.sym 0),.c (.sym 7)] (.r (.c (.sym 11))),gs (Qao f3 g0 (b_f3.mono (by omega)) (b_g0.mono (by omega))) [.c (.sym 3),.c (.sym 4)] (.r (.c (.sym 12))),gs (pl_add (f0*g3) (f3*g0) ((Qac f0 g3 b_f0 b_g3).mono (by omega)) ((Qac f3 g0 b_f3 b_g0).mono (by omega))) [.c (.sym 11),.c (.sym 12)] (.r (.c (.sym 13))),gs (pl_num2) [.c (.lit (.int .i64 2))] (.r (.c (.sym 14))),gs (Qbe ((f0*g3)+(f3*g0)) (2:Rat) ((Qcz (f0*g3) (f3*g0) (Qac f0 g3 b_f0 b_g3) (Qac f3 g0 b_f3 b_g0)).mono (by omega)) (pl_num2_b0_1.mono (by omega)) (by decide +kernel)) [.c (.sym 13),.c (.sym 14)] (.r (.c (.sym 15))),gs (Qay ((f1*g1)+(f2*g2)) (wp1 f0 f3 g0 g3) ((Qcz (f1*g1) (f2*g2) (Qac f1 g1 b_f1 b_g1) (Qac f2 g2 b_f2 b_g2)).mono (by omega)) ((wp1_b0 f0 f3 g0 g3 b_f0 b_f3 b_g0 b_g3).mono (by omega))) [.c (.sym 10),.c (.sym 15)] (.r (.c (.sym 16)))]
     [] [] Tryz.func98 eo98 2000 [.row (Qab 0 4),.row (Qab 4 4)] (.r (.c (.sym 16)))
theorem Qcy(z:QC)(b_z:ZL z 200000000) :Qah Tryz.prog true 102 [.row ([gro z.re,gro z.im])] (.r (.row ([gr (1:Rat),gr (-z.re),gr z.im,gr ((z.re*z.re)+(z.im*z.im))]))) :=
  Qav (L := [cn z,[gr z.re],[gr z.im],[gr (1 : Rat)],[gr (-z.re)],[gr ((z.re * z.re) + (z.im * z.im))]].flatten) tys_ok mixed
     [gs (Qaz z (b_z.mono (by omega))) [sy [0,1]] (.tup [.c (.sym 2),.c (.sym 3)]),gs (pl_num1) [.c (.lit (.int .i64 1))] (.r (.c (.sym 4))),
      gvNeg z.re ((eParts0_b0_1 z b_z).mono (by omega)) 10 (.c (.sym 2)) (.sym 5),gs (Qbn z (b_z.mono (by omega))) [sy [0,1]] (.r (.c (.sym 6)))]
     [] [] Tryz.func102 eo102 2000 [sy [0,1]] (.r (.row [.sym 4,.sym 5,.sym 3,.sym 6]))
end Go.Proofs.YtmimficdpfmfgaaGreat
