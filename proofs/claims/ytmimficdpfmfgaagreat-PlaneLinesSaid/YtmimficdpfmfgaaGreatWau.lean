/- Laws. -/
import Derived.Test.YtmimficdpfmfgaaGreatWat
set_option linter.all false
set_option maxHeartbeats 4000000
set_option maxRecDepth 100000
namespace Go.Proofs.YtmimficdpfmfgaaGreat
open Go.RowKit Tr Proofs.Tryz
open Classical
def Qgz(x y:Rat)(b_x:RL x 2000000000)(b_y:RL y 2000000000) :Qbj prog true 178 [.c (gro x),.c (gro y)] (.r (.c (gr (x*y)))) :=
  Qco (L := [[gro x,gro y,gr x,gr y,gr (x * y)]].flatten) Qae Qai
     [gs (Klu x) [.c (.sym 0)] (.r (.c (.sym 2))),gs (Klu y) [.c (.sym 1)] (.r (.c (.sym 3))),
      Uos x y b_x b_y (by decide) 1 (.c (.sym 2)) (.c (.sym 3)) (.sym 4)]
     [] [] func178 eo178 2000 [.c (.sym 0),.c (.sym 1)] (.r (.c (.sym 4)))
def Qee(x:QC)(b_x:ZL x 2000000000) :Qbj prog true 189 [.row (cn x)] (.r (.c (gr ((x.re*x.re)+(x.im*x.im))))) :=
  Qco (L := [cn x,[gr (x.re * x.re),gr (x.im * x.im),gr ((x.re * x.re) + (x.im * x.im))]].flatten) Qae Qai
     [gs (Qgz x.re x.re (b_x.1.mono (by omega)) (b_x.1.mono (by omega))) [.c (.sym 0),.c (.sym 0)] (.r (.c (.sym 2))),gs (Qgz x.im x.im (b_x.2.mono (by omega)) (b_x.2.mono (by omega))) [.c (.sym 1),.c (.sym 1)] (.r (.c (.sym 3))),
      Uor (x.re*x.re) (x.im*x.im) (Qad b_x.1 b_x.1) (Qad b_x.2 b_x.2) (by decide) 2 (.c (.sym 2)) (.c (.sym 3)) (.sym 4)]
     [] [] func189 eo189 2000 [sy [0,1]] (.r (.c (.sym 4)))
def Ugh(x:QC)(q:Rat)(b_x:ZL x 2000000000)(b_q:RL q 2000000000) :Qbj prog true 80 [.row (cn x),.c (gr q)] (.r (.row (cq (⟨x.re*q,x.im*q⟩:QC)))) :=
  Qco (L := [cn x,[gr q,gr (x.re * q),gr (x.im * q)]].flatten) Qae Qai
     [gs (Ump (Qgz x.re q (b_x.1.mono (by omega)) (b_q.mono (by omega)))) [.c (.sym 0),.c (.sym 2)] (.r (.c (.sym 3))),gs (Ump (Qgz x.im q (b_x.2.mono (by omega)) (b_q.mono (by omega)))) [.c (.sym 1),.c (.sym 2)] (.r (.c (.sym 4)))]
     [] [] func80 eo80 2000 [sy [0,1],.c (.sym 2)] (.r (sy [3,4]))
def Qdh(x:QC)(q:Rat)(b_x:ZL x 2000000000)(b_q:RL q 2000000000):Qbj prog true 80 [N1 x,.c (gr q)] (.r (N1 (⟨x.re*q,x.im*q⟩:QC))):=Ucp (Ugh x q b_x b_q)
def Qcr(x:QC)(b_x:ZL x 2000000000) :Qbj prog true 188 [.row (cn x)] (.tup [.c (gr x.re),.c (gr x.im)]) :=
  Qco (L := [cn x,[gr x.re,gr x.im]].flatten) Qae Qai
     [gs (Klu x.re) [.c (.sym 0)] (.r (.c (.sym 2))),gs (Klu x.im) [.c (.sym 1)] (.r (.c (.sym 3)))]
     [] [] func188 eo188 2000 [sy [0,1]] (.tup [.c (.sym 2),.c (.sym 3)])
def Qbo(x:QC){k:Nat}(b_x:ZL x k):RL x.re k:=(b_x.1).mono (by omega)
def Qar(x:QC){k:Nat}(b_x:ZL x k):RL x.im k:=(b_x.2).mono (by omega)
def Uvh(x:QC)(b_x:ZL x 2000000000) :Qbj prog true 190 [.row (cn x)] (.r (.row (cq (ng x)))) :=
  Qco (L := [cn x,[gr x.re,gr (-x.re),gr x.im,gr (-x.im)]].flatten) Qae Qai
     [gs (Klu x.re) [.c (.sym 0)] (.r (.c (.sym 2))),
      Uhb x.re (b_x.1.mono (by omega)) 2 (.c (.sym 2)) (.sym 3),gs (Klu x.im) [.c (.sym 1)] (.r (.c (.sym 4))),
      Uhb x.im (b_x.2.mono (by omega)) 7 (.c (.sym 4)) (.sym 5)]
     [] [] func190 eo190 2000 [sy [0,1]] (.r (sy [3,5]))
def Kbk(x:QC)(b_x:ZL x 2000000000):Qbj prog true 190 [N1 x] (.r (N1 ((⟨0,0⟩:QC)-x))):=by
 rw[<-Kzj];exact Ucp (Uvh x b_x)
def Qkk(x y:Rat)(b_x:RL x 2000000000)(b_y:RL y 2000000000) :Qbj prog true 151 [.c (gr x),.c (gr y)] (.r (.c (gr (x+y)))) :=
  Qco (L := [[gr x,gr y,gr (x + y)]].flatten) Qae Qai
     [Uor x y b_x b_y (by decide) 1 (.c (.sym 0)) (.c (.sym 1)) (.sym 2)]
     [] [] func151 eo151 2000 [.c (.sym 0),.c (.sym 1)] (.r (.c (.sym 2)))
def Qbv(x y:Rat){k:Nat}(b_x:RL x k)(b_y:RL y k):RL (x+y) (2*k+1):=(Qaz b_x b_y).mono (by omega)
def Qcw(x y:Rat)(b_x:RL x 2000000000)(b_y:RL y 2000000000) :Qbj prog true 130 [.c (gr x),.c (gr y)] (.r (.c (gr (x-y)))) :=
  Qco (L := [[gr x,gr y,gr (x-y)]].flatten) Qae Qai
     [Kas x y b_x b_y (by decide) 1 (.c (.sym 0)) (.c (.sym 1)) (.sym 2)]
     [] [] func130 eo130 2000 [.c (.sym 0),.c (.sym 1)] (.r (.c (.sym 2)))
def Qba(x y:Rat){k:Nat}(b_x:RL x k)(b_y:RL y k):RL (x-y) (2*k+1):=(Qcb b_x b_y).mono (by omega)
def Qax(x y:Rat)(b_x:RL x 2000000000)(b_y:RL y 2000000000) :Qbj prog true 131 [.c (gr x),.c (gr y)] (.r (.c (gr (x*y)))) :=
  Qco (L := [[gr x,gr y,gr (x * y)]].flatten) Qae Qai
     [Uos x y b_x b_y (by decide) 1 (.c (.sym 0)) (.c (.sym 1)) (.sym 2)]
     [] [] func131 eo131 2000 [.c (.sym 0),.c (.sym 1)] (.r (.c (.sym 2)))
def Qaa(x y:Rat){k:Nat}(b_x:RL x k)(b_y:RL y k):RL (x*y) (2*k+0):=(Qad b_x b_y).mono (by omega)
def Qcc(x y:Rat)(b_x:RL x 2000000000)(b_y:RL y 2000000000)(h0:¬(y=0)):Qbj prog true 127 [.c (gr x),.c (gr y)] (.r (.c (gr (x/y)))) :=
  Qco (L := [[gr x,gr y,gr (x/y)]].flatten) Qae Qai
     [Uwx x y h0 b_x b_y (by decide) 1 (.c (.sym 0)) (.c (.sym 1)) (.sym 2)]
     [] [] func127 eo127 2000 [.c (.sym 0),.c (.sym 1)] (.r (.c (.sym 2)))
def Qaf(x y:Rat){k:Nat}(b_x:RL x k)(b_y:RL y k)(h0:¬(y=0)):RL (x/y) (2*k+0):=(Qei h0 b_x b_y).mono (by omega)
def Uil  :Qbj prog true 81 [.c (gl (.int .i64 2))] (.r (.c (gr (2:Rat)))) :=
  Qco (L := [[gr (2 : Rat)]].flatten) Qae Qai
     [gs (Ken 2 1 (by decide) (by decide) (by decide) (by decide) (by decide)) [.c (.lit (.int .i64 2)),.c (.lit (.int .i64 1))] (.r (.c (.sym 0)))]
     [] [] func81 eo81 2000 [.c (.lit (.int .i64 2))] (.r (.c (.sym 0)))
def Qqc :RL (2:Rat) 2:=((Qml 2 (by decide) (by decide))).mono (by omega)
def Uik  :Qbj prog true 81 [.c (gl (.int .i64 1))] (.r (.c (gr (1:Rat)))) :=
  Qco (L := [[gr (1 : Rat)]].flatten) Qae Qai
     [gs (Ken 1 1 (by decide) (by decide) (by decide) (by decide) (by decide)) [.c (.lit (.int .i64 1)),.c (.lit (.int .i64 1))] (.r (.c (.sym 0)))]
     [] [] func81 eo81 2000 [.c (.lit (.int .i64 1))] (.r (.c (.sym 0)))
def wp1(f0:Rat)(f3:Rat)(g0:Rat)(g3:Rat):Rat:=((f0*g3)+(f3*g0))/(2:Rat)
def Ueg(f0:Rat)(f3:Rat)(g0:Rat)(g3:Rat){k:Nat}(b_f0:RL f0 k)(b_f3:RL f3 k)(b_g0:RL g0 k)(b_g3:RL g3 k):RL (wp1 f0 f3 g0 g3) (8*k+4):=(Qaf ((f0*g3)+(f3*g0)) (2:Rat) ((Qbv (f0*g3) (f3*g0) (Qaa f0 g3 b_f0 b_g3) (Qaa f3 g0 b_f3 b_g0)).upby 1) (Qqc.mono (by omega)) dK).mono (by omega)
def wp2(f0:Rat)(f1:Rat)(f2:Rat)(f3:Rat)(g0:Rat)(g1:Rat)(g2:Rat)(g3:Rat):Rat:=((f1*g1)+(f2*g2))-(wp1 f0 f3 g0 g3)
def Urd(f0:Rat)(f1:Rat)(f2:Rat)(f3:Rat)(g0:Rat)(g1:Rat)(g2:Rat)(g3:Rat){k:Nat}(b_f0:RL f0 k)(b_f1:RL f1 k)(b_f2:RL f2 k)(b_f3:RL f3 k)(b_g0:RL g0 k)(b_g1:RL g1 k)(b_g2:RL g2 k)(b_g3:RL g3 k):RL (wp2 f0 f1 f2 f3 g0 g1 g2 g3) (16*k+9):=(Qba ((f1*g1)+(f2*g2)) (wp1 f0 f3 g0 g3) ((Qbv (f1*g1) (f2*g2) (Qaa f1 g1 b_f1 b_g1) (Qaa f2 g2 b_f2 b_g2)).mono (by omega)) (Ueg f0 f3 g0 g3 b_f0 b_f3 b_g0 b_g3)).mono (by omega)
def Qhf(z:QC)(b_z:ZL z 200000000) :Qbj prog true 102 [.row ([gro z.re,gro z.im])] (.r (.row ([gr (1:Rat),gr (-z.re),gr z.im,gr ((z.re*z.re)+(z.im*z.im))]))) :=
  Qco (L := [cn z,[gr z.re,gr z.im,gr (1 : Rat),gr (-z.re),gr ((z.re * z.re) + (z.im * z.im))]].flatten) Qae Qai
     [gs (Qcr z (b_z.mono (by omega))) [sy [0,1]] (.tup [.c (.sym 2),.c (.sym 3)]),gs (Uik) [.c (.lit (.int .i64 1))] (.r (.c (.sym 4))),
      Uhb z.re ((Qbo z b_z).mono (by omega)) 10 (.c (.sym 2)) (.sym 5),gs (Qee z (b_z.mono (by omega))) [sy [0,1]] (.r (.c (.sym 6)))]
     [] [] func102 eo102 2000 [sy [0,1]] (.r (.row [.sym 4,.sym 5,.sym 3,.sym 6]))
