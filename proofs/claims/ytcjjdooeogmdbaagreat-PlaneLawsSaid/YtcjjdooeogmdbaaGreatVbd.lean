/- Laws. -/
import Derived.Test.YtcjjdooeogmdbaaGreatVbc
set_option linter.all false
set_option maxHeartbeats 4000000
set_option maxRecDepth 100000
namespace Go.Proofs.YtcjjdooeogmdbaaGreat
open Go.RowKit Tr Proofs.Tryz
open Classical
def Qmn(x y:Rat)(b_x:RL x 2000000000)(b_y:RL y 2000000000) :Qbx prog true 196 [.c (gro x),.c (gro y)] (.r (.c (gr (x*y)))) :=
  Qft (L := [[gro x,gro y,gr x,gr y,gr (x * y)]].flatten) Qai Qap
     [gs (Knt x) [.c (.sym 0)] (.r (.c (.sym 2))),gs (Knt y) [.c (.sym 1)] (.r (.c (.sym 3))),
      Kyz x y b_x b_y (by decide) 1 (.c (.sym 2)) (.c (.sym 3)) (.sym 4)]
     [] [] func196 eo196 2000 [.c (.sym 0),.c (.sym 1)] (.r (.c (.sym 4)))
def Qbw(x:QC)(b_x:ZL x 2000000000) :Qbx prog true 112 [.row (cn x)] (.r (.c (gr ((x.re*x.re)+(x.im*x.im))))) :=
  Qft (L := [cn x,[gr (x.re * x.re),gr (x.im * x.im),gr ((x.re * x.re) + (x.im * x.im))]].flatten) Qai Qap
     [gs (Qmn x.re x.re (b_x.1.mono (by omega)) (b_x.1.mono (by omega))) [.c (.sym 0),.c (.sym 0)] (.r (.c (.sym 2))),gs (Qmn x.im x.im (b_x.2.mono (by omega)) (b_x.2.mono (by omega))) [.c (.sym 1),.c (.sym 1)] (.r (.c (.sym 3))),
      Kft (x.re*x.re) (x.im*x.im) (Qam b_x.1 b_x.1) (Qam b_x.2 b_x.2) (by decide) 2 (.c (.sym 2)) (.c (.sym 3)) (.sym 4)]
     [] [] func112 eo112 2000 [sy [0,1]] (.r (.c (.sym 4)))
def Ufg(x:QC)(q:Rat)(b_x:ZL x 2000000000)(b_q:RL q 2000000000) :Qbx prog true 118 [.row (cn x),.c (gr q)] (.r (.row (cq (⟨x.re*q,x.im*q⟩:QC)))) :=
  Qft (L := [cn x,[gr q,gr (x.re * q),gr (x.im * q)]].flatten) Qai Qap
     [gs (Ukk (Qmn x.re q (b_x.1.mono (by omega)) (b_q.mono (by omega)))) [.c (.sym 0),.c (.sym 2)] (.r (.c (.sym 3))),gs (Ukk (Qmn x.im q (b_x.2.mono (by omega)) (b_q.mono (by omega)))) [.c (.sym 1),.c (.sym 2)] (.r (.c (.sym 4)))]
     [] [] func118 eo118 2000 [sy [0,1],.c (.sym 2)] (.r (sy [3,4]))
def Qcz(x:QC)(q:Rat)(b_x:ZL x 2000000000)(b_q:RL q 2000000000):Qbx prog true 118 [N1 x,.c (gr q)] (.r (N1 (⟨x.re*q,x.im*q⟩:QC))):=Ucn (Ufg x q b_x b_q)
def Qbs(x:QC)(b_x:ZL x 2000000000) :Qbx prog true 111 [.row (cn x)] (.tup [.c (gr x.re),.c (gr x.im)]) :=
  Qft (L := [cn x,[gr x.re,gr x.im]].flatten) Qai Qap
     [gs (Knt x.re) [.c (.sym 0)] (.r (.c (.sym 2))),gs (Knt x.im) [.c (.sym 1)] (.r (.c (.sym 3)))]
     [] [] func111 eo111 2000 [sy [0,1]] (.tup [.c (.sym 2),.c (.sym 3)])
def Qbf(x:QC){k:Nat}(b_x:ZL x k):RL x.re k:=(b_x.1).mono (by omega)
def Qag(x:QC){k:Nat}(b_x:ZL x k):RL x.im k:=(b_x.2).mono (by omega)
def Urh(x:QC)(b_x:ZL x 2000000000) :Qbx prog true 117 [.row (cn x)] (.r (.row (cq (ng x)))) :=
  Qft (L := [cn x,[gr x.re,gr (-x.re),gr x.im,gr (-x.im)]].flatten) Qai Qap
     [gs (Knt x.re) [.c (.sym 0)] (.r (.c (.sym 2))),
      Ufs x.re (b_x.1.mono (by omega)) 2 (.c (.sym 2)) (.sym 3),gs (Knt x.im) [.c (.sym 1)] (.r (.c (.sym 4))),
      Ufs x.im (b_x.2.mono (by omega)) 7 (.c (.sym 4)) (.sym 5)]
     [] [] func117 eo117 2000 [sy [0,1]] (.r (sy [3,5]))
def Kda(x:QC)(b_x:ZL x 2000000000):Qbx prog true 117 [N1 x] (.r (N1 ((⟨0,0⟩:QC)-x))):=by
 rw[<-Kzl];exact Ucn (Urh x b_x)
def Qfz(x y:Rat)(b_x:RL x 2000000000)(b_y:RL y 2000000000) :Qbx prog true 106 [.c (gr x),.c (gr y)] (.r (.c (gr (x+y)))) :=
  Qft (L := [[gr x,gr y,gr (x + y)]].flatten) Qai Qap
     [Kft x y b_x b_y (by decide) 1 (.c (.sym 0)) (.c (.sym 1)) (.sym 2)]
     [] [] func106 eo106 2000 [.c (.sym 0),.c (.sym 1)] (.r (.c (.sym 2)))
def Qaw(x y:Rat){k:Nat}(b_x:RL x k)(b_y:RL y k):RL (x+y) (2*k+1):=(Qca b_x b_y).mono (by omega)
def Qaz(x y:Rat)(b_x:RL x 2000000000)(b_y:RL y 2000000000) :Qbx prog true 77 [.c (gr x),.c (gr y)] (.r (.c (gr (x-y)))) :=
  Qft (L := [[gr x,gr y,gr (x-y)]].flatten) Qai Qap
     [Kza x y b_x b_y (by decide) 1 (.c (.sym 0)) (.c (.sym 1)) (.sym 2)]
     [] [] func77 eo77 2000 [.c (.sym 0),.c (.sym 1)] (.r (.c (.sym 2)))
def Qae(x y:Rat){k:Nat}(b_x:RL x k)(b_y:RL y k):RL (x-y) (2*k+1):=(Qdc b_x b_y).mono (by omega)
def Qan(x y:Rat)(b_x:RL x 2000000000)(b_y:RL y 2000000000) :Qbx prog true 78 [.c (gr x),.c (gr y)] (.r (.c (gr (x*y)))) :=
  Qft (L := [[gr x,gr y,gr (x * y)]].flatten) Qai Qap
     [Kyz x y b_x b_y (by decide) 1 (.c (.sym 0)) (.c (.sym 1)) (.sym 2)]
     [] [] func78 eo78 2000 [.c (.sym 0),.c (.sym 1)] (.r (.c (.sym 2)))
def Qab(x y:Rat){k:Nat}(b_x:RL x k)(b_y:RL y k):RL (x*y) (2*k+0):=(Qam b_x b_y).mono (by omega)
def Qbe(x y:Rat)(b_x:RL x 2000000000)(b_y:RL y 2000000000)(h0:¬(y=0)):Qbx prog true 101 [.c (gr x),.c (gr y)] (.r (.c (gr (x/y)))) :=
  Qft (L := [[gr x,gr y,gr (x/y)]].flatten) Qai Qap
     [Uua x y h0 b_x b_y (by decide) 1 (.c (.sym 0)) (.c (.sym 1)) (.sym 2)]
     [] [] func101 eo101 2000 [.c (.sym 0),.c (.sym 1)] (.r (.c (.sym 2)))
def Qaj(x y:Rat){k:Nat}(b_x:RL x k)(b_y:RL y k)(h0:¬(y=0)):RL (x/y) (2*k+0):=(Qbb h0 b_x b_y).mono (by omega)
def Ugw  :Qbx prog true 107 [.c (gl (.int .i64 2))] (.r (.c (gr (2:Rat)))) :=
  Qft (L := [[gr (2 : Rat)]].flatten) Qai Qap
     [gs (Kgd 2 1 (by decide) (by decide) (by decide) (by decide) (by decide)) [.c (.lit (.int .i64 2)),.c (.lit (.int .i64 1))] (.r (.c (.sym 0)))]
     [] [] func107 eo107 2000 [.c (.lit (.int .i64 2))] (.r (.c (.sym 0)))
def Qqr :RL (2:Rat) 2:=((Qvl 2 (by decide) (by decide))).mono (by omega)
def Ugv  :Qbx prog true 107 [.c (gl (.int .i64 1))] (.r (.c (gr (1:Rat)))) :=
  Qft (L := [[gr (1 : Rat)]].flatten) Qai Qap
     [gs (Kgd 1 1 (by decide) (by decide) (by decide) (by decide) (by decide)) [.c (.lit (.int .i64 1)),.c (.lit (.int .i64 1))] (.r (.c (.sym 0)))]
     [] [] func107 eo107 2000 [.c (.lit (.int .i64 1))] (.r (.c (.sym 0)))
def wp1(f0:Rat)(f3:Rat)(g0:Rat)(g3:Rat):Rat:=((f0*g3)+(f3*g0))/(2:Rat)
def Udx(f0:Rat)(f3:Rat)(g0:Rat)(g3:Rat){k:Nat}(b_f0:RL f0 k)(b_f3:RL f3 k)(b_g0:RL g0 k)(b_g3:RL g3 k):RL (wp1 f0 f3 g0 g3) (8*k+4):=(Qaj ((f0*g3)+(f3*g0)) (2:Rat) ((Qaw (f0*g3) (f3*g0) (Qab f0 g3 b_f0 b_g3) (Qab f3 g0 b_f3 b_g0)).upby 1) (Qqr.mono (by omega)) (by decide +kernel)).mono (by omega)
def wp2(f0:Rat)(f1:Rat)(f2:Rat)(f3:Rat)(g0:Rat)(g1:Rat)(g2:Rat)(g3:Rat):Rat:=((f1*g1)+(f2*g2))-(wp1 f0 f3 g0 g3)
def Uol(f0:Rat)(f1:Rat)(f2:Rat)(f3:Rat)(g0:Rat)(g1:Rat)(g2:Rat)(g3:Rat){k:Nat}(b_f0:RL f0 k)(b_f1:RL f1 k)(b_f2:RL f2 k)(b_f3:RL f3 k)(b_g0:RL g0 k)(b_g1:RL g1 k)(b_g2:RL g2 k)(b_g3:RL g3 k):RL (wp2 f0 f1 f2 f3 g0 g1 g2 g3) (16*k+9):=(Qae ((f1*g1)+(f2*g2)) (wp1 f0 f3 g0 g3) ((Qaw (f1*g1) (f2*g2) (Qab f1 g1 b_f1 b_g1) (Qab f2 g2 b_f2 b_g2)).mono (by omega)) (Udx f0 f3 g0 g3 b_f0 b_f3 b_g0 b_g3)).mono (by omega)
def Qfc(z:QC)(b_z:ZL z 200000000) :Qbx prog true 48 [.row ([gro z.re,gro z.im])] (.r (.row ([gr (1:Rat),gr (-z.re),gr z.im,gr ((z.re*z.re)+(z.im*z.im))]))) :=
  Qft (L := [cn z,[gr z.re,gr z.im,gr (1 : Rat),gr (-z.re),gr ((z.re * z.re) + (z.im * z.im))]].flatten) Qai Qap
     [gs (Qbs z (b_z.mono (by omega))) [sy [0,1]] (.tup [.c (.sym 2),.c (.sym 3)]),gs (Ugv) [.c (.lit (.int .i64 1))] (.r (.c (.sym 4))),
      Ufs z.re ((Qbf z b_z).mono (by omega)) 10 (.c (.sym 2)) (.sym 5),gs (Qbw z (b_z.mono (by omega))) [sy [0,1]] (.r (.c (.sym 6)))]
     [] [] func48 eo48 2000 [sy [0,1]] (.r (.row [.sym 4,.sym 5,.sym 3,.sym 6]))
