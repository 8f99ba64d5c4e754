/- Laws for the walk. -/
import Derived.Test.YtgjkifdilflcbaaGreatZbq
set_option linter.unusedVariables false
set_option maxHeartbeats 4000000
set_option linter.unusedSimpArgs false
namespace Go.Proofs.YtgjkifdilflcbaaGreat
open Go.RowKit Tr
open Classical
theorem least_of{p:Nat→Prop}{n:Nat}(h:∃ k,k<n∧p k):∃ k,k<n∧p k∧∀ j,j<k→¬p j:=by
 obtain⟨k,hk,hp⟩:=h
 induction k using Nat.strongRecOn with
 | ind k ih =>
  by_cases hj:∃ j,j<k∧p j
  ·obtain⟨j,h1,h2⟩:=hj; exact ih j h1 (by omega) h2
  ·exact⟨k,hk,hp,fun j h1 h2=>hj ⟨j,h1,h2⟩⟩
def gtB{P:Program}{L:List GF}(t:TypeId)(x y:AC)(a b:Int)(r:Bool)(h:r=true↔a>b)(hx:x.gv L=some (.int .i64 a):=by kernel_rfl)(hy:y.gv L=some (.int .i64 b):=by kernel_rfl):GB P L :=
 gbInt .gtr t .i64 x y a b r (by simp only[cmpB]; congr 1; rw[Bool.eq_iff_iff,h,decide_eq_true_eq]) hx hy
def lvastL(g1 g2 g3 g4:RawG)(t:Bool):List GF:=[g1.cells,g2.cells,g3.cells,g4.cells,[gx (.bool t)],[gx (.int .i64 (Sz g1.s1))],[gx (.int .i64 (Sz g1.s2))],[gx (.int .i64 (Sz g1.s3))],[gx (.int .i64 (Sz g1.s4))],[gx (.int .i64 (Sz g2.s1))],[gx (.int .i64 (Sz g2.s2))],[gx (.int .i64 (Sz g2.s3))],[gx (.int .i64 (Sz g2.s4))],[gx (.int .i64 (Sz g3.s1))],[gx (.int .i64 (Sz g3.s2))],[gx (.int .i64 (Sz g3.s3))],[gx (.int .i64 (Sz g3.s4))],[gx (.int .i64 (Sz g4.s1))],[gx (.int .i64 (Sz g4.s2))],[gx (.int .i64 (Sz g4.s3))],[gx (.int .i64 (Sz g4.s4))]].flatten
def lvastP(g1 g2 g3 g4:RawG)(t:Bool)(k:Nat):Prop:=([(Sz g1.s1)>24,(Sz g1.s2)>24,(Sz g1.s3)>24,(Sz g1.s4)>24,(Sz g2.s1)>24,(Sz g2.s2)>24,(Sz g2.s3)>24,(Sz g2.s4)>24,(Sz g3.s1)>24,(Sz g3.s2)>24,(Sz g3.s3)>24,(Sz g3.s4)>24,(Sz g4.s1)>24,(Sz g4.s2)>24,(Sz g4.s3)>24,(Sz g4.s4)>24]:List Prop).getD k False
def lvastO (g1 g2 g3 g4 : RawG) (t : Bool) : List (GO Tryz.prog (lvastL g1 g2 g3 g4 t)) := [lS (.sym 1) g1.s1 (.sym 33),lS (.sym 3) g1.s2 (.sym 34),lS (.sym 5) g1.s3 (.sym 35),lS (.sym 7) g1.s4 (.sym 36),lS (.sym 9) g2.s1 (.sym 37),lS (.sym 11) g2.s2 (.sym 38),lS (.sym 13) g2.s3 (.sym 39),lS (.sym 15) g2.s4 (.sym 40),lS (.sym 17) g3.s1 (.sym 41),lS (.sym 19) g3.s2 (.sym 42),lS (.sym 21) g3.s3 (.sym 43),lS (.sym 23) g3.s4 (.sym 44),lS (.sym 25) g4.s1 (.sym 45),lS (.sym 27) g4.s2 (.sym 46),lS (.sym 29) g4.s3 (.sym 47),lS (.sym 31) g4.s4 (.sym 48)]
def lvastB(g1 g2 g3 g4:RawG)(t:Bool)(r:Nat→Bool)(hr:∀ k,k<16→(r k=true↔lvastP g1 g2 g3 g4 t k)):List (GB Tryz.prog (lvastL g1 g2 g3 g4 t)) :=
  [gtB 3 (.sym 33) (.lit (.int .i64 24)) (Sz g1.s1) 24 (r 0) (hr 0 (by decide)),gtB 3 (.sym 34) (.lit (.int .i64 24)) (Sz g1.s2) 24 (r 1) (hr 1 (by decide)),gtB 3 (.sym 35) (.lit (.int .i64 24)) (Sz g1.s3) 24 (r 2) (hr 2 (by decide)),gtB 3 (.sym 36) (.lit (.int .i64 24)) (Sz g1.s4) 24 (r 3) (hr 3 (by decide)),gtB 3 (.sym 37) (.lit (.int .i64 24)) (Sz g2.s1) 24 (r 4) (hr 4 (by decide)),gtB 3 (.sym 38) (.lit (.int .i64 24)) (Sz g2.s2) 24 (r 5) (hr 5 (by decide)),gtB 3 (.sym 39) (.lit (.int .i64 24)) (Sz g2.s3) 24 (r 6) (hr 6 (by decide)),gtB 3 (.sym 40) (.lit (.int .i64 24)) (Sz g2.s4) 24 (r 7) (hr 7 (by decide)),gtB 3 (.sym 41) (.lit (.int .i64 24)) (Sz g3.s1) 24 (r 8) (hr 8 (by decide)),gtB 3 (.sym 42) (.lit (.int .i64 24)) (Sz g3.s2) 24 (r 9) (hr 9 (by decide)),gtB 3 (.sym 43) (.lit (.int .i64 24)) (Sz g3.s3) 24 (r 10) (hr 10 (by decide)),gtB 3 (.sym 44) (.lit (.int .i64 24)) (Sz g3.s4) 24 (r 11) (hr 11 (by decide)),gtB 3 (.sym 45) (.lit (.int .i64 24)) (Sz g4.s1) 24 (r 12) (hr 12 (by decide)),gtB 3 (.sym 46) (.lit (.int .i64 24)) (Sz g4.s2) 24 (r 13) (hr 13 (by decide)),gtB 3 (.sym 47) (.lit (.int .i64 24)) (Sz g4.s3) 24 (r 14) (hr 14 (by decide)),gtB 3 (.sym 48) (.lit (.int .i64 24)) (Sz g4.s4) 24 (r 15) (hr 15 (by decide))]
theorem lvastE(g1 g2 g3 g4:RawG)(t:Bool)(r:Nat→Bool)(hr:∀ k,k<16→(r k=true↔lvastP g1 g2 g3 g4 t k))(b:Bool)(hev:evF (upN (gcx tys true (lvastL g1 g2 g3 g4 t) [] (lvastB g1 g2 g3 g4 t r hr) (lvastO g1 g2 g3 g4 t)) [⟨16,Tryz.f16,2000⟩] 4 1) Tryz.f4 2000 [.row (syms 0 33)] (.r (.c (.lit (.bool b))))=true):SpecC Tryz.prog true 4 [.row (g1.cells++g2.cells++g3.cells++g4.cells++[gx (.bool t)])] (B1 b) :=
 ev_spi (L:=lvastL g1 g2 g3 g4 t) tys_ok mixed [] (lvastB g1 g2 g3 g4 t r hr) (lvastO g1 g2 g3 g4 t) ((.cons (n:=2000) Tryz.func16 eo16 .nil):FnsOk Tryz.prog [⟨16,Tryz.f16,2000⟩]) 4 1 Tryz.func4 eo4 2000 [.row (syms 0 33)] (.r (.c (.lit (.bool b)))) hev
theorem lvast_t(g1 g2 g3 g4:RawG)(t:Bool)(k:Nat)(hk:k<16)(h:∀ j,j<k→¬lvastP g1 g2 g3 g4 t j)(hp:lvastP g1 g2 g3 g4 t k):SpecC Tryz.prog true 4 [.row (g1.cells++g2.cells++g3.cells++g4.cells++[gx (.bool t)])] (B1 true):=by
 rcases(by omega:k=0∨k=1∨k=2∨k=3∨k=4∨k=5∨k=6∨k=7∨k=8∨k=9∨k=10∨k=11∨k=12∨k=13∨k=14∨k=15) with rfl|rfl|rfl|rfl|rfl|rfl|rfl|rfl|rfl|rfl|rfl|rfl|rfl|rfl|rfl|rfl
 all_goals exact lvastE g1 g2 g3 g4 t (rN (lvastP g1 g2 g3 g4 t) _) (fun j _=>rN_ok h hp j) true (by kernel_rfl)
theorem lvast(g1 g2 g3 g4:RawG)(t:Bool)(b:Bool)(hb:b=true↔∃ k,k<16∧lvastP g1 g2 g3 g4 t k):SpecC Tryz.prog true 4 [.row (g1.cells++g2.cells++g3.cells++g4.cells++[gx (.bool t)])] (B1 b):=by
 cases b
 ·exact lvastE g1 g2 g3 g4 t (falN (lvastP g1 g2 g3 g4 t)) (fun k hk=>⟨(fun e=>by cases e),fun e=>by cases hb.2 ⟨k,hk,e⟩⟩) false (by kernel_rfl)
 ·obtain⟨k,hk,hp,h⟩:=least_of (hb.1 rfl)
  exact lvast_t g1 g2 g3 g4 t k hk h hp
end Go.Proofs.YtgjkifdilflcbaaGreat
set_option linter.unusedSimpArgs false
namespace Go.Proofs.YtgjkifdilflcbaaGreat
open Go.RowKit Tr
open Classical
def VastC(g1 g2 g3 g4:RawG)(t:Bool):Prop:=∃ k,k<16∧lvastP g1 g2 g3 g4 t k
theorem llaw(g1 g2 g3 g4:RawG)(t:Bool)(g5 g6 g7 g8:RawG)(u:Bool)(o1 o2:RawG)(k1 k2 c1 c2 c3 c4 c5:Int)(x:Bool)(r0:0≤k1∧k1≤1000)(r1:0≤c1∧c1≤1000)(r2:0≤c2∧c2≤1000)(r3:0≤c3∧c3≤1000)(r4:0≤c4∧c4≤1000)(r5:0≤c5∧c5≤1000)(hv:¬VastC g1 g2 g3 g4 t)(hw:¬VastC g5 g6 g7 g8 u)
  (A1:SpecC Tryz.prog true 6 [.row (g1.cells++g2.cells++g3.cells++g4.cells++[gx (.bool t)])] (.tup [.row o1.cells,.c (gx (.int .i64 c1))]))
  (A2:SpecC Tryz.prog true 7 [.row (g1.cells++g2.cells++g3.cells++g4.cells++[gx (.bool t)])] (.tup [.row o1.cells,.c (gx (.int .i64 c1))]))
  (A3:SpecC Tryz.prog true 8 [.row (g1.cells++g2.cells++g3.cells++g4.cells++[gx (.bool t)])] (.tup [.c (gx (.int .i64 k1)),.c (gx (.int .i64 c2))]))
  (A4:SpecC Tryz.prog true 9 [.row (g1.cells++g2.cells++g3.cells++g4.cells++[gx (.bool t)])] (.tup [.c (gx (.int .i64 k1)),.c (gx (.int .i64 c2))]))
  (A5:SpecC Tryz.prog true 10 [.row (g1.cells++g2.cells++g3.cells++g4.cells++[gx (.bool t)])] (.tup [.c (gx (.int .i64 k2)),.c (gx (.int .i64 c3))]))
  (A6:SpecC Tryz.prog true 11 [.row (g1.cells++g2.cells++g3.cells++g4.cells++[gx (.bool t)])] (.tup [.c (gx (.int .i64 k2)),.c (gx (.int .i64 c3))]))
  (A7:SpecC Tryz.prog true 12 [.row (g1.cells++g2.cells++g3.cells++g4.cells++[gx (.bool t)])] (.tup [.row o2.cells,.c (gx (.int .i64 c4))]))
  (A8:SpecC Tryz.prog true 13 [.row (g1.cells++g2.cells++g3.cells++g4.cells++[gx (.bool t)])] (.tup [.row o2.cells,.c (gx (.int .i64 c4))]))
  (A9:SpecC Tryz.prog true 14 [.row (g1.cells++g2.cells++g3.cells++g4.cells++[gx (.bool t)]),.row (g5.cells++g6.cells++g7.cells++g8.cells++[gx (.bool u)])] (.tup [.c (gx (.bool x)),.c (gx (.int .i64 c5))]))
  (A10:SpecC Tryz.prog true 15 [.row (g1.cells++g2.cells++g3.cells++g4.cells++[gx (.bool t)]),.row (g5.cells++g6.cells++g7.cells++g8.cells++[gx (.bool u)])] (.tup [.c (gx (.bool x)),.c (gx (.int .i64 c5))])):SpecC Tryz.prog true 3 [.row (g1.cells++g2.cells++g3.cells++g4.cells++[gx (.bool t)]),.row (g5.cells++g6.cells++g7.cells++g8.cells++[gx (.bool u)])] (.r (.c (gl (.bool true)))) :=
  ev_sp (L := [g1.cells,g2.cells,g3.cells,g4.cells,[gx (.bool t)],g5.cells,g6.cells,g7.cells,g8.cells,[gx (.bool u)],o1.cells,[gx (.int .i64 c1)],o1.cells,[gx (.int .i64 c1)],[gx (.int .i64 k1)],[gx (.int .i64 c2)],[gx (.int .i64 k1)],[gx (.int .i64 c2)],[gx (.int .i64 k2)],[gx (.int .i64 c3)],[gx (.int .i64 k2)],[gx (.int .i64 c3)],o2.cells,[gx (.int .i64 c4)],o2.cells,[gx (.int .i64 c4)],[gx (.bool x)],[gx (.int .i64 c5)],[gx (.bool x)],[gx (.int .i64 c5)]].flatten) tys_ok mixed
     [gs (lvast g1 g2 g3 g4 t false (fI hv)) [.row (syms 0 33)] (.r (.c (.lit (.bool false)))),gs (lvast g5 g6 g7 g8 u false (fI hw)) [.row (syms 33 33)] (.r (.c (.lit (.bool false)))),gs (A1) [.row (syms 0 33)] (.tup [.row (syms 66 8),.c (.sym 74)]),gs (A2) [.row (syms 0 33)] (.tup [.row (syms 75 8),.c (.sym 83)]),gs (A3) [.row (syms 0 33)] (.tup [.c (.sym 84),.c (.sym 85)]),gs (A4) [.row (syms 0 33)] (.tup [.c (.sym 86),.c (.sym 87)]),gs (A5) [.row (syms 0 33)] (.tup [.c (.sym 88),.c (.sym 89)]),gs (A6) [.row (syms 0 33)] (.tup [.c (.sym 90),.c (.sym 91)]),gs (A7) [.row (syms 0 33)] (.tup [.row (syms 92 8),.c (.sym 100)]),gs (A8) [.row (syms 0 33)] (.tup [.row (syms 101 8),.c (.sym 109)]),gs (A9) [.row (syms 0 33),.row (syms 33 33)] (.tup [.c (.sym 110),.c (.sym 111)]),gs (A10) [.row (syms 0 33),.row (syms 33 33)] (.tup [.c (.sym 112),.c (.sym 113)]),gs (lknown) [] (.r (.c (.lit (.bool true))))]
     [bG (.row (syms 66 8)) (.row (syms 75 8)) o1 o1 true (tI rfl),bI .eql 3 (.sym 74) (.sym 83) c1 c1 true (by simp[cmpB]),bI .eql 3 (.sym 84) (.sym 86) k1 k1 true (by simp[cmpB]),bI .eql 3 (.sym 85) (.sym 87) c2 c2 true (by simp[cmpB]),bI .eql 3 (.sym 88) (.sym 90) k2 k2 true (by simp[cmpB]),bI .eql 3 (.sym 89) (.sym 91) c3 c3 true (by simp[cmpB]),bG (.row (syms 92 8)) (.row (syms 101 8)) o2 o2 true (tI rfl),bI .eql 3 (.sym 100) (.sym 109) c4 c4 true (by simp[cmpB]),gb .eql 4 (.c (.sym 110)) (.c (.sym 112)) (.lit (.bool true)) (bool_eql Tryz.underlying4 x x true (by simp)) (by kernel_rfl) (by kernel_rfl) rfl,bI .eql 3 (.sym 111) (.sym 113) c5 c5 true (by simp[cmpB])] [] Tryz.func3 eo3 2000 [.row (syms 0 33),.row (syms 33 33)] (.r (.c (.lit (.bool true))))
theorem llaw_1(g1 g2 g3 g4:RawG)(t:Bool)(g5 g6 g7 g8:RawG)(u:Bool)(hv:VastC g1 g2 g3 g4 t):SpecC Tryz.prog true 3 [.row (g1.cells++g2.cells++g3.cells++g4.cells++[gx (.bool t)]),.row (g5.cells++g6.cells++g7.cells++g8.cells++[gx (.bool u)])] (.r (.c (gl (.bool true)))) :=
  ev_sp (L := [g1.cells,g2.cells,g3.cells,g4.cells,[gx (.bool t)],g5.cells,g6.cells,g7.cells,g8.cells,[gx (.bool u)]].flatten) tys_ok mixed
     [gs (lvast g1 g2 g3 g4 t true (tI hv)) [.row (syms 0 33)] (.r (.c (.lit (.bool true)))),gs (lknown) [] (.r (.c (.lit (.bool true))))]
     [] [] Tryz.func3 eo3 2000 [.row (syms 0 33),.row (syms 33 33)] (.r (.c (.lit (.bool true))))
theorem llaw_2(g1 g2 g3 g4:RawG)(t:Bool)(g5 g6 g7 g8:RawG)(u:Bool)(hv:¬VastC g1 g2 g3 g4 t)(hw:VastC g5 g6 g7 g8 u):SpecC Tryz.prog true 3 [.row (g1.cells++g2.cells++g3.cells++g4.cells++[gx (.bool t)]),.row (g5.cells++g6.cells++g7.cells++g8.cells++[gx (.bool u)])] (.r (.c (gl (.bool true)))) :=
  ev_sp (L := [g1.cells,g2.cells,g3.cells,g4.cells,[gx (.bool t)],g5.cells,g6.cells,g7.cells,g8.cells,[gx (.bool u)]].flatten) tys_ok mixed
     [gs (lvast g1 g2 g3 g4 t false (fI hv)) [.row (syms 0 33)] (.r (.c (.lit (.bool false)))),gs (lvast g5 g6 g7 g8 u true (tI hw)) [.row (syms 33 33)] (.r (.c (.lit (.bool true)))),gs (lknown) [] (.r (.c (.lit (.bool true))))]
     [] [] Tryz.func3 eo3 2000 [.row (syms 0 33),.row (syms 33 33)] (.r (.c (.lit (.bool true))))
end Go.Proofs.YtgjkifdilflcbaaGreat
namespace Go.Proofs.YtgjkifdilflcbaaGreat
open Go.RowKit Tr
open Classical
def RawM.Sz(m:RawM):Prop:=m.a.Sz∧m.b.Sz∧m.c.Sz∧m.d.Sz
def RawM.cells(m:RawM):List GF:=m.a.cells++m.b.cells++m.c.cells++m.d.cells++[gx (.bool m.t)]
theorem mok_of{m:RawM}(h:MOk m):∃(a b c d:QC) (t:Bool),m=⟨rawQ a,rawQ b,rawQ c,rawQ d,t⟩∧(ShortZ a∧ShortZ b∧ShortZ c∧ShortZ d)∧(c=⟨1,0⟩∨(c=⟨0,0⟩∧d=⟨1,0⟩))∧¬((a*d) - (b*c))=⟨0,0⟩:=by
 obtain⟨a,b,c,d,⟨h1,h2,h3,h4⟩,hs,hn,hd⟩:=h
 obtain⟨x,y,z,w,t⟩:=m
 simp only at h1 h2 h3 h4
 subst h1; subst h2; subst h3; subst h4
 exact⟨a,b,c,d,t,rfl,hs,hn,hd⟩
theorem cmpR_cases(x y:Rat):cmpR x y=-1∧x<y∨cmpR x y=0∧x=y∨cmpR x y=1∧y<x:=by
 unfold cmpR
 by_cases h:x<y
 ·rw[if_pos h]; exact .inl ⟨rfl,h⟩
 ·rw[if_neg h]
  by_cases e:x=y
  ·rw[if_pos e]; exact .inr (.inl ⟨rfl,e⟩)
  ·rw[if_neg e]
   exact .inr (.inr ⟨rfl,Rat.lt_of_le_of_ne (Rat.not_lt.1 h) (fun k=>e k.symm)⟩)
theorem still_one{a b c d:QC}(hn:c=⟨1,0⟩∨(c=⟨0,0⟩∧d=⟨1,0⟩)):(b=⟨0,0⟩∧c=⟨0,0⟩∧a=d)↔(a=⟨1,0⟩∧b=⟨0,0⟩∧c=⟨0,0⟩∧d=⟨1,0⟩):=by
 constructor
 ·rintro⟨h1,h2,h3⟩
  have h4:d=⟨1,0⟩:=by
   rcases hn with h|h
   ·rw[h2] at h; exact absurd h (by decide +kernel)
   ·exact h.2
  exact⟨h3.trans h4,h1,h2,h4⟩
 ·rintro⟨h1,h2,h3,h4⟩; exact⟨h2,h3,h1.trans h4.symm⟩
theorem qdiv_mul{x y:QC}(h:y≠⟨0,0⟩):x / y*y=x:=by
 have hn:=qc_nz h
 have hi:=Rat.mul_inv_cancel _ hn
 have e1:(x / y).re=(x.re*y.re - x.im*(-y.im))*(y.re*y.re+y.im*y.im)⁻¹:=rfl
 have e2:(x / y).im=(x.re*(-y.im)+x.im*y.re)*(y.re*y.re+y.im*y.im)⁻¹:=rfl
 generalize (y.re*y.re+y.im*y.im)⁻¹=i at *
 apply qc_ext
 ·rw[qmr,e1,e2]; grind
 ·rw[qmi,e1,e2]; grind
theorem same_Sign(m:RawM)(hs:m.Sz):∃(o:RawG) (k:Int),(0≤k∧k≤1000)∧SpecC Tryz.prog true 6 [.row m.cells] (.tup [.row o.cells,.c (gx (.int .i64 k))])∧SpecC Tryz.prog true 7 [.row m.cells] (.tup [.row o.cells,.c (gx (.int .i64 k))]):=by
 by_cases h:MOk m
 ·obtain⟨a,b,c,d,t,rfl,⟨ha,hb,hc,hd⟩,hn,hdt⟩:=mok_of h
  cases t
  ·have A:=fSign a b c d ha hb hc hd hdt hn
   have B:=rSign a b c d ha hb hc hd hdt hn
   by_cases hz:ShortZ (e1 a b c d)
   ·exact⟨rawQ (e1 a b c d),0,by decide,A.t hz,B.t hz⟩
   ·exact⟨zeroG,4,by decide,A.f hz,B.f hz⟩
  ·exact⟨zeroG,250,by decide,fSignT a b c d ha hb hc hd hdt hn,rSignT a b c d ha hb hc hd hdt hn⟩
 ·exact⟨zeroG,2,by decide,fSignB m.a m.b m.c m.d m.t hs.1 hs.2.1 hs.2.2.1 hs.2.2.2 h,rSignB m.a m.b m.c m.d m.t h⟩
theorem same_Kind(m:RawM)(hs:m.Sz):∃ k e:Int,((0≤k∧k≤1000)∧0≤e∧e≤1000)∧SpecC Tryz.prog true 8 [.row m.cells] (.tup [.c (gx (.int .i64 k)),.c (gx (.int .i64 e))])∧SpecC Tryz.prog true 9 [.row m.cells] (.tup [.c (gx (.int .i64 k)),.c (gx (.int .i64 e))]):=by
 by_cases h:MOk m
 ·obtain⟨a,b,c,d,t,rfl,⟨ha,hb,hc,hd⟩,hn,hdt⟩:=mok_of h
  cases t
  ·have A:=fKind a b c d ha hb hc hd hdt hn
   have B:=rKind a b c d ha hb hc hd hdt hn
   by_cases hs:b=⟨0,0⟩∧c=⟨0,0⟩∧a=d
   ·exact⟨1,0,by decide,A.t ((still_one hn).1 hs),B.t hs⟩
   have A:=A.f (fun k=>hs ((still_one hn).2 k))
   have B:=B.f hs
   by_cases hi:(((e1 a b c d).im).num.sign)=0
   ·have A:=A.t hi
    rcases cmpR_cases ((e1 a b c d).re) (4:Rat) with⟨h1,h2⟩|⟨h1,h2⟩|⟨h1,h2⟩
    ·have A:=(A.f (by rw[h1]; decide)).t h1
     by_cases hr:((((e1 a b c d).re).num.sign)<0)
     ·exact⟨5,0,by decide,(A.f (by omega)).f (by rw[h1]; decide),B.f (fun k=>k.2 hr)⟩
     ·exact⟨3,0,by decide,A.t (by omega),((B.t ⟨hi,hr⟩).f (by rw[h1]; decide)).t (by rw[h1]; decide)⟩
    ·have hr:¬((((e1 a b c d).re).num.sign)<0):=by rw[h2]; decide
     exact⟨2,0,by decide,A.t h1,(B.t ⟨hi,hr⟩).t h1⟩
    ·have hr:¬((((e1 a b c d).re).num.sign)<0):=by
      have h3:0≤(e1 a b c d).re:=by grind
      have:=Rat.num_nonneg.2 h3
      intro h; have:=Int.sign_nonneg_iff.2 this; omega
     exact⟨4,0,by decide,((A.f (by rw[h1]; decide)).f (by rw[h1]; decide)).t h1,((B.t ⟨hi,hr⟩).f (by rw[h1]; decide)).f (by rw[h1]; decide)⟩
   ·exact⟨5,0,by decide,A.f hi,B.f (fun k=>hi k.1)⟩
  ·exact⟨6,0,by decide,fKindT a b c d ha hb hc hd hdt hn,rKindT a b c d ha hb hc hd hdt hn⟩
 ·exact⟨0,2,by decide,fKindB m.a m.b m.c m.d m.t hs.1 hs.2.1 hs.2.2.1 hs.2.2.2 h,rKindB m.a m.b m.c m.d m.t h⟩
theorem e93(a b d:QC):e9 a b d=e3 a b d:=by
 unfold e9 e3
 congr 1
 apply qc_ext<;>simp only[qmr,qmi]<;>grind
theorem e126(a b d:QC):e12 a b d=e6 a b d:=by
 unfold e12 e6 e11 e10 e5 e4
 rw[e93]
theorem out_rng(x y:QC):0≤outPC x y∧outPC x y≤1000:=by
 rcases outPC_two x y with h|h<;>rw[h]<;>decide
theorem same_Factor(m:RawM)(hs:m.Sz):∃(o:RawG) (k:Int),(0≤k∧k≤1000)∧SpecC Tryz.prog true 12 [.row m.cells] (.tup [.row o.cells,.c (gx (.int .i64 k))])∧SpecC Tryz.prog true 13 [.row m.cells] (.tup [.row o.cells,.c (gx (.int .i64 k))]):=by
 by_cases h:MOk m
 ·obtain⟨a,b,c,d,t,rfl,⟨ha,hb,hc,hd⟩,hn,hdt⟩:=mok_of h
  cases t
  ·have A:=fFactor a b c d ha hb hc hd hdt hn
   have B:=rFactor a b c d ha hb hc hd hdt hn
   rw[e93,e126] at B
   by_cases hs:b=⟨0,0⟩∧c=⟨0,0⟩∧a=d
   ·exact⟨zeroG,250,by decide,A.t ((still_one hn).1 hs),B.t hs⟩
   have A:=A.f (fun k=>hs ((still_one hn).2 k))
   have B:=B.f hs
   by_cases h0:c=⟨0,0⟩
   ·have A:=A.t h0
    have B:=B.t h0
    by_cases h1:a=⟨1,0⟩
    ·exact⟨rawQ ⟨1,0⟩,0,by decide,A.t h1,B.t h1⟩
    have A:=A.f h1
    have B:=B.f h1
    by_cases h2:(outPC b ((⟨1,0⟩:QC) - a))=0
    ·exact⟨rawQ a,0,by decide,A.t h2,B.t h2⟩
    ·exact⟨zeroG,_,out_rng _ _,A.f h2,B.f h2⟩
   have A:=A.f h0
   have B:=B.f h0
   by_cases h1:HasQ (e3 a b d)
   ·have A:=A.t h1
    have B:=B.t h1
    by_cases h2:(rt (e3 a b d))=(⟨0,0⟩:QC)
    ·have A:=A.t h2
     have B:=B.t h2
     by_cases h3:(outPC ((a - d)+(rt (e3 a b d))) (⟨2,0⟩:QC))=0
     ·exact⟨rawQ ⟨1,0⟩,0,by decide,A.t h3,B.t h3⟩
     ·exact⟨zeroG,_,out_rng _ _,A.f h3,B.f h3⟩
    have A:=A.f h2
    have B:=B.f h2
    by_cases h3:(outPC ((a - d)+(rt (e3 a b d))) (⟨2,0⟩:QC))=0
    ·have A:=A.t h3
     have B:=B.t h3
     by_cases h4:(outPC ((a - d) - (rt (e3 a b d))) (⟨2,0⟩:QC))=0
     ·have A:=A.t h4
      have B:=B.t h4
      by_cases h5:ShortZ (e6 a b d)
      ·exact⟨rawQ (e6 a b d),0,by decide,A.t h5,B.t h5⟩
      ·exact⟨zeroG,4,by decide,A.f h5,B.f h5⟩
     ·exact⟨zeroG,_,out_rng _ _,A.f h4,B.f h4⟩
    ·exact⟨zeroG,_,out_rng _ _,A.f h3,B.f h3⟩
   ·exact⟨zeroG,7,by decide,A.f h1,B.f h1⟩
  ·exact⟨zeroG,250,by decide,fFactorT a b c d ha hb hc hd hdt hn,rFactorT a b c d ha hb hc hd hdt hn⟩
 ·exact⟨zeroG,2,by decide,fFactorB m.a m.b m.c m.d m.t hs.1 hs.2.1 hs.2.2.1 hs.2.2.2 h,rFactorB m.a m.b m.c m.d m.t h⟩
theorem same_Alike(m n:RawM)(hs:m.Sz)(hs2:n.Sz):∃(x:Bool) (k:Int),(0≤k∧k≤1000)∧SpecC Tryz.prog true 14 [.row m.cells,.row n.cells] (.tup [.c (gx (.bool x)),.c (gx (.int .i64 k))])∧SpecC Tryz.prog true 15 [.row m.cells,.row n.cells] (.tup [.c (gx (.bool x)),.c (gx (.int .i64 k))]):=by
 by_cases h:MOk m
 ·obtain⟨a,b,c,d,t,rfl,⟨ha,hb,hc,hd⟩,hn,hdt⟩:=mok_of h
  by_cases h2:MOk n
  ·obtain⟨a2,b2,c2,d2,t2,rfl,⟨ha2,hb2,hc2,hd2⟩,hn2,hdt2⟩:=mok_of h2
   cases t
   ·cases t2
    ·have A:=fAlike a b c d a2 b2 c2 d2 ha hb hc hd ha2 hb2 hc2 hd2 hdt hn hdt2 hn2
     have B:=rAlike a b c d a2 b2 c2 d2 ha hb hc hd ha2 hb2 hc2 hd2 hdt hn hdt2 hn2
     have i1:=still_one (a:=a) (b:=b) hn
     have i2:=still_one (a:=a2) (b:=b2) hn2
     by_cases k1:b=⟨0,0⟩∧c=⟨0,0⟩∧a=d
     ·have A:=A.t (i1.1 k1)
      have B:=B.t k1
      obtain⟨o1,o2,o3,o4⟩:=i1.1 k1
      by_cases k2:b2=⟨0,0⟩∧c2=⟨0,0⟩∧a2=d2
      ·obtain⟨p1,p2,p3,p4⟩:=i2.1 k2
       exact⟨true,0,by decide,A.t ⟨o1.trans p1.symm,o2.trans p2.symm,o3.trans p3.symm,o4.trans p4.symm⟩,B.t k2⟩
      ·refine⟨false,0,by decide,A.f (fun⟨q1,q2,q3,q4⟩=>k2 (i2.2 ⟨q1▸o1,q2▸o2,q3▸o3,q4▸o4⟩)),B.f k2⟩
     ·have A:=A.f (fun k=>k1 (i1.2 k))
      have B:=B.f k1
      by_cases k2:b2=⟨0,0⟩∧c2=⟨0,0⟩∧a2=d2
      ·have A:=A.t (i2.1 k2)
       obtain⟨p1,p2,p3,p4⟩:=i2.1 k2
       exact⟨false,0,by decide,A.f (fun⟨q1,q2,q3,q4⟩=>k1 (i1.2 ⟨q1.trans p1,q2.trans p2,q3.trans p3,q4.trans p4⟩)),B.f (fun k=>k.1 k2)⟩
      ·have A:=A.f (fun k=>k2 (i2.2 k))
       by_cases k3:(e1 a b c d)=(e1 a2 b2 c2 d2)
       ·exact⟨true,0,by decide,A.t k3,B.t ⟨k2,k3⟩⟩
       ·exact⟨false,0,by decide,A.f k3,B.f (fun k=>k3 k.2)⟩
    ·exact⟨false,250,by decide,fAlikeFT a b c d a2 b2 c2 d2 ha hb hc hd ha2 hb2 hc2 hd2 hdt hn hdt2 hn2,rAlikeFT a b c d a2 b2 c2 d2 ha hb hc hd ha2 hb2 hc2 hd2 hdt hn hdt2 hn2⟩
   ·exact⟨false,250,by decide,fAlikeT a b c d a2 b2 c2 d2 t2 ha hb hc hd ha2 hb2 hc2 hd2 hdt hn hdt2 hn2,rAlikeT a b c d a2 b2 c2 d2 t2 ha hb hc hd ha2 hb2 hc2 hd2 hdt hn hdt2 hn2⟩
  ·exact⟨false,2,by decide,fAlikeB2 a b c d t n.a n.b n.c n.d n.t ha hb hc hd hs2.1 hs2.2.1 hs2.2.2.1 hs2.2.2.2 hdt hn h2,rAlikeB2 a b c d t n.a n.b n.c n.d n.t ha hb hc hd hdt hn h2⟩
 ·exact⟨false,2,by decide,fAlikeB m.a m.b m.c m.d m.t n.a n.b n.c n.d n.t hs.1 hs.2.1 hs.2.2.1 hs.2.2.2 h,rAlikeB m.a m.b m.c m.d m.t n.a n.b n.c n.d n.t h⟩
end Go.Proofs.YtgjkifdilflcbaaGreat
namespace Go.Proofs.YtgjkifdilflcbaaGreat
open Go.RowKit Tr
open Classical
theorem ordS_0{s:QC}(h:s=⟨0,0⟩):ordS s=2:=by unfold ordS; rw[if_pos h]
theorem ordS_1{s:QC}(h0:¬s=⟨0,0⟩)(h:s=⟨1,0⟩):ordS s=3:=by unfold ordS; rw[if_neg h0,if_pos h]
theorem ordS_2{s:QC}(h0:¬s=⟨0,0⟩)(h1:¬s=⟨1,0⟩)(h:s=⟨2,0⟩):ordS s=4:=by unfold ordS; rw[if_neg h0,if_neg h1,if_pos h]
theorem ordS_3{s:QC}(h0:¬s=⟨0,0⟩)(h1:¬s=⟨1,0⟩)(h2:¬s=⟨2,0⟩)(h:s=⟨3,0⟩):ordS s=6:=by unfold ordS; rw[if_neg h0,if_neg h1,if_neg h2,if_pos h]
theorem ordS_n{s:QC}(h0:¬s=⟨0,0⟩)(h1:¬s=⟨1,0⟩)(h2:¬s=⟨2,0⟩)(h:¬s=⟨3,0⟩):ordS s=0:=by unfold ordS; rw[if_neg h0,if_neg h1,if_neg h2,if_neg h]
theorem tdet_ne{a b c d:QC}(h:¬((a*d) - (b*c))=⟨0,0⟩):¬(((tA a b c d)*(tD a b c d)) - ((tB a b c d)*(tC a b c d)))=⟨0,0⟩:=by
 have e:((tA a b c d)*(tD a b c d)) - ((tB a b c d)*(tC a b c d))=((a*d) - (b*c))*cj ((a*d) - (b*c)):=by
  unfold tA tB tC tD cj
  apply qc_ext<;>simp only[qmr,qmi,qar,qai,qsr,qsi]<;>grind
 rw[e,qmul0]
 rintro(k|k)
 ·exact h k
 ·have k1:=congrArg QC.re k
  have k2:=congrArg QC.im k
  exact h (qc_ext k1 (by have:-((a*d) - (b*c)).im=0:=k2; show((a*d) - (b*c)).im=0; grind))
theorem pt_iff(a b c d:QC)(k:Nat):ordPT a b c d k↔k % 2=1∧Scal (mp (tA a b c d) (tB a b c d) (tC a b c d) (tD a b c d) (k / 2)):=by
 unfold ordPT
 refine and_congr_right fun hk=>?_
 have e:mtn a b c d k=mp (tA a b c d) (tB a b c d) (tC a b c d) (tD a b c d) (k / 2):=by
  have h:=mtn_mp a b c d (k / 2)
  rw[show 2*(k / 2)+1=k by omega] at h
  exact h
 unfold mtA mtB mtC mtD Scal
 rw[e]
theorem same_Order(m:RawM)(hs:m.Sz):∃ k e:Int,(0≤e∧e≤1000)∧SpecC Tryz.prog true 10 [.row m.cells] (.tup [.c (gx (.int .i64 k)),.c (gx (.int .i64 e))])∧SpecC Tryz.prog true 11 [.row m.cells] (.tup [.c (gx (.int .i64 k)),.c (gx (.int .i64 e))]):=by
 by_cases h:MOk m
 ·obtain⟨a,b,c,d,t,rfl,⟨ha,hb,hc,hd⟩,hn,hdt⟩:=mok_of h
  cases t
  ·have A:=fOrder a b c d ha hb hc hd hdt hn
   by_cases hs:b=⟨0,0⟩∧c=⟨0,0⟩∧a=d
   ·exact⟨1,0,by decide,((A.t hs.1).t hs.2.1).t hs.2.2,rOrder0 a b c d ha hb hc hd hdt hn (fun k hk=>absurd hk (by omega)) hs⟩
   have P:∀ k,k<12→(ordP a b c d k↔ordS (e1 a b c d)≠0∧(k+1) % ordS (e1 a b c d)=0):=fun k hk=>still_pow (s:=e1 a b c d) hs hdt (qdiv_mul hdt) k hk
   have A:=(show SpecC _ _ _ _ (if(e1 a b c d)=⟨0,0⟩ then _ else if(e1 a b c d)=⟨1,0⟩ then _ else if(e1 a b c d)=⟨2,0⟩ then _ else if(e1 a b c d)=⟨3,0⟩ then _ else _) from by
    by_cases k1:b=⟨0,0⟩
    ·have A:=A.t k1
     by_cases k2:c=⟨0,0⟩
     ·exact(A.t k2).f (fun k3=>hs ⟨k1,k2,k3⟩)
     ·exact A.f k2
    ·exact A.f k1)
   by_cases h0:e1 a b c d=⟨0,0⟩
   ·rw[ordS_0 h0] at P
    exact⟨2,0,by decide,A.t h0,rOrder1 a b c d ha hb hc hd hdt hn (fun k hk=>mt (P k (by omega)).1 (by omega)) ((P 1 (by omega)).2 (by decide))⟩
   have A:=A.f h0
   by_cases h1:e1 a b c d=⟨1,0⟩
   ·rw[ordS_1 h0 h1] at P
    exact⟨3,0,by decide,A.t h1,rOrder2 a b c d ha hb hc hd hdt hn (fun k hk=>mt (P k (by omega)).1 (by omega)) ((P 2 (by omega)).2 (by decide))⟩
   have A:=A.f h1
   by_cases h2:e1 a b c d=⟨2,0⟩
   ·rw[ordS_2 h0 h1 h2] at P
    exact⟨4,0,by decide,A.t h2,rOrder3 a b c d ha hb hc hd hdt hn (fun k hk=>mt (P k (by omega)).1 (by omega)) ((P 3 (by omega)).2 (by decide))⟩
   have A:=A.f h2
   by_cases h3:e1 a b c d=⟨3,0⟩
   ·rw[ordS_3 h0 h1 h2 h3] at P
    exact⟨6,0,by decide,A.t h3,rOrder5 a b c d ha hb hc hd hdt hn (fun k hk=>mt (P k (by omega)).1 (by omega)) ((P 5 (by omega)).2 (by decide))⟩
   ·rw[ordS_n h0 h1 h2 h3] at P
    exact⟨0,0,by decide,A.f h3,rOrderN a b c d ha hb hc hd hdt hn (fun k hk=>mt (P k hk).1 (fun k=>k.1 rfl))⟩
  ·have ht:=tdet_ne hdt
   have A:=fOrderT a b c d ha hb hc hd hdt hn ht
   have Q:=pt_iff a b c d
   by_cases hs:tB a b c d=⟨0,0⟩∧tC a b c d=⟨0,0⟩∧tA a b c d=tD a b c d
   ·exact⟨2,0,by decide,((A.t hs.1).t hs.2.1).t hs.2.2,rOrderT1 a b c d ha hb hc hd hdt hn (fun k hk=>mt (Q k).1 (fun h=>by have:=h.1; omega)) ((Q 1).2 ⟨rfl,hs⟩)⟩
   have P:∀ k,k<12→(Scal (mp (tA a b c d) (tB a b c d) (tC a b c d) (tD a b c d) k)↔ordS (e2 a b c d)≠0∧(k+1) % ordS (e2 a b c d)=0):=fun k hk=>still_pow (s:=e2 a b c d) hs ht (qdiv_mul ht) k hk
   have P:∀ k,k<12→(ordPT a b c d k↔k % 2=1∧ordS (e2 a b c d)≠0∧(k / 2+1) % ordS (e2 a b c d)=0):=fun k hk=>(Q k).trans (and_congr_right fun _=>P (k / 2) (by omega))
   have A:=(show SpecC _ _ _ _ (if(e2 a b c d)=⟨0,0⟩ then _ else if(e2 a b c d)=⟨1,0⟩ then _ else if(e2 a b c d)=⟨2,0⟩ then _ else if(e2 a b c d)=⟨3,0⟩ then _ else _) from by
    by_cases k1:tB a b c d=⟨0,0⟩
    ·have A:=A.t k1
     by_cases k2:tC a b c d=⟨0,0⟩
     ·exact(A.t k2).f (fun k3=>hs ⟨k1,k2,k3⟩)
     ·exact A.f k2
    ·exact A.f k1)
   by_cases h0:e2 a b c d=⟨0,0⟩
   ·rw[ordS_0 h0] at P
    exact⟨4,0,by decide,A.t h0,rOrderT3 a b c d ha hb hc hd hdt hn (fun k hk=>mt (P k (by omega)).1 (by omega)) ((P 3 (by omega)).2 (by decide))⟩
   have A:=A.f h0
   by_cases h1:e2 a b c d=⟨1,0⟩
   ·rw[ordS_1 h0 h1] at P
    exact⟨6,0,by decide,A.t h1,rOrderT5 a b c d ha hb hc hd hdt hn (fun k hk=>mt (P k (by omega)).1 (by omega)) ((P 5 (by omega)).2 (by decide))⟩
   have A:=A.f h1
   by_cases h2:e2 a b c d=⟨2,0⟩
   ·rw[ordS_2 h0 h1 h2] at P
    exact⟨8,0,by decide,A.t h2,rOrderT7 a b c d ha hb hc hd hdt hn (fun k hk=>mt (P k (by omega)).1 (by omega)) ((P 7 (by omega)).2 (by decide))⟩
   have A:=A.f h2
   by_cases h3:e2 a b c d=⟨3,0⟩
   ·rw[ordS_3 h0 h1 h2 h3] at P
    exact⟨12,0,by decide,A.t h3,rOrderT11 a b c d ha hb hc hd hdt hn (fun k hk=>mt (P k (by omega)).1 (by omega)) ((P 11 (by omega)).2 (by decide))⟩
   ·rw[ordS_n h0 h1 h2 h3] at P
    exact⟨0,0,by decide,A.f h3,rOrderTN a b c d ha hb hc hd hdt hn (fun k hk=>mt (P k hk).1 (fun k=>k.2.1 rfl))⟩
 ·exact⟨0,2,by decide,fOrderB m.a m.b m.c m.d m.t hs.1 hs.2.1 hs.2.2.1 hs.2.2.2 h,rOrderB m.a m.b m.c m.d m.t h⟩
end Go.Proofs.YtgjkifdilflcbaaGreat
namespace Go.Proofs.YtgjkifdilflcbaaGreat
open Go.RowKit Tr
open Classical
theorem not_vast{m:RawM}(h:¬VastC m.a m.b m.c m.d m.t):m.Sz:=by
 have k:∀ j,j<16→¬lvastP m.a m.b m.c m.d m.t j:=fun j hj hp=>h ⟨j,hj,hp⟩
 have e:∀{s:ByteArray},¬(Sz s)>24→s.size≤1000000000:=fun h=>by unfold _root_.Go.Proofs.YtgjkifdilflcbaaGreat.Sz at h; omega
 exact⟨⟨e (k 0 (by decide)),e (k 1 (by decide)),e (k 2 (by decide)),e (k 3 (by decide))⟩,⟨e (k 4 (by decide)),e (k 5 (by decide)),e (k 6 (by decide)),e (k 7 (by decide))⟩,⟨e (k 8 (by decide)),e (k 9 (by decide)),e (k 10 (by decide)),e (k 11 (by decide))⟩,⟨e (k 12 (by decide)),e (k 13 (by decide)),e (k 14 (by decide)),e (k 15 (by decide))⟩⟩
theorem law_true(m n:RawM):SpecC Tryz.prog true 3 [.row m.cells,.row n.cells] (.r (.c (gl (.bool true)))):=by
 by_cases hv:VastC m.a m.b m.c m.d m.t
 ·exact llaw_1 m.a m.b m.c m.d m.t n.a n.b n.c n.d n.t hv
 by_cases hw:VastC n.a n.b n.c n.d n.t
 ·exact llaw_2 m.a m.b m.c m.d m.t n.a n.b n.c n.d n.t hv hw
 have hs:=not_vast hv
 have hs2:=not_vast hw
 obtain⟨o1,c1,r1,A1,A2⟩:=same_Sign m hs
 obtain⟨k1,c2,⟨r0,r2⟩,A3,A4⟩:=same_Kind m hs
 obtain⟨k2,c3,r3,A5,A6⟩:=same_Order m hs
 obtain⟨o2,c4,r4,A7,A8⟩:=same_Factor m hs
 obtain⟨x,c5,r5,A9,A10⟩:=same_Alike m n hs hs2
 exact llaw m.a m.b m.c m.d m.t n.a n.b n.c n.d n.t o1 o2 k1 k2 c1 c2 c3 c4 c5 x r0 r1 r2 r3 r4 r5 hv hw A1 A2 A3 A4 A5 A6 A7 A8 A9 A10
end Go.Proofs.YtgjkifdilflcbaaGreat
