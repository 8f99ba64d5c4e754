/- Laws for the walk. -/
import Derived.Test.YtjlhiaafnpompaaGreatYbj
set_option linter.unusedVariables false
set_option maxHeartbeats 4000000
set_option linter.unusedSimpArgs false
namespace Go.Proofs.YtjlhiaafnpompaaGreat
open Go.RowKit Tr
open Classical
theorem leastk{p:Nat→Prop}{n:Nat}(h:∃ k,k<n∧p k):∃ k,k<n∧p k∧∀ j,j<k→¬p j:=by
 obtain⟨k,hk,hp⟩:=h
 induction k using Nat.strongRecOn with
 | ind k ih =>
  by_cases hj:∃ j,j<k∧p j
  ·obtain⟨j,h1,h2⟩:=hj; exact ih j h1 (by omega) h2
  ·exact⟨k,hk,hp,fun j h1 h2=>hj ⟨j,h1,h2⟩⟩
def gtk{P:Program}{L:List GF}(t:TypeId)(x y:AC)(a b:Int)(r:Bool)(h:r=true↔a>b)(hx:x.gv L=some (.int .i64 a):=by kernel_rfl)(hy:y.gv L=some (.int .i64 b):=by kernel_rfl):GB P L :=
 gbInt .gtr t .i64 x y a b r (by simp only[cmpB]; congr 1; rw[Bool.eq_iff_iff,h,decide_eq_true_eq]) hx hy
noncomputable def rNk(p:Nat→Prop)(n k:Nat):Bool:=if k<n then false else if k=n then true else @decide (p k) (Classical.propDecidable _)
theorem rNk_ok{p:Nat→Prop}{n:Nat}(h:∀ k,k<n→¬p k)(hn:p n)(k:Nat):rNk p n k=true↔p k:=by
 unfold rNk
 split
 ·rename_i h1; exact⟨(fun e=>by cases e),fun e=>absurd e (h k h1)⟩
 ·split
  ·rename_i h1; subst h1; exact⟨fun _=>hn,fun _=>rfl⟩
  ·simp
def lgEL(g1 g2 g3 g4 g5 g6 g7 g8:RawG):List GF:=[g1.cells,g2.cells,g3.cells,g4.cells,g5.cells,g6.cells,g7.cells,g8.cells,[gx (.int .i64 (Sz g1.s1))],[gx (.int .i64 (Sz g1.s2))],[gx (.int .i64 (Sz g1.s3))],[gx (.int .i64 (Sz g1.s4))],[gx (.int .i64 (Sz g2.s1))],[gx (.int .i64 (Sz g2.s2))],[gx (.int .i64 (Sz g2.s3))],[gx (.int .i64 (Sz g2.s4))],[gx (.int .i64 (Sz g3.s1))],[gx (.int .i64 (Sz g3.s2))],[gx (.int .i64 (Sz g3.s3))],[gx (.int .i64 (Sz g3.s4))],[gx (.int .i64 (Sz g4.s1))],[gx (.int .i64 (Sz g4.s2))],[gx (.int .i64 (Sz g4.s3))],[gx (.int .i64 (Sz g4.s4))],[gx (.int .i64 (Sz g5.s1))],[gx (.int .i64 (Sz g5.s2))],[gx (.int .i64 (Sz g5.s3))],[gx (.int .i64 (Sz g5.s4))],[gx (.int .i64 (Sz g6.s1))],[gx (.int .i64 (Sz g6.s2))],[gx (.int .i64 (Sz g6.s3))],[gx (.int .i64 (Sz g6.s4))],[gx (.int .i64 (Sz g7.s1))],[gx (.int .i64 (Sz g7.s2))],[gx (.int .i64 (Sz g7.s3))],[gx (.int .i64 (Sz g7.s4))],[gx (.int .i64 (Sz g8.s1))],[gx (.int .i64 (Sz g8.s2))],[gx (.int .i64 (Sz g8.s3))],[gx (.int .i64 (Sz g8.s4))]].flatten
def lgEP(g1 g2 g3 g4 g5 g6 g7 g8:RawG)(k:Nat):Prop:=([(Sz g1.s1)>8,(Sz g1.s2)>8,(Sz g1.s3)>8,(Sz g1.s4)>8,(Sz g2.s1)>8,(Sz g2.s2)>8,(Sz g2.s3)>8,(Sz g2.s4)>8,(Sz g3.s1)>8,(Sz g3.s2)>8,(Sz g3.s3)>8,(Sz g3.s4)>8,(Sz g4.s1)>8,(Sz g4.s2)>8,(Sz g4.s3)>8,(Sz g4.s4)>8,(Sz g5.s1)>8,(Sz g5.s2)>8,(Sz g5.s3)>8,(Sz g5.s4)>8,(Sz g6.s1)>8,(Sz g6.s2)>8,(Sz g6.s3)>8,(Sz g6.s4)>8,(Sz g7.s1)>8,(Sz g7.s2)>8,(Sz g7.s3)>8,(Sz g7.s4)>8,(Sz g8.s1)>8,(Sz g8.s2)>8,(Sz g8.s3)>8,(Sz g8.s4)>8]:List Prop).getD k False
def lgEO(g1 g2 g3 g4 g5 g6 g7 g8:RawG):List (GO Tryz.prog (lgEL g1 g2 g3 g4 g5 g6 g7 g8)):=[lS (.sym 1) g1.s1 (.sym 64),lS (.sym 3) g1.s2 (.sym 65),lS (.sym 5) g1.s3 (.sym 66),lS (.sym 7) g1.s4 (.sym 67),lS (.sym 9) g2.s1 (.sym 68),lS (.sym 11) g2.s2 (.sym 69),lS (.sym 13) g2.s3 (.sym 70),lS (.sym 15) g2.s4 (.sym 71),lS (.sym 17) g3.s1 (.sym 72),lS (.sym 19) g3.s2 (.sym 73),lS (.sym 21) g3.s3 (.sym 74),lS (.sym 23) g3.s4 (.sym 75),lS (.sym 25) g4.s1 (.sym 76),lS (.sym 27) g4.s2 (.sym 77),lS (.sym 29) g4.s3 (.sym 78),lS (.sym 31) g4.s4 (.sym 79),lS (.sym 33) g5.s1 (.sym 80),lS (.sym 35) g5.s2 (.sym 81),lS (.sym 37) g5.s3 (.sym 82),lS (.sym 39) g5.s4 (.sym 83),lS (.sym 41) g6.s1 (.sym 84),lS (.sym 43) g6.s2 (.sym 85),lS (.sym 45) g6.s3 (.sym 86),lS (.sym 47) g6.s4 (.sym 87),lS (.sym 49) g7.s1 (.sym 88),lS (.sym 51) g7.s2 (.sym 89),lS (.sym 53) g7.s3 (.sym 90),lS (.sym 55) g7.s4 (.sym 91),lS (.sym 57) g8.s1 (.sym 92),lS (.sym 59) g8.s2 (.sym 93),lS (.sym 61) g8.s3 (.sym 94),lS (.sym 63) g8.s4 (.sym 95)]
def lgEB(g1 g2 g3 g4 g5 g6 g7 g8:RawG)(r:Nat→Bool)(hr:∀ k,k<32→(r k=true↔lgEP g1 g2 g3 g4 g5 g6 g7 g8 k)):List (GB Tryz.prog (lgEL g1 g2 g3 g4 g5 g6 g7 g8)) :=
  [gtk 3 (.sym 64) (.lit (.int .i64 8)) (Sz g1.s1) 8 (r 0) (hr 0 (by decide)),
   gtk 3 (.sym 65) (.lit (.int .i64 8)) (Sz g1.s2) 8 (r 1) (hr 1 (by decide)),
   gtk 3 (.sym 66) (.lit (.int .i64 8)) (Sz g1.s3) 8 (r 2) (hr 2 (by decide)),
   gtk 3 (.sym 67) (.lit (.int .i64 8)) (Sz g1.s4) 8 (r 3) (hr 3 (by decide)),
   gtk 3 (.sym 68) (.lit (.int .i64 8)) (Sz g2.s1) 8 (r 4) (hr 4 (by decide)),
   gtk 3 (.sym 69) (.lit (.int .i64 8)) (Sz g2.s2) 8 (r 5) (hr 5 (by decide)),
   gtk 3 (.sym 70) (.lit (.int .i64 8)) (Sz g2.s3) 8 (r 6) (hr 6 (by decide)),
   gtk 3 (.sym 71) (.lit (.int .i64 8)) (Sz g2.s4) 8 (r 7) (hr 7 (by decide)),
   gtk 3 (.sym 72) (.lit (.int .i64 8)) (Sz g3.s1) 8 (r 8) (hr 8 (by decide)),
   gtk 3 (.sym 73) (.lit (.int .i64 8)) (Sz g3.s2) 8 (r 9) (hr 9 (by decide)),
   gtk 3 (.sym 74) (.lit (.int .i64 8)) (Sz g3.s3) 8 (r 10) (hr 10 (by decide)),
   gtk 3 (.sym 75) (.lit (.int .i64 8)) (Sz g3.s4) 8 (r 11) (hr 11 (by decide)),
   gtk 3 (.sym 76) (.lit (.int .i64 8)) (Sz g4.s1) 8 (r 12) (hr 12 (by decide)),
   gtk 3 (.sym 77) (.lit (.int .i64 8)) (Sz g4.s2) 8 (r 13) (hr 13 (by decide)),
   gtk 3 (.sym 78) (.lit (.int .i64 8)) (Sz g4.s3) 8 (r 14) (hr 14 (by decide)),
   gtk 3 (.sym 79) (.lit (.int .i64 8)) (Sz g4.s4) 8 (r 15) (hr 15 (by decide)),
   gtk 3 (.sym 80) (.lit (.int .i64 8)) (Sz g5.s1) 8 (r 16) (hr 16 (by decide)),
   gtk 3 (.sym 81) (.lit (.int .i64 8)) (Sz g5.s2) 8 (r 17) (hr 17 (by decide)),
   gtk 3 (.sym 82) (.lit (.int .i64 8)) (Sz g5.s3) 8 (r 18) (hr 18 (by decide)),
   gtk 3 (.sym 83) (.lit (.int .i64 8)) (Sz g5.s4) 8 (r 19) (hr 19 (by decide)),
   gtk 3 (.sym 84) (.lit (.int .i64 8)) (Sz g6.s1) 8 (r 20) (hr 20 (by decide)),
   gtk 3 (.sym 85) (.lit (.int .i64 8)) (Sz g6.s2) 8 (r 21) (hr 21 (by decide)),
   gtk 3 (.sym 86) (.lit (.int .i64 8)) (Sz g6.s3) 8 (r 22) (hr 22 (by decide)),
   gtk 3 (.sym 87) (.lit (.int .i64 8)) (Sz g6.s4) 8 (r 23) (hr 23 (by decide)),
   gtk 3 (.sym 88) (.lit (.int .i64 8)) (Sz g7.s1) 8 (r 24) (hr 24 (by decide)),
   gtk 3 (.sym 89) (.lit (.int .i64 8)) (Sz g7.s2) 8 (r 25) (hr 25 (by decide)),
   gtk 3 (.sym 90) (.lit (.int .i64 8)) (Sz g7.s3) 8 (r 26) (hr 26 (by decide)),
   gtk 3 (.sym 91) (.lit (.int .i64 8)) (Sz g7.s4) 8 (r 27) (hr 27 (by decide)),
   gtk 3 (.sym 92) (.lit (.int .i64 8)) (Sz g8.s1) 8 (r 28) (hr 28 (by decide)),
   gtk 3 (.sym 93) (.lit (.int .i64 8)) (Sz g8.s2) 8 (r 29) (hr 29 (by decide)),
   gtk 3 (.sym 94) (.lit (.int .i64 8)) (Sz g8.s3) 8 (r 30) (hr 30 (by decide)),
   gtk 3 (.sym 95) (.lit (.int .i64 8)) (Sz g8.s4) 8 (r 31) (hr 31 (by decide))]
theorem lgEE(g1 g2 g3 g4 g5 g6 g7 g8:RawG)(r:Nat→Bool)(hr:∀ k,k<32→(r k=true↔lgEP g1 g2 g3 g4 g5 g6 g7 g8 k))(b:Bool)(hev:evL (gcx tys true (lgEL g1 g2 g3 g4 g5 g6 g7 g8) [] (lgEB g1 g2 g3 g4 g5 g6 g7 g8 r hr) (lgEO g1 g2 g3 g4 g5 g6 g7 g8)) Tryz.f5 2000 [⟨syms 0 64,27,none⟩] [.c (.lit (.int .i64 8)),.c (.sl 0 0 8 8)] (.r (.c (.lit (.bool b))))=true):SpecM Tryz.prog true 5 [(g1.cells++g2.cells++g3.cells++g4.cells++g5.cells++g6.cells++g7.cells++g8.cells,27)] [.f (.c (gl (.int .i64 8))),.sl 0 0 8 8] (B1 b) :=
 ev_sm (L:=lgEL g1 g2 g3 g4 g5 g6 g7 g8) tys_ok mixed [] (lgEB g1 g2 g3 g4 g5 g6 g7 g8 r hr) (lgEO g1 g2 g3 g4 g5 g6 g7 g8) Tryz.func5 eo5 2000 [⟨syms 0 64,27,none⟩] [.c (.lit (.int .i64 8)),.c (.sl 0 0 8 8)] (.r (.c (.lit (.bool b)))) hev
theorem lgET(g1 g2 g3 g4 g5 g6 g7 g8:RawG)(k:Nat)(hk:k<32)(h:∀ j,j<k→¬lgEP g1 g2 g3 g4 g5 g6 g7 g8 j)(hp:lgEP g1 g2 g3 g4 g5 g6 g7 g8 k):SpecM Tryz.prog true 5 [(g1.cells++g2.cells++g3.cells++g4.cells++g5.cells++g6.cells++g7.cells++g8.cells,27)] [.f (.c (gl (.int .i64 8))),.sl 0 0 8 8] (B1 true):=by
 rcases(by omega:k=0∨k=1∨k=2∨k=3∨k=4∨k=5∨k=6∨k=7∨k=8∨k=9∨k=10∨k=11∨k=12∨k=13∨k=14∨k=15∨k=16∨k=17∨k=18∨k=19∨k=20∨k=21∨k=22∨k=23∨k=24∨k=25∨k=26∨k=27∨k=28∨k=29∨k=30∨k=31) with rfl|rfl|rfl|rfl|rfl|rfl|rfl|rfl|rfl|rfl|rfl|rfl|rfl|rfl|rfl|rfl|rfl|rfl|rfl|rfl|rfl|rfl|rfl|rfl|rfl|rfl|rfl|rfl|rfl|rfl|rfl|rfl
 all_goals exact lgEE g1 g2 g3 g4 g5 g6 g7 g8 (rNk (lgEP g1 g2 g3 g4 g5 g6 g7 g8) _) (fun j _=>rNk_ok h hp j) true (by kernel_rfl)
def lgEC(g1 g2 g3 g4 g5 g6 g7 g8:RawG):Prop:=∃ k,k<32∧lgEP g1 g2 g3 g4 g5 g6 g7 g8 k
theorem lgE(g1 g2 g3 g4 g5 g6 g7 g8:RawG)(b:Bool)(hb:b=true↔lgEC g1 g2 g3 g4 g5 g6 g7 g8):SpecM Tryz.prog true 5 [(g1.cells++g2.cells++g3.cells++g4.cells++g5.cells++g6.cells++g7.cells++g8.cells,27)] [.f (.c (gl (.int .i64 8))),.sl 0 0 8 8] (B1 b):=by
 cases b
 ·exact lgEE g1 g2 g3 g4 g5 g6 g7 g8 (fun _=>false) (fun k hk=>⟨(fun e=>by cases e),fun e=>by cases hb.2 ⟨k,hk,e⟩⟩) false (by kernel_rfl)
 ·obtain⟨k,hk,hp,h⟩:=leastk (hb.1 rfl)
  exact lgET g1 g2 g3 g4 g5 g6 g7 g8 k hk h hp
theorem els_1(g1 g2 g3 g4:RawG)(t:Bool)(g5 g6 g7 g8:RawG)(u:Bool)(hl:lgEC g1 g2 g3 g4 g5 g6 g7 g8):SpecC Tryz.prog true 3 [.row (g1.cells++g2.cells++g3.cells++g4.cells++[gx (.bool t)]),.row (g5.cells++g6.cells++g7.cells++g8.cells++[gx (.bool u)])] (.r (.c (gl (.bool true)))) :=
  ev_sp (L := [g1.cells,g2.cells,g3.cells,g4.cells,[gx (.bool t)],g5.cells,g6.cells,g7.cells,g8.cells,[gx (.bool u)]].flatten) tys_ok mixed
     [gsm (lgE g1 g2 g3 g4 g5 g6 g7 g8 true (tI hl)) [19] [⟨flA [syms 0 32,syms 33 32],27,none⟩] [.c (.lit (.int .i64 8)),.c (.sl 0 0 8 8)] (.r (.c (.lit (.bool true)))),gs (lknown) [] (.r (.c (.lit (.bool true))))]
     [] [] Tryz.func3 eo3 2000 [.row (syms 0 33),.row (syms 33 33)] (.r (.c (.lit (.bool true))))
theorem els_2(g1 g2 g3 g4:RawG)(t:Bool)(g5 g6 g7 g8:RawG)(u:Bool)(b_g1:RawG.Sz g1)(b_g2:RawG.Sz g2)(b_g3:RawG.Sz g3)(b_g4:RawG.Sz g4)(hl:¬lgEC g1 g2 g3 g4 g5 g6 g7 g8)(hm:¬MOk (⟨g1,g2,g3,g4,t⟩:RawM)):SpecC Tryz.prog true 3 [.row (g1.cells++g2.cells++g3.cells++g4.cells++[gx (.bool t)]),.row (g5.cells++g6.cells++g7.cells++g8.cells++[gx (.bool u)])] (.r (.c (gl (.bool true)))) :=
  ev_sp (L := [g1.cells,g2.cells,g3.cells,g4.cells,[gx (.bool t)],g5.cells,g6.cells,g7.cells,g8.cells,[gx (.bool u)]].flatten) tys_ok mixed
     [gsm (lgE g1 g2 g3 g4 g5 g6 g7 g8 false (fI hl)) [19] [⟨flA [syms 0 32,syms 33 32],27,none⟩] [.c (.lit (.int .i64 8)),.c (.sl 0 0 8 8)] (.r (.c (.lit (.bool false)))),gs (mChkN g1 g2 g3 g4 t b_g1 b_g2 b_g3 b_g4 hm) [.row (syms 0 33)] (.r (.c (.lit (.int .i64 2)))),gs (lknown) [] (.r (.c (.lit (.bool true))))]
     [] [] Tryz.func3 eo3 2000 [.row (syms 0 33),.row (syms 33 33)] (.r (.c (.lit (.bool true))))
theorem els_3(g1 g2 g3 g4:RawG)(t:Bool)(g5 g6 g7 g8:RawG)(u:Bool)(b_g5:RawG.Sz g5)(b_g6:RawG.Sz g6)(b_g7:RawG.Sz g7)(b_g8:RawG.Sz g8)(hl:¬lgEC g1 g2 g3 g4 g5 g6 g7 g8)
  (C1:SpecC Tryz.prog true 6 [.row (g1.cells++g2.cells++g3.cells++g4.cells++[gx (.bool t)])] (.r (.c (gl (.int .i64 0)))))
  (hm:¬MOk (⟨g5,g6,g7,g8,u⟩:RawM)):SpecC Tryz.prog true 3 [.row (g1.cells++g2.cells++g3.cells++g4.cells++[gx (.bool t)]),.row (g5.cells++g6.cells++g7.cells++g8.cells++[gx (.bool u)])] (.r (.c (gl (.bool true)))) :=
  ev_sp (L := [g1.cells,g2.cells,g3.cells,g4.cells,[gx (.bool t)],g5.cells,g6.cells,g7.cells,g8.cells,[gx (.bool u)]].flatten) tys_ok mixed
     [gsm (lgE g1 g2 g3 g4 g5 g6 g7 g8 false (fI hl)) [19] [⟨flA [syms 0 32,syms 33 32],27,none⟩] [.c (.lit (.int .i64 8)),.c (.sl 0 0 8 8)] (.r (.c (.lit (.bool false)))),gs (C1) [.row (syms 0 33)] (.r (.c (.lit (.int .i64 0)))),gs (mChkN g5 g6 g7 g8 u b_g5 b_g6 b_g7 b_g8 hm) [.row (syms 33 33)] (.r (.c (.lit (.int .i64 2)))),gs (lknown) [] (.r (.c (.lit (.bool true))))]
     [] [] Tryz.func3 eo3 2000 [.row (syms 0 33),.row (syms 33 33)] (.r (.c (.lit (.bool true))))
theorem els_4(g1 g2 g3 g4 g5 g6 g7 g8:RawG)(u:Bool)(hl:¬lgEC g1 g2 g3 g4 g5 g6 g7 g8)
  (C1:SpecC Tryz.prog true 6 [.row (g1.cells++g2.cells++g3.cells++g4.cells++[gl (.bool true)])] (.r (.c (gl (.int .i64 0)))))
  (C2:SpecC Tryz.prog true 6 [.row (g5.cells++g6.cells++g7.cells++g8.cells++[gx (.bool u)])] (.r (.c (gl (.int .i64 0))))):SpecC Tryz.prog true 3 [.row (g1.cells++g2.cells++g3.cells++g4.cells++[gl (.bool true)]),.row (g5.cells++g6.cells++g7.cells++g8.cells++[gx (.bool u)])] (.r (.c (gl (.bool true)))) :=
  ev_sp (L := [g1.cells,g2.cells,g3.cells,g4.cells,g5.cells,g6.cells,g7.cells,g8.cells,[gx (.bool u)]].flatten) tys_ok mixed
     [gsm (lgE g1 g2 g3 g4 g5 g6 g7 g8 false (fI hl)) [19] [⟨syms 0 64,27,none⟩] [.c (.lit (.int .i64 8)),.c (.sl 0 0 8 8)] (.r (.c (.lit (.bool false)))),gs (C1) [.row (flA [syms 0 32,[.lit (.bool true)]])] (.r (.c (.lit (.int .i64 0)))),gs (C2) [.row (syms 32 33)] (.r (.c (.lit (.int .i64 0)))),gs (lknown) [] (.r (.c (.lit (.bool true))))]
     [] [] Tryz.func3 eo3 2000 [.row (flA [syms 0 32,[.lit (.bool true)]]),.row (syms 32 33)] (.r (.c (.lit (.bool true))))
theorem els_5(g1 g2 g3 g4 g5 g6 g7 g8:RawG)(hl:¬lgEC g1 g2 g3 g4 g5 g6 g7 g8)
  (C1:SpecC Tryz.prog true 6 [.row (g1.cells++g2.cells++g3.cells++g4.cells++[gl (.bool false)])] (.r (.c (gl (.int .i64 0)))))
  (C2:SpecC Tryz.prog true 6 [.row (g5.cells++g6.cells++g7.cells++g8.cells++[gl (.bool true)])] (.r (.c (gl (.int .i64 0))))):SpecC Tryz.prog true 3 [.row (g1.cells++g2.cells++g3.cells++g4.cells++[gl (.bool false)]),.row (g5.cells++g6.cells++g7.cells++g8.cells++[gl (.bool true)])] (.r (.c (gl (.bool true)))) :=
  ev_sp (L := [g1.cells,g2.cells,g3.cells,g4.cells,g5.cells,g6.cells,g7.cells,g8.cells].flatten) tys_ok mixed
     [gsm (lgE g1 g2 g3 g4 g5 g6 g7 g8 false (fI hl)) [19] [⟨syms 0 64,27,none⟩] [.c (.lit (.int .i64 8)),.c (.sl 0 0 8 8)] (.r (.c (.lit (.bool false)))),gs (C1) [.row (flA [syms 0 32,[.lit (.bool false)]])] (.r (.c (.lit (.int .i64 0)))),gs (C2) [.row (flA [syms 32 32,[.lit (.bool true)]])] (.r (.c (.lit (.int .i64 0)))),gs (lknown) [] (.r (.c (.lit (.bool true))))]
     [] [] Tryz.func3 eo3 2000 [.row (flA [syms 0 32,[.lit (.bool false)]]),.row (flA [syms 32 32,[.lit (.bool true)]])] (.r (.c (.lit (.bool true))))
theorem els_6(g1 g2 g3 g4 g5 g6 g7 g8:RawG)(h1 h2 h3 h4 n1 n2 n3 n4 o1:RawG)(k1 k2:Int)(c1:Int)(hl:¬lgEC g1 g2 g3 g4 g5 g6 g7 g8)
  (C1:SpecC Tryz.prog true 6 [.row (g1.cells++g2.cells++g3.cells++g4.cells++[gl (.bool false)])] (.r (.c (gl (.int .i64 0)))))
  (C2:SpecC Tryz.prog true 6 [.row (g5.cells++g6.cells++g7.cells++g8.cells++[gl (.bool false)])] (.r (.c (gl (.int .i64 0)))))
  (D1:SpecC Tryz.prog true 8 [.row (g5.cells++g6.cells++g7.cells++g8.cells++[gl (.bool false)])] (.tup [.row (h1.cells++h2.cells++h3.cells++h4.cells++[gl (.bool false)]),.c (gl (.int .i64 0))]))
  (D2:SpecM Tryz.prog true 9 [((g5.cells++g6.cells++g7.cells++g8.cells++[gl (.bool false)])++(g1.cells++g2.cells++g3.cells++g4.cells++[gl (.bool false)])++(h1.cells++h2.cells++h3.cells++h4.cells++[gl (.bool false)]),29)] [.sl 0 0 3 3] (.tup [.row (n1.cells++n2.cells++n3.cells++n4.cells++[gl (.bool false)]),.c (gl (.int .i64 0))]))
  (S1:SpecC Tryz.prog true 10 [.row (g1.cells++g2.cells++g3.cells++g4.cells++[gl (.bool false)])] (.tup [.row o1.cells,.c (gl (.int .i64 0))]))
  (S2:SpecC Tryz.prog true 10 [.row (n1.cells++n2.cells++n3.cells++n4.cells++[gl (.bool false)])] (.tup [.row o1.cells,.c (gl (.int .i64 0))]))
  (K1:SpecC Tryz.prog true 11 [.row (g1.cells++g2.cells++g3.cells++g4.cells++[gl (.bool false)])] (.tup [.c (gx (.int .i64 k1)),.c (gl (.int .i64 0))]))
  (K2:SpecC Tryz.prog true 11 [.row (n1.cells++n2.cells++n3.cells++n4.cells++[gl (.bool false)])] (.tup [.c (gx (.int .i64 k1)),.c (gl (.int .i64 0))]))
  (O1:SpecC Tryz.prog true 12 [.row (g1.cells++g2.cells++g3.cells++g4.cells++[gl (.bool false)])] (.tup [.c (gx (.int .i64 k2)),.c (gl (.int .i64 0))]))
  (O2:SpecC Tryz.prog true 12 [.row (n1.cells++n2.cells++n3.cells++n4.cells++[gl (.bool false)])] (.tup [.c (gx (.int .i64 k2)),.c (gl (.int .i64 0))]))
  (L1:SpecC Tryz.prog true 13 [.row (g1.cells++g2.cells++g3.cells++g4.cells++[gl (.bool false)]),.row (n1.cells++n2.cells++n3.cells++n4.cells++[gl (.bool false)])] (.tup [.c (gl (.bool true)),.c (gl (.int .i64 0))]))
  (F1:SpecC Tryz.prog true 14 [.row (g1.cells++g2.cells++g3.cells++g4.cells++[gl (.bool false)])] (.tup [.row zGG,.c (gx (.int .i64 c1))]))
  (hc:¬(c1=0)):SpecC Tryz.prog true 3 [.row (g1.cells++g2.cells++g3.cells++g4.cells++[gl (.bool false)]),.row (g5.cells++g6.cells++g7.cells++g8.cells++[gl (.bool false)])] (.r (.c (gl (.bool true)))) :=
  ev_sp (L := [g1.cells,g2.cells,g3.cells,g4.cells,g5.cells,g6.cells,g7.cells,g8.cells,h1.cells,h2.cells,h3.cells,h4.cells,n1.cells,n2.cells,n3.cells,n4.cells,o1.cells,o1.cells,[gx (.int .i64 k1)],[gx (.int .i64 k1)],[gx (.int .i64 k2)],[gx (.int .i64 k2)],[gx (.int .i64 c1)]].flatten) tys_ok mixed
     [gsm (lgE g1 g2 g3 g4 g5 g6 g7 g8 false (fI hl)) [19] [⟨syms 0 64,27,none⟩] [.c (.lit (.int .i64 8)),.c (.sl 0 0 8 8)] (.r (.c (.lit (.bool false)))),gs (C1) [.row (flA [syms 0 32,[.lit (.bool false)]])] (.r (.c (.lit (.int .i64 0)))),gs (C2) [.row (flA [syms 32 32,[.lit (.bool false)]])] (.r (.c (.lit (.int .i64 0)))),gs (D1) [.row (flA [syms 32 32,[.lit (.bool false)]])] (.tup [.row (flA [syms 64 32,[.lit (.bool false)]]),.c (.lit (.int .i64 0))]),
      gsm (D2) [50] [⟨flA [syms 32 32,[.lit (.bool false)],syms 0 32,[.lit (.bool false)],syms 64 32,[.lit (.bool false)]],29,none⟩] [.c (.sl 0 0 3 3)] (.tup [.row (flA [syms 96 32,[.lit (.bool false)]]),.c (.lit (.int .i64 0))]),gs (S1) [.row (flA [syms 0 32,[.lit (.bool false)]])] (.tup [.row (syms 128 8),.c (.lit (.int .i64 0))]),gs (S2) [.row (flA [syms 96 32,[.lit (.bool false)]])] (.tup [.row (syms 136 8),.c (.lit (.int .i64 0))]),gs (K1) [.row (flA [syms 0 32,[.lit (.bool false)]])] (.tup [.c (.sym 144),.c (.lit (.int .i64 0))]),gs (K2) [.row (flA [syms 96 32,[.lit (.bool false)]])] (.tup [.c (.sym 145),.c (.lit (.int .i64 0))]),gs (O1) [.row (flA [syms 0 32,[.lit (.bool false)]])] (.tup [.c (.sym 146),.c (.lit (.int .i64 0))]),gs (O2) [.row (flA [syms 96 32,[.lit (.bool false)]])] (.tup [.c (.sym 147),.c (.lit (.int .i64 0))]),gs (L1) [.row (flA [syms 0 32,[.lit (.bool false)]]),.row (flA [syms 96 32,[.lit (.bool false)]])] (.tup [.c (.lit (.bool true)),.c (.lit (.int .i64 0))]),gs (F1) [.row (flA [syms 0 32,[.lit (.bool false)]])] (.tup [.row (zGA),.c (.sym 148)]),gs (lknown) [] (.r (.c (.lit (.bool true))))]
     [bGn (.row (syms 128 8)) (.row (syms 136 8)) o1 o1 true (tI rfl),bI .neq 39 (.sym 144) (.sym 145) k1 k1 false (by simp[cmpB]),bI .neq 3 (.sym 146) (.sym 147) k2 k2 false (by simp[cmpB]),bI .neq 31 (.sym 148) (.lit (.int .i64 0)) c1 0 true (by simp[cmpB,hc]),bG (.row (zGA)) (.row (zGA)) (⟨false,false,false,false,⟨#[]⟩,⟨#[]⟩,⟨#[]⟩,⟨#[]⟩⟩:RawG) (⟨false,false,false,false,⟨#[]⟩,⟨#[]⟩,⟨#[]⟩,⟨#[]⟩⟩:RawG) true (tI rfl)] [] Tryz.func3 eo3 2000 [.row (flA [syms 0 32,[.lit (.bool false)]]),.row (flA [syms 32 32,[.lit (.bool false)]])] (.r (.c (.lit (.bool true))))
theorem els_7(g1 g2 g3 g4 g5 g6 g7 g8:RawG)(h1 h2 h3 h4 n1 n2 n3 n4 o1:RawG)(k1 k2:Int)(o2 o3:RawG)(hl:¬lgEC g1 g2 g3 g4 g5 g6 g7 g8)
  (C1:SpecC Tryz.prog true 6 [.row (g1.cells++g2.cells++g3.cells++g4.cells++[gl (.bool false)])] (.r (.c (gl (.int .i64 0)))))
  (C2:SpecC Tryz.prog true 6 [.row (g5.cells++g6.cells++g7.cells++g8.cells++[gl (.bool false)])] (.r (.c (gl (.int .i64 0)))))
  (D1:SpecC Tryz.prog true 8 [.row (g5.cells++g6.cells++g7.cells++g8.cells++[gl (.bool false)])] (.tup [.row (h1.cells++h2.cells++h3.cells++h4.cells++[gl (.bool false)]),.c (gl (.int .i64 0))]))
  (D2:SpecM Tryz.prog true 9 [((g5.cells++g6.cells++g7.cells++g8.cells++[gl (.bool false)])++(g1.cells++g2.cells++g3.cells++g4.cells++[gl (.bool false)])++(h1.cells++h2.cells++h3.cells++h4.cells++[gl (.bool false)]),29)] [.sl 0 0 3 3] (.tup [.row (n1.cells++n2.cells++n3.cells++n4.cells++[gl (.bool false)]),.c (gl (.int .i64 0))]))
  (S1:SpecC Tryz.prog true 10 [.row (g1.cells++g2.cells++g3.cells++g4.cells++[gl (.bool false)])] (.tup [.row o1.cells,.c (gl (.int .i64 0))]))
  (S2:SpecC Tryz.prog true 10 [.row (n1.cells++n2.cells++n3.cells++n4.cells++[gl (.bool false)])] (.tup [.row o1.cells,.c (gl (.int .i64 0))]))
  (K1:SpecC Tryz.prog true 11 [.row (g1.cells++g2.cells++g3.cells++g4.cells++[gl (.bool false)])] (.tup [.c (gx (.int .i64 k1)),.c (gl (.int .i64 0))]))
  (K2:SpecC Tryz.prog true 11 [.row (n1.cells++n2.cells++n3.cells++n4.cells++[gl (.bool false)])] (.tup [.c (gx (.int .i64 k1)),.c (gl (.int .i64 0))]))
  (O1:SpecC Tryz.prog true 12 [.row (g1.cells++g2.cells++g3.cells++g4.cells++[gl (.bool false)])] (.tup [.c (gx (.int .i64 k2)),.c (gl (.int .i64 0))]))
  (O2:SpecC Tryz.prog true 12 [.row (n1.cells++n2.cells++n3.cells++n4.cells++[gl (.bool false)])] (.tup [.c (gx (.int .i64 k2)),.c (gl (.int .i64 0))]))
  (L1:SpecC Tryz.prog true 13 [.row (g1.cells++g2.cells++g3.cells++g4.cells++[gl (.bool false)]),.row (n1.cells++n2.cells++n3.cells++n4.cells++[gl (.bool false)])] (.tup [.c (gl (.bool true)),.c (gl (.int .i64 0))]))
  (F2:SpecC Tryz.prog true 14 [.row (g1.cells++g2.cells++g3.cells++g4.cells++[gl (.bool false)])] (.tup [.row o2.cells,.c (gl (.int .i64 0))]))
  (G1:SpecC Tryz.prog true 15 [.row ((rawQ ⟨1,0⟩).cells),.row (o2.cells)] (.tup [.row o3.cells,.c (gl (.int .i64 0))]))
  (G2:SpecM Tryz.prog true 17 [(o2.cells++(rawQ ⟨2,0⟩).cells++o3.cells,27)] [.sl 0 0 3 3] (.tup [.row o1.cells,.c (gl (.int .i64 0))])):SpecC Tryz.prog true 3 [.row (g1.cells++g2.cells++g3.cells++g4.cells++[gl (.bool false)]),.row (g5.cells++g6.cells++g7.cells++g8.cells++[gl (.bool false)])] (.r (.c (gl (.bool true)))) :=
  ev_sp (L := [g1.cells,g2.cells,g3.cells,g4.cells,g5.cells,g6.cells,g7.cells,g8.cells,h1.cells,h2.cells,h3.cells,h4.cells,n1.cells,n2.cells,n3.cells,n4.cells,o1.cells,o1.cells,[gx (.int .i64 k1)],[gx (.int .i64 k1)],[gx (.int .i64 k2)],[gx (.int .i64 k2)],o2.cells,(rawQ (⟨1,0⟩ : QC)).cells,o3.cells,(rawQ (⟨2,0⟩ : QC)).cells,o1.cells].flatten) tys_ok mixed
     [gsm (lgE g1 g2 g3 g4 g5 g6 g7 g8 false (fI hl)) [19] [⟨syms 0 64,27,none⟩] [.c (.lit (.int .i64 8)),.c (.sl 0 0 8 8)] (.r (.c (.lit (.bool false)))),gs (C1) [.row (flA [syms 0 32,[.lit (.bool false)]])] (.r (.c (.lit (.int .i64 0)))),gs (C2) [.row (flA [syms 32 32,[.lit (.bool false)]])] (.r (.c (.lit (.int .i64 0)))),gs (D1) [.row (flA [syms 32 32,[.lit (.bool false)]])] (.tup [.row (flA [syms 64 32,[.lit (.bool false)]]),.c (.lit (.int .i64 0))]),
      gsm (D2) [50] [⟨flA [syms 32 32,[.lit (.bool false)],syms 0 32,[.lit (.bool false)],syms 64 32,[.lit (.bool false)]],29,none⟩] [.c (.sl 0 0 3 3)] (.tup [.row (flA [syms 96 32,[.lit (.bool false)]]),.c (.lit (.int .i64 0))]),gs (S1) [.row (flA [syms 0 32,[.lit (.bool false)]])] (.tup [.row (syms 128 8),.c (.lit (.int .i64 0))]),gs (S2) [.row (flA [syms 96 32,[.lit (.bool false)]])] (.tup [.row (syms 136 8),.c (.lit (.int .i64 0))]),gs (K1) [.row (flA [syms 0 32,[.lit (.bool false)]])] (.tup [.c (.sym 144),.c (.lit (.int .i64 0))]),gs (K2) [.row (flA [syms 96 32,[.lit (.bool false)]])] (.tup [.c (.sym 145),.c (.lit (.int .i64 0))]),gs (O1) [.row (flA [syms 0 32,[.lit (.bool false)]])] (.tup [.c (.sym 146),.c (.lit (.int .i64 0))]),gs (O2) [.row (flA [syms 96 32,[.lit (.bool false)]])] (.tup [.c (.sym 147),.c (.lit (.int .i64 0))]),gs (L1) [.row (flA [syms 0 32,[.lit (.bool false)]]),.row (flA [syms 96 32,[.lit (.bool false)]])] (.tup [.c (.lit (.bool true)),.c (.lit (.int .i64 0))]),gs (F2) [.row (flA [syms 0 32,[.lit (.bool false)]])] (.tup [.row (syms 148 8),.c (.lit (.int .i64 0))]),gs (pGInt 1 0 (by decide) (by decide) (by decide) (by decide)) [.c (.lit (.int .i64 1)),.c (.lit (.int .i64 0))] (.r (.row (syms 156 8))),gs (G1) [.row (syms 156 8),.row (syms 148 8)] (.tup [.row (syms 164 8),.c (.lit (.int .i64 0))]),gs (pGInt 2 0 (by decide) (by decide) (by decide) (by decide)) [.c (.lit (.int .i64 2)),.c (.lit (.int .i64 0))] (.r (.row (syms 172 8))),
      gsm (G2) [183] [⟨flA [syms 148 8,syms 172 8,syms 164 8],27,none⟩] [.c (.sl 0 0 3 3)] (.tup [.row (syms 180 8),.c (.lit (.int .i64 0))]),gs (lknown) [] (.r (.c (.lit (.bool true))))]
     [bGn (.row (syms 128 8)) (.row (syms 136 8)) o1 o1 true (tI rfl),bI .neq 39 (.sym 144) (.sym 145) k1 k1 false (by simp[cmpB]),bI .neq 3 (.sym 146) (.sym 147) k2 k2 false (by simp[cmpB]),bG (.row (syms 180 8)) (.row (syms 128 8)) o1 o1 true (tI rfl)] [] Tryz.func3 eo3 2000 [.row (flA [syms 0 32,[.lit (.bool false)]]),.row (flA [syms 32 32,[.lit (.bool false)]])] (.r (.c (.lit (.bool true))))
end Go.Proofs.YtjlhiaafnpompaaGreat
namespace Go.Proofs.YtjlhiaafnpompaaGreat
open Go.RowKit Tr
open Classical
theorem half_up(a d r:QC):(⟨2,0⟩:QC)*(a - ((a - d) - r) / ⟨2,0⟩)=(a+d)+r:=by
 have h:=qdm (x:=(a - d) - r) (y:=⟨2,0⟩) (by decide +kernel)
 generalize ((a - d) - r) / (⟨2,0⟩:QC)=q at *
 have k1:=congrArg QC.re h
 have k2:=congrArg QC.im h
 simp only[qmr,qmi,qsr,qsi] at k1 k2
 apply qc_ext<;>simp only[qmr,qmi,qar,qai,qsr,qsi]<;>grind
theorem half_dn(a d r:QC):(⟨2,0⟩:QC)*(a - ((a - d)+r) / ⟨2,0⟩)=(a+d) - r:=by
 have h:=qdm (x:=(a - d)+r) (y:=⟨2,0⟩) (by decide +kernel)
 generalize ((a - d)+r) / (⟨2,0⟩:QC)=q at *
 have k1:=congrArg QC.re h
 have k2:=congrArg QC.im h
 simp only[qmr,qmi,qar,qai,qsr,qsi] at k1 k2
 apply qc_ext<;>simp only[qmr,qmi,qar,qai,qsr,qsi]<;>grind
theorem q0add(k:QC):(⟨0,0⟩:QC)+k=k:=by apply qc_ext<;>simp only[qar,qai]<;>grind
theorem qone_r(k:QC):k*(⟨1,0⟩:QC)=k:=by apply qc_ext<;>simp only[qmr,qmi]<;>grind
theorem one_div{x y:QC}(hx:x≠⟨0,0⟩)(hy:y≠⟨0,0⟩):(⟨1,0⟩:QC) / (x / y)=y / x:=by
 have h1:=qdm (x:=x) hy
 have hk:x / y≠⟨0,0⟩:=fun e=>hx (by rw[←h1,e]; exact qmul0.2 (.inr rfl))
 have h2:=qdm (x:=(⟨1,0⟩:QC)) hk
 have h3:=qdm (x:=y) hx
 refine qcan hx ?_
 rw[h3]
 generalize x / y=k at *
 generalize (⟨1,0⟩:QC) / k=j at *
 rw[←h1,qass,h2,qone_r]
theorem root_prod{a b c d r:QC}(hc:c=⟨1,0⟩)(hr:r*r=((a - d)*(a - d))+(b*(⟨4,0⟩:QC))):((a+d)+r)*((a+d) - r)=(⟨4,0⟩:QC)*((a*d) - (b*c)):=by
 subst hc
 have k1:=congrArg QC.re hr
 have k2:=congrArg QC.im hr
 simp only[qmr,qmi,qar,qai,qsr,qsi] at k1 k2
 apply qc_ext<;>simp only[qmr,qmi,qar,qai,qsr,qsi]<;>grind
theorem root_sum(a d r:QC):(((a+d)+r)+((a+d) - r))*(((a+d)+r)+((a+d) - r))=(⟨4,0⟩:QC)*((a+d)*(a+d)):=by
 apply qc_ext<;>simp only[qmr,qmi,qar,qai,qsr,qsi]<;>grind
abbrev FacIs(q:Q4)(k:QC):Prop:=SpecC Tryz.prog true 14 [.row (mQ q false)] (.tup [.row (rawQ k).cells,.c (gl (.int .i64 0))])
abbrev FacNo(q:Q4)(c:Int):Prop:=SpecC Tryz.prog true 14 [.row (mQ q false)] (.tup [.row zGG,.c (gx (.int .i64 c))])
theorem four_of{a b c d:QC}(hd:¬(((a*d) - (b*c))=(⟨0,0⟩:QC)))(h:(a+d)*(a+d)=(⟨4,0⟩:QC)*((a*d) - (b*c))):e1 a b c d=⟨4,0⟩:=by
 unfold e1
 rw[h]
 refine qcan hd ?_
 rw[qdm hd,qcom]
theorem one_fac{a b c d:QC}(h:e1 a b c d=⟨4,0⟩)(A:FacIs (a,b,c,d) ⟨1,0⟩):∃ k:QC,k≠⟨0,0⟩∧ShortZ k∧ShortZ ((⟨1,0⟩:QC) / k)∧(((⟨0,0⟩:QC)+k)+⟨2,0⟩)+(⟨1,0⟩:QC) / k=e1 a b c d∧FacIs (a,b,c,d) k :=
 ⟨⟨1,0⟩,by decide +kernel,short_c (by decide +kernel),by rw[qd_one]; exact short_c (by decide +kernel),by rw[h]; decide +kernel,A⟩
theorem fac_of{a b c d:QC}(hm:MapOk (a,b,c,d))(hz:ZL4 (a,b,c,d) 2):(∃ e:Int,¬e=0∧FacNo (a,b,c,d) e)∨∃ k:QC,k≠⟨0,0⟩∧ShortZ k∧ShortZ ((⟨1,0⟩:QC) / k)∧(((⟨0,0⟩:QC)+k)+⟨2,0⟩)+(⟨1,0⟩:QC) / k=e1 a b c d∧FacIs (a,b,c,d) k:=by
 obtain⟨⟨ha,hb,hc,hd⟩,hn,hdt⟩:=hm
 have A:=fFactor a b c d ha hb hc hd hdt hn
 by_cases h1:(a=(⟨1,0⟩:QC)∧b=(⟨0,0⟩:QC)∧c=(⟨0,0⟩:QC)∧d=(⟨1,0⟩:QC))
 ·exact .inl ⟨250,by decide,A.t h1⟩
 have A:=A.f h1
 by_cases h2:c=⟨0,0⟩
 ·have A:=A.t h2
  have hd1:d=⟨1,0⟩:=by
   rcases hn with h|h
   ·rw[h2] at h; exact absurd (show(⟨0,0⟩:QC)=⟨1,0⟩ from h) (by decide +kernel)
   ·exact h.2
  by_cases h3:a=(⟨1,0⟩:QC)
  ·refine .inr (one_fac (four_of hdt ?_) (A.t h3))
   rw[h2,h3,hd1]
   apply qc_ext<;>simp only[qmr,qmi,qar,qai,qsr,qsi]<;>grind
  have A:=A.f h3
  by_cases h4:(outPC b ((⟨1,0⟩:QC) - a))=0
  ·have A:=A.t h4
   have hdet:(a*d) - (b*c)=a*⟨1,0⟩:=by
    rw[h2,hd1]
    apply qc_ext<;>simp only[qmr,qmi,qsr,qsi]<;>grind
   have ha0:a≠⟨0,0⟩:=fun e=>hdt (by
    show(a*d) - (b*c)=⟨0,0⟩
    rw[h2,e]
    apply qc_ext<;>simp only[qmr,qmi,qsr,qsi]<;>grind)
   refine .inr ⟨a,ha0,ha,short_zl ((ZL_dv ha0 (ZL_int 1 0 (by decide) (by decide) (by decide) (by decide)) hz.1).mono (by omega)),?_,A⟩
   rw[q0add]
   have k:=fac_sum (x:=a) (y:=⟨1,0⟩) ha0 (by decide +kernel)
   rw[qd_one] at k
   rw[k]
   unfold e1
   rw[hdet,hd1]
  ·exact .inl ⟨_,h4,A.f h4⟩
 have A:=A.f h2
 have hc1:c=⟨1,0⟩:=hn.elim id (fun h=>absurd h.1 h2)
 by_cases h3:HasQ (e3 a b d)
 ·have A:=A.t h3
  have hr:rt (e3 a b d)*rt (e3 a b d)=((a - d)*(a - d))+(b*(⟨4,0⟩:QC)):=(rt_ok h3).1
  by_cases h4:(rt (e3 a b d))=(⟨0,0⟩:QC)
  ·have A:=A.t h4
   by_cases h5:(outPC ((a - d)+(rt (e3 a b d))) (⟨2,0⟩:QC))=0
   ·refine .inr (one_fac (four_of hdt ?_) (A.t h5))
    have k:=root_prod hc1 hr
    rw[←k,h4]
    apply qc_ext<;>simp only[qmr,qmi,qar,qai,qsr,qsi]<;>grind
   ·exact .inl ⟨_,h5,A.f h5⟩
  have A:=A.f h4
  by_cases h5:(outPC ((a - d)+(rt (e3 a b d))) (⟨2,0⟩:QC))=0
  ·have A:=A.t h5
   by_cases h6:(outPC ((a - d) - (rt (e3 a b d))) (⟨2,0⟩:QC))=0
   ·have A:=A.t h6
    by_cases h7:ShortZ (e6 a b d)
    ·have A:=A.t h7
     have hp:=root_prod hc1 hr
     have hne:((a+d)+rt (e3 a b d))*((a+d) - rt (e3 a b d))≠⟨0,0⟩:=by rw[hp]; exact mul_ne (by decide +kernel) hdt
     have hx:(a+d)+rt (e3 a b d)≠⟨0,0⟩:=fun e=>hne (by rw[e]; exact qmul0.2 (.inl rfl))
     have hy:(a+d) - rt (e3 a b d)≠⟨0,0⟩:=fun e=>hne (by rw[e]; exact qmul0.2 (.inr rfl))
     have hk:e6 a b d=((a+d)+rt (e3 a b d)) / ((a+d) - rt (e3 a b d)):=by
      rw[←half_up a d (rt (e3 a b d)),←half_dn a d (rt (e3 a b d))]
      exact(qd_common (u:=⟨2,0⟩) (by decide +kernel) (fac_ne4 hdt hn h2 h3)).symm
     have hk0:e6 a b d≠⟨0,0⟩:=fun e=>hx (by rw[←qdm (x:=(a+d)+rt (e3 a b d)) hy,←hk,e]; exact qmul0.2 (.inr rfl))
     refine .inr ⟨_,hk0,h7,?_,?_,A⟩
     ·rw[hk,one_div hx hy]
      exact fac_short hz hr hx
     ·rw[q0add,hk,fac_sum hx hy,hp,root_sum]
      exact qd_common (by decide +kernel) hdt
    ·exact .inl ⟨4,by decide,A.f h7⟩
   ·exact .inl ⟨_,h6,A.f h6⟩
  ·exact .inl ⟨_,h5,A.f h5⟩
 ·exact .inl ⟨7,by decide,A.f h3⟩
theorem lgE_sz{g1 g2 g3 g4 g5 g6 g7 g8:RawG}(h:¬lgEC g1 g2 g3 g4 g5 g6 g7 g8):∀ g∈[g1,g2,g3,g4,g5,g6,g7,g8],g.s1.size≤8∧g.s2.size≤8∧g.s3.size≤8∧g.s4.size≤8:=by
 have k:∀ j,j<32→¬lgEP g1 g2 g3 g4 g5 g6 g7 g8 j:=fun j hj hp=>h ⟨j,hj,hp⟩
 have e:∀{s:ByteArray},¬(Sz s)>8→s.size≤8:=fun h=>by unfold _root_.Go.Proofs.YtjlhiaafnpompaaGreat.Sz at h; omega
 intro g hg
 simp only[List.mem_cons,List.not_mem_nil,or_false] at hg
 rcases hg with rfl|rfl|rfl|rfl|rfl|rfl|rfl|rfl
 ·exact⟨e (k 0 (by decide)),e (k 1 (by decide)),e (k 2 (by decide)),e (k 3 (by decide))⟩
 ·exact⟨e (k 4 (by decide)),e (k 5 (by decide)),e (k 6 (by decide)),e (k 7 (by decide))⟩
 ·exact⟨e (k 8 (by decide)),e (k 9 (by decide)),e (k 10 (by decide)),e (k 11 (by decide))⟩
 ·exact⟨e (k 12 (by decide)),e (k 13 (by decide)),e (k 14 (by decide)),e (k 15 (by decide))⟩
 ·exact⟨e (k 16 (by decide)),e (k 17 (by decide)),e (k 18 (by decide)),e (k 19 (by decide))⟩
 ·exact⟨e (k 20 (by decide)),e (k 21 (by decide)),e (k 22 (by decide)),e (k 23 (by decide))⟩
 ·exact⟨e (k 24 (by decide)),e (k 25 (by decide)),e (k 26 (by decide)),e (k 27 (by decide))⟩
 ·exact⟨e (k 28 (by decide)),e (k 29 (by decide)),e (k 30 (by decide)),e (k 31 (by decide))⟩
theorem raw_sz{g:RawG}(h:g.s1.size≤8∧g.s2.size≤8∧g.s3.size≤8∧g.s4.size≤8):RawG.Sz g:=⟨by omega,by omega,by omega,by omega⟩
theorem raw_zl{z:QC}(h:(rawQ z).s1.size≤8∧(rawQ z).s2.size≤8∧(rawQ z).s3.size≤8∧(rawQ z).s4.size≤8):ZL z 2:=⟨rl_8 h.1 h.2.1,rl_8 h.2.2.1 h.2.2.2⟩
def cW(m:RawM):List GF:=m.a.cells++m.b.cells++m.c.cells++m.d.cells++[gx (.bool m.t)]
theorem alike_ok{m n:Q4}(hm:MapOk m)(hn:MapOk n)(he:e1 m.1 m.2.1 m.2.2.1 m.2.2.2=e1 n.1 n.2.1 n.2.2.1 n.2.2.2)(hs:m=q1↔n=q1):SpecC Tryz.prog true 13 [.row (mQ m false),.row (mQ n false)] (.tup [.c (gl (.bool true)),.c (gl (.int .i64 0))]):=by
 obtain⟨a,b,c,d⟩:=m
 obtain⟨a2,b2,c2,d2⟩:=n
 obtain⟨⟨ha,hb,hc,hd⟩,hnf,hdt⟩:=hm
 obtain⟨⟨ha2,hb2,hc2,hd2⟩,hnf2,hdt2⟩:=hn
 have A:=fAlike a b c d a2 b2 c2 d2 ha hb hc hd ha2 hb2 hc2 hd2 hdt hnf hdt2 hnf2
 simp only[q1,Prod.mk.injEq] at hs
 by_cases h1:(a=(⟨1,0⟩:QC)∧b=(⟨0,0⟩:QC)∧c=(⟨0,0⟩:QC)∧d=(⟨1,0⟩:QC))
 ·obtain⟨k1,k2,k3,k4⟩:=hs.1 h1
  exact(A.t h1).t ⟨h1.1.trans k1.symm,h1.2.1.trans k2.symm,h1.2.2.1.trans k3.symm,h1.2.2.2.trans k4.symm⟩
 ·exact((A.f h1).f (fun h=>h1 (hs.2 h))).t he
theorem sg_e1(a b c d:QC):sg4 (a,b,c,d)=e1 a b c d:=rfl
theorem law_true(m k:RawM):SpecC Tryz.prog true 3 [.row (cW m),.row (cW k)] (.r (.c (gl (.bool true)))):=by
 obtain⟨g1,g2,g3,g4,t⟩:=m
 obtain⟨g5,g6,g7,g8,u⟩:=k
 by_cases hl:lgEC g1 g2 g3 g4 g5 g6 g7 g8
 ·exact els_1 g1 g2 g3 g4 t g5 g6 g7 g8 u hl
 have hz:=lgE_sz hl
 have z1:=hz g1 (by simp)
 have z2:=hz g2 (by simp)
 have z3:=hz g3 (by simp)
 have z4:=hz g4 (by simp)
 have z5:=hz g5 (by simp)
 have z6:=hz g6 (by simp)
 have z7:=hz g7 (by simp)
 have z8:=hz g8 (by simp)
 by_cases hM:MOk ⟨g1,g2,g3,g4,t⟩
 ·obtain⟨a,b,c,d,⟨h1,h2,h3,h4⟩,hs1,hn1,hd1⟩:=hM
  simp only at h1 h2 h3 h4
  subst h1; subst h2; subst h3; subst h4
  have hm:MapOk (a,b,c,d):=⟨hs1,hn1,hd1⟩
  have zm:ZL4 (a,b,c,d) 2:=⟨raw_zl z1,raw_zl z2,raw_zl z3,raw_zl z4⟩
  have C1:=mCheckOk (a,b,c,d) t hm
  by_cases hK:MOk ⟨g5,g6,g7,g8,u⟩
  ·obtain⟨a2,b2,c2,d2,⟨h5,h6,h7,h8⟩,hs2,hn2,hd2⟩:=hK
   simp only at h5 h6 h7 h8
   subst h5; subst h6; subst h7; subst h8
   have hk:MapOk (a2,b2,c2,d2):=⟨hs2,hn2,hd2⟩
   have zk:ZL4 (a2,b2,c2,d2) 2:=⟨raw_zl z5,raw_zl z6,raw_zl z7,raw_zl z8⟩
   have C2:=mCheckOk (a2,b2,c2,d2) u hk
   cases t
   ·cases u
    ·obtain⟨s1,s2,s3⟩:=els_short zk zm hk.2.2 hm.2.2
     have hne:MapOk (els (a2,b2,c2,d2) (a,b,c,d)):=els_ok hk.2.2 hm.2.2 s3
     have hi:MapOk (inv4 (a2,b2,c2,d2)):=inv_ok hk.2.2 s1
     have D1:=eInv (a2,b2,c2,d2) hk s1
     have D2:=eComp3 (a2,b2,c2,d2) (a,b,c,d) (inv4 (a2,b2,c2,d2)) hk hm hi s2 s3
     have he:sg4 (els (a2,b2,c2,d2) (a,b,c,d))=sg4 (a,b,c,d):=sg_els hk.2.2 hm.2.2
     have hsc:Scal (els (a2,b2,c2,d2) (a,b,c,d))↔Scal (a,b,c,d):=scal_els hk.2.2 hm.2.2
     have hs:=sg_short zm hm.2.2
     rw[sg_e1] at hs
     rw[sg_e1 a b c d] at he
     have S1:=(fSign a b c d hs1.1 hs1.2.1 hs1.2.2.1 hs1.2.2.2 hd1 hn1).t hs
     change SpecM _ _ _ _ _ (.tup [.row (mQ (els (a2,b2,c2,d2) (a,b,c,d)) false),_]) at D2
     generalize els (a2,b2,c2,d2) (a,b,c,d)=n at *
     generalize inv4 (a2,b2,c2,d2)=j at *
     obtain⟨a3,b3,c3,d3⟩:=n
     rw[sg_e1] at he
     have he':=he
     have S2:=(fSign a3 b3 c3 d3 hne.1.1 hne.1.2.1 hne.1.2.2.1 hne.1.2.2.2 hne.2.2 hne.2.1).t (by rw[he']; exact hs)
     rw[he'] at S2
     have ho:(a,b,c,d)=q1↔(a3,b3,c3,d3)=q1:=by rw[one_scal4 hm.2.1,one_scal4 hne.2.1]; exact hsc.symm
     obtain⟨k1,K1,K2⟩:=kind_same hm hne he'.symm ho
     obtain⟨k2,O1,O2⟩:=ord_same hm hne he'.symm hsc.symm
     have L1:=alike_ok hm hne he'.symm ho
     rcases fac_of hm zm with⟨e,e0,F1⟩|⟨q,q0,sq,si,hsum,F2⟩
     ·exact els_6 (rawQ a) (rawQ b) (rawQ c) (rawQ d) (rawQ a2) (rawQ b2) (rawQ c2) (rawQ d2) (rawQ j.1) (rawQ j.2.1) (rawQ j.2.2.1) (rawQ j.2.2.2) (rawQ a3) (rawQ b3) (rawQ c3) (rawQ d3) (rawQ (e1 a b c d)) k1 k2 e hl C1 C2 D1 D2 S1 S2 K1 K2 O1 O2 L1 F1 e0
     ·have G1:=(gDiv ⟨1,0⟩ q (short_c (by decide +kernel)) sq q0).t si
      have G2:=gSum q ⟨2,0⟩ ((⟨1,0⟩:QC) / q) sq (short_c (by decide +kernel)) si
      rw[hsum] at G2
      exact els_7 (rawQ a) (rawQ b) (rawQ c) (rawQ d) (rawQ a2) (rawQ b2) (rawQ c2) (rawQ d2) (rawQ j.1) (rawQ j.2.1) (rawQ j.2.2.1) (rawQ j.2.2.2) (rawQ a3) (rawQ b3) (rawQ c3) (rawQ d3) (rawQ (e1 a b c d)) k1 k2 (rawQ q) (rawQ ((⟨1,0⟩:QC) / q)) hl C1 C2 D1 D2 S1 S2 K1 K2 O1 O2 L1 F2 G1 (G2.t hs)
    ·exact els_5 _ _ _ _ _ _ _ _ hl C1 C2
   ·exact els_4 _ _ _ _ _ _ _ _ u hl C1 C2
  ·exact els_3 _ _ _ _ t g5 g6 g7 g8 u (raw_sz z5) (raw_sz z6) (raw_sz z7) (raw_sz z8) hl C1 hK
 ·exact els_2 g1 g2 g3 g4 t g5 g6 g7 g8 u (raw_sz z1) (raw_sz z2) (raw_sz z3) (raw_sz z4) hl hM
end Go.Proofs.YtjlhiaafnpompaaGreat
