/- Laws for the walk. -/
import Derived.Test.YtmimficdpfmfgaaGreatVbl
import Derived.Test.YtmimficdpfmfgaaGreatVbr
set_option linter.unusedVariables false
set_option linter.unusedSimpArgs false
set_option maxHeartbeats 4000000
set_option maxRecDepth 100000
set_option linter.unusedSimpArgs false
namespace Go.Proofs.YtmimficdpfmfgaaGreat
open Go.RowKit Tr
open Classical
theorem leastk{p:Nat→Prop}{n:Nat}(h:∃ k,k<n∧p k):∃ k,k<n∧p k∧∀ j,j<k→¬p j:=by
 obtain⟨k,hk,hp⟩:=h
 induction k using Nat.strongRecOn with
 | ind k ih =>
  by_cases hj:∃ j,j<k∧p j
  ·obtain⟨j,h1,h2⟩:=hj; exact ih j h1 (by omega) h2
  ·exact⟨k,hk,hp,fun j h1 h2=>hj ⟨j,h1,h2⟩⟩
def gtk{P:Program}{L:List GF}(t:TypeId)(x y:AC)(a b:Int)(r:Bool)(h:r=true↔a>b)(hx:x.gv L=some (.int .i64 a):=by kernel_rfl)(hy:y.gv L=some (.int .i64 b):=by kernel_rfl):GB P L :=
 gbInt .gtr t .i64 x y a b r (by simp only[Qed]; congr 1; rw[Bool.eq_iff_iff,h,decide_eq_true_eq]) hx hy
noncomputable def rNk(p:Nat→Prop)(n k:Nat):Bool:=if k<n then false else if k=n then true else @decide (p k) (Classical.propDecidable _)
theorem rNk_ok{p:Nat→Prop}{n:Nat}(h:∀ k,k<n→¬p k)(hn:p n)(k:Nat):rNk p n k=true↔p k:=by
 unfold rNk
 split
 ·rename_i h1; exact⟨(fun e=>by cases e),fun e=>absurd e (h k h1)⟩
 ·split
  ·rename_i h1; subst h1; exact⟨fun _=>hn,fun _=>rfl⟩
  ·simp
end Go.Proofs.YtmimficdpfmfgaaGreat
set_option linter.unusedSimpArgs false
namespace Go.Proofs.YtmimficdpfmfgaaGreat
open Go.RowKit Tr
open Classical
structure RawF where
 n1:Bool
 n2:Bool
 s1:ByteArray
 s2:ByteArray
def RawF.cells(f:RawF):List GF:=[gx (.bool f.n1),gx (.string f.s1),gx (.bool f.n2),gx (.string f.s2)]
def rawF(q:Rat):RawF:=⟨decide (q.num<0),false,Qck q.num.natAbs,Qck q.den⟩
end Go.Proofs.YtmimficdpfmfgaaGreat
namespace Go.Proofs.YtmimficdpfmfgaaGreat
open Go.RowKit Tr
open Classical
def smKL(g1 g2 g3 g4:Qdc):List GF:=[g1.cells,g2.cells,g3.cells,g4.cells,[gxi (Sz g1.s1)],[gxi (Sz g1.s2)],[gxi (Sz g1.s3)],[gxi (Sz g1.s4)],[gxi (Sz g2.s1)],[gxi (Sz g2.s2)],[gxi (Sz g2.s3)],[gxi (Sz g2.s4)],[gxi (Sz g3.s1)],[gxi (Sz g3.s2)],[gxi (Sz g3.s3)],[gxi (Sz g3.s4)],[gxi (Sz g4.s1)],[gxi (Sz g4.s2)],[gxi (Sz g4.s3)],[gxi (Sz g4.s4)]].flatten
def smKP(g1 g2 g3 g4:Qdc)(k:Nat):Prop:=([(Sz g1.s1)>5,(Sz g1.s2)>5,(Sz g1.s3)>5,(Sz g1.s4)>5,(Sz g2.s1)>5,(Sz g2.s2)>5,(Sz g2.s3)>5,(Sz g2.s4)>5,(Sz g3.s1)>5,(Sz g3.s2)>5,(Sz g3.s3)>5,(Sz g3.s4)>5,(Sz g4.s1)>5,(Sz g4.s2)>5,(Sz g4.s3)>5,(Sz g4.s4)>5]:List Prop).getD k False
def smKO(g1 g2 g3 g4:Qdc):List (GO Tryz.prog (smKL g1 g2 g3 g4)):=[lS (.sym 1) g1.s1 (.sym 32),lS (.sym 3) g1.s2 (.sym 33),lS (.sym 5) g1.s3 (.sym 34),lS (.sym 7) g1.s4 (.sym 35),lS (.sym 9) g2.s1 (.sym 36),lS (.sym 11) g2.s2 (.sym 37),lS (.sym 13) g2.s3 (.sym 38),lS (.sym 15) g2.s4 (.sym 39),lS (.sym 17) g3.s1 (.sym 40),lS (.sym 19) g3.s2 (.sym 41),lS (.sym 21) g3.s3 (.sym 42),lS (.sym 23) g3.s4 (.sym 43),lS (.sym 25) g4.s1 (.sym 44),lS (.sym 27) g4.s2 (.sym 45),lS (.sym 29) g4.s3 (.sym 46),lS (.sym 31) g4.s4 (.sym 47)]
def smKB(g1 g2 g3 g4:Qdc)(r:Nat→Bool)(hr:∀ k,k<16→(r k=true↔smKP g1 g2 g3 g4 k)):List (GB Tryz.prog (smKL g1 g2 g3 g4)) :=
  [gtk 3 (.sym 32) (li 5) (Sz g1.s1) 5 (r 0) (hr 0 (by decide)),
   gtk 3 (.sym 33) (li 5) (Sz g1.s2) 5 (r 1) (hr 1 (by decide)),
   gtk 3 (.sym 34) (li 5) (Sz g1.s3) 5 (r 2) (hr 2 (by decide)),
   gtk 3 (.sym 35) (li 5) (Sz g1.s4) 5 (r 3) (hr 3 (by decide)),
   gtk 3 (.sym 36) (li 5) (Sz g2.s1) 5 (r 4) (hr 4 (by decide)),
   gtk 3 (.sym 37) (li 5) (Sz g2.s2) 5 (r 5) (hr 5 (by decide)),
   gtk 3 (.sym 38) (li 5) (Sz g2.s3) 5 (r 6) (hr 6 (by decide)),
   gtk 3 (.sym 39) (li 5) (Sz g2.s4) 5 (r 7) (hr 7 (by decide)),
   gtk 3 (.sym 40) (li 5) (Sz g3.s1) 5 (r 8) (hr 8 (by decide)),
   gtk 3 (.sym 41) (li 5) (Sz g3.s2) 5 (r 9) (hr 9 (by decide)),
   gtk 3 (.sym 42) (li 5) (Sz g3.s3) 5 (r 10) (hr 10 (by decide)),
   gtk 3 (.sym 43) (li 5) (Sz g3.s4) 5 (r 11) (hr 11 (by decide)),
   gtk 3 (.sym 44) (li 5) (Sz g4.s1) 5 (r 12) (hr 12 (by decide)),
   gtk 3 (.sym 45) (li 5) (Sz g4.s2) 5 (r 13) (hr 13 (by decide)),
   gtk 3 (.sym 46) (li 5) (Sz g4.s3) 5 (r 14) (hr 14 (by decide)),
   gtk 3 (.sym 47) (li 5) (Sz g4.s4) 5 (r 15) (hr 15 (by decide))]
theorem smKE(g1 g2 g3 g4:Qdc)(r:Nat→Bool)(hr:∀ k,k<16→(r k=true↔smKP g1 g2 g3 g4 k))(b:Bool)(hev:evL (gcx tys true (smKL g1 g2 g3 g4) [] (smKB g1 g2 g3 g4 r hr) (smKO g1 g2 g3 g4)) Tryz.f9 2000 [⟨Qaj 0 32,28,none⟩] [lc 5,.c (.sl 0 0 4 4)] (.r (.c (.lit (.bool b))))=true):SMt 9 [(g1.cells++g2.cells++g3.cells++g4.cells,28)] [.f (gIi 5),.sl 0 0 4 4] (B1 b) :=
 ev_sm (L:=smKL g1 g2 g3 g4) Qae Qai [] (smKB g1 g2 g3 g4 r hr) (smKO g1 g2 g3 g4) Tryz.func9 eo9 2000 [⟨Qaj 0 32,28,none⟩] [lc 5,.c (.sl 0 0 4 4)] (.r (.c (.lit (.bool b)))) hev
theorem smKT(g1 g2 g3 g4:Qdc)(k:Nat)(hk:k<16)(h:∀ j,j<k→¬smKP g1 g2 g3 g4 j)(hp:smKP g1 g2 g3 g4 k):SMt 9 [(g1.cells++g2.cells++g3.cells++g4.cells,28)] [.f (gIi 5),.sl 0 0 4 4] (B1 false):=by
 rcases(by omega:k=0∨k=1∨k=2∨k=3∨k=4∨k=5∨k=6∨k=7∨k=8∨k=9∨k=10∨k=11∨k=12∨k=13∨k=14∨k=15) with rfl|rfl|rfl|rfl|rfl|rfl|rfl|rfl|rfl|rfl|rfl|rfl|rfl|rfl|rfl|rfl
 all_goals exact smKE g1 g2 g3 g4 (rNk (smKP g1 g2 g3 g4) _) (fun j _=>rNk_ok h hp j) false (by kernel_rfl)
def smKC(g1 g2 g3 g4:Qdc):Prop:=∃ k,k<16∧smKP g1 g2 g3 g4 k
theorem smK(g1 g2 g3 g4:Qdc)(b:Bool)(hb:b=true↔¬smKC g1 g2 g3 g4):SMt 9 [(g1.cells++g2.cells++g3.cells++g4.cells,28)] [.f (gIi 5),.sl 0 0 4 4] (B1 b):=by
 cases b
 ·obtain⟨k,hk,hp,h⟩:=leastk (Classical.byContradiction fun h=>by cases hb.2 h)
  exact smKT g1 g2 g3 g4 k hk h hp
 ·exact smKE g1 g2 g3 g4 (fun _=>false) (fun k hk=>⟨(fun e=>by cases e),fun e=>(hb.1 rfl ⟨k,hk,e⟩).elim⟩) true (by kernel_rfl)
def hkAz(m1 m2 m3 m4:Qdc)(z a:QC):Prop:=SCt 53 [.row (m1.cells++m2.cells++m3.cells++m4.cells++[gl (.bool false)]),.row ([gl (.bool false)]++(Qad z).cells)] (.tup [.row ([gl (.bool false)]++(Qad a).cells),gIi 0])
def hkAw(m1 m2 m3 m4:Qdc)(w b:QC):Prop:=SCt 53 [.row (m1.cells++m2.cells++m3.cells++m4.cells++[gl (.bool false)]),.row ([gl (.bool false)]++(Qad w).cells)] (.tup [.row ([gl (.bool false)]++(Qad b).cells),gIi 0])
def hkH(p:Int)(z:QC):Prop:=SCt 40 [.c (gxi p),.row (Qad z).cells] (.r gTt)
def hkF(q:Int)(a b:QC)(d:Rat):Prop:=SCt 36 [.c (gxi q),.row (Qad a).cells,.row (Qad b).cells] (.tup [.row (rF d),gIi 0])
theorem keptL(m1 m2 m3 m4:Qdc)(p q:Int)(z w:QC)(d:Rat)(b_z:Qab z)(b_w:Qab w)(a b:QC)(sa:Qab a)(sb:Qab b)(kAz:hkAz m1 m2 m3 m4 z a)(kAw:hkAw m1 m2 m3 m4 w b)(kH:hkH p z)(kF:hkF q a b d):SCt 52 [.row (m1.cells++m2.cells++m3.cells++m4.cells++[gl (.bool false)]),.c (gxi p),.c (gxi q),.row ((Qad z).cells),.row ((Qad w).cells),.row (rF d)] (.r gTt) :=
  Qba (L := [m1.cells,m2.cells,m3.cells,m4.cells,[gxi p],[gxi q],(Qad z).cells,(Qad w).cells,cF d,(Qad a).cells,(Qad b).cells,cF d].flatten) Qae Qai
     [gs (kAz) [.row (flA [Qaj 0 32,[.lit (.bool false)]]),.row (flA [[.lit (.bool false)],Qaj 34 8])] (.tup [.row (flA [[.lit (.bool false)],Qaj 53 8]),lc 0]),gs (kAw) [.row (flA [Qaj 0 32,[.lit (.bool false)]]),.row (flA [[.lit (.bool false)],Qaj 42 8])] (.tup [.row (flA [[.lit (.bool false)],Qaj 61 8]),lc 0]),gs (kH) [cS 32,yR 34 8] vTt,gs (kF) [cS 33,yR 53 8,yR 61 8] (.tup [yQ 69,lc 0])]
     [bF (yQ 69) (yQ 50) d d true (tI rfl)] [] ((fs18 .nil):Tr.FnsOk Tryz.prog _) 1 1 Tryz.func52 eo52 2000 [.row (flA [Qaj 0 32,[.lit (.bool false)]]),cS 32,cS 33,yR 34 8,yR 42 8,yQ 50] vTt
def hq0(p:Int)(l1 l2 l3 l4:Qdc):Prop:=SMt 29 [(l1.cells++l2.cells++l3.cells++l4.cells,28)] [.f (.c (gxi p)),.sl 0 0 4 4] (.r (gIi 0))
def hq2(p:Int)(l1 l2 l3 l4:Qdc):Prop:=SMt 29 [(l1.cells++l2.cells++l3.cells++l4.cells,28)] [.f (.c (gxi p)),.sl 0 0 4 4] (.r (gIi 2))
def hq350(p:Int)(l1 l2 l3 l4:Qdc):Prop:=SMt 29 [(l1.cells++l2.cells++l3.cells++l4.cells,28)] [.f (.c (gxi p)),.sl 0 0 4 4] (.r (gIi 350))
theorem few_2(p:Int)(l1 l2 l3 l4:Qdc)(q2:hq2 p l1 l2 l3 l4):SMt 50 [(l1.cells++l2.cells++l3.cells++l4.cells,28)] [.f (.c (gxi p)),.sl 0 0 4 4] (.r gFf) :=
  Qaw (L := [[gxi p],l1.cells,l2.cells,l3.cells,l4.cells].flatten) Qae Qai
     [gsm (q2) [0] [⟨Qaj 1 32,28,none⟩] [cS 0,.c (.sl 0 0 4 4)] (.r (lc 2))]
     [] [] ((fs18 .nil):Tr.FnsOk Tryz.prog _) 1 1 Tryz.func50 eo50 2000 [⟨Qaj 1 32,28,none⟩] [cS 0,.c (.sl 0 0 4 4)] vFf
theorem few_350(p:Int)(l1 l2 l3 l4:Qdc)(q350:hq350 p l1 l2 l3 l4):SMt 50 [(l1.cells++l2.cells++l3.cells++l4.cells,28)] [.f (.c (gxi p)),.sl 0 0 4 4] (.r gFf) :=
  Qaw (L := [[gxi p],l1.cells,l2.cells,l3.cells,l4.cells].flatten) Qae Qai
     [gsm (q350) [0] [⟨Qaj 1 32,28,none⟩] [cS 0,.c (.sl 0 0 4 4)] (.r (lc 350))]
     [] [] ((fs18 .nil):Tr.FnsOk Tryz.prog _) 1 1 Tryz.func50 eo50 2000 [⟨Qaj 1 32,28,none⟩] [cS 0,.c (.sl 0 0 4 4)] vFf
theorem few1o(l1 l2 l3 l4:Qdc)(hs:smKC l1 l2 l3 l4)(q0:hq0 1 l1 l2 l3 l4):SMt 50 [(l1.cells++l2.cells++l3.cells++l4.cells,28)] [.f (gIi 1),.sl 0 0 4 4] (.r gFf) :=
  Qaw (L := [l1.cells,l2.cells,l3.cells,l4.cells].flatten) Qae Qai
     [gsm (q0) [0] [⟨Qaj 0 32,28,none⟩] [lc 1,.c (.sl 0 0 4 4)] (.r (lc 0)),
      gsm (smK l1 l2 l3 l4 false ⟨(fun e=>by cases e),fun k_=>(k_ hs).elim⟩) [0] [⟨Qaj 0 32,28,none⟩] [lc 5,.c (.sl 0 0 4 4)] vFf]
     [] [] ((fs13 .nil):Tr.FnsOk Tryz.prog _) 1 1 Tryz.func50 eo50 2000 [⟨Qaj 0 32,28,none⟩] [lc 1,.c (.sl 0 0 4 4)] vFf
theorem few1k(l1 l2 l3 l4:Qdc)(hs:¬(smKC l1 l2 l3 l4))(q0:hq0 1 l1 l2 l3 l4):SMt 50 [(l1.cells++l2.cells++l3.cells++l4.cells,28)] [.f (gIi 1),.sl 0 0 4 4] (.r gTt) :=
  Qaw (L := [l1.cells,l2.cells,l3.cells,l4.cells].flatten) Qae Qai
     [gsm (q0) [0] [⟨Qaj 0 32,28,none⟩] [lc 1,.c (.sl 0 0 4 4)] (.r (lc 0)),
      gsm (smK l1 l2 l3 l4 true ⟨fun _=>hs,fun _=>rfl⟩) [0] [⟨Qaj 0 32,28,none⟩] [lc 5,.c (.sl 0 0 4 4)] vTt]
     [] [] ((fs13 .nil):Tr.FnsOk Tryz.prog _) 1 1 Tryz.func50 eo50 2000 [⟨Qaj 0 32,28,none⟩] [lc 1,.c (.sl 0 0 4 4)] vTt
theorem few2o(l1 l2 l3 l4:Qdc)(hs:smKC l1 l2 l3 l4)(q0:hq0 2 l1 l2 l3 l4):SMt 50 [(l1.cells++l2.cells++l3.cells++l4.cells,28)] [.f (gIi 2),.sl 0 0 4 4] (.r gFf) :=
  Qaw (L := [l1.cells,l2.cells,l3.cells,l4.cells].flatten) Qae Qai
     [gsm (q0) [0] [⟨Qaj 0 32,28,none⟩] [lc 2,.c (.sl 0 0 4 4)] (.r (lc 0)),
      gsm (smK l1 l2 l3 l4 false ⟨(fun e=>by cases e),fun k_=>(k_ hs).elim⟩) [0] [⟨Qaj 0 32,28,none⟩] [lc 5,.c (.sl 0 0 4 4)] vFf]
     [] [] ((fs13 .nil):Tr.FnsOk Tryz.prog _) 1 1 Tryz.func50 eo50 2000 [⟨Qaj 0 32,28,none⟩] [lc 2,.c (.sl 0 0 4 4)] vFf
theorem few2k(l1 l2 l3 l4:Qdc)(hs:¬(smKC l1 l2 l3 l4))(q0:hq0 2 l1 l2 l3 l4):SMt 50 [(l1.cells++l2.cells++l3.cells++l4.cells,28)] [.f (gIi 2),.sl 0 0 4 4] (.r gTt) :=
  Qaw (L := [l1.cells,l2.cells,l3.cells,l4.cells].flatten) Qae Qai
     [gsm (q0) [0] [⟨Qaj 0 32,28,none⟩] [lc 2,.c (.sl 0 0 4 4)] (.r (lc 0)),
      gsm (smK l1 l2 l3 l4 true ⟨fun _=>hs,fun _=>rfl⟩) [0] [⟨Qaj 0 32,28,none⟩] [lc 5,.c (.sl 0 0 4 4)] vTt]
     [] [] ((fs13 .nil):Tr.FnsOk Tryz.prog _) 1 1 Tryz.func50 eo50 2000 [⟨Qaj 0 32,28,none⟩] [lc 2,.c (.sl 0 0 4 4)] vTt
end Go.Proofs.YtmimficdpfmfgaaGreat
namespace Go.Proofs.YtmimficdpfmfgaaGreat
open Go.RowKit Tr
open Classical
def bFn{L:List GF}(x y:AR)(p q:Rat)(r:Bool)(hr:r=true↔p=q)(hx:x.gv L=some (Qfh p):=by kernel_rfl)(hy:y.gv L=some (Qfh q):=by kernel_rfl):GB Tryz.prog L :=
 gb .neq 26 x y (.lit (.bool !r)) (agg_neq (by kernel_rfl) (fun w=>run_eql_rf w p q r hr)) hx hy rfl
def hWt(p:Int)(l1 l2 l3 l4:Qdc):Prop:=SMt 50 [(l1.cells++l2.cells++l3.cells++l4.cells,28)] [.f (.c (gxi p)),.sl 0 0 4 4] (.r gTt)
def hWf(p:Int)(l1 l2 l3 l4:Qdc):Prop:=SMt 50 [(l1.cells++l2.cells++l3.cells++l4.cells,28)] [.f (.c (gxi p)),.sl 0 0 4 4] (.r gFf)
theorem Qjj(p:Int)(l1 l2 l3 l4:Qdc)(Wf:hWf p l1 l2 l3 l4):SCt 6 [.c (gxi p),.row (l1.cells++l2.cells++l3.cells++l4.cells)] (.r gTt) :=
  Qba (L := [[gxi p],l1.cells,l2.cells,l3.cells,l4.cells].flatten) Qae Qai
     [gs (pknown) [] vTt,
      gsm (Wf) [13] [⟨Qaj 1 32,28,none⟩] [cS 0,.c (.sl 0 0 4 4)] vFf]
     [] [] ((fs18 .nil):Tr.FnsOk Tryz.prog _) 1 1 Tryz.func6 eo6 2000 [cS 0,yR 1 32] vTt
def hF1a(p:Int)(z w:QC)(d:Rat):Prop:=SCt 36 [.c (gxi p),.row (Qad z).cells,.row (Qad w).cells] (.tup [.row (rF d),gIi 0])
def hF2a(p:Int)(w z:QC)(d:Rat):Prop:=SCt 36 [.c (gxi p),.row (Qad w).cells,.row (Qad z).cells] (.tup [.row (rF d),gIi 0])
def hF3a(p:Int)(a b:QC)(d:Rat):Prop:=SCt 36 [.c (gxi p),.row (Qad a).cells,.row (Qad b).cells] (.tup [.row (rF d),gIi 0])
def hMa(u v:QC)(m1 m2 m3 m4:Qdc):Prop:=SCt 37 [gIi 1,.row (Qad u).cells,.row (Qad v).cells] (.tup [.row (m1.cells++m2.cells++m3.cells++m4.cells++[gl (.bool false)]),gIi 0])
def hKa(m1 m2 m3 m4:Qdc):Prop:=SCt 12 [gIi 1,.row (m1.cells++m2.cells++m3.cells++m4.cells++[gl (.bool false)])] (.tup [gTt,gIi 0])
def hCa(t1 t2 t3 t4:Qdc):Prop:=SCt 11 [gIi 1,gIi 2] (.tup [.row (t1.cells++t2.cells++t3.cells++t4.cells++[gl (.bool false)]),gIi 0])
def hN1a(m1 m2 m3 m4:Qdc)(z w:QC)(d:Rat):Prop:=SCt 52 [.row (m1.cells++m2.cells++m3.cells++m4.cells++[gl (.bool false)]),gIi 1,gIi 1,.row (Qad z).cells,.row (Qad w).cells,.row (rF d)] (.r gTt)
def hN2a(t1 t2 t3 t4:Qdc)(z w:QC)(d:Rat):Prop:=SCt 52 [.row (t1.cells++t2.cells++t3.cells++t4.cells++[gl (.bool false)]),gIi 1,gIi 2,.row (Qad z).cells,.row (Qad w).cells,.row (rF d)] (.r gTt)
def hAa(m1 m2 m3 m4:Qdc)(u v:QC):Prop:=SCt 53 [.row (m1.cells++m2.cells++m3.cells++m4.cells++[gl (.bool false)]),.row ([gl (.bool false)]++(Qad u).cells)] (.tup [.row ([gl (.bool false)]++(Qad v).cells),gIi 0])
def hLa(u v:QC)(ca:RawF)(cb:Qdc)(cc:RawF):Prop:=SCt 38 [gIi 1,.row (Qad u).cells,.row (Qad v).cells] (.tup [.row (ca.cells++cb.cells++cc.cells),gIi 0])
def hO1a(ca:RawF)(cb:Qdc)(cc:RawF)(z a:QC):Prop:=SCt 24 [gIi 1,.row (ca.cells++cb.cells++cc.cells),.row (Qad z).cells] (.tup [.row (Qad a).cells,gIi 0])
def hO2a(ca:RawF)(cb:Qdc)(cc:RawF)(w b:QC):Prop:=SCt 24 [gIi 1,.row (ca.cells++cb.cells++cc.cells),.row (Qad w).cells] (.tup [.row (Qad b).cells,gIi 0])
theorem kp_1ee(z w u v:QC)(b_z:Qab z)(b_w:Qab w)(b_u:Qab u)(b_v:Qab v)(e1:z=w)(e2:u=v)(d:Rat)(m1 m2 m3 m4 t1 t2 t3 t4:Qdc)(hd:d=(1:Rat))(Wt:hWt 1 (Qad z) (Qad w) (Qad u) (Qad v))(F1a:hF1a 1 z w d)(F2a:hF2a 1 w z d)(Ma:hMa u v m1 m2 m3 m4)(Ka:hKa m1 m2 m3 m4)(Ca:hCa t1 t2 t3 t4)(N1a:hN1a m1 m2 m3 m4 z w d)(N2a:hN2a t1 t2 t3 t4 z w d)(Aa:hAa m1 m2 m3 m4 u v):SCt 6 [gIi 1,.row ((Qad z).cells++(Qad w).cells++(Qad u).cells++(Qad v).cells)] (.r gTt) :=
  Qba (L := [(Qad z).cells,(Qad w).cells,(Qad u).cells,(Qad v).cells,cF d,cF d,m1.cells,m2.cells,m3.cells,m4.cells,cF (1 : Rat),t1.cells,t2.cells,t3.cells,t4.cells,(Qad v).cells].flatten) Qae Qai
     [gs (pknown) [] vTt,
      gsm (Wt) [13] [⟨Qaj 0 32,28,none⟩] [lc 1,.c (.sl 0 0 4 4)] vTt,gs (F1a) [lc 1,yR 0 8,yR 8 8] (.tup [yQ 32,lc 0]),gs (F2a) [lc 1,yR 8 8,yR 0 8] (.tup [yQ 35,lc 0]),gs (Ma) [lc 1,yR 16 8,yR 24 8] (.tup [.row (flA [Qaj 38 32,[.lit (.bool false)]]),lc 0]),gs (Ka) [lc 1,.row (flA [Qaj 38 32,[.lit (.bool false)]])] (.tup [cTt,lc 0]),gs (Qgs 1 (by decide) (by decide)) [lc 1] (rQ 70),gs (Ca) [lc 1,lc 2] (.tup [.row (flA [Qaj 73 32,[.lit (.bool false)]]),lc 0]),gs (N1a) [.row (flA [Qaj 38 32,[.lit (.bool false)]]),lc 1,lc 1,yR 0 8,yR 8 8,yQ 32] vTt,gs (N2a) [.row (flA [Qaj 73 32,[.lit (.bool false)]]),lc 1,lc 2,yR 0 8,yR 8 8,yQ 32] vTt,gs (Aa) [.row (flA [Qaj 38 32,[.lit (.bool false)]]),.row (flA [[.lit (.bool false)],Qaj 16 8])] (.tup [.row (flA [[.lit (.bool false)],Qaj 105 8]),lc 0])]
     [bFn (yQ 32) (yQ 35) d d true (tI rfl),bF (yQ 32) (yQ 70) d (1:Rat) true (tI hd),bG (yR 0 8) (yR 8 8) (Qad z) (Qad w) true ((tI e1).trans Qcr.symm),gbNeb 4 Tryz.underlying4 true true,bPn (.row (flA [[.lit (.bool false)],Qaj 105 8])) (.row (flA [[.lit (.bool false)],Qaj 24 8])) (rawPt (some v)) (rawPt (some v)) true (tI rfl),bG (yR 16 8) (yR 24 8) (Qad u) (Qad v) true ((tI e2).trans Qcr.symm)] [] ((fs18 .nil):Tr.FnsOk Tryz.prog _) 1 1 Tryz.func6 eo6 2000 [lc 1,yR 0 32] vTt
theorem kp_1en(z w u v:QC)(b_z:Qab z)(b_w:Qab w)(b_u:Qab u)(b_v:Qab v)(e1:z=w)(e2:¬(u=v))(d:Rat)(m1 m2 m3 m4 t1 t2 t3 t4:Qdc)(ca:RawF)(cb:Qdc)(cc:RawF)(a b:QC)(sa:Qab a)(sb:Qab b)(hd:d=(1:Rat))(Wt:hWt 1 (Qad z) (Qad w) (Qad u) (Qad v))(F1a:hF1a 1 z w d)(F2a:hF2a 1 w z d)(Ma:hMa u v m1 m2 m3 m4)(Ka:hKa m1 m2 m3 m4)(Ca:hCa t1 t2 t3 t4)(N1a:hN1a m1 m2 m3 m4 z w d)(N2a:hN2a t1 t2 t3 t4 z w d)(Aa:hAa m1 m2 m3 m4 u v)(La:hLa u v ca cb cc)(O1a:hO1a ca cb cc z a)(O2a:hO2a ca cb cc w b)(F3a:hF3a 1 a b d):SCt 6 [gIi 1,.row ((Qad z).cells++(Qad w).cells++(Qad u).cells++(Qad v).cells)] (.r gTt) :=
  Qba (L := [(Qad z).cells,(Qad w).cells,(Qad u).cells,(Qad v).cells,cF d,cF d,m1.cells,m2.cells,m3.cells,m4.cells,cF (1 : Rat),t1.cells,t2.cells,t3.cells,t4.cells,(Qad v).cells,ca.cells,cb.cells,cc.cells,(Qad a).cells,(Qad b).cells,cF d].flatten) Qae Qai
     [gs (pknown) [] vTt,
      gsm (Wt) [13] [⟨Qaj 0 32,28,none⟩] [lc 1,.c (.sl 0 0 4 4)] vTt,gs (F1a) [lc 1,yR 0 8,yR 8 8] (.tup [yQ 32,lc 0]),gs (F2a) [lc 1,yR 8 8,yR 0 8] (.tup [yQ 35,lc 0]),gs (Ma) [lc 1,yR 16 8,yR 24 8] (.tup [.row (flA [Qaj 38 32,[.lit (.bool false)]]),lc 0]),gs (Ka) [lc 1,.row (flA [Qaj 38 32,[.lit (.bool false)]])] (.tup [cTt,lc 0]),gs (Qgs 1 (by decide) (by decide)) [lc 1] (rQ 70),gs (Ca) [lc 1,lc 2] (.tup [.row (flA [Qaj 73 32,[.lit (.bool false)]]),lc 0]),gs (N1a) [.row (flA [Qaj 38 32,[.lit (.bool false)]]),lc 1,lc 1,yR 0 8,yR 8 8,yQ 32] vTt,gs (N2a) [.row (flA [Qaj 73 32,[.lit (.bool false)]]),lc 1,lc 2,yR 0 8,yR 8 8,yQ 32] vTt,gs (Aa) [.row (flA [Qaj 38 32,[.lit (.bool false)]]),.row (flA [[.lit (.bool false)],Qaj 16 8])] (.tup [.row (flA [[.lit (.bool false)],Qaj 105 8]),lc 0]),gs (La) [lc 1,yR 16 8,yR 24 8] (.tup [yR 113 16,lc 0]),gs (O1a) [lc 1,yR 113 16,yR 0 8] (.tup [yR 129 8,lc 0]),gs (O2a) [lc 1,yR 113 16,yR 8 8] (.tup [yR 137 8,lc 0]),gs (F3a) [lc 1,yR 129 8,yR 137 8] (.tup [yQ 145,lc 0])]
     [bFn (yQ 32) (yQ 35) d d true (tI rfl),bF (yQ 32) (yQ 70) d (1:Rat) true (tI hd),bG (yR 0 8) (yR 8 8) (Qad z) (Qad w) true ((tI e1).trans Qcr.symm),gbNeb 4 Tryz.underlying4 true true,bPn (.row (flA [[.lit (.bool false)],Qaj 105 8])) (.row (flA [[.lit (.bool false)],Qaj 24 8])) (rawPt (some v)) (rawPt (some v)) true (tI rfl),bG (yR 16 8) (yR 24 8) (Qad u) (Qad v) false ((fI e2).trans Qcr.symm),bF (yQ 145) (yQ 32) d d true (tI rfl)] [] ((fs18 .nil):Tr.FnsOk Tryz.prog _) 1 1 Tryz.func6 eo6 2000 [lc 1,yR 0 32] vTt
theorem kp_1ne(z w u v:QC)(b_z:Qab z)(b_w:Qab w)(b_u:Qab u)(b_v:Qab v)(e1:¬(z=w))(e2:u=v)(d:Rat)(m1 m2 m3 m4 t1 t2 t3 t4:Qdc)(hd:¬(d=(1:Rat)))(Wt:hWt 1 (Qad z) (Qad w) (Qad u) (Qad v))(F1a:hF1a 1 z w d)(F2a:hF2a 1 w z d)(Ma:hMa u v m1 m2 m3 m4)(Ka:hKa m1 m2 m3 m4)(Ca:hCa t1 t2 t3 t4)(N1a:hN1a m1 m2 m3 m4 z w d)(N2a:hN2a t1 t2 t3 t4 z w d)(Aa:hAa m1 m2 m3 m4 u v):SCt 6 [gIi 1,.row ((Qad z).cells++(Qad w).cells++(Qad u).cells++(Qad v).cells)] (.r gTt) :=
  Qba (L := [(Qad z).cells,(Qad w).cells,(Qad u).cells,(Qad v).cells,cF d,cF d,m1.cells,m2.cells,m3.cells,m4.cells,cF (1 : Rat),t1.cells,t2.cells,t3.cells,t4.cells,(Qad v).cells].flatten) Qae Qai
     [gs (pknown) [] vTt,
      gsm (Wt) [13] [⟨Qaj 0 32,28,none⟩] [lc 1,.c (.sl 0 0 4 4)] vTt,gs (F1a) [lc 1,yR 0 8,yR 8 8] (.tup [yQ 32,lc 0]),gs (F2a) [lc 1,yR 8 8,yR 0 8] (.tup [yQ 35,lc 0]),gs (Ma) [lc 1,yR 16 8,yR 24 8] (.tup [.row (flA [Qaj 38 32,[.lit (.bool false)]]),lc 0]),gs (Ka) [lc 1,.row (flA [Qaj 38 32,[.lit (.bool false)]])] (.tup [cTt,lc 0]),gs (Qgs 1 (by decide) (by decide)) [lc 1] (rQ 70),gs (Ca) [lc 1,lc 2] (.tup [.row (flA [Qaj 73 32,[.lit (.bool false)]]),lc 0]),gs (N1a) [.row (flA [Qaj 38 32,[.lit (.bool false)]]),lc 1,lc 1,yR 0 8,yR 8 8,yQ 32] vTt,gs (N2a) [.row (flA [Qaj 73 32,[.lit (.bool false)]]),lc 1,lc 2,yR 0 8,yR 8 8,yQ 32] vTt,gs (Aa) [.row (flA [Qaj 38 32,[.lit (.bool false)]]),.row (flA [[.lit (.bool false)],Qaj 16 8])] (.tup [.row (flA [[.lit (.bool false)],Qaj 105 8]),lc 0])]
     [bFn (yQ 32) (yQ 35) d d true (tI rfl),bF (yQ 32) (yQ 70) d (1:Rat) false (fI hd),bG (yR 0 8) (yR 8 8) (Qad z) (Qad w) false ((fI e1).trans Qcr.symm),gbNeb 4 Tryz.underlying4 false false,bPn (.row (flA [[.lit (.bool false)],Qaj 105 8])) (.row (flA [[.lit (.bool false)],Qaj 24 8])) (rawPt (some v)) (rawPt (some v)) true (tI rfl),bG (yR 16 8) (yR 24 8) (Qad u) (Qad v) true ((tI e2).trans Qcr.symm)] [] ((fs18 .nil):Tr.FnsOk Tryz.prog _) 1 1 Tryz.func6 eo6 2000 [lc 1,yR 0 32] vTt
theorem kp_1nn(z w u v:QC)(b_z:Qab z)(b_w:Qab w)(b_u:Qab u)(b_v:Qab v)(e1:¬(z=w))(e2:¬(u=v))(d:Rat)(m1 m2 m3 m4 t1 t2 t3 t4:Qdc)(ca:RawF)(cb:Qdc)(cc:RawF)(a b:QC)(sa:Qab a)(sb:Qab b)(hd:¬(d=(1:Rat)))(Wt:hWt 1 (Qad z) (Qad w) (Qad u) (Qad v))(F1a:hF1a 1 z w d)(F2a:hF2a 1 w z d)(Ma:hMa u v m1 m2 m3 m4)(Ka:hKa m1 m2 m3 m4)(Ca:hCa t1 t2 t3 t4)(N1a:hN1a m1 m2 m3 m4 z w d)(N2a:hN2a t1 t2 t3 t4 z w d)(Aa:hAa m1 m2 m3 m4 u v)(La:hLa u v ca cb cc)(O1a:hO1a ca cb cc z a)(O2a:hO2a ca cb cc w b)(F3a:hF3a 1 a b d):SCt 6 [gIi 1,.row ((Qad z).cells++(Qad w).cells++(Qad u).cells++(Qad v).cells)] (.r gTt) :=
  Qba (L := [(Qad z).cells,(Qad w).cells,(Qad u).cells,(Qad v).cells,cF d,cF d,m1.cells,m2.cells,m3.cells,m4.cells,cF (1 : Rat),t1.cells,t2.cells,t3.cells,t4.cells,(Qad v).cells,ca.cells,cb.cells,cc.cells,(Qad a).cells,(Qad b).cells,cF d].flatten) Qae Qai
     [gs (pknown) [] vTt,
      gsm (Wt) [13] [⟨Qaj 0 32,28,none⟩] [lc 1,.c (.sl 0 0 4 4)] vTt,gs (F1a) [lc 1,yR 0 8,yR 8 8] (.tup [yQ 32,lc 0]),gs (F2a) [lc 1,yR 8 8,yR 0 8] (.tup [yQ 35,lc 0]),gs (Ma) [lc 1,yR 16 8,yR 24 8] (.tup [.row (flA [Qaj 38 32,[.lit (.bool false)]]),lc 0]),gs (Ka) [lc 1,.row (flA [Qaj 38 32,[.lit (.bool false)]])] (.tup [cTt,lc 0]),gs (Qgs 1 (by decide) (by decide)) [lc 1] (rQ 70),gs (Ca) [lc 1,lc 2] (.tup [.row (flA [Qaj 73 32,[.lit (.bool false)]]),lc 0]),gs (N1a) [.row (flA [Qaj 38 32,[.lit (.bool false)]]),lc 1,lc 1,yR 0 8,yR 8 8,yQ 32] vTt,gs (N2a) [.row (flA [Qaj 73 32,[.lit (.bool false)]]),lc 1,lc 2,yR 0 8,yR 8 8,yQ 32] vTt,gs (Aa) [.row (flA [Qaj 38 32,[.lit (.bool false)]]),.row (flA [[.lit (.bool false)],Qaj 16 8])] (.tup [.row (flA [[.lit (.bool false)],Qaj 105 8]),lc 0]),gs (La) [lc 1,yR 16 8,yR 24 8] (.tup [yR 113 16,lc 0]),gs (O1a) [lc 1,yR 113 16,yR 0 8] (.tup [yR 129 8,lc 0]),gs (O2a) [lc 1,yR 113 16,yR 8 8] (.tup [yR 137 8,lc 0]),gs (F3a) [lc 1,yR 129 8,yR 137 8] (.tup [yQ 145,lc 0])]
     [bFn (yQ 32) (yQ 35) d d true (tI rfl),bF (yQ 32) (yQ 70) d (1:Rat) false (fI hd),bG (yR 0 8) (yR 8 8) (Qad z) (Qad w) false ((fI e1).trans Qcr.symm),gbNeb 4 Tryz.underlying4 false false,bPn (.row (flA [[.lit (.bool false)],Qaj 105 8])) (.row (flA [[.lit (.bool false)],Qaj 24 8])) (rawPt (some v)) (rawPt (some v)) true (tI rfl),bG (yR 16 8) (yR 24 8) (Qad u) (Qad v) false ((fI e2).trans Qcr.symm),bF (yQ 145) (yQ 32) d d true (tI rfl)] [] ((fs18 .nil):Tr.FnsOk Tryz.prog _) 1 1 Tryz.func6 eo6 2000 [lc 1,yR 0 32] vTt
def hF1b(p:Int)(z w:QC)(d:Rat):Prop:=SCt 36 [.c (gxi p),.row (Qad z).cells,.row (Qad w).cells] (.tup [.row (rF d),gIi 0])
def hF2b(p:Int)(w z:QC)(d:Rat):Prop:=SCt 36 [.c (gxi p),.row (Qad w).cells,.row (Qad z).cells] (.tup [.row (rF d),gIi 0])
def hF3b(p:Int)(a b:QC)(d:Rat):Prop:=SCt 36 [.c (gxi p),.row (Qad a).cells,.row (Qad b).cells] (.tup [.row (rF d),gIi 0])
def hMb(u v:QC)(m1 m2 m3 m4:Qdc):Prop:=SCt 37 [gIi 2,.row (Qad u).cells,.row (Qad v).cells] (.tup [.row (m1.cells++m2.cells++m3.cells++m4.cells++[gl (.bool false)]),gIi 0])
def hKb(m1 m2 m3 m4:Qdc):Prop:=SCt 12 [gIi 2,.row (m1.cells++m2.cells++m3.cells++m4.cells++[gl (.bool false)])] (.tup [gTt,gIi 0])
def hCb(t1 t2 t3 t4:Qdc):Prop:=SCt 11 [gIi 2,gIi 1] (.tup [.row (t1.cells++t2.cells++t3.cells++t4.cells++[gl (.bool false)]),gIi 0])
def hN1b(m1 m2 m3 m4:Qdc)(z w:QC)(d:Rat):Prop:=SCt 52 [.row (m1.cells++m2.cells++m3.cells++m4.cells++[gl (.bool false)]),gIi 2,gIi 2,.row (Qad z).cells,.row (Qad w).cells,.row (rF d)] (.r gTt)
def hN2b(t1 t2 t3 t4:Qdc)(z w:QC)(d:Rat):Prop:=SCt 52 [.row (t1.cells++t2.cells++t3.cells++t4.cells++[gl (.bool false)]),gIi 2,gIi 1,.row (Qad z).cells,.row (Qad w).cells,.row (rF d)] (.r gTt)
def hAb(m1 m2 m3 m4:Qdc)(u v:QC):Prop:=SCt 53 [.row (m1.cells++m2.cells++m3.cells++m4.cells++[gl (.bool false)]),.row ([gl (.bool false)]++(Qad u).cells)] (.tup [.row ([gl (.bool false)]++(Qad v).cells),gIi 0])
def hLb(u v:QC)(ca:RawF)(cb:Qdc)(cc:RawF):Prop:=SCt 38 [gIi 2,.row (Qad u).cells,.row (Qad v).cells] (.tup [.row (ca.cells++cb.cells++cc.cells),gIi 0])
def hO1b(ca:RawF)(cb:Qdc)(cc:RawF)(z a:QC):Prop:=SCt 24 [gIi 2,.row (ca.cells++cb.cells++cc.cells),.row (Qad z).cells] (.tup [.row (Qad a).cells,gIi 0])
def hO2b(ca:RawF)(cb:Qdc)(cc:RawF)(w b:QC):Prop:=SCt 24 [gIi 2,.row (ca.cells++cb.cells++cc.cells),.row (Qad w).cells] (.tup [.row (Qad b).cells,gIi 0])
theorem kp_2ee(z w u v:QC)(b_z:Qab z)(b_w:Qab w)(b_u:Qab u)(b_v:Qab v)(e1:z=w)(e2:u=v)(d:Rat)(m1 m2 m3 m4 t1 t2 t3 t4:Qdc)(hd:d=(1:Rat))(Wt:hWt 2 (Qad z) (Qad w) (Qad u) (Qad v))(F1b:hF1b 2 z w d)(F2b:hF2b 2 w z d)(Mb:hMb u v m1 m2 m3 m4)(Kb:hKb m1 m2 m3 m4)(Cb:hCb t1 t2 t3 t4)(N1b:hN1b m1 m2 m3 m4 z w d)(N2b:hN2b t1 t2 t3 t4 z w d)(Ab:hAb m1 m2 m3 m4 u v):SCt 6 [gIi 2,.row ((Qad z).cells++(Qad w).cells++(Qad u).cells++(Qad v).cells)] (.r gTt) :=
  Qba (L := [(Qad z).cells,(Qad w).cells,(Qad u).cells,(Qad v).cells,cF d,cF d,m1.cells,m2.cells,m3.cells,m4.cells,cF (1 : Rat),t1.cells,t2.cells,t3.cells,t4.cells,(Qad v).cells].flatten) Qae Qai
     [gs (pknown) [] vTt,
      gsm (Wt) [13] [⟨Qaj 0 32,28,none⟩] [lc 2,.c (.sl 0 0 4 4)] vTt,gs (F1b) [lc 2,yR 0 8,yR 8 8] (.tup [yQ 32,lc 0]),gs (F2b) [lc 2,yR 8 8,yR 0 8] (.tup [yQ 35,lc 0]),gs (Mb) [lc 2,yR 16 8,yR 24 8] (.tup [.row (flA [Qaj 38 32,[.lit (.bool false)]]),lc 0]),gs (Kb) [lc 2,.row (flA [Qaj 38 32,[.lit (.bool false)]])] (.tup [cTt,lc 0]),gs (Qgs 1 (by decide) (by decide)) [lc 1] (rQ 70),gs (Cb) [lc 2,lc 1] (.tup [.row (flA [Qaj 73 32,[.lit (.bool false)]]),lc 0]),gs (N1b) [.row (flA [Qaj 38 32,[.lit (.bool false)]]),lc 2,lc 2,yR 0 8,yR 8 8,yQ 32] vTt,gs (N2b) [.row (flA [Qaj 73 32,[.lit (.bool false)]]),lc 2,lc 1,yR 0 8,yR 8 8,yQ 32] vTt,gs (Ab) [.row (flA [Qaj 38 32,[.lit (.bool false)]]),.row (flA [[.lit (.bool false)],Qaj 16 8])] (.tup [.row (flA [[.lit (.bool false)],Qaj 105 8]),lc 0])]
     [bFn (yQ 32) (yQ 35) d d true (tI rfl),bF (yQ 32) (yQ 70) d (1:Rat) true (tI hd),bG (yR 0 8) (yR 8 8) (Qad z) (Qad w) true ((tI e1).trans Qcr.symm),gbNeb 4 Tryz.underlying4 true true,bPn (.row (flA [[.lit (.bool false)],Qaj 105 8])) (.row (flA [[.lit (.bool false)],Qaj 24 8])) (rawPt (some v)) (rawPt (some v)) true (tI rfl),bG (yR 16 8) (yR 24 8) (Qad u) (Qad v) true ((tI e2).trans Qcr.symm)] [] ((fs18 .nil):Tr.FnsOk Tryz.prog _) 1 1 Tryz.func6 eo6 2000 [lc 2,yR 0 32] vTt
theorem kp_2en(z w u v:QC)(b_z:Qab z)(b_w:Qab w)(b_u:Qab u)(b_v:Qab v)(e1:z=w)(e2:¬(u=v))(d:Rat)(m1 m2 m3 m4 t1 t2 t3 t4:Qdc)(ca:RawF)(cb:Qdc)(cc:RawF)(a b:QC)(sa:Qab a)(sb:Qab b)(hd:d=(1:Rat))(Wt:hWt 2 (Qad z) (Qad w) (Qad u) (Qad v))(F1b:hF1b 2 z w d)(F2b:hF2b 2 w z d)(Mb:hMb u v m1 m2 m3 m4)(Kb:hKb m1 m2 m3 m4)(Cb:hCb t1 t2 t3 t4)(N1b:hN1b m1 m2 m3 m4 z w d)(N2b:hN2b t1 t2 t3 t4 z w d)(Ab:hAb m1 m2 m3 m4 u v)(Lb:hLb u v ca cb cc)(O1b:hO1b ca cb cc z a)(O2b:hO2b ca cb cc w b)(F3b:hF3b 2 a b d):SCt 6 [gIi 2,.row ((Qad z).cells++(Qad w).cells++(Qad u).cells++(Qad v).cells)] (.r gTt) :=
  Qba (L := [(Qad z).cells,(Qad w).cells,(Qad u).cells,(Qad v).cells,cF d,cF d,m1.cells,m2.cells,m3.cells,m4.cells,cF (1 : Rat),t1.cells,t2.cells,t3.cells,t4.cells,(Qad v).cells,ca.cells,cb.cells,cc.cells,(Qad a).cells,(Qad b).cells,cF d].flatten) Qae Qai
     [gs (pknown) [] vTt,
      gsm (Wt) [13] [⟨Qaj 0 32,28,none⟩] [lc 2,.c (.sl 0 0 4 4)] vTt,gs (F1b) [lc 2,yR 0 8,yR 8 8] (.tup [yQ 32,lc 0]),gs (F2b) [lc 2,yR 8 8,yR 0 8] (.tup [yQ 35,lc 0]),gs (Mb) [lc 2,yR 16 8,yR 24 8] (.tup [.row (flA [Qaj 38 32,[.lit (.bool false)]]),lc 0]),gs (Kb) [lc 2,.row (flA [Qaj 38 32,[.lit (.bool false)]])] (.tup [cTt,lc 0]),gs (Qgs 1 (by decide) (by decide)) [lc 1] (rQ 70),gs (Cb) [lc 2,lc 1] (.tup [.row (flA [Qaj 73 32,[.lit (.bool false)]]),lc 0]),gs (N1b) [.row (flA [Qaj 38 32,[.lit (.bool false)]]),lc 2,lc 2,yR 0 8,yR 8 8,yQ 32] vTt,gs (N2b) [.row (flA [Qaj 73 32,[.lit (.bool false)]]),lc 2,lc 1,yR 0 8,yR 8 8,yQ 32] vTt,gs (Ab) [.row (flA [Qaj 38 32,[.lit (.bool false)]]),.row (flA [[.lit (.bool false)],Qaj 16 8])] (.tup [.row (flA [[.lit (.bool false)],Qaj 105 8]),lc 0]),gs (Lb) [lc 2,yR 16 8,yR 24 8] (.tup [yR 113 16,lc 0]),gs (O1b) [lc 2,yR 113 16,yR 0 8] (.tup [yR 129 8,lc 0]),gs (O2b) [lc 2,yR 113 16,yR 8 8] (.tup [yR 137 8,lc 0]),gs (F3b) [lc 2,yR 129 8,yR 137 8] (.tup [yQ 145,lc 0])]
     [bFn (yQ 32) (yQ 35) d d true (tI rfl),bF (yQ 32) (yQ 70) d (1:Rat) true (tI hd),bG (yR 0 8) (yR 8 8) (Qad z) (Qad w) true ((tI e1).trans Qcr.symm),gbNeb 4 Tryz.underlying4 true true,bPn (.row (flA [[.lit (.bool false)],Qaj 105 8])) (.row (flA [[.lit (.bool false)],Qaj 24 8])) (rawPt (some v)) (rawPt (some v)) true (tI rfl),bG (yR 16 8) (yR 24 8) (Qad u) (Qad v) false ((fI e2).trans Qcr.symm),bF (yQ 145) (yQ 32) d d true (tI rfl)] [] ((fs18 .nil):Tr.FnsOk Tryz.prog _) 1 1 Tryz.func6 eo6 2000 [lc 2,yR 0 32] vTt
theorem kp_2ne(z w u v:QC)(b_z:Qab z)(b_w:Qab w)(b_u:Qab u)(b_v:Qab v)(e1:¬(z=w))(e2:u=v)(d:Rat)(m1 m2 m3 m4 t1 t2 t3 t4:Qdc)(hd:¬(d=(1:Rat)))(Wt:hWt 2 (Qad z) (Qad w) (Qad u) (Qad v))(F1b:hF1b 2 z w d)(F2b:hF2b 2 w z d)(Mb:hMb u v m1 m2 m3 m4)(Kb:hKb m1 m2 m3 m4)(Cb:hCb t1 t2 t3 t4)(N1b:hN1b m1 m2 m3 m4 z w d)(N2b:hN2b t1 t2 t3 t4 z w d)(Ab:hAb m1 m2 m3 m4 u v):SCt 6 [gIi 2,.row ((Qad z).cells++(Qad w).cells++(Qad u).cells++(Qad v).cells)] (.r gTt) :=
  Qba (L := [(Qad z).cells,(Qad w).cells,(Qad u).cells,(Qad v).cells,cF d,cF d,m1.cells,m2.cells,m3.cells,m4.cells,cF (1 : Rat),t1.cells,t2.cells,t3.cells,t4.cells,(Qad v).cells].flatten) Qae Qai
     [gs (pknown) [] vTt,
      gsm (Wt) [13] [⟨Qaj 0 32,28,none⟩] [lc 2,.c (.sl 0 0 4 4)] vTt,gs (F1b) [lc 2,yR 0 8,yR 8 8] (.tup [yQ 32,lc 0]),gs (F2b) [lc 2,yR 8 8,yR 0 8] (.tup [yQ 35,lc 0]),gs (Mb) [lc 2,yR 16 8,yR 24 8] (.tup [.row (flA [Qaj 38 32,[.lit (.bool false)]]),lc 0]),gs (Kb) [lc 2,.row (flA [Qaj 38 32,[.lit (.bool false)]])] (.tup [cTt,lc 0]),gs (Qgs 1 (by decide) (by decide)) [lc 1] (rQ 70),gs (Cb) [lc 2,lc 1] (.tup [.row (flA [Qaj 73 32,[.lit (.bool false)]]),lc 0]),gs (N1b) [.row (flA [Qaj 38 32,[.lit (.bool false)]]),lc 2,lc 2,yR 0 8,yR 8 8,yQ 32] vTt,gs (N2b) [.row (flA [Qaj 73 32,[.lit (.bool false)]]),lc 2,lc 1,yR 0 8,yR 8 8,yQ 32] vTt,gs (Ab) [.row (flA [Qaj 38 32,[.lit (.bool false)]]),.row (flA [[.lit (.bool false)],Qaj 16 8])] (.tup [.row (flA [[.lit (.bool false)],Qaj 105 8]),lc 0])]
     [bFn (yQ 32) (yQ 35) d d true (tI rfl),bF (yQ 32) (yQ 70) d (1:Rat) false (fI hd),bG (yR 0 8) (yR 8 8) (Qad z) (Qad w) false ((fI e1).trans Qcr.symm),gbNeb 4 Tryz.underlying4 false false,bPn (.row (flA [[.lit (.bool false)],Qaj 105 8])) (.row (flA [[.lit (.bool false)],Qaj 24 8])) (rawPt (some v)) (rawPt (some v)) true (tI rfl),bG (yR 16 8) (yR 24 8) (Qad u) (Qad v) true ((tI e2).trans Qcr.symm)] [] ((fs18 .nil):Tr.FnsOk Tryz.prog _) 1 1 Tryz.func6 eo6 2000 [lc 2,yR 0 32] vTt
theorem kp_2nn(z w u v:QC)(b_z:Qab z)(b_w:Qab w)(b_u:Qab u)(b_v:Qab v)(e1:¬(z=w))(e2:¬(u=v))(d:Rat)(m1 m2 m3 m4 t1 t2 t3 t4:Qdc)(ca:RawF)(cb:Qdc)(cc:RawF)(a b:QC)(sa:Qab a)(sb:Qab b)(hd:¬(d=(1:Rat)))(Wt:hWt 2 (Qad z) (Qad w) (Qad u) (Qad v))(F1b:hF1b 2 z w d)(F2b:hF2b 2 w z d)(Mb:hMb u v m1 m2 m3 m4)(Kb:hKb m1 m2 m3 m4)(Cb:hCb t1 t2 t3 t4)(N1b:hN1b m1 m2 m3 m4 z w d)(N2b:hN2b t1 t2 t3 t4 z w d)(Ab:hAb m1 m2 m3 m4 u v)(Lb:hLb u v ca cb cc)(O1b:hO1b ca cb cc z a)(O2b:hO2b ca cb cc w b)(F3b:hF3b 2 a b d):SCt 6 [gIi 2,.row ((Qad z).cells++(Qad w).cells++(Qad u).cells++(Qad v).cells)] (.r gTt) :=
  Qba (L := [(Qad z).cells,(Qad w).cells,(Qad u).cells,(Qad v).cells,cF d,cF d,m1.cells,m2.cells,m3.cells,m4.cells,cF (1 : Rat),t1.cells,t2.cells,t3.cells,t4.cells,(Qad v).cells,ca.cells,cb.cells,cc.cells,(Qad a).cells,(Qad b).cells,cF d].flatten) Qae Qai
     [gs (pknown) [] vTt,
      gsm (Wt) [13] [⟨Qaj 0 32,28,none⟩] [lc 2,.c (.sl 0 0 4 4)] vTt,gs (F1b) [lc 2,yR 0 8,yR 8 8] (.tup [yQ 32,lc 0]),gs (F2b) [lc 2,yR 8 8,yR 0 8] (.tup [yQ 35,lc 0]),gs (Mb) [lc 2,yR 16 8,yR 24 8] (.tup [.row (flA [Qaj 38 32,[.lit (.bool false)]]),lc 0]),gs (Kb) [lc 2,.row (flA [Qaj 38 32,[.lit (.bool false)]])] (.tup [cTt,lc 0]),gs (Qgs 1 (by decide) (by decide)) [lc 1] (rQ 70),gs (Cb) [lc 2,lc 1] (.tup [.row (flA [Qaj 73 32,[.lit (.bool false)]]),lc 0]),gs (N1b) [.row (flA [Qaj 38 32,[.lit (.bool false)]]),lc 2,lc 2,yR 0 8,yR 8 8,yQ 32] vTt,gs (N2b) [.row (flA [Qaj 73 32,[.lit (.bool false)]]),lc 2,lc 1,yR 0 8,yR 8 8,yQ 32] vTt,gs (Ab) [.row (flA [Qaj 38 32,[.lit (.bool false)]]),.row (flA [[.lit (.bool false)],Qaj 16 8])] (.tup [.row (flA [[.lit (.bool false)],Qaj 105 8]),lc 0]),gs (Lb) [lc 2,yR 16 8,yR 24 8] (.tup [yR 113 16,lc 0]),gs (O1b) [lc 2,yR 113 16,yR 0 8] (.tup [yR 129 8,lc 0]),gs (O2b) [lc 2,yR 113 16,yR 8 8] (.tup [yR 137 8,lc 0]),gs (F3b) [lc 2,yR 129 8,yR 137 8] (.tup [yQ 145,lc 0])]
     [bFn (yQ 32) (yQ 35) d d true (tI rfl),bF (yQ 32) (yQ 70) d (1:Rat) false (fI hd),bG (yR 0 8) (yR 8 8) (Qad z) (Qad w) false ((fI e1).trans Qcr.symm),gbNeb 4 Tryz.underlying4 false false,bPn (.row (flA [[.lit (.bool false)],Qaj 105 8])) (.row (flA [[.lit (.bool false)],Qaj 24 8])) (rawPt (some v)) (rawPt (some v)) true (tI rfl),bG (yR 16 8) (yR 24 8) (Qad u) (Qad v) false ((fI e2).trans Qcr.symm),bF (yQ 145) (yQ 32) d d true (tI rfl)] [] ((fs18 .nil):Tr.FnsOk Tryz.prog _) 1 1 Tryz.func6 eo6 2000 [lc 2,yR 0 32] vTt
end Go.Proofs.YtmimficdpfmfgaaGreat
set_option linter.unusedSimpArgs false
namespace Go.Proofs.YtmimficdpfmfgaaGreat
open Go.RowKit Tr
open Classical
theorem sg_n{n:Int}(h:n≤0):¬n>0:=by omega
theorem sg_y{n:Int}(h:¬n≤0):n>0:=by omega
end Go.Proofs.YtmimficdpfmfgaaGreat
namespace Go.Proofs.YtmimficdpfmfgaaGreat
open Go.RowKit Tr
open Classical
theorem has_1(z:QC)(b_z:Qab z)(hz:hN1 z):SCt 40 [gIi 1,.row ((Qad z).cells)] (.r gTt) :=
  Qba (L := [(Qad z).cells,(Qad (⟨0,1⟩ : QC)).cells,(Qad (⟨0,0⟩ : QC)).cells,cn z,[gr z.re],[gr z.im],[gxi z.im.num.sign]].flatten) Qae Qai
     [gpi 0 1 8,gpi 0 0 16,gs (Qej z b_z) [yR 0 8] (.tup [sy [24,25],cTt]),gs (Qcf z ((Qaa b_z).mn)) [sy [24,25]] (.tup [cS 26,cS 27]),gs (Qau z.im) [cS 27] (rS 28)]
     [bLf 3 28 hz] [] ((Qhq (fs70 (Qha (Qhb (Qhc (fs81 (Qgz (fs99 .nil)))))))):FnsOk Tryz.prog _) 1 3 Tryz.func40 eo40 2000 [lc 1,yR 0 8] vTt
theorem has_2(z:QC)(b_z:Qab z)(hz:hN2 z):SCt 40 [gIi 2,.row ((Qad z).cells)] (.r gTt) :=
  Qba (L := [(Qad z).cells,(Qad (⟨0,1⟩ : QC)).cells,(Qad (⟨0,0⟩ : QC)).cells,cn z,[gr (1 : Rat)],[gr (nm z)],[gr ((1 : Rat) - (nm z))],[gxi (((1 : Rat) - (nm z)).num.sign)]].flatten) Qae Qai
     [gpi 0 1 8,gpi 0 0 16,gs (Qej z b_z) [yR 0 8] (.tup [sy [24,25],cTt]),gs (pnr 1) [lc 1,lc 1] (rS 26),gs (Qea z ((Qaa b_z).mn)) [sy [24,25]] (rS 27),gs (Qda (1:Rat) (nm z) (ri 1) ((Qbz (Qaa b_z)).mn)) [cS 26,cS 27] (rS 28),gs (Qau ((1:Rat) - (nm z))) [cS 28] (rS 29)]
     [bLf 3 29 hz] [] ((Qhq (fs70 (Qha (Qhb (Qhc (fs81 (Qgz (fs99 .nil)))))))):FnsOk Tryz.prog _) 1 3 Tryz.func40 eo40 2000 [lc 2,yR 0 8] vTt
end Go.Proofs.YtmimficdpfmfgaaGreat
namespace Go.Proofs.YtmimficdpfmfgaaGreat
open Go.RowKit Tr
open Classical
theorem eToldOk'(p:Q4)(hd:dq p≠⟨0,0⟩)(hn:Nf p)(hs:Sh4 p):SCt 125 [.row (mR p false)] (.tup [.row (mQ p false),gIi 0]):=by
 have k:=eTold false p (hs.zl.mono (by decide)) hd
 rw[nm4_id hn] at k
 exact k.t hs
theorem eInv'(m:Q4)(h:MapOk m)(hs:Sh4 (inv4 m)):SCt 74 [.row (mQ m false)] (.tup [.row (mQ (inv4 m) false),gIi 0]) :=
  Qbr (L := mQ m false ++ mR m false ++ mR (inv4 m) false ++ mQ (inv4 m) false) Qae Qai
     [gs (eOpenOk m false h) [yR 0 33] (.tup [yR 33 9,cTt]),gs (eUndo m (h.1.zl.mono (by decide)) h.2.2) [yR 33 9] (.r (yR 42 9)),gs (eToldOk' (inv4 m) (inv_dq h.2.2) (nm4_nf (adj_ne h.2.2)) hs) [yR 42 9] (.tup [yR 51 33,lc 0])]
     [] [] Tryz.func74 eo74 2000 [yR 0 33] (.tup [yR 51 33,lc 0])
theorem inv21:inv4 ((⟨1,0⟩:QC),(⟨0,-1⟩:QC),(⟨1,0⟩:QC),(⟨0,1⟩:QC))=((⟨0,-1⟩:QC),(⟨0,-1⟩:QC),(⟨1,0⟩:QC),(⟨-1,0⟩:QC)):=by
 have e:by4 (adj4 ((⟨1,0⟩:QC),(⟨0,-1⟩:QC),(⟨1,0⟩:QC),(⟨0,1⟩:QC)))=(⟨0,0⟩:QC) - ⟨1,0⟩:=if_neg (fun h=>absurd (congrArg QC.re h) (by decide +kernel))
 unfold inv4 nm4
 rw[e]
 refine q4_ext ?_ ?_ ?_ ?_<;>(apply Qbv<;>decide +kernel)
theorem kInv21:SCt 74 [.row ((Qad (⟨1,0⟩:QC)).cells++(Qad (⟨0,-1⟩:QC)).cells++(Qad (⟨1,0⟩:QC)).cells++(Qad (⟨0,1⟩:QC)).cells++[gl (.bool false)])] (.tup [.row ((Qad (⟨0,-1⟩:QC)).cells++(Qad (⟨0,-1⟩:QC)).cells++(Qad (⟨1,0⟩:QC)).cells++(Qad (⟨-1,0⟩:QC)).cells++[gl (.bool false)]),gIi 0]):=by
 have s:∀ z:QC,z=⟨1,0⟩∨z=⟨0,-1⟩∨z=⟨0,1⟩∨z=⟨-1,0⟩→Qab z:=fun z h=>by rcases h with rfl|rfl|rfl|rfl<;>exact Qbc (by decide +kernel)
 have h:MapOk ((⟨1,0⟩:QC),(⟨0,-1⟩:QC),(⟨1,0⟩:QC),(⟨0,1⟩:QC)):=⟨⟨s _ (by simp),s _ (by simp),s _ (by simp),s _ (by simp)⟩,.inl rfl,fun e=>absurd (congrArg QC.im e) (by decide +kernel)⟩
 have k:=eInv' _ h (by rw[inv21]; exact⟨s _ (by simp),s _ (by simp),s _ (by simp),s _ (by simp)⟩)
 rw[inv21] at k
 exact k
theorem pCh21  :SCt 11 [gIi 2,gIi 1] (.tup [.row ((Qad (⟨0,-1⟩:QC)).cells++(Qad (⟨0,-1⟩:QC)).cells++(Qad (⟨1,0⟩:QC)).cells++(Qad (⟨-1,0⟩:QC)).cells++[gl (.bool false)]),gIi 0]) :=
  Qba (L := [(Qad (⟨0,1⟩ : QC)).cells,(Qad (⟨0,0⟩ : QC)).cells,(Qad (⟨1,0⟩ : QC)).cells,(Qad (⟨0,-1⟩ : QC)).cells,cn (⟨1,0⟩ : QC),cn (⟨0,-1⟩ : QC),cn (⟨0,1⟩ : QC),cn (⟨0,2⟩ : QC),(Qad ((⟨1,0⟩ : QC) / (⟨1,0⟩ : QC))).cells,(Qad ((⟨0,-1⟩ : QC) / (⟨1,0⟩ : QC))).cells,(Qad ((⟨1,0⟩ : QC) / (⟨1,0⟩ : QC))).cells,(Qad ((⟨0,1⟩ : QC) / (⟨1,0⟩ : QC))).cells,(Qad (⟨0,-1⟩ : QC)).cells,(Qad (⟨0,-1⟩ : QC)).cells,(Qad (⟨1,0⟩ : QC)).cells,(Qad (⟨-1,0⟩ : QC)).cells].flatten) Qae Qai
     [Qgt eo78,gpi 0 1 0,gpi 0 0 8,gpi 1 0 16,gpi 0 (-1) 24,gs (Qej (⟨1,0⟩:QC) (Qbc (by decide +kernel))) [yR 16 8] (.tup [sy [32,33],cTt]),gs (Qej (⟨0,-1⟩:QC) (Qbc (by decide +kernel))) [yR 24 8] (.tup [sy [34,35],cTt]),gs (Qej (⟨0,1⟩:QC) (Qbc (by decide +kernel))) [yR 0 8] (.tup [sy [36,37],cTt]),gs (eDet (⟨1,0⟩:QC) (⟨0,-1⟩:QC) (⟨1,0⟩:QC) (⟨0,1⟩:QC) false ((Qec (⟨1,0⟩:QC) 1 (by decide +kernel)).mn) ((Qec (⟨0,-1⟩:QC) 1 (by decide +kernel)).mn) ((Qec (⟨1,0⟩:QC) 1 (by decide +kernel)).mn) ((Qec (⟨0,1⟩:QC) 1 (by decide +kernel)).mn)) [.row (flA [Qaj 32 4,[.sym 32,.sym 33,.sym 36,.sym 37,.lit (.bool false)]])] (.r (sy [38,39])),gs (Qia (⟨0,2⟩:QC) false (fI (by decide +kernel))) [sy [38,39]] vFf,gs ((eToldCf (⟨1,0⟩:QC) (⟨0,-1⟩:QC) (⟨1,0⟩:QC) (⟨0,1⟩:QC) ((Qec (⟨1,0⟩:QC) 1 (by decide +kernel)).mn) ((Qec (⟨0,-1⟩:QC) 1 (by decide +kernel)).mn) ((Qec (⟨1,0⟩:QC) 1 (by decide +kernel)).mn) ((Qec (⟨0,1⟩:QC) 1 (by decide +kernel)).mn) (by decide +kernel)).t ⟨Qbc (by decide +kernel),Qbc (by decide +kernel),Qbc (by decide +kernel),Qbc (by decide +kernel)⟩) [.row (flA [Qaj 32 4,[.sym 32,.sym 33,.sym 36,.sym 37,.lit (.bool false)]])] (.tup [.row (flA [Qaj 40 32,[.lit (.bool false)]]),lc 0]),gs (kInv21) [.row (flA [Qaj 40 32,[.lit (.bool false)]])] (.tup [.row (flA [Qaj 72 32,[.lit (.bool false)]]),lc 0])]
     [] [] ((Qhq (fs70 (Qha (Qhb (Qhc (fs81 (Qgz (fs40 (fs72 .nil))))))))):FnsOk Tryz.prog _) 1 3 Tryz.func11 eo11 2000 [lc 2,lc 1] (.tup [.row (flA [Qaj 72 32,[.lit (.bool false)]]),lc 0])
end Go.Proofs.YtmimficdpfmfgaaGreat
