/- Laws for the walk. -/
import Derived.Test.YtmimficdpfmfgaaGreatZbl
import Derived.Test.YtmimficdpfmfgaaGreatZbn
import Derived.Test.YtmimficdpfmfgaaGreatZbt
set_option linter.unusedVariables false
set_option linter.unusedSimpArgs false
set_option maxHeartbeats 4000000
namespace Go.Proofs.YtmimficdpfmfgaaGreat
open Go.RowKit Tr
open Classical
theorem leastk{p:Nat→Prop}{n:Nat}(h:∃ k,k<n∧p k):∃ k,k<n∧p k∧∀ j,j<k→¬p j:=by
 obtain⟨k,hk,hp⟩:=h
 induction k using Nat.strongRecOn with
 | ind k ih =>
  by_cases hj:∃ j,j<k∧p j
  ·obtain⟨j,h1,h2⟩:=hj; exact ih j h1 (by omega) h2
  ·exact⟨k,hk,hp,fun j h1 h2=>hj ⟨j,h1,h2⟩⟩
def gtk{P:Program}{L:List GF}(t:TypeId)(x y:AC)(a b:Int)(r:Bool)(h:r=true↔a>b)(hx:x.gv L=some (.int .i64 a):=by kernel_rfl)(hy:y.gv L=some (.int .i64 b):=by kernel_rfl):GB P L :=
 gbInt .gtr t .i64 x y a b r (by simp only[cmpB]; congr 1; rw[Bool.eq_iff_iff,h,decide_eq_true_eq]) hx hy
noncomputable def rNk(p:Nat→Prop)(n k:Nat):Bool:=if k<n then false else if k=n then true else @decide (p k) (Classical.propDecidable _)
theorem rNk_ok{p:Nat→Prop}{n:Nat}(h:∀ k,k<n→¬p k)(hn:p n)(k:Nat):rNk p n k=true↔p k:=by
 unfold rNk
 split
 ·rename_i h1; exact⟨(fun e=>by cases e),fun e=>absurd e (h k h1)⟩
 ·split
  ·rename_i h1; subst h1; exact⟨fun _=>hn,fun _=>rfl⟩
  ·simp
def smTL(g1 g2:Qcc):List GF:=[g1.cells,g2.cells,[gx (.int .i64 (Sz g1.s1))],[gx (.int .i64 (Sz g1.s2))],[gx (.int .i64 (Sz g1.s3))],[gx (.int .i64 (Sz g1.s4))],[gx (.int .i64 (Sz g2.s1))],[gx (.int .i64 (Sz g2.s2))],[gx (.int .i64 (Sz g2.s3))],[gx (.int .i64 (Sz g2.s4))]].flatten
def smTP(g1 g2:Qcc)(k:Nat):Prop:=([(Sz g1.s1)>24,(Sz g1.s2)>24,(Sz g1.s3)>24,(Sz g1.s4)>24,(Sz g2.s1)>24,(Sz g2.s2)>24,(Sz g2.s3)>24,(Sz g2.s4)>24]:List Prop).getD k False
def smTO(g1 g2:Qcc):List (GO Tryz.prog (smTL g1 g2)):=[lS (.sym 1) g1.s1 (.sym 16),lS (.sym 3) g1.s2 (.sym 17),lS (.sym 5) g1.s3 (.sym 18),lS (.sym 7) g1.s4 (.sym 19),lS (.sym 9) g2.s1 (.sym 20),lS (.sym 11) g2.s2 (.sym 21),lS (.sym 13) g2.s3 (.sym 22),lS (.sym 15) g2.s4 (.sym 23)]
def smTB(g1 g2:Qcc)(r:Nat→Bool)(hr:∀ k,k<8→(r k=true↔smTP g1 g2 k)):List (GB Tryz.prog (smTL g1 g2)) :=
  [gtk 3 (.sym 16) (li 24) (Sz g1.s1) 24 (r 0) (hr 0 (by decide)),
   gtk 3 (.sym 17) (li 24) (Sz g1.s2) 24 (r 1) (hr 1 (by decide)),
   gtk 3 (.sym 18) (li 24) (Sz g1.s3) 24 (r 2) (hr 2 (by decide)),
   gtk 3 (.sym 19) (li 24) (Sz g1.s4) 24 (r 3) (hr 3 (by decide)),
   gtk 3 (.sym 20) (li 24) (Sz g2.s1) 24 (r 4) (hr 4 (by decide)),
   gtk 3 (.sym 21) (li 24) (Sz g2.s2) 24 (r 5) (hr 5 (by decide)),
   gtk 3 (.sym 22) (li 24) (Sz g2.s3) 24 (r 6) (hr 6 (by decide)),
   gtk 3 (.sym 23) (li 24) (Sz g2.s4) 24 (r 7) (hr 7 (by decide))]
theorem smTE(g1 g2:Qcc)(r:Nat→Bool)(hr:∀ k,k<8→(r k=true↔smTP g1 g2 k))(b:Bool)(hev:evL (gcx tys true (smTL g1 g2) [] (smTB g1 g2 r hr) (smTO g1 g2)) Tryz.f9 2000 [⟨Qab 0 16,28,none⟩] [lc 24,.c (.sl 0 0 2 2)] (.r (.c (.lit (.bool b))))=true):Qbk Tryz.prog true 9 [(g1.cells++g2.cells,28)] [.f (.c (gl (.int .i64 24))),.sl 0 0 2 2] (B1 b) :=
 ev_sm (L:=smTL g1 g2) tys_ok mixed [] (smTB g1 g2 r hr) (smTO g1 g2) Tryz.func9 eo9 2000 [⟨Qab 0 16,28,none⟩] [lc 24,.c (.sl 0 0 2 2)] (.r (.c (.lit (.bool b)))) hev
theorem smTT(g1 g2:Qcc)(k:Nat)(hk:k<8)(h:∀ j,j<k→¬smTP g1 g2 j)(hp:smTP g1 g2 k):Qbk Tryz.prog true 9 [(g1.cells++g2.cells,28)] [.f (.c (gl (.int .i64 24))),.sl 0 0 2 2] (B1 false):=by
 rcases(by omega:k=0∨k=1∨k=2∨k=3∨k=4∨k=5∨k=6∨k=7) with rfl|rfl|rfl|rfl|rfl|rfl|rfl|rfl
 all_goals exact smTE g1 g2 (rNk (smTP g1 g2) _) (fun j _=>rNk_ok h hp j) false (by kernel_rfl)
def smTC(g1 g2:Qcc):Prop:=∃ k,k<8∧smTP g1 g2 k
theorem smT(g1 g2:Qcc)(b:Bool)(hb:b=true↔¬smTC g1 g2):Qbk Tryz.prog true 9 [(g1.cells++g2.cells,28)] [.f (.c (gl (.int .i64 24))),.sl 0 0 2 2] (B1 b):=by
 cases b
 ·obtain⟨k,hk,hp,h⟩:=leastk (Classical.byContradiction fun h=>by cases hb.2 h)
  exact smTT g1 g2 k hk h hp
 ·exact smTE g1 g2 (fun _=>false) (fun k hk=>⟨(fun e=>by cases e),fun e=>(hb.1 rfl ⟨k,hk,e⟩).elim⟩) true (by kernel_rfl)
theorem two_L1(p:Int)(z w:Qcc)(hs:smTC z w):Qah Tryz.prog true 5 [.c (gx (.int .i64 p)),.row (z.cells),.row (w.cells)] (.r (.c (gl (.bool true)))) :=
  Qas (L := [[gx (.int .i64 p)],z.cells,w.cells].flatten) tys_ok mixed
     [gsm (smT z w false ⟨(fun e=>by cases e),fun k_=>(k_ hs).elim⟩) [5] [⟨Qab 1 16,28,none⟩] [lc 24,.c (.sl 0 0 2 2)] (.r (.c (.lit (.bool false)))),gs (Qct) [] (.r (.c (.lit (.bool true))))]
     [] [] ((fs29 (fs13 (fs41 (fs14 (fs26 (fs27 (fs18 (fs96 (Qcv (Qcn (fs36 (fs37 (fs38 (fs39 (fs40 (Qbu (Qdz (Qbv (Qbs (Qbr (Qdy (Qbt (fs99 .nil))))))))))))))))))))))):FnsOk Tryz.prog _) 1 5 Tryz.func5 eo5 2000 [cS 0,.row (Qab 1 8),.row (Qab 9 8)] (.r (.c (.lit (.bool true))))
theorem two_L2(p:Int)(z w:Qcc)(hs:¬(smTC z w))(hp1:¬(p=1))(hp2:¬(p=2)):Qah Tryz.prog true 5 [.c (gx (.int .i64 p)),.row (z.cells),.row (w.cells)] (.r (.c (gl (.bool true)))) :=
  Qas (L := [[gx (.int .i64 p)],z.cells,w.cells].flatten) tys_ok mixed
     [gsm (smT z w true ⟨fun _=>hs,fun _=>rfl⟩) [5] [⟨Qab 1 16,28,none⟩] [lc 24,.c (.sl 0 0 2 2)] (.r (.c (.lit (.bool true)))),gs (Qct) [] (.r (.c (.lit (.bool true))))]
     [bI .eql 22 (.sym 0) (li 1) p 1 false (by simp[cmpB,hp1]),bI .eql 22 (.sym 0) (li 2) p 2 false (by simp[cmpB,hp2]),gbNeb 4 Tryz.underlying4 false false,Qax 26 (.row (zFA)) (.row (zFA)) (.agg (zV 2).toArray) (fun _ _ _=>by kernel_rfl),Qax 30 (.row (flA [zGA,zGA,zGA,zGA,[.lit (.bool false)]])) (.row (flA [zGA,zGA,zGA,zGA,[.lit (.bool false)]])) (.agg (zV 16++[Value.bool false]).toArray) (fun _ _ _=>by kernel_rfl),Qax 47 (.row (flA [zGA,zGA])) (.row (flA [zGA,zGA])) (.agg (zV 8).toArray) (fun _ _ _=>by kernel_rfl)] [] ((fs29 (fs13 (fs41 (fs14 (fs26 (fs27 (fs18 (fs96 (Qcv (Qcn (fs36 (fs37 (fs38 (fs39 (fs40 (Qbu (Qdz (Qbv (Qbs (Qbr (Qdy (Qbt (fs99 .nil))))))))))))))))))))))):FnsOk Tryz.prog _) 1 5 Tryz.func5 eo5 2000 [cS 0,.row (Qab 1 8),.row (Qab 9 8)] (.r (.c (.lit (.bool true))))
theorem two_L3_1(z w:Qcc)(b_z:Qcc.Sz z)(b_w:Qcc.Sz w)(hs:¬(smTC z w))(kz:¬(GOk z.val)):Qah Tryz.prog true 5 [.c (gl (.int .i64 1)),.row (z.cells),.row (w.cells)] (.r (.c (gl (.bool true)))) :=
  Qas (L := [z.cells,w.cells,(Qae (⟨0,1⟩ : QC)).cells,(Qae (⟨0,0⟩ : QC)).cells,[ga,ga]].flatten) tys_ok mixed
     [gsm (smT z w true ⟨fun _=>hs,fun _=>rfl⟩) [5] [⟨Qab 0 16,28,none⟩] [lc 24,.c (.sl 0 0 2 2)] (.r (.c (.lit (.bool true)))),gs (Qck z false (fI kz)) [.row (Qab 0 8)] (.r (.c (.lit (.bool false)))),gs (pgi 0 1) [lc 0,lc 1] (.r (.row (Qab 16 8))),gs (pgi 0 0) [lc 0,lc 0] (.r (.row (Qab 24 8))),gs (pEOfR z b_z false (fI kz)) [.row (Qab 0 8)] (.tup [sy [32,33],.c (.lit (.bool false))]),gs (Qct) [] (.r (.c (.lit (.bool true))))]
     [gbNeb 4 Tryz.underlying4 false false,Qax 26 (.row (zFA)) (.row (zFA)) (.agg (zV 2).toArray) (fun _ _ _=>by kernel_rfl),Qax 30 (.row (flA [zGA,zGA,zGA,zGA,[.lit (.bool false)]])) (.row (flA [zGA,zGA,zGA,zGA,[.lit (.bool false)]])) (.agg (zV 16++[Value.bool false]).toArray) (fun _ _ _=>by kernel_rfl),Qax 47 (.row (flA [zGA,zGA])) (.row (flA [zGA,zGA])) (.agg (zV 8).toArray) (fun _ _ _=>by kernel_rfl)] [] ((fs29 (fs13 (fs41 (fs14 (fs26 (fs27 (fs18 (fs96 (Qcv (Qcn (fs36 (fs37 (fs38 (fs39 (fs40 (Qbu (Qdz (Qbv (Qbs (Qbr (Qdy (Qbt (fs99 .nil))))))))))))))))))))))):FnsOk Tryz.prog _) 1 5 Tryz.func5 eo5 2000 [lc 1,.row (Qab 0 8),.row (Qab 8 8)] (.r (.c (.lit (.bool true))))
theorem two_L3_2(z w:Qcc)(b_z:Qcc.Sz z)(b_w:Qcc.Sz w)(hs:¬(smTC z w))(kz:¬(GOk z.val)):Qah Tryz.prog true 5 [.c (gl (.int .i64 2)),.row (z.cells),.row (w.cells)] (.r (.c (gl (.bool true)))) :=
  Qas (L := [z.cells,w.cells,(Qae (⟨0,1⟩ : QC)).cells,(Qae (⟨0,0⟩ : QC)).cells,[ga,ga]].flatten) tys_ok mixed
     [gsm (smT z w true ⟨fun _=>hs,fun _=>rfl⟩) [5] [⟨Qab 0 16,28,none⟩] [lc 24,.c (.sl 0 0 2 2)] (.r (.c (.lit (.bool true)))),gs (Qck z false (fI kz)) [.row (Qab 0 8)] (.r (.c (.lit (.bool false)))),gs (pgi 0 1) [lc 0,lc 1] (.r (.row (Qab 16 8))),gs (pgi 0 0) [lc 0,lc 0] (.r (.row (Qab 24 8))),gs (pEOfR z b_z false (fI kz)) [.row (Qab 0 8)] (.tup [sy [32,33],.c (.lit (.bool false))]),gs (Qct) [] (.r (.c (.lit (.bool true))))]
     [gbNeb 4 Tryz.underlying4 false false,Qax 26 (.row (zFA)) (.row (zFA)) (.agg (zV 2).toArray) (fun _ _ _=>by kernel_rfl),Qax 30 (.row (flA [zGA,zGA,zGA,zGA,[.lit (.bool false)]])) (.row (flA [zGA,zGA,zGA,zGA,[.lit (.bool false)]])) (.agg (zV 16++[Value.bool false]).toArray) (fun _ _ _=>by kernel_rfl),Qax 47 (.row (flA [zGA,zGA])) (.row (flA [zGA,zGA])) (.agg (zV 8).toArray) (fun _ _ _=>by kernel_rfl)] [] ((fs29 (fs13 (fs41 (fs14 (fs26 (fs27 (fs18 (fs96 (Qcv (Qcn (fs36 (fs37 (fs38 (fs39 (fs40 (Qbu (Qdz (Qbv (Qbs (Qbr (Qdy (Qbt (fs99 .nil))))))))))))))))))))))):FnsOk Tryz.prog _) 1 5 Tryz.func5 eo5 2000 [lc 2,.row (Qab 0 8),.row (Qab 8 8)] (.r (.c (.lit (.bool true))))
end Go.Proofs.YtmimficdpfmfgaaGreat
