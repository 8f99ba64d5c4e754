/- Laws for the walk. -/
import Derived.Test.YteljkhfbgliokaaGreatZzz
import Derived.Test.YteljkhfbgliokaaGreatZbe
set_option linter.unusedVariables false
namespace Go.Proofs.YteljkhfbgliokaaGreat
open Go.RowKit Tr
open Classical
def e9 (p : Pt) (q : Pt) (r : Pt) (a : QC) (b : QC) : QC := e3 (ptX p) (ptY p) (ptX q) (ptY q) (ptX r) (ptY r) a b
theorem e9_b0 (p : Pt) (q : Pt) (r : Pt) (a : QC) (b : QC) (b_p : ShortP p) (b_q : ShortP q) (b_r : ShortP r) (b_a : ShortZ a) (b_b : ShortZ b) : ZL (e9 p q r a b) 77855 := (nlast_b3_1 (ptX p) (ptY p) (ptX q) (ptY q) (ptX r) (ptY r) a b (ZL_ptX b_p) (ZL_ptY p) (ZL_ptX b_q) (ZL_ptY q) (ZL_ptX b_r) (ZL_ptY r) (ZL_short b_a) (ZL_short b_b)).mono (by omega)
def e10 (p : Pt) (q : Pt) (r : Pt) (a : QC) (b : QC) : QC := e6 (ptX p) (ptY p) (ptX q) (ptY q) (ptX r) (ptY r) a b
theorem e10_b0 (p : Pt) (q : Pt) (r : Pt) (a : QC) (b : QC) (b_p : ShortP p) (b_q : ShortP q) (b_r : ShortP r) (b_a : ShortZ a) (b_b : ShortZ b) : ZL (e10 p q r a b) 77855 := (nlast_b3_2 (ptX p) (ptY p) (ptX q) (ptY q) (ptX r) (ptY r) a b (ZL_ptX b_p) (ZL_ptY p) (ZL_ptX b_q) (ZL_ptY q) (ZL_ptX b_r) (ZL_ptY r) (ZL_short b_a) (ZL_short b_b)).mono (by omega)
def e11 (p : Pt) (q : Pt) (s : Pt) (a : QC) (c : QC) : QC := e3 (ptX p) (ptY p) (ptX q) (ptY q) (ptX s) (ptY s) a c
theorem e11_b0 (p : Pt) (q : Pt) (s : Pt) (a : QC) (c : QC) (b_p : ShortP p) (b_q : ShortP q) (b_s : ShortP s) (b_a : ShortZ a) (b_c : ShortZ c) : ZL (e11 p q s a c) 77855 := (nlast_b3_1 (ptX p) (ptY p) (ptX q) (ptY q) (ptX s) (ptY s) a c (ZL_ptX b_p) (ZL_ptY p) (ZL_ptX b_q) (ZL_ptY q) (ZL_ptX b_s) (ZL_ptY s) (ZL_short b_a) (ZL_short b_c)).mono (by omega)
def e12 (p : Pt) (q : Pt) (s : Pt) (a : QC) (c : QC) : QC := e6 (ptX p) (ptY p) (ptX q) (ptY q) (ptX s) (ptY s) a c
theorem e12_b0 (p : Pt) (q : Pt) (s : Pt) (a : QC) (c : QC) (b_p : ShortP p) (b_q : ShortP q) (b_s : ShortP s) (b_a : ShortZ a) (b_c : ShortZ c) : ZL (e12 p q s a c) 77855 := (nlast_b3_2 (ptX p) (ptY p) (ptX q) (ptY q) (ptX s) (ptY s) a c (ZL_ptX b_p) (ZL_ptY p) (ZL_ptX b_q) (ZL_ptY q) (ZL_ptX b_s) (ZL_ptY s) (ZL_short b_a) (ZL_short b_c)).mono (by omega)
def e13 (p : Pt) (r : Pt) (s : Pt) (b : QC) (c : QC) : QC := e3 (ptX p) (ptY p) (ptX r) (ptY r) (ptX s) (ptY s) b c
theorem e13_b0 (p : Pt) (r : Pt) (s : Pt) (b : QC) (c : QC) (b_p : ShortP p) (b_r : ShortP r) (b_s : ShortP s) (b_b : ShortZ b) (b_c : ShortZ c) : ZL (e13 p r s b c) 77855 := (nlast_b3_1 (ptX p) (ptY p) (ptX r) (ptY r) (ptX s) (ptY s) b c (ZL_ptX b_p) (ZL_ptY p) (ZL_ptX b_r) (ZL_ptY r) (ZL_ptX b_s) (ZL_ptY s) (ZL_short b_b) (ZL_short b_c)).mono (by omega)
def e14 (p : Pt) (r : Pt) (s : Pt) (b : QC) (c : QC) : QC := e6 (ptX p) (ptY p) (ptX r) (ptY r) (ptX s) (ptY s) b c
theorem e14_b0 (p : Pt) (r : Pt) (s : Pt) (b : QC) (c : QC) (b_p : ShortP p) (b_r : ShortP r) (b_s : ShortP s) (b_b : ShortZ b) (b_c : ShortZ c) : ZL (e14 p r s b c) 77855 := (nlast_b3_2 (ptX p) (ptY p) (ptX r) (ptY r) (ptX s) (ptY s) b c (ZL_ptX b_p) (ZL_ptY p) (ZL_ptX b_r) (ZL_ptY r) (ZL_ptX b_s) (ZL_ptY s) (ZL_short b_b) (ZL_short b_c)).mono (by omega)
def e15 (p : Pt) (q : Pt) (r : Pt) (s : Pt) (a : QC) (b : QC) (c : QC) : QC := e3 (ptX q) (ptY q) (e9 p q r a b) (e10 p q r a b) (e11 p q s a c) (e12 p q s a c) b c
theorem e15_b0 (p : Pt) (q : Pt) (r : Pt) (s : Pt) (a : QC) (b : QC) (c : QC) (b_p : ShortP p) (b_q : ShortP q) (b_r : ShortP r) (b_s : ShortP s) (b_a : ShortZ a) (b_b : ShortZ b) (b_c : ShortZ c) : ZL (e15 p q r s a b c) 5917011 := (nlast_b3_1 (ptX q) (ptY q) (e9 p q r a b) (e10 p q r a b) (e11 p q s a c) (e12 p q s a c) b c ((ZL_ptX b_q).mono (by omega)) ((ZL_ptY q).mono (by omega)) (e9_b0 p q r a b b_p b_q b_r b_a b_b) (e10_b0 p q r a b b_p b_q b_r b_a b_b) (e11_b0 p q s a c b_p b_q b_s b_a b_c) (e12_b0 p q s a c b_p b_q b_s b_a b_c) ((ZL_short b_b).mono (by omega)) ((ZL_short b_c).mono (by omega))).mono (by omega)
def e16 (p : Pt) (q : Pt) (r : Pt) (s : Pt) (a : QC) (b : QC) (c : QC) : QC := e6 (ptX q) (ptY q) (e9 p q r a b) (e10 p q r a b) (e11 p q s a c) (e12 p q s a c) b c
theorem e16_b0 (p : Pt) (q : Pt) (r : Pt) (s : Pt) (a : QC) (b : QC) (c : QC) (b_p : ShortP p) (b_q : ShortP q) (b_r : ShortP r) (b_s : ShortP s) (b_a : ShortZ a) (b_b : ShortZ b) (b_c : ShortZ c) : ZL (e16 p q r s a b c) 5917011 := (nlast_b3_2 (ptX q) (ptY q) (e9 p q r a b) (e10 p q r a b) (e11 p q s a c) (e12 p q s a c) b c ((ZL_ptX b_q).mono (by omega)) ((ZL_ptY q).mono (by omega)) (e9_b0 p q r a b b_p b_q b_r b_a b_b) (e10_b0 p q r a b b_p b_q b_r b_a b_b) (e11_b0 p q s a c b_p b_q b_s b_a b_c) (e12_b0 p q s a c b_p b_q b_s b_a b_c) ((ZL_short b_b).mono (by omega)) ((ZL_short b_c).mono (by omega))).mono (by omega)
set_option maxHeartbeats 4000000 in
theorem nfaces1 (p q r s : Pt) (a b c : QC) (b_p : ShortP p) (b_q : ShortP q) (b_r : ShortP r) (b_s : ShortP s) (b_a : ShortZ a) (b_b : ShortZ b) (b_c : ShortZ c)  : SpecC Tryz.prog true 13 [.row ((rawPt p).cells ++ (rawPt q).cells ++ (rawPt r).cells ++ (rawPt s).cells ++ (rawQ a).cells ++ (rawQ b).cells ++ (rawQ c).cells),.c (gl (.int .i64 1))] (if (a = (⟨0,0⟩ : QC) ∨ b = (⟨0,0⟩ : QC) ∨ c = (⟨0,0⟩ : QC) ∨ a = b ∨ b = c ∨ c = a) then .tup [.row (zPG ++ zPG ++ zPG),.c (gl (.int .i64 2))] else if kBad (ptX p) (ptY p) (ptX q) (ptY q) (ptX r) (ptY r) ∨ kBad (ptX p) (ptY p) (ptX q) (ptY q) (ptX s) (ptY s) ∨ kBad (ptX p) (ptY p) (ptX r) (ptY r) (ptX s) (ptY s) ∨ kBad (ptX q) (ptY q) (e9 p q r a b) (e10 p q r a b) (e11 p q s a c) (e12 p q s a c) then .tup [.row (zPG ++ zPG ++ zPG),.c (gl (.int .i64 370))] else if (outPC (e15 p q r s a b c) (e16 p q r s a b c)) = 0 then .tup [.row ((outR (e15 p q r s a b c) (e16 p q r s a b c)).cells ++ zPG ++ zPG),.c (gl (.int .i64 0))] else .tup [.row (zPG ++ zPG ++ zPG),.c (gx (.int .i64 (outPC (e15 p q r s a b c) (e16 p q r s a b c))))]) :=
  have t1 := ncube p q r s a b c b_p b_q b_r b_s b_a b_b b_c
  have t2 := nlast (ptX p) (ptY p) (ptX q) (ptY q) (ptX r) (ptY r) a b ((ZL_ptX b_p).mono (by omega)) ((ZL_ptY p).mono (by omega)) ((ZL_ptX b_q).mono (by omega)) ((ZL_ptY q).mono (by omega)) ((ZL_ptX b_r).mono (by omega)) ((ZL_ptY r).mono (by omega)) ((ZL_short b_a).mono (by omega)) ((ZL_short b_b).mono (by omega))
  have t3 := nlast (ptX p) (ptY p) (ptX q) (ptY q) (ptX s) (ptY s) a c ((ZL_ptX b_p).mono (by omega)) ((ZL_ptY p).mono (by omega)) ((ZL_ptX b_q).mono (by omega)) ((ZL_ptY q).mono (by omega)) ((ZL_ptX b_s).mono (by omega)) ((ZL_ptY s).mono (by omega)) ((ZL_short b_a).mono (by omega)) ((ZL_short b_c).mono (by omega))
  have t4 := nlast (ptX p) (ptY p) (ptX r) (ptY r) (ptX s) (ptY s) b c ((ZL_ptX b_p).mono (by omega)) ((ZL_ptY p).mono (by omega)) ((ZL_ptX b_r).mono (by omega)) ((ZL_ptY r).mono (by omega)) ((ZL_ptX b_s).mono (by omega)) ((ZL_ptY s).mono (by omega)) ((ZL_short b_b).mono (by omega)) ((ZL_short b_c).mono (by omega))
  have t5 := nlast (ptX q) (ptY q) (e9 p q r a b) (e10 p q r a b) (e11 p q s a c) (e12 p q s a c) b c ((ZL_ptX b_q).mono (by omega)) ((ZL_ptY q).mono (by omega)) ((e9_b0 p q r a b b_p b_q b_r b_a b_b).mono (by omega)) ((e10_b0 p q r a b b_p b_q b_r b_a b_b).mono (by omega)) ((e11_b0 p q s a c b_p b_q b_s b_a b_c).mono (by omega)) ((e12_b0 p q s a c b_p b_q b_s b_a b_c).mono (by omega)) ((ZL_short b_b).mono (by omega)) ((ZL_short b_c).mono (by omega))
  have t6 := pPPoint (e15 p q r s a b c) (e16 p q r s a b c) (e15_b0 p q r s a b c b_p b_q b_r b_s b_a b_b b_c) (e16_b0 p q r s a b c b_p b_q b_r b_s b_a b_b b_c) (by decide)
  (Classical.em (a = (⟨0,0⟩ : QC) ∨ b = (⟨0,0⟩ : QC) ∨ c = (⟨0,0⟩ : QC) ∨ a = b ∨ b = c ∨ c = a)).elim (fun h0 => .it h0 (ev_sp (L := [(rawPt p).cells,(rawPt q).cells,(rawPt r).cells,(rawPt s).cells,(rawQ a).cells,(rawQ b).cells,(rawQ c).cells,[gl (.int .i64 2)]].flatten) tys_ok mixed
     [gs ((t1.t h0)) [.row (syms 0 60)] (.r (.c (.sym 60)))]
     [bI .neq 34 (.sym 60) (.lit (.int .i64 0)) 2 0 true rfl] [] Tryz.func13 (enters_of Tryz.func13 (by kernel_rfl)) 2000 [.row (syms 0 60),.c (.lit (.int .i64 1))] (.tup [.row (flA [zPA,zPA,zPA]),.c (.sym 60)])))
   (fun h0 => .ie h0 ((Classical.em (kBad (ptX p) (ptY p) (ptX q) (ptY q) (ptX r) (ptY r))).elim (fun h1 => .it (Or.inl h1) (ev_sp (L := [(rawPt p).cells,(rawPt q).cells,(rawPt r).cells,(rawPt s).cells,(rawQ a).cells,(rawQ b).cells,(rawQ c).cells,[gl (.int .i64 0)],cq a,cq b,cq c,cq (ptX p),cq (ptY p),cq (ptX q),cq (ptY q),cq (ptX r),cq (ptY r),cq (ptX s),cq (ptY s),[gl .nilp,gl .nilp,gl .nilp,gl .nilp,gl (.int .i64 370)],[ga,ga,ga,ga,gai],[ga,ga,ga,ga,gai]].flatten) tys_ok mixed
     [gs ((t1.f h0)) [.row (syms 0 60)] (.r (.c (.sym 60))),
      gs (pOf a b_a) [.row (syms 36 8)] (.r (sy [61,62])),
      gs (pOf b b_b) [.row (syms 44 8)] (.r (sy [63,64])),
      gs (pOf c b_c) [.row (syms 52 8)] (.r (sy [65,66])),
      gs (pPoint p b_p) [.row (syms 0 9)] (.r (.row (syms 67 4))),
      gs (pPoint q b_q) [.row (syms 9 9)] (.r (.row (syms 71 4))),
      gs (pPoint r b_r) [.row (syms 18 9)] (.r (.row (syms 75 4))),
      gs (pPoint s b_s) [.row (syms 27 9)] (.r (.row (syms 79 4))),
      gs ((t2.t h1)) [.row (syms 67 4),.row (syms 71 4),.row (syms 75 4),sy [61,62],sy [63,64]] (.tup [.row (syms 83 4),.c (.sym 87)]),
      gs (t3.anyI (q := .tup [.row [ga,ga,ga,ga],.c gai]) (fun k => k.anyL (by kernel_rfl)) (fun k => k.anyL (by kernel_rfl))) [.row (syms 67 4),.row (syms 71 4),.row (syms 79 4),sy [61,62],sy [65,66]] (.tup [.row (syms 88 4),.c (.sym 92)]),
      gs (t4.anyI (q := .tup [.row [ga,ga,ga,ga],.c gai]) (fun k => k.anyL (by kernel_rfl)) (fun k => k.anyL (by kernel_rfl))) [.row (syms 67 4),.row (syms 75 4),.row (syms 79 4),sy [63,64],sy [65,66]] (.tup [.row (syms 93 4),.c (.sym 97)])]
     [bI .neq 34 (.sym 60) (.lit (.int .i64 0)) 0 0 false rfl,bI .neq 34 (.sym 87) (.lit (.int .i64 0)) 370 0 true rfl] [] Tryz.func13 (enters_of Tryz.func13 (by kernel_rfl)) 2000 [.row (syms 0 60),.c (.lit (.int .i64 1))] (.tup [.row (flA [zPA,zPA,zPA]),.c (.lit (.int .i64 370))])))
   (fun h1 => (Classical.em (kBad (ptX p) (ptY p) (ptX q) (ptY q) (ptX s) (ptY s))).elim (fun h2 => .it (Or.inr (Or.inl h2)) (ev_sp (L := [(rawPt p).cells,(rawPt q).cells,(rawPt r).cells,(rawPt s).cells,(rawQ a).cells,(rawQ b).cells,(rawQ c).cells,[gl (.int .i64 0)],cq a,cq b,cq c,cq (ptX p),cq (ptY p),cq (ptX q),cq (ptY q),cq (ptX r),cq (ptY r),cq (ptX s),cq (ptY s),cq (e9 p q r a b) ++ cq (e10 p q r a b) ++ [gl (.int .i64 0)],[gl .nilp,gl .nilp,gl .nilp,gl .nilp,gl (.int .i64 370)],[ga,ga,ga,ga,gai]].flatten) tys_ok mixed
     [gs ((t1.f h0)) [.row (syms 0 60)] (.r (.c (.sym 60))),
      gs (pOf a b_a) [.row (syms 36 8)] (.r (sy [61,62])),
      gs (pOf b b_b) [.row (syms 44 8)] (.r (sy [63,64])),
      gs (pOf c b_c) [.row (syms 52 8)] (.r (sy [65,66])),
      gs (pPoint p b_p) [.row (syms 0 9)] (.r (.row (syms 67 4))),
      gs (pPoint q b_q) [.row (syms 9 9)] (.r (.row (syms 71 4))),
      gs (pPoint r b_r) [.row (syms 18 9)] (.r (.row (syms 75 4))),
      gs (pPoint s b_s) [.row (syms 27 9)] (.r (.row (syms 79 4))),
      gs ((t2.f h1)) [.row (syms 67 4),.row (syms 71 4),.row (syms 75 4),sy [61,62],sy [63,64]] (.tup [.row (syms 83 4),.c (.sym 87)]),
      gs ((t3.t h2)) [.row (syms 67 4),.row (syms 71 4),.row (syms 79 4),sy [61,62],sy [65,66]] (.tup [.row (syms 88 4),.c (.sym 92)]),
      gs (t4.anyI (q := .tup [.row [ga,ga,ga,ga],.c gai]) (fun k => k.anyL (by kernel_rfl)) (fun k => k.anyL (by kernel_rfl))) [.row (syms 67 4),.row (syms 75 4),.row (syms 79 4),sy [63,64],sy [65,66]] (.tup [.row (syms 93 4),.c (.sym 97)])]
     [bI .neq 34 (.sym 60) (.lit (.int .i64 0)) 0 0 false rfl,bI .neq 34 (.sym 87) (.lit (.int .i64 0)) 0 0 false rfl,bI .neq 34 (.sym 92) (.lit (.int .i64 0)) 370 0 true rfl] [] Tryz.func13 (enters_of Tryz.func13 (by kernel_rfl)) 2000 [.row (syms 0 60),.c (.lit (.int .i64 1))] (.tup [.row (flA [zPA,zPA,zPA]),.c (.lit (.int .i64 370))])))
   (fun h2 => (Classical.em (kBad (ptX p) (ptY p) (ptX r) (ptY r) (ptX s) (ptY s))).elim (fun h3 => .it (Or.inr (Or.inr (Or.inl h3))) (ev_sp (L := [(rawPt p).cells,(rawPt q).cells,(rawPt r).cells,(rawPt s).cells,(rawQ a).cells,(rawQ b).cells,(rawQ c).cells,[gl (.int .i64 0)],cq a,cq b,cq c,cq (ptX p),cq (ptY p),cq (ptX q),cq (ptY q),cq (ptX r),cq (ptY r),cq (ptX s),cq (ptY s),cq (e9 p q r a b) ++ cq (e10 p q r a b) ++ [gl (.int .i64 0)],cq (e11 p q s a c) ++ cq (e12 p q s a c) ++ [gl (.int .i64 0)],[gl .nilp,gl .nilp,gl .nilp,gl .nilp,gl (.int .i64 370)]].flatten) tys_ok mixed
     [gs ((t1.f h0)) [.row (syms 0 60)] (.r (.c (.sym 60))),
      gs (pOf a b_a) [.row (syms 36 8)] (.r (sy [61,62])),
      gs (pOf b b_b) [.row (syms 44 8)] (.r (sy [63,64])),
      gs (pOf c b_c) [.row (syms 52 8)] (.r (sy [65,66])),
      gs (pPoint p b_p) [.row (syms 0 9)] (.r (.row (syms 67 4))),
      gs (pPoint q b_q) [.row (syms 9 9)] (.r (.row (syms 71 4))),
      gs (pPoint r b_r) [.row (syms 18 9)] (.r (.row (syms 75 4))),
      gs (pPoint s b_s) [.row (syms 27 9)] (.r (.row (syms 79 4))),
      gs ((t2.f h1)) [.row (syms 67 4),.row (syms 71 4),.row (syms 75 4),sy [61,62],sy [63,64]] (.tup [.row (syms 83 4),.c (.sym 87)]),
      gs ((t3.f h2)) [.row (syms 67 4),.row (syms 71 4),.row (syms 79 4),sy [61,62],sy [65,66]] (.tup [.row (syms 88 4),.c (.sym 92)]),
      gs ((t4.t h3)) [.row (syms 67 4),.row (syms 75 4),.row (syms 79 4),sy [63,64],sy [65,66]] (.tup [.row (syms 93 4),.c (.sym 97)])]
     [bI .neq 34 (.sym 60) (.lit (.int .i64 0)) 0 0 false rfl,bI .neq 34 (.sym 87) (.lit (.int .i64 0)) 0 0 false rfl,bI .neq 34 (.sym 92) (.lit (.int .i64 0)) 0 0 false rfl,bI .neq 34 (.sym 97) (.lit (.int .i64 0)) 370 0 true rfl] [] Tryz.func13 (enters_of Tryz.func13 (by kernel_rfl)) 2000 [.row (syms 0 60),.c (.lit (.int .i64 1))] (.tup [.row (flA [zPA,zPA,zPA]),.c (.lit (.int .i64 370))])))
   (fun h3 => (Classical.em (kBad (ptX q) (ptY q) (e9 p q r a b) (e10 p q r a b) (e11 p q s a c) (e12 p q s a c))).elim (fun h4 => .it (Or.inr (Or.inr (Or.inr h4))) (ev_sp (L := [(rawPt p).cells,(rawPt q).cells,(rawPt r).cells,(rawPt s).cells,(rawQ a).cells,(rawQ b).cells,(rawQ c).cells,[gl (.int .i64 0)],cq a,cq b,cq c,cq (ptX p),cq (ptY p),cq (ptX q),cq (ptY q),cq (ptX r),cq (ptY r),cq (ptX s),cq (ptY s),cq (e9 p q r a b) ++ cq (e10 p q r a b) ++ [gl (.int .i64 0)],cq (e11 p q s a c) ++ cq (e12 p q s a c) ++ [gl (.int .i64 0)],cq (e13 p r s b c) ++ cq (e14 p r s b c) ++ [gl (.int .i64 0)],[gl .nilp,gl .nilp,gl .nilp,gl .nilp,gl (.int .i64 370)]].flatten) tys_ok mixed
     [gs ((t1.f h0)) [.row (syms 0 60)] (.r (.c (.sym 60))),
      gs (pOf a b_a) [.row (syms 36 8)] (.r (sy [61,62])),
      gs (pOf b b_b) [.row (syms 44 8)] (.r (sy [63,64])),
      gs (pOf c b_c) [.row (syms 52 8)] (.r (sy [65,66])),
      gs (pPoint p b_p) [.row (syms 0 9)] (.r (.row (syms 67 4))),
      gs (pPoint q b_q) [.row (syms 9 9)] (.r (.row (syms 71 4))),
      gs (pPoint r b_r) [.row (syms 18 9)] (.r (.row (syms 75 4))),
      gs (pPoint s b_s) [.row (syms 27 9)] (.r (.row (syms 79 4))),
      gs ((t2.f h1)) [.row (syms 67 4),.row (syms 71 4),.row (syms 75 4),sy [61,62],sy [63,64]] (.tup [.row (syms 83 4),.c (.sym 87)]),
      gs ((t3.f h2)) [.row (syms 67 4),.row (syms 71 4),.row (syms 79 4),sy [61,62],sy [65,66]] (.tup [.row (syms 88 4),.c (.sym 92)]),
      gs ((t4.f h3)) [.row (syms 67 4),.row (syms 75 4),.row (syms 79 4),sy [63,64],sy [65,66]] (.tup [.row (syms 93 4),.c (.sym 97)]),
      gvM tys_ok mixed [gs ((t5.t h4)) [.row (syms 71 4),.row (syms 83 4),.row (syms 88 4),sy [63,64],sy [65,66]] (.tup [.row (syms 98 4),.c (.sym 102)])] [] [] Tryz.func31 (enters_of Tryz.func31 (by kernel_rfl)) 2000 [19] [⟨flA [syms 67 16,syms 61 6,syms 83 4,syms 88 4,syms 93 4],72⟩] [.c (.own 0 0)] (.tup [.row (syms 98 4),.c (.sym 102)])]
     [bI .neq 34 (.sym 60) (.lit (.int .i64 0)) 0 0 false rfl,bI .neq 34 (.sym 87) (.lit (.int .i64 0)) 0 0 false rfl,bI .neq 34 (.sym 92) (.lit (.int .i64 0)) 0 0 false rfl,bI .neq 34 (.sym 97) (.lit (.int .i64 0)) 0 0 false rfl,bI .neq 34 (.sym 102) (.lit (.int .i64 0)) 370 0 true rfl] [] Tryz.func13 (enters_of Tryz.func13 (by kernel_rfl)) 2000 [.row (syms 0 60),.c (.lit (.int .i64 1))] (.tup [.row (flA [zPA,zPA,zPA]),.c (.sym 102)])))
   (fun h4 => .ie (fun h => Or.elim h h1 (fun h => Or.elim h h2 (fun h => Or.elim h h3 h4))) ((Classical.em ((outPC (e15 p q r s a b c) (e16 p q r s a b c)) = 0)).elim (fun h5 => .it h5 (ev_sp (L := [(rawPt p).cells,(rawPt q).cells,(rawPt r).cells,(rawPt s).cells,(rawQ a).cells,(rawQ b).cells,(rawQ c).cells,[gl (.int .i64 0)],cq a,cq b,cq c,cq (ptX p),cq (ptY p),cq (ptX q),cq (ptY q),cq (ptX r),cq (ptY r),cq (ptX s),cq (ptY s),cq (e9 p q r a b) ++ cq (e10 p q r a b) ++ [gl (.int .i64 0)],cq (e11 p q s a c) ++ cq (e12 p q s a c) ++ [gl (.int .i64 0)],cq (e13 p r s b c) ++ cq (e14 p r s b c) ++ [gl (.int .i64 0)],cq (e15 p q r s a b c) ++ cq (e16 p q r s a b c) ++ [gl (.int .i64 0)],(outR (e15 p q r s a b c) (e16 p q r s a b c)).cells,[gx (.int .i64 (outPC (e15 p q r s a b c) (e16 p q r s a b c)))]].flatten) tys_ok mixed
     [gs ((t1.f h0)) [.row (syms 0 60)] (.r (.c (.sym 60))),
      gs (pOf a b_a) [.row (syms 36 8)] (.r (sy [61,62])),
      gs (pOf b b_b) [.row (syms 44 8)] (.r (sy [63,64])),
      gs (pOf c b_c) [.row (syms 52 8)] (.r (sy [65,66])),
      gs (pPoint p b_p) [.row (syms 0 9)] (.r (.row (syms 67 4))),
      gs (pPoint q b_q) [.row (syms 9 9)] (.r (.row (syms 71 4))),
      gs (pPoint r b_r) [.row (syms 18 9)] (.r (.row (syms 75 4))),
      gs (pPoint s b_s) [.row (syms 27 9)] (.r (.row (syms 79 4))),
      gs ((t2.f h1)) [.row (syms 67 4),.row (syms 71 4),.row (syms 75 4),sy [61,62],sy [63,64]] (.tup [.row (syms 83 4),.c (.sym 87)]),
      gs ((t3.f h2)) [.row (syms 67 4),.row (syms 71 4),.row (syms 79 4),sy [61,62],sy [65,66]] (.tup [.row (syms 88 4),.c (.sym 92)]),
      gs ((t4.f h3)) [.row (syms 67 4),.row (syms 75 4),.row (syms 79 4),sy [63,64],sy [65,66]] (.tup [.row (syms 93 4),.c (.sym 97)]),
      gvM tys_ok mixed [gs ((t5.f h4)) [.row (syms 71 4),.row (syms 83 4),.row (syms 88 4),sy [63,64],sy [65,66]] (.tup [.row (syms 98 4),.c (.sym 102)])] [] [] Tryz.func31 (enters_of Tryz.func31 (by kernel_rfl)) 2000 [19] [⟨flA [syms 67 16,syms 61 6,syms 83 4,syms 88 4,syms 93 4],72⟩] [.c (.own 0 0)] (.tup [.row (syms 98 4),.c (.sym 102)]),
      gs (t6) [.row (syms 98 4)] (.tup [.row (syms 103 9),.c (.sym 112)])]
     [bI .neq 34 (.sym 60) (.lit (.int .i64 0)) 0 0 false rfl,bI .neq 34 (.sym 87) (.lit (.int .i64 0)) 0 0 false rfl,bI .neq 34 (.sym 92) (.lit (.int .i64 0)) 0 0 false rfl,bI .neq 34 (.sym 97) (.lit (.int .i64 0)) 0 0 false rfl,bI .neq 34 (.sym 102) (.lit (.int .i64 0)) 0 0 false rfl,bI .neq 34 (.sym 112) (.lit (.int .i64 0)) (outPC (e15 p q r s a b c) (e16 p q r s a b c)) 0 false (by simp [cmpB,h5])] [] Tryz.func13 (enters_of Tryz.func13 (by kernel_rfl)) 2000 [.row (syms 0 60),.c (.lit (.int .i64 1))] (.tup [.row (flA [syms 103 9,zPA,zPA]),.c (.lit (.int .i64 0))])))
   (fun h5 => .ie (fun h => h5 h) (ev_sp (L := [(rawPt p).cells,(rawPt q).cells,(rawPt r).cells,(rawPt s).cells,(rawQ a).cells,(rawQ b).cells,(rawQ c).cells,[gl (.int .i64 0)],cq a,cq b,cq c,cq (ptX p),cq (ptY p),cq (ptX q),cq (ptY q),cq (ptX r),cq (ptY r),cq (ptX s),cq (ptY s),cq (e9 p q r a b) ++ cq (e10 p q r a b) ++ [gl (.int .i64 0)],cq (e11 p q s a c) ++ cq (e12 p q s a c) ++ [gl (.int .i64 0)],cq (e13 p r s b c) ++ cq (e14 p r s b c) ++ [gl (.int .i64 0)],cq (e15 p q r s a b c) ++ cq (e16 p q r s a b c) ++ [gl (.int .i64 0)],(outR (e15 p q r s a b c) (e16 p q r s a b c)).cells,[gx (.int .i64 (outPC (e15 p q r s a b c) (e16 p q r s a b c)))]].flatten) tys_ok mixed
     [gs ((t1.f h0)) [.row (syms 0 60)] (.r (.c (.sym 60))),
      gs (pOf a b_a) [.row (syms 36 8)] (.r (sy [61,62])),
      gs (pOf b b_b) [.row (syms 44 8)] (.r (sy [63,64])),
      gs (pOf c b_c) [.row (syms 52 8)] (.r (sy [65,66])),
      gs (pPoint p b_p) [.row (syms 0 9)] (.r (.row (syms 67 4))),
      gs (pPoint q b_q) [.row (syms 9 9)] (.r (.row (syms 71 4))),
      gs (pPoint r b_r) [.row (syms 18 9)] (.r (.row (syms 75 4))),
      gs (pPoint s b_s) [.row (syms 27 9)] (.r (.row (syms 79 4))),
      gs ((t2.f h1)) [.row (syms 67 4),.row (syms 71 4),.row (syms 75 4),sy [61,62],sy [63,64]] (.tup [.row (syms 83 4),.c (.sym 87)]),
      gs ((t3.f h2)) [.row (syms 67 4),.row (syms 71 4),.row (syms 79 4),sy [61,62],sy [65,66]] (.tup [.row (syms 88 4),.c (.sym 92)]),
      gs ((t4.f h3)) [.row (syms 67 4),.row (syms 75 4),.row (syms 79 4),sy [63,64],sy [65,66]] (.tup [.row (syms 93 4),.c (.sym 97)]),
      gvM tys_ok mixed [gs ((t5.f h4)) [.row (syms 71 4),.row (syms 83 4),.row (syms 88 4),sy [63,64],sy [65,66]] (.tup [.row (syms 98 4),.c (.sym 102)])] [] [] Tryz.func31 (enters_of Tryz.func31 (by kernel_rfl)) 2000 [19] [⟨flA [syms 67 16,syms 61 6,syms 83 4,syms 88 4,syms 93 4],72⟩] [.c (.own 0 0)] (.tup [.row (syms 98 4),.c (.sym 102)]),
      gs (t6) [.row (syms 98 4)] (.tup [.row (syms 103 9),.c (.sym 112)])]
     [bI .neq 34 (.sym 60) (.lit (.int .i64 0)) 0 0 false rfl,bI .neq 34 (.sym 87) (.lit (.int .i64 0)) 0 0 false rfl,bI .neq 34 (.sym 92) (.lit (.int .i64 0)) 0 0 false rfl,bI .neq 34 (.sym 97) (.lit (.int .i64 0)) 0 0 false rfl,bI .neq 34 (.sym 102) (.lit (.int .i64 0)) 0 0 false rfl,bI .neq 34 (.sym 112) (.lit (.int .i64 0)) (outPC (e15 p q r s a b c) (e16 p q r s a b c)) 0 true (by simp [cmpB,h5])] [] Tryz.func13 (enters_of Tryz.func13 (by kernel_rfl)) 2000 [.row (syms 0 60),.c (.lit (.int .i64 1))] (.tup [.row (flA [zPA,zPA,zPA]),.c (.sym 112)]))))))))))
def e17 (p : Pt) (q : Pt) (r : Pt) (s : Pt) (a : QC) (b : QC) (c : QC) : QC := e3 (ptX r) (ptY r) (e9 p q r a b) (e10 p q r a b) (e13 p r s b c) (e14 p r s b c) a c
theorem e17_b0 (p : Pt) (q : Pt) (r : Pt) (s : Pt) (a : QC) (b : QC) (c : QC) (b_p : ShortP p) (b_q : ShortP q) (b_r : ShortP r) (b_s : ShortP s) (b_a : ShortZ a) (b_b : ShortZ b) (b_c : ShortZ c) : ZL (e17 p q r s a b c) 5917011 := (nlast_b3_1 (ptX r) (ptY r) (e9 p q r a b) (e10 p q r a b) (e13 p r s b c) (e14 p r s b c) a c ((ZL_ptX b_r).mono (by omega)) ((ZL_ptY r).mono (by omega)) (e9_b0 p q r a b b_p b_q b_r b_a b_b) (e10_b0 p q r a b b_p b_q b_r b_a b_b) (e13_b0 p r s b c b_p b_r b_s b_b b_c) (e14_b0 p r s b c b_p b_r b_s b_b b_c) ((ZL_short b_a).mono (by omega)) ((ZL_short b_c).mono (by omega))).mono (by omega)
def e18 (p : Pt) (q : Pt) (r : Pt) (s : Pt) (a : QC) (b : QC) (c : QC) : QC := e6 (ptX r) (ptY r) (e9 p q r a b) (e10 p q r a b) (e13 p r s b c) (e14 p r s b c) a c
theorem e18_b0 (p : Pt) (q : Pt) (r : Pt) (s : Pt) (a : QC) (b : QC) (c : QC) (b_p : ShortP p) (b_q : ShortP q) (b_r : ShortP r) (b_s : ShortP s) (b_a : ShortZ a) (b_b : ShortZ b) (b_c : ShortZ c) : ZL (e18 p q r s a b c) 5917011 := (nlast_b3_2 (ptX r) (ptY r) (e9 p q r a b) (e10 p q r a b) (e13 p r s b c) (e14 p r s b c) a c ((ZL_ptX b_r).mono (by omega)) ((ZL_ptY r).mono (by omega)) (e9_b0 p q r a b b_p b_q b_r b_a b_b) (e10_b0 p q r a b b_p b_q b_r b_a b_b) (e13_b0 p r s b c b_p b_r b_s b_b b_c) (e14_b0 p r s b c b_p b_r b_s b_b b_c) ((ZL_short b_a).mono (by omega)) ((ZL_short b_c).mono (by omega))).mono (by omega)
def e19 (p : Pt) (q : Pt) (r : Pt) (s : Pt) (a : QC) (b : QC) (c : QC) : QC := e3 (ptX s) (ptY s) (e11 p q s a c) (e12 p q s a c) (e13 p r s b c) (e14 p r s b c) a b
theorem e19_b0 (p : Pt) (q : Pt) (r : Pt) (s : Pt) (a : QC) (b : QC) (c : QC) (b_p : ShortP p) (b_q : ShortP q) (b_r : ShortP r) (b_s : ShortP s) (b_a : ShortZ a) (b_b : ShortZ b) (b_c : ShortZ c) : ZL (e19 p q r s a b c) 5917011 := (nlast_b3_1 (ptX s) (ptY s) (e11 p q s a c) (e12 p q s a c) (e13 p r s b c) (e14 p r s b c) a b ((ZL_ptX b_s).mono (by omega)) ((ZL_ptY s).mono (by omega)) (e11_b0 p q s a c b_p b_q b_s b_a b_c) (e12_b0 p q s a c b_p b_q b_s b_a b_c) (e13_b0 p r s b c b_p b_r b_s b_b b_c) (e14_b0 p r s b c b_p b_r b_s b_b b_c) ((ZL_short b_a).mono (by omega)) ((ZL_short b_b).mono (by omega))).mono (by omega)
def e20 (p : Pt) (q : Pt) (r : Pt) (s : Pt) (a : QC) (b : QC) (c : QC) : QC := e6 (ptX s) (ptY s) (e11 p q s a c) (e12 p q s a c) (e13 p r s b c) (e14 p r s b c) a b
theorem e20_b0 (p : Pt) (q : Pt) (r : Pt) (s : Pt) (a : QC) (b : QC) (c : QC) (b_p : ShortP p) (b_q : ShortP q) (b_r : ShortP r) (b_s : ShortP s) (b_a : ShortZ a) (b_b : ShortZ b) (b_c : ShortZ c) : ZL (e20 p q r s a b c) 5917011 := (nlast_b3_2 (ptX s) (ptY s) (e11 p q s a c) (e12 p q s a c) (e13 p r s b c) (e14 p r s b c) a b ((ZL_ptX b_s).mono (by omega)) ((ZL_ptY s).mono (by omega)) (e11_b0 p q s a c b_p b_q b_s b_a b_c) (e12_b0 p q s a c b_p b_q b_s b_a b_c) (e13_b0 p r s b c b_p b_r b_s b_b b_c) (e14_b0 p r s b c b_p b_r b_s b_b b_c) ((ZL_short b_a).mono (by omega)) ((ZL_short b_b).mono (by omega))).mono (by omega)
set_option maxHeartbeats 4000000 in
theorem nfaces3 (p q r s : Pt) (a b c : QC) (b_p : ShortP p) (b_q : ShortP q) (b_r : ShortP r) (b_s : ShortP s) (b_a : ShortZ a) (b_b : ShortZ b) (b_c : ShortZ c)  : SpecC Tryz.prog true 13 [.row ((rawPt p).cells ++ (rawPt q).cells ++ (rawPt r).cells ++ (rawPt s).cells ++ (rawQ a).cells ++ (rawQ b).cells ++ (rawQ c).cells),.c (gl (.int .i64 3))] (if (a = (⟨0,0⟩ : QC) ∨ b = (⟨0,0⟩ : QC) ∨ c = (⟨0,0⟩ : QC) ∨ a = b ∨ b = c ∨ c = a) then .tup [.row (zPG ++ zPG ++ zPG),.c (gl (.int .i64 2))] else if kBad (ptX p) (ptY p) (ptX q) (ptY q) (ptX r) (ptY r) ∨ kBad (ptX p) (ptY p) (ptX q) (ptY q) (ptX s) (ptY s) ∨ kBad (ptX p) (ptY p) (ptX r) (ptY r) (ptX s) (ptY s) ∨ kBad (ptX q) (ptY q) (e9 p q r a b) (e10 p q r a b) (e11 p q s a c) (e12 p q s a c) then .tup [.row (zPG ++ zPG ++ zPG),.c (gl (.int .i64 370))] else if (outPC (e15 p q r s a b c) (e16 p q r s a b c)) = 0 then if kBad (ptX r) (ptY r) (e9 p q r a b) (e10 p q r a b) (e13 p r s b c) (e14 p r s b c) then .tup [.row (zPG ++ zPG ++ zPG),.c (gl (.int .i64 370))] else if (outPC (e17 p q r s a b c) (e18 p q r s a b c)) = 0 then if kBad (ptX s) (ptY s) (e11 p q s a c) (e12 p q s a c) (e13 p r s b c) (e14 p r s b c) then .tup [.row (zPG ++ zPG ++ zPG),.c (gl (.int .i64 370))] else if (outPC (e19 p q r s a b c) (e20 p q r s a b c)) = 0 then .tup [.row ((outR (e15 p q r s a b c) (e16 p q r s a b c)).cells ++ (outR (e17 p q r s a b c) (e18 p q r s a b c)).cells ++ (outR (e19 p q r s a b c) (e20 p q r s a b c)).cells),.c (gl (.int .i64 0))] else .tup [.row (zPG ++ zPG ++ zPG),.c (gx (.int .i64 (outPC (e19 p q r s a b c) (e20 p q r s a b c))))] else if kBad (ptX s) (ptY s) (e11 p q s a c) (e12 p q s a c) (e13 p r s b c) (e14 p r s b c) then .tup [.row (zPG ++ zPG ++ zPG),.c (gl (.int .i64 370))] else if (outPC (e19 p q r s a b c) (e20 p q r s a b c)) = 0 then .tup [.row (zPG ++ zPG ++ zPG),.c (gx (.int .i64 (outPC (e17 p q r s a b c) (e18 p q r s a b c))))] else .tup [.row (zPG ++ zPG ++ zPG),.c (gx (.int .i64 (outPC (e19 p q r s a b c) (e20 p q r s a b c))))] else if kBad (ptX r) (ptY r) (e9 p q r a b) (e10 p q r a b) (e13 p r s b c) (e14 p r s b c) then .tup [.row (zPG ++ zPG ++ zPG),.c (gl (.int .i64 370))] else if (outPC (e17 p q r s a b c) (e18 p q r s a b c)) = 0 then if kBad (ptX s) (ptY s) (e11 p q s a c) (e12 p q s a c) (e13 p r s b c) (e14 p r s b c) then .tup [.row (zPG ++ zPG ++ zPG),.c (gl (.int .i64 370))] else if (outPC (e19 p q r s a b c) (e20 p q r s a b c)) = 0 then .tup [.row (zPG ++ zPG ++ zPG),.c (gx (.int .i64 (outPC (e15 p q r s a b c) (e16 p q r s a b c))))] else .tup [.row (zPG ++ zPG ++ zPG),.c (gx (.int .i64 (outPC (e19 p q r s a b c) (e20 p q r s a b c))))] else if kBad (ptX s) (ptY s) (e11 p q s a c) (e12 p q s a c) (e13 p r s b c) (e14 p r s b c) then .tup [.row (zPG ++ zPG ++ zPG),.c (gl (.int .i64 370))] else if (outPC (e19 p q r s a b c) (e20 p q r s a b c)) = 0 then .tup [.row (zPG ++ zPG ++ zPG),.c (gx (.int .i64 (outPC (e17 p q r s a b c) (e18 p q r s a b c))))] else .tup [.row (zPG ++ zPG ++ zPG),.c (gx (.int .i64 (outPC (e19 p q r s a b c) (e20 p q r s a b c))))]) :=
  have t1 := ncube p q r s a b c b_p b_q b_r b_s b_a b_b b_c
  have t2 := nlast (ptX p) (ptY p) (ptX q) (ptY q) (ptX r) (ptY r) a b ((ZL_ptX b_p).mono (by omega)) ((ZL_ptY p).mono (by omega)) ((ZL_ptX b_q).mono (by omega)) ((ZL_ptY q).mono (by omega)) ((ZL_ptX b_r).mono (by omega)) ((ZL_ptY r).mono (by omega)) ((ZL_short b_a).mono (by omega)) ((ZL_short b_b).mono (by omega))
  have t3 := nlast (ptX p) (ptY p) (ptX q) (ptY q) (ptX s) (ptY s) a c ((ZL_ptX b_p).mono (by omega)) ((ZL_ptY p).mono (by omega)) ((ZL_ptX b_q).mono (by omega)) ((ZL_ptY q).mono (by omega)) ((ZL_ptX b_s).mono (by omega)) ((ZL_ptY s).mono (by omega)) ((ZL_short b_a).mono (by omega)) ((ZL_short b_c).mono (by omega))
  have t4 := nlast (ptX p) (ptY p) (ptX r) (ptY r) (ptX s) (ptY s) b c ((ZL_ptX b_p).mono (by omega)) ((ZL_ptY p).mono (by omega)) ((ZL_ptX b_r).mono (by omega)) ((ZL_ptY r).mono (by omega)) ((ZL_ptX b_s).mono (by omega)) ((ZL_ptY s).mono (by omega)) ((ZL_short b_b).mono (by omega)) ((ZL_short b_c).mono (by omega))
  have t5 := nlast (ptX q) (ptY q) (e9 p q r a b) (e10 p q r a b) (e11 p q s a c) (e12 p q s a c) b c ((ZL_ptX b_q).mono (by omega)) ((ZL_ptY q).mono (by omega)) ((e9_b0 p q r a b b_p b_q b_r b_a b_b).mono (by omega)) ((e10_b0 p q r a b b_p b_q b_r b_a b_b).mono (by omega)) ((e11_b0 p q s a c b_p b_q b_s b_a b_c).mono (by omega)) ((e12_b0 p q s a c b_p b_q b_s b_a b_c).mono (by omega)) ((ZL_short b_b).mono (by omega)) ((ZL_short b_c).mono (by omega))
  have t6 := pPPoint (e15 p q r s a b c) (e16 p q r s a b c) (e15_b0 p q r s a b c b_p b_q b_r b_s b_a b_b b_c) (e16_b0 p q r s a b c b_p b_q b_r b_s b_a b_b b_c) (by decide)
  have t7 := nlast (ptX r) (ptY r) (e9 p q r a b) (e10 p q r a b) (e13 p r s b c) (e14 p r s b c) a c ((ZL_ptX b_r).mono (by omega)) ((ZL_ptY r).mono (by omega)) ((e9_b0 p q r a b b_p b_q b_r b_a b_b).mono (by omega)) ((e10_b0 p q r a b b_p b_q b_r b_a b_b).mono (by omega)) ((e13_b0 p r s b c b_p b_r b_s b_b b_c).mono (by omega)) ((e14_b0 p r s b c b_p b_r b_s b_b b_c).mono (by omega)) ((ZL_short b_a).mono (by omega)) ((ZL_short b_c).mono (by omega))
  have t8 := pPPoint (e17 p q r s a b c) (e18 p q r s a b c) (e17_b0 p q r s a b c b_p b_q b_r b_s b_a b_b b_c) (e18_b0 p q r s a b c b_p b_q b_r b_s b_a b_b b_c) (by decide)
  have t9 := nlast (ptX s) (ptY s) (e11 p q s a c) (e12 p q s a c) (e13 p r s b c) (e14 p r s b c) a b ((ZL_ptX b_s).mono (by omega)) ((ZL_ptY s).mono (by omega)) ((e11_b0 p q s a c b_p b_q b_s b_a b_c).mono (by omega)) ((e12_b0 p q s a c b_p b_q b_s b_a b_c).mono (by omega)) ((e13_b0 p r s b c b_p b_r b_s b_b b_c).mono (by omega)) ((e14_b0 p r s b c b_p b_r b_s b_b b_c).mono (by omega)) ((ZL_short b_a).mono (by omega)) ((ZL_short b_b).mono (by omega))
  have t10 := pPPoint (e19 p q r s a b c) (e20 p q r s a b c) (e19_b0 p q r s a b c b_p b_q b_r b_s b_a b_b b_c) (e20_b0 p q r s a b c b_p b_q b_r b_s b_a b_b b_c) (by decide)
  (Classical.em (a = (⟨0,0⟩ : QC) ∨ b = (⟨0,0⟩ : QC) ∨ c = (⟨0,0⟩ : QC) ∨ a = b ∨ b = c ∨ c = a)).elim (fun h0 => .it h0 (ev_sp (L := [(rawPt p).cells,(rawPt q).cells,(rawPt r).cells,(rawPt s).cells,(rawQ a).cells,(rawQ b).cells,(rawQ c).cells,[gl (.int .i64 2)]].flatten) tys_ok mixed
     [gs ((t1.t h0)) [.row (syms 0 60)] (.r (.c (.sym 60)))]
     [bI .neq 34 (.sym 60) (.lit (.int .i64 0)) 2 0 true rfl] [] Tryz.func13 (enters_of Tryz.func13 (by kernel_rfl)) 2000 [.row (syms 0 60),.c (.lit (.int .i64 3))] (.tup [.row (flA [zPA,zPA,zPA]),.c (.sym 60)])))
   (fun h0 => .ie h0 ((Classical.em (kBad (ptX p) (ptY p) (ptX q) (ptY q) (ptX r) (ptY r))).elim (fun h1 => .it (Or.inl h1) (ev_sp (L := [(rawPt p).cells,(rawPt q).cells,(rawPt r).cells,(rawPt s).cells,(rawQ a).cells,(rawQ b).cells,(rawQ c).cells,[gl (.int .i64 0)],cq a,cq b,cq c,cq (ptX p),cq (ptY p),cq (ptX q),cq (ptY q),cq (ptX r),cq (ptY r),cq (ptX s),cq (ptY s),[gl .nilp,gl .nilp,gl .nilp,gl .nilp,gl (.int .i64 370)],[ga,ga,ga,ga,gai],[ga,ga,ga,ga,gai]].flatten) tys_ok mixed
     [gs ((t1.f h0)) [.row (syms 0 60)] (.r (.c (.sym 60))),
      gs (pOf a b_a) [.row (syms 36 8)] (.r (sy [61,62])),
      gs (pOf b b_b) [.row (syms 44 8)] (.r (sy [63,64])),
      gs (pOf c b_c) [.row (syms 52 8)] (.r (sy [65,66])),
      gs (pPoint p b_p) [.row (syms 0 9)] (.r (.row (syms 67 4))),
      gs (pPoint q b_q) [.row (syms 9 9)] (.r (.row (syms 71 4))),
      gs (pPoint r b_r) [.row (syms 18 9)] (.r (.row (syms 75 4))),
      gs (pPoint s b_s) [.row (syms 27 9)] (.r (.row (syms 79 4))),
      gs ((t2.t h1)) [.row (syms 67 4),.row (syms 71 4),.row (syms 75 4),sy [61,62],sy [63,64]] (.tup [.row (syms 83 4),.c (.sym 87)]),
      gs (t3.anyI (q := .tup [.row [ga,ga,ga,ga],.c gai]) (fun k => k.anyL (by kernel_rfl)) (fun k => k.anyL (by kernel_rfl))) [.row (syms 67 4),.row (syms 71 4),.row (syms 79 4),sy [61,62],sy [65,66]] (.tup [.row (syms 88 4),.c (.sym 92)]),
      gs (t4.anyI (q := .tup [.row [ga,ga,ga,ga],.c gai]) (fun k => k.anyL (by kernel_rfl)) (fun k => k.anyL (by kernel_rfl))) [.row (syms 67 4),.row (syms 75 4),.row (syms 79 4),sy [63,64],sy [65,66]] (.tup [.row (syms 93 4),.c (.sym 97)])]
     [bI .neq 34 (.sym 60) (.lit (.int .i64 0)) 0 0 false rfl,bI .neq 34 (.sym 87) (.lit (.int .i64 0)) 370 0 true rfl] [] Tryz.func13 (enters_of Tryz.func13 (by kernel_rfl)) 2000 [.row (syms 0 60),.c (.lit (.int .i64 3))] (.tup [.row (flA [zPA,zPA,zPA]),.c (.lit (.int .i64 370))])))
   (fun h1 => (Classical.em (kBad (ptX p) (ptY p) (ptX q) (ptY q) (ptX s) (ptY s))).elim (fun h2 => .it (Or.inr (Or.inl h2)) (ev_sp (L := [(rawPt p).cells,(rawPt q).cells,(rawPt r).cells,(rawPt s).cells,(rawQ a).cells,(rawQ b).cells,(rawQ c).cells,[gl (.int .i64 0)],cq a,cq b,cq c,cq (ptX p),cq (ptY p),cq (ptX q),cq (ptY q),cq (ptX r),cq (ptY r),cq (ptX s),cq (ptY s),cq (e9 p q r a b) ++ cq (e10 p q r a b) ++ [gl (.int .i64 0)],[gl .nilp,gl .nilp,gl .nilp,gl .nilp,gl (.int .i64 370)],[ga,ga,ga,ga,gai]].flatten) tys_ok mixed
     [gs ((t1.f h0)) [.row (syms 0 60)] (.r (.c (.sym 60))),
      gs (pOf a b_a) [.row (syms 36 8)] (.r (sy [61,62])),
      gs (pOf b b_b) [.row (syms 44 8)] (.r (sy [63,64])),
      gs (pOf c b_c) [.row (syms 52 8)] (.r (sy [65,66])),
      gs (pPoint p b_p) [.row (syms 0 9)] (.r (.row (syms 67 4))),
      gs (pPoint q b_q) [.row (syms 9 9)] (.r (.row (syms 71 4))),
      gs (pPoint r b_r) [.row (syms 18 9)] (.r (.row (syms 75 4))),
      gs (pPoint s b_s) [.row (syms 27 9)] (.r (.row (syms 79 4))),
      gs ((t2.f h1)) [.row (syms 67 4),.row (syms 71 4),.row (syms 75 4),sy [61,62],sy [63,64]] (.tup [.row (syms 83 4),.c (.sym 87)]),
      gs ((t3.t h2)) [.row (syms 67 4),.row (syms 71 4),.row (syms 79 4),sy [61,62],sy [65,66]] (.tup [.row (syms 88 4),.c (.sym 92)]),
      gs (t4.anyI (q := .tup [.row [ga,ga,ga,ga],.c gai]) (fun k => k.anyL (by kernel_rfl)) (fun k => k.anyL (by kernel_rfl))) [.row (syms 67 4),.row (syms 75 4),.row (syms 79 4),sy [63,64],sy [65,66]] (.tup [.row (syms 93 4),.c (.sym 97)])]
     [bI .neq 34 (.sym 60) (.lit (.int .i64 0)) 0 0 false rfl,bI .neq 34 (.sym 87) (.lit (.int .i64 0)) 0 0 false rfl,bI .neq 34 (.sym 92) (.lit (.int .i64 0)) 370 0 true rfl] [] Tryz.func13 (enters_of Tryz.func13 (by kernel_rfl)) 2000 [.row (syms 0 60),.c (.lit (.int .i64 3))] (.tup [.row (flA [zPA,zPA,zPA]),.c (.lit (.int .i64 370))])))
   (fun h2 => (Classical.em (kBad (ptX p) (ptY p) (ptX r) (ptY r) (ptX s) (ptY s))).elim (fun h3 => .it (Or.inr (Or.inr (Or.inl h3))) (ev_sp (L := [(rawPt p).cells,(rawPt q).cells,(rawPt r).cells,(rawPt s).cells,(rawQ a).cells,(rawQ b).cells,(rawQ c).cells,[gl (.int .i64 0)],cq a,cq b,cq c,cq (ptX p),cq (ptY p),cq (ptX q),cq (ptY q),cq (ptX r),cq (ptY r),cq (ptX s),cq (ptY s),cq (e9 p q r a b) ++ cq (e10 p q r a b) ++ [gl (.int .i64 0)],cq (e11 p q s a c) ++ cq (e12 p q s a c) ++ [gl (.int .i64 0)],[gl .nilp,gl .nilp,gl .nilp,gl .nilp,gl (.int .i64 370)]].flatten) tys_ok mixed
     [gs ((t1.f h0)) [.row (syms 0 60)] (.r (.c (.sym 60))),
      gs (pOf a b_a) [.row (syms 36 8)] (.r (sy [61,62])),
      gs (pOf b b_b) [.row (syms 44 8)] (.r (sy [63,64])),
      gs (pOf c b_c) [.row (syms 52 8)] (.r (sy [65,66])),
      gs (pPoint p b_p) [.row (syms 0 9)] (.r (.row (syms 67 4))),
      gs (pPoint q b_q) [.row (syms 9 9)] (.r (.row (syms 71 4))),
      gs (pPoint r b_r) [.row (syms 18 9)] (.r (.row (syms 75 4))),
      gs (pPoint s b_s) [.row (syms 27 9)] (.r (.row (syms 79 4))),
      gs ((t2.f h1)) [.row (syms 67 4),.row (syms 71 4),.row (syms 75 4),sy [61,62],sy [63,64]] (.tup [.row (syms 83 4),.c (.sym 87)]),
      gs ((t3.f h2)) [.row (syms 67 4),.row (syms 71 4),.row (syms 79 4),sy [61,62],sy [65,66]] (.tup [.row (syms 88 4),.c (.sym 92)]),
      gs ((t4.t h3)) [.row (syms 67 4),.row (syms 75 4),.row (syms 79 4),sy [63,64],sy [65,66]] (.tup [.row (syms 93 4),.c (.sym 97)])]
     [bI .neq 34 (.sym 60) (.lit (.int .i64 0)) 0 0 false rfl,bI .neq 34 (.sym 87) (.lit (.int .i64 0)) 0 0 false rfl,bI .neq 34 (.sym 92) (.lit (.int .i64 0)) 0 0 false rfl,bI .neq 34 (.sym 97) (.lit (.int .i64 0)) 370 0 true rfl] [] Tryz.func13 (enters_of Tryz.func13 (by kernel_rfl)) 2000 [.row (syms 0 60),.c (.lit (.int .i64 3))] (.tup [.row (flA [zPA,zPA,zPA]),.c (.lit (.int .i64 370))])))
   (fun h3 => (Classical.em (kBad (ptX q) (ptY q) (e9 p q r a b) (e10 p q r a b) (e11 p q s a c) (e12 p q s a c))).elim (fun h4 => .it (Or.inr (Or.inr (Or.inr h4))) (ev_sp (L := [(rawPt p).cells,(rawPt q).cells,(rawPt r).cells,(rawPt s).cells,(rawQ a).cells,(rawQ b).cells,(rawQ c).cells,[gl (.int .i64 0)],cq a,cq b,cq c,cq (ptX p),cq (ptY p),cq (ptX q),cq (ptY q),cq (ptX r),cq (ptY r),cq (ptX s),cq (ptY s),cq (e9 p q r a b) ++ cq (e10 p q r a b) ++ [gl (.int .i64 0)],cq (e11 p q s a c) ++ cq (e12 p q s a c) ++ [gl (.int .i64 0)],cq (e13 p r s b c) ++ cq (e14 p r s b c) ++ [gl (.int .i64 0)],[gl .nilp,gl .nilp,gl .nilp,gl .nilp,gl (.int .i64 370)]].flatten) tys_ok mixed
     [gs ((t1.f h0)) [.row (syms 0 60)] (.r (.c (.sym 60))),
      gs (pOf a b_a) [.row (syms 36 8)] (.r (sy [61,62])),
      gs (pOf b b_b) [.row (syms 44 8)] (.r (sy [63,64])),
      gs (pOf c b_c) [.row (syms 52 8)] (.r (sy [65,66])),
      gs (pPoint p b_p) [.row (syms 0 9)] (.r (.row (syms 67 4))),
      gs (pPoint q b_q) [.row (syms 9 9)] (.r (.row (syms 71 4))),
      gs (pPoint r b_r) [.row (syms 18 9)] (.r (.row (syms 75 4))),
      gs (pPoint s b_s) [.row (syms 27 9)] (.r (.row (syms 79 4))),
      gs ((t2.f h1)) [.row (syms 67 4),.row (syms 71 4),.row (syms 75 4),sy [61,62],sy [63,64]] (.tup [.row (syms 83 4),.c (.sym 87)]),
      gs ((t3.f h2)) [.row (syms 67 4),.row (syms 71 4),.row (syms 79 4),sy [61,62],sy [65,66]] (.tup [.row (syms 88 4),.c (.sym 92)]),
      gs ((t4.f h3)) [.row (syms 67 4),.row (syms 75 4),.row (syms 79 4),sy [63,64],sy [65,66]] (.tup [.row (syms 93 4),.c (.sym 97)]),
      gvM tys_ok mixed [gs ((t5.t h4)) [.row (syms 71 4),.row (syms 83 4),.row (syms 88 4),sy [63,64],sy [65,66]] (.tup [.row (syms 98 4),.c (.sym 102)])] [] [] Tryz.func31 (enters_of Tryz.func31 (by kernel_rfl)) 2000 [19] [⟨flA [syms 67 16,syms 61 6,syms 83 4,syms 88 4,syms 93 4],72⟩] [.c (.own 0 0)] (.tup [.row (syms 98 4),.c (.sym 102)])]
     [bI .neq 34 (.sym 60) (.lit (.int .i64 0)) 0 0 false rfl,bI .neq 34 (.sym 87) (.lit (.int .i64 0)) 0 0 false rfl,bI .neq 34 (.sym 92) (.lit (.int .i64 0)) 0 0 false rfl,bI .neq 34 (.sym 97) (.lit (.int .i64 0)) 0 0 false rfl,bI .neq 34 (.sym 102) (.lit (.int .i64 0)) 370 0 true rfl] [] Tryz.func13 (enters_of Tryz.func13 (by kernel_rfl)) 2000 [.row (syms 0 60),.c (.lit (.int .i64 3))] (.tup [.row (flA [zPA,zPA,zPA]),.c (.sym 102)])))
   (fun h4 => .ie (fun h => Or.elim h h1 (fun h => Or.elim h h2 (fun h => Or.elim h h3 h4))) ((Classical.em ((outPC (e15 p q r s a b c) (e16 p q r s a b c)) = 0)).elim (fun h5 => .it h5 ((Classical.em (kBad (ptX r) (ptY r) (e9 p q r a b) (e10 p q r a b) (e13 p r s b c) (e14 p r s b c))).elim (fun h6 => .it h6 (ev_sp (L := [(rawPt p).cells,(rawPt q).cells,(rawPt r).cells,(rawPt s).cells,(rawQ a).cells,(rawQ b).cells,(rawQ c).cells,[gl (.int .i64 0)],cq a,cq b,cq c,cq (ptX p),cq (ptY p),cq (ptX q),cq (ptY q),cq (ptX r),cq (ptY r),cq (ptX s),cq (ptY s),cq (e9 p q r a b) ++ cq (e10 p q r a b) ++ [gl (.int .i64 0)],cq (e11 p q s a c) ++ cq (e12 p q s a c) ++ [gl (.int .i64 0)],cq (e13 p r s b c) ++ cq (e14 p r s b c) ++ [gl (.int .i64 0)],cq (e15 p q r s a b c) ++ cq (e16 p q r s a b c) ++ [gl (.int .i64 0)],(outR (e15 p q r s a b c) (e16 p q r s a b c)).cells,[gx (.int .i64 (outPC (e15 p q r s a b c) (e16 p q r s a b c)))],[gl .nilp,gl .nilp,gl .nilp,gl .nilp,gl (.int .i64 370)]].flatten) tys_ok mixed
     [gs ((t1.f h0)) [.row (syms 0 60)] (.r (.c (.sym 60))),
      gs (pOf a b_a) [.row (syms 36 8)] (.r (sy [61,62])),
      gs (pOf b b_b) [.row (syms 44 8)] (.r (sy [63,64])),
      gs (pOf c b_c) [.row (syms 52 8)] (.r (sy [65,66])),
      gs (pPoint p b_p) [.row (syms 0 9)] (.r (.row (syms 67 4))),
      gs (pPoint q b_q) [.row (syms 9 9)] (.r (.row (syms 71 4))),
      gs (pPoint r b_r) [.row (syms 18 9)] (.r (.row (syms 75 4))),
      gs (pPoint s b_s) [.row (syms 27 9)] (.r (.row (syms 79 4))),
      gs ((t2.f h1)) [.row (syms 67 4),.row (syms 71 4),.row (syms 75 4),sy [61,62],sy [63,64]] (.tup [.row (syms 83 4),.c (.sym 87)]),
      gs ((t3.f h2)) [.row (syms 67 4),.row (syms 71 4),.row (syms 79 4),sy [61,62],sy [65,66]] (.tup [.row (syms 88 4),.c (.sym 92)]),
      gs ((t4.f h3)) [.row (syms 67 4),.row (syms 75 4),.row (syms 79 4),sy [63,64],sy [65,66]] (.tup [.row (syms 93 4),.c (.sym 97)]),
      gvM tys_ok mixed [gs ((t5.f h4)) [.row (syms 71 4),.row (syms 83 4),.row (syms 88 4),sy [63,64],sy [65,66]] (.tup [.row (syms 98 4),.c (.sym 102)])] [] [] Tryz.func31 (enters_of Tryz.func31 (by kernel_rfl)) 2000 [19] [⟨flA [syms 67 16,syms 61 6,syms 83 4,syms 88 4,syms 93 4],72⟩] [.c (.own 0 0)] (.tup [.row (syms 98 4),.c (.sym 102)]),
      gs (t6) [.row (syms 98 4)] (.tup [.row (syms 103 9),.c (.sym 112)]),
      gvM tys_ok mixed [gs ((t7.t h6)) [.row (syms 75 4),.row (syms 83 4),.row (syms 93 4),sy [61,62],sy [65,66]] (.tup [.row (syms 113 4),.c (.sym 117)])] [] [] Tryz.func32 (enters_of Tryz.func32 (by kernel_rfl)) 2000 [19] [⟨flA [syms 67 16,syms 61 6,syms 83 4,syms 88 4,syms 93 4],72⟩] [.c (.own 0 0)] (.tup [.row (syms 113 4),.c (.sym 117)])]
     [bI .neq 34 (.sym 60) (.lit (.int .i64 0)) 0 0 false rfl,bI .neq 34 (.sym 87) (.lit (.int .i64 0)) 0 0 false rfl,bI .neq 34 (.sym 92) (.lit (.int .i64 0)) 0 0 false rfl,bI .neq 34 (.sym 97) (.lit (.int .i64 0)) 0 0 false rfl,bI .neq 34 (.sym 102) (.lit (.int .i64 0)) 0 0 false rfl,bI .neq 34 (.sym 112) (.lit (.int .i64 0)) (outPC (e15 p q r s a b c) (e16 p q r s a b c)) 0 false (by simp [cmpB,h5]),bI .neq 34 (.sym 117) (.lit (.int .i64 0)) 370 0 true rfl] [] Tryz.func13 (enters_of Tryz.func13 (by kernel_rfl)) 2000 [.row (syms 0 60),.c (.lit (.int .i64 3))] (.tup [.row (flA [zPA,zPA,zPA]),.c (.sym 117)])))
   (fun h6 => .ie h6 ((Classical.em ((outPC (e17 p q r s a b c) (e18 p q r s a b c)) = 0)).elim (fun h7 => .it h7 ((Classical.em (kBad (ptX s) (ptY s) (e11 p q s a c) (e12 p q s a c) (e13 p r s b c) (e14 p r s b c))).elim (fun h8 => .it h8 (ev_sp (L := [(rawPt p).cells,(rawPt q).cells,(rawPt r).cells,(rawPt s).cells,(rawQ a).cells,(rawQ b).cells,(rawQ c).cells,[gl (.int .i64 0)],cq a,cq b,cq c,cq (ptX p),cq (ptY p),cq (ptX q),cq (ptY q),cq (ptX r),cq (ptY r),cq (ptX s),cq (ptY s),cq (e9 p q r a b) ++ cq (e10 p q r a b) ++ [gl (.int .i64 0)],cq (e11 p q s a c) ++ cq (e12 p q s a c) ++ [gl (.int .i64 0)],cq (e13 p r s b c) ++ cq (e14 p r s b c) ++ [gl (.int .i64 0)],cq (e15 p q r s a b c) ++ cq (e16 p q r s a b c) ++ [gl (.int .i64 0)],(outR (e15 p q r s a b c) (e16 p q r s a b c)).cells,[gx (.int .i64 (outPC (e15 p q r s a b c) (e16 p q r s a b c)))],cq (e17 p q r s a b c) ++ cq (e18 p q r s a b c) ++ [gl (.int .i64 0)],(outR (e17 p q r s a b c) (e18 p q r s a b c)).cells,[gx (.int .i64 (outPC (e17 p q r s a b c) (e18 p q r s a b c)))],[gl .nilp,gl .nilp,gl .nilp,gl .nilp,gl (.int .i64 370)]].flatten) tys_ok mixed
     [gs ((t1.f h0)) [.row (syms 0 60)] (.r (.c (.sym 60))),
      gs (pOf a b_a) [.row (syms 36 8)] (.r (sy [61,62])),
      gs (pOf b b_b) [.row (syms 44 8)] (.r (sy [63,64])),
      gs (pOf c b_c) [.row (syms 52 8)] (.r (sy [65,66])),
      gs (pPoint p b_p) [.row (syms 0 9)] (.r (.row (syms 67 4))),
      gs (pPoint q b_q) [.row (syms 9 9)] (.r (.row (syms 71 4))),
      gs (pPoint r b_r) [.row (syms 18 9)] (.r (.row (syms 75 4))),
      gs (pPoint s b_s) [.row (syms 27 9)] (.r (.row (syms 79 4))),
      gs ((t2.f h1)) [.row (syms 67 4),.row (syms 71 4),.row (syms 75 4),sy [61,62],sy [63,64]] (.tup [.row (syms 83 4),.c (.sym 87)]),
      gs ((t3.f h2)) [.row (syms 67 4),.row (syms 71 4),.row (syms 79 4),sy [61,62],sy [65,66]] (.tup [.row (syms 88 4),.c (.sym 92)]),
      gs ((t4.f h3)) [.row (syms 67 4),.row (syms 75 4),.row (syms 79 4),sy [63,64],sy [65,66]] (.tup [.row (syms 93 4),.c (.sym 97)]),
      gvM tys_ok mixed [gs ((t5.f h4)) [.row (syms 71 4),.row (syms 83 4),.row (syms 88 4),sy [63,64],sy [65,66]] (.tup [.row (syms 98 4),.c (.sym 102)])] [] [] Tryz.func31 (enters_of Tryz.func31 (by kernel_rfl)) 2000 [19] [⟨flA [syms 67 16,syms 61 6,syms 83 4,syms 88 4,syms 93 4],72⟩] [.c (.own 0 0)] (.tup [.row (syms 98 4),.c (.sym 102)]),
      gs (t6) [.row (syms 98 4)] (.tup [.row (syms 103 9),.c (.sym 112)]),
      gvM tys_ok mixed [gs ((t7.f h6)) [.row (syms 75 4),.row (syms 83 4),.row (syms 93 4),sy [61,62],sy [65,66]] (.tup [.row (syms 113 4),.c (.sym 117)])] [] [] Tryz.func32 (enters_of Tryz.func32 (by kernel_rfl)) 2000 [19] [⟨flA [syms 67 16,syms 61 6,syms 83 4,syms 88 4,syms 93 4],72⟩] [.c (.own 0 0)] (.tup [.row (syms 113 4),.c (.sym 117)]),
      gs (t8) [.row (syms 113 4)] (.tup [.row (syms 118 9),.c (.sym 127)]),
      gvM tys_ok mixed [gs ((t9.t h8)) [.row (syms 79 4),.row (syms 88 4),.row (syms 93 4),sy [61,62],sy [63,64]] (.tup [.row (syms 128 4),.c (.sym 132)])] [] [] Tryz.func33 (enters_of Tryz.func33 (by kernel_rfl)) 2000 [19] [⟨flA [syms 67 16,syms 61 6,syms 83 4,syms 88 4,syms 93 4],72⟩] [.c (.own 0 0)] (.tup [.row (syms 128 4),.c (.sym 132)])]
     [bI .neq 34 (.sym 60) (.lit (.int .i64 0)) 0 0 false rfl,bI .neq 34 (.sym 87) (.lit (.int .i64 0)) 0 0 false rfl,bI .neq 34 (.sym 92) (.lit (.int .i64 0)) 0 0 false rfl,bI .neq 34 (.sym 97) (.lit (.int .i64 0)) 0 0 false rfl,bI .neq 34 (.sym 102) (.lit (.int .i64 0)) 0 0 false rfl,bI .neq 34 (.sym 112) (.lit (.int .i64 0)) (outPC (e15 p q r s a b c) (e16 p q r s a b c)) 0 false (by simp [cmpB,h5]),bI .neq 34 (.sym 117) (.lit (.int .i64 0)) 0 0 false rfl,bI .neq 34 (.sym 127) (.lit (.int .i64 0)) (outPC (e17 p q r s a b c) (e18 p q r s a b c)) 0 false (by simp [cmpB,h7]),bI .neq 34 (.sym 132) (.lit (.int .i64 0)) 370 0 true rfl] [] Tryz.func13 (enters_of Tryz.func13 (by kernel_rfl)) 2000 [.row (syms 0 60),.c (.lit (.int .i64 3))] (.tup [.row (flA [zPA,zPA,zPA]),.c (.sym 132)])))
   (fun h8 => .ie h8 ((Classical.em ((outPC (e19 p q r s a b c) (e20 p q r s a b c)) = 0)).elim (fun h9 => .it h9 (ev_sp (L := [(rawPt p).cells,(rawPt q).cells,(rawPt r).cells,(rawPt s).cells,(rawQ a).cells,(rawQ b).cells,(rawQ c).cells,[gl (.int .i64 0)],cq a,cq b,cq c,cq (ptX p),cq (ptY p),cq (ptX q),cq (ptY q),cq (ptX r),cq (ptY r),cq (ptX s),cq (ptY s),cq (e9 p q r a b) ++ cq (e10 p q r a b) ++ [gl (.int .i64 0)],cq (e11 p q s a c) ++ cq (e12 p q s a c) ++ [gl (.int .i64 0)],cq (e13 p r s b c) ++ cq (e14 p r s b c) ++ [gl (.int .i64 0)],cq (e15 p q r s a b c) ++ cq (e16 p q r s a b c) ++ [gl (.int .i64 0)],(outR (e15 p q r s a b c) (e16 p q r s a b c)).cells,[gx (.int .i64 (outPC (e15 p q r s a b c) (e16 p q r s a b c)))],cq (e17 p q r s a b c) ++ cq (e18 p q r s a b c) ++ [gl (.int .i64 0)],(outR (e17 p q r s a b c) (e18 p q r s a b c)).cells,[gx (.int .i64 (outPC (e17 p q r s a b c) (e18 p q r s a b c)))],cq (e19 p q r s a b c) ++ cq (e20 p q r s a b c) ++ [gl (.int .i64 0)],(outR (e19 p q r s a b c) (e20 p q r s a b c)).cells,[gx (.int .i64 (outPC (e19 p q r s a b c) (e20 p q r s a b c)))]].flatten) tys_ok mixed
     [gs ((t1.f h0)) [.row (syms 0 60)] (.r (.c (.sym 60))),
      gs (pOf a b_a) [.row (syms 36 8)] (.r (sy [61,62])),
      gs (pOf b b_b) [.row (syms 44 8)] (.r (sy [63,64])),
      gs (pOf c b_c) [.row (syms 52 8)] (.r (sy [65,66])),
      gs (pPoint p b_p) [.row (syms 0 9)] (.r (.row (syms 67 4))),
      gs (pPoint q b_q) [.row (syms 9 9)] (.r (.row (syms 71 4))),
      gs (pPoint r b_r) [.row (syms 18 9)] (.r (.row (syms 75 4))),
      gs (pPoint s b_s) [.row (syms 27 9)] (.r (.row (syms 79 4))),
      gs ((t2.f h1)) [.row (syms 67 4),.row (syms 71 4),.row (syms 75 4),sy [61,62],sy [63,64]] (.tup [.row (syms 83 4),.c (.sym 87)]),
      gs ((t3.f h2)) [.row (syms 67 4),.row (syms 71 4),.row (syms 79 4),sy [61,62],sy [65,66]] (.tup [.row (syms 88 4),.c (.sym 92)]),
      gs ((t4.f h3)) [.row (syms 67 4),.row (syms 75 4),.row (syms 79 4),sy [63,64],sy [65,66]] (.tup [.row (syms 93 4),.c (.sym 97)]),
      gvM tys_ok mixed [gs ((t5.f h4)) [.row (syms 71 4),.row (syms 83 4),.row (syms 88 4),sy [63,64],sy [65,66]] (.tup [.row (syms 98 4),.c (.sym 102)])] [] [] Tryz.func31 (enters_of Tryz.func31 (by kernel_rfl)) 2000 [19] [⟨flA [syms 67 16,syms 61 6,syms 83 4,syms 88 4,syms 93 4],72⟩] [.c (.own 0 0)] (.tup [.row (syms 98 4),.c (.sym 102)]),
      gs (t6) [.row (syms 98 4)] (.tup [.row (syms 103 9),.c (.sym 112)]),
      gvM tys_ok mixed [gs ((t7.f h6)) [.row (syms 75 4),.row (syms 83 4),.row (syms 93 4),sy [61,62],sy [65,66]] (.tup [.row (syms 113 4),.c (.sym 117)])] [] [] Tryz.func32 (enters_of Tryz.func32 (by kernel_rfl)) 2000 [19] [⟨flA [syms 67 16,syms 61 6,syms 83 4,syms 88 4,syms 93 4],72⟩] [.c (.own 0 0)] (.tup [.row (syms 113 4),.c (.sym 117)]),
      gs (t8) [.row (syms 113 4)] (.tup [.row (syms 118 9),.c (.sym 127)]),
      gvM tys_ok mixed [gs ((t9.f h8)) [.row (syms 79 4),.row (syms 88 4),.row (syms 93 4),sy [61,62],sy [63,64]] (.tup [.row (syms 128 4),.c (.sym 132)])] [] [] Tryz.func33 (enters_of Tryz.func33 (by kernel_rfl)) 2000 [19] [⟨flA [syms 67 16,syms 61 6,syms 83 4,syms 88 4,syms 93 4],72⟩] [.c (.own 0 0)] (.tup [.row (syms 128 4),.c (.sym 132)]),
      gs (t10) [.row (syms 128 4)] (.tup [.row (syms 133 9),.c (.sym 142)])]
     [bI .neq 34 (.sym 60) (.lit (.int .i64 0)) 0 0 false rfl,bI .neq 34 (.sym 87) (.lit (.int .i64 0)) 0 0 false rfl,bI .neq 34 (.sym 92) (.lit (.int .i64 0)) 0 0 false rfl,bI .neq 34 (.sym 97) (.lit (.int .i64 0)) 0 0 false rfl,bI .neq 34 (.sym 102) (.lit (.int .i64 0)) 0 0 false rfl,bI .neq 34 (.sym 112) (.lit (.int .i64 0)) (outPC (e15 p q r s a b c) (e16 p q r s a b c)) 0 false (by simp [cmpB,h5]),bI .neq 34 (.sym 117) (.lit (.int .i64 0)) 0 0 false rfl,bI .neq 34 (.sym 127) (.lit (.int .i64 0)) (outPC (e17 p q r s a b c) (e18 p q r s a b c)) 0 false (by simp [cmpB,h7]),bI .neq 34 (.sym 132) (.lit (.int .i64 0)) 0 0 false rfl,bI .neq 34 (.sym 142) (.lit (.int .i64 0)) (outPC (e19 p q r s a b c) (e20 p q r s a b c)) 0 false (by simp [cmpB,h9])] [] Tryz.func13 (enters_of Tryz.func13 (by kernel_rfl)) 2000 [.row (syms 0 60),.c (.lit (.int .i64 3))] (.tup [.row (flA [syms 103 9,syms 118 9,syms 133 9]),.c (.lit (.int .i64 0))])))
   (fun h9 => .ie (fun h => h9 h) (ev_sp (L := [(rawPt p).cells,(rawPt q).cells,(rawPt r).cells,(rawPt s).cells,(rawQ a).cells,(rawQ b).cells,(rawQ c).cells,[gl (.int .i64 0)],cq a,cq b,cq c,cq (ptX p),cq (ptY p),cq (ptX q),cq (ptY q),cq (ptX r),cq (ptY r),cq (ptX s),cq (ptY s),cq (e9 p q r a b) ++ cq (e10 p q r a b) ++ [gl (.int .i64 0)],cq (e11 p q s a c) ++ cq (e12 p q s a c) ++ [gl (.int .i64 0)],cq (e13 p r s b c) ++ cq (e14 p r s b c) ++ [gl (.int .i64 0)],cq (e15 p q r s a b c) ++ cq (e16 p q r s a b c) ++ [gl (.int .i64 0)],(outR (e15 p q r s a b c) (e16 p q r s a b c)).cells,[gx (.int .i64 (outPC (e15 p q r s a b c) (e16 p q r s a b c)))],cq (e17 p q r s a b c) ++ cq (e18 p q r s a b c) ++ [gl (.int .i64 0)],(outR (e17 p q r s a b c) (e18 p q r s a b c)).cells,[gx (.int .i64 (outPC (e17 p q r s a b c) (e18 p q r s a b c)))],cq (e19 p q r s a b c) ++ cq (e20 p q r s a b c) ++ [gl (.int .i64 0)],(outR (e19 p q r s a b c) (e20 p q r s a b c)).cells,[gx (.int .i64 (outPC (e19 p q r s a b c) (e20 p q r s a b c)))]].flatten) tys_ok mixed
     [gs ((t1.f h0)) [.row (syms 0 60)] (.r (.c (.sym 60))),
      gs (pOf a b_a) [.row (syms 36 8)] (.r (sy [61,62])),
      gs (pOf b b_b) [.row (syms 44 8)] (.r (sy [63,64])),
      gs (pOf c b_c) [.row (syms 52 8)] (.r (sy [65,66])),
      gs (pPoint p b_p) [.row (syms 0 9)] (.r (.row (syms 67 4))),
      gs (pPoint q b_q) [.row (syms 9 9)] (.r (.row (syms 71 4))),
      gs (pPoint r b_r) [.row (syms 18 9)] (.r (.row (syms 75 4))),
      gs (pPoint s b_s) [.row (syms 27 9)] (.r (.row (syms 79 4))),
      gs ((t2.f h1)) [.row (syms 67 4),.row (syms 71 4),.row (syms 75 4),sy [61,62],sy [63,64]] (.tup [.row (syms 83 4),.c (.sym 87)]),
      gs ((t3.f h2)) [.row (syms 67 4),.row (syms 71 4),.row (syms 79 4),sy [61,62],sy [65,66]] (.tup [.row (syms 88 4),.c (.sym 92)]),
      gs ((t4.f h3)) [.row (syms 67 4),.row (syms 75 4),.row (syms 79 4),sy [63,64],sy [65,66]] (.tup [.row (syms 93 4),.c (.sym 97)]),
      gvM tys_ok mixed [gs ((t5.f h4)) [.row (syms 71 4),.row (syms 83 4),.row (syms 88 4),sy [63,64],sy [65,66]] (.tup [.row (syms 98 4),.c (.sym 102)])] [] [] Tryz.func31 (enters_of Tryz.func31 (by kernel_rfl)) 2000 [19] [⟨flA [syms 67 16,syms 61 6,syms 83 4,syms 88 4,syms 93 4],72⟩] [.c (.own 0 0)] (.tup [.row (syms 98 4),.c (.sym 102)]),
      gs (t6) [.row (syms 98 4)] (.tup [.row (syms 103 9),.c (.sym 112)]),
      gvM tys_ok mixed [gs ((t7.f h6)) [.row (syms 75 4),.row (syms 83 4),.row (syms 93 4),sy [61,62],sy [65,66]] (.tup [.row (syms 113 4),.c (.sym 117)])] [] [] Tryz.func32 (enters_of Tryz.func32 (by kernel_rfl)) 2000 [19] [⟨flA [syms 67 16,syms 61 6,syms 83 4,syms 88 4,syms 93 4],72⟩] [.c (.own 0 0)] (.tup [.row (syms 113 4),.c (.sym 117)]),
      gs (t8) [.row (syms 113 4)] (.tup [.row (syms 118 9),.c (.sym 127)]),
      gvM tys_ok mixed [gs ((t9.f h8)) [.row (syms 79 4),.row (syms 88 4),.row (syms 93 4),sy [61,62],sy [63,64]] (.tup [.row (syms 128 4),.c (.sym 132)])] [] [] Tryz.func33 (enters_of Tryz.func33 (by kernel_rfl)) 2000 [19] [⟨flA [syms 67 16,syms 61 6,syms 83 4,syms 88 4,syms 93 4],72⟩] [.c (.own 0 0)] (.tup [.row (syms 128 4),.c (.sym 132)]),
      gs (t10) [.row (syms 128 4)] (.tup [.row (syms 133 9),.c (.sym 142)])]
     [bI .neq 34 (.sym 60) (.lit (.int .i64 0)) 0 0 false rfl,bI .neq 34 (.sym 87) (.lit (.int .i64 0)) 0 0 false rfl,bI .neq 34 (.sym 92) (.lit (.int .i64 0)) 0 0 false rfl,bI .neq 34 (.sym 97) (.lit (.int .i64 0)) 0 0 false rfl,bI .neq 34 (.sym 102) (.lit (.int .i64 0)) 0 0 false rfl,bI .neq 34 (.sym 112) (.lit (.int .i64 0)) (outPC (e15 p q r s a b c) (e16 p q r s a b c)) 0 false (by simp [cmpB,h5]),bI .neq 34 (.sym 117) (.lit (.int .i64 0)) 0 0 false rfl,bI .neq 34 (.sym 127) (.lit (.int .i64 0)) (outPC (e17 p q r s a b c) (e18 p q r s a b c)) 0 false (by simp [cmpB,h7]),bI .neq 34 (.sym 132) (.lit (.int .i64 0)) 0 0 false rfl,bI .neq 34 (.sym 142) (.lit (.int .i64 0)) (outPC (e19 p q r s a b c) (e20 p q r s a b c)) 0 true (by simp [cmpB,h9])] [] Tryz.func13 (enters_of Tryz.func13 (by kernel_rfl)) 2000 [.row (syms 0 60),.c (.lit (.int .i64 3))] (.tup [.row (flA [zPA,zPA,zPA]),.c (.sym 142)])))))))
   (fun h7 => .ie (fun h => h7 h) ((Classical.em (kBad (ptX s) (ptY s) (e11 p q s a c) (e12 p q s a c) (e13 p r s b c) (e14 p r s b c))).elim (fun h8 => .it h8 (ev_sp (L := [(rawPt p).cells,(rawPt q).cells,(rawPt r).cells,(rawPt s).cells,(rawQ a).cells,(rawQ b).cells,(rawQ c).cells,[gl (.int .i64 0)],cq a,cq b,cq c,cq (ptX p),cq (ptY p),cq (ptX q),cq (ptY q),cq (ptX r),cq (ptY r),cq (ptX s),cq (ptY s),cq (e9 p q r a b) ++ cq (e10 p q r a b) ++ [gl (.int .i64 0)],cq (e11 p q s a c) ++ cq (e12 p q s a c) ++ [gl (.int .i64 0)],cq (e13 p r s b c) ++ cq (e14 p r s b c) ++ [gl (.int .i64 0)],cq (e15 p q r s a b c) ++ cq (e16 p q r s a b c) ++ [gl (.int .i64 0)],(outR (e15 p q r s a b c) (e16 p q r s a b c)).cells,[gx (.int .i64 (outPC (e15 p q r s a b c) (e16 p q r s a b c)))],cq (e17 p q r s a b c) ++ cq (e18 p q r s a b c) ++ [gl (.int .i64 0)],(outR (e17 p q r s a b c) (e18 p q r s a b c)).cells,[gx (.int .i64 (outPC (e17 p q r s a b c) (e18 p q r s a b c)))],[gl .nilp,gl .nilp,gl .nilp,gl .nilp,gl (.int .i64 370)]].flatten) tys_ok mixed
     [gs ((t1.f h0)) [.row (syms 0 60)] (.r (.c (.sym 60))),
      gs (pOf a b_a) [.row (syms 36 8)] (.r (sy [61,62])),
      gs (pOf b b_b) [.row (syms 44 8)] (.r (sy [63,64])),
      gs (pOf c b_c) [.row (syms 52 8)] (.r (sy [65,66])),
      gs (pPoint p b_p) [.row (syms 0 9)] (.r (.row (syms 67 4))),
      gs (pPoint q b_q) [.row (syms 9 9)] (.r (.row (syms 71 4))),
      gs (pPoint r b_r) [.row (syms 18 9)] (.r (.row (syms 75 4))),
      gs (pPoint s b_s) [.row (syms 27 9)] (.r (.row (syms 79 4))),
      gs ((t2.f h1)) [.row (syms 67 4),.row (syms 71 4),.row (syms 75 4),sy [61,62],sy [63,64]] (.tup [.row (syms 83 4),.c (.sym 87)]),
      gs ((t3.f h2)) [.row (syms 67 4),.row (syms 71 4),.row (syms 79 4),sy [61,62],sy [65,66]] (.tup [.row (syms 88 4),.c (.sym 92)]),
      gs ((t4.f h3)) [.row (syms 67 4),.row (syms 75 4),.row (syms 79 4),sy [63,64],sy [65,66]] (.tup [.row (syms 93 4),.c (.sym 97)]),
      gvM tys_ok mixed [gs ((t5.f h4)) [.row (syms 71 4),.row (syms 83 4),.row (syms 88 4),sy [63,64],sy [65,66]] (.tup [.row (syms 98 4),.c (.sym 102)])] [] [] Tryz.func31 (enters_of Tryz.func31 (by kernel_rfl)) 2000 [19] [⟨flA [syms 67 16,syms 61 6,syms 83 4,syms 88 4,syms 93 4],72⟩] [.c (.own 0 0)] (.tup [.row (syms 98 4),.c (.sym 102)]),
      gs (t6) [.row (syms 98 4)] (.tup [.row (syms 103 9),.c (.sym 112)]),
      gvM tys_ok mixed [gs ((t7.f h6)) [.row (syms 75 4),.row (syms 83 4),.row (syms 93 4),sy [61,62],sy [65,66]] (.tup [.row (syms 113 4),.c (.sym 117)])] [] [] Tryz.func32 (enters_of Tryz.func32 (by kernel_rfl)) 2000 [19] [⟨flA [syms 67 16,syms 61 6,syms 83 4,syms 88 4,syms 93 4],72⟩] [.c (.own 0 0)] (.tup [.row (syms 113 4),.c (.sym 117)]),
      gs (t8) [.row (syms 113 4)] (.tup [.row (syms 118 9),.c (.sym 127)]),
      gvM tys_ok mixed [gs ((t9.t h8)) [.row (syms 79 4),.row (syms 88 4),.row (syms 93 4),sy [61,62],sy [63,64]] (.tup [.row (syms 128 4),.c (.sym 132)])] [] [] Tryz.func33 (enters_of Tryz.func33 (by kernel_rfl)) 2000 [19] [⟨flA [syms 67 16,syms 61 6,syms 83 4,syms 88 4,syms 93 4],72⟩] [.c (.own 0 0)] (.tup [.row (syms 128 4),.c (.sym 132)])]
     [bI .neq 34 (.sym 60) (.lit (.int .i64 0)) 0 0 false rfl,bI .neq 34 (.sym 87) (.lit (.int .i64 0)) 0 0 false rfl,bI .neq 34 (.sym 92) (.lit (.int .i64 0)) 0 0 false rfl,bI .neq 34 (.sym 97) (.lit (.int .i64 0)) 0 0 false rfl,bI .neq 34 (.sym 102) (.lit (.int .i64 0)) 0 0 false rfl,bI .neq 34 (.sym 112) (.lit (.int .i64 0)) (outPC (e15 p q r s a b c) (e16 p q r s a b c)) 0 false (by simp [cmpB,h5]),bI .neq 34 (.sym 117) (.lit (.int .i64 0)) 0 0 false rfl,bI .neq 34 (.sym 127) (.lit (.int .i64 0)) (outPC (e17 p q r s a b c) (e18 p q r s a b c)) 0 true (by simp [cmpB,h7]),bI .neq 34 (.sym 132) (.lit (.int .i64 0)) 370 0 true rfl] [] Tryz.func13 (enters_of Tryz.func13 (by kernel_rfl)) 2000 [.row (syms 0 60),.c (.lit (.int .i64 3))] (.tup [.row (flA [zPA,zPA,zPA]),.c (.sym 132)])))
   (fun h8 => .ie h8 ((Classical.em ((outPC (e19 p q r s a b c) (e20 p q r s a b c)) = 0)).elim (fun h9 => .it h9 (ev_sp (L := [(rawPt p).cells,(rawPt q).cells,(rawPt r).cells,(rawPt s).cells,(rawQ a).cells,(rawQ b).cells,(rawQ c).cells,[gl (.int .i64 0)],cq a,cq b,cq c,cq (ptX p),cq (ptY p),cq (ptX q),cq (ptY q),cq (ptX r),cq (ptY r),cq (ptX s),cq (ptY s),cq (e9 p q r a b) ++ cq (e10 p q r a b) ++ [gl (.int .i64 0)],cq (e11 p q s a c) ++ cq (e12 p q s a c) ++ [gl (.int .i64 0)],cq (e13 p r s b c) ++ cq (e14 p r s b c) ++ [gl (.int .i64 0)],cq (e15 p q r s a b c) ++ cq (e16 p q r s a b c) ++ [gl (.int .i64 0)],(outR (e15 p q r s a b c) (e16 p q r s a b c)).cells,[gx (.int .i64 (outPC (e15 p q r s a b c) (e16 p q r s a b c)))],cq (e17 p q r s a b c) ++ cq (e18 p q r s a b c) ++ [gl (.int .i64 0)],(outR (e17 p q r s a b c) (e18 p q r s a b c)).cells,[gx (.int .i64 (outPC (e17 p q r s a b c) (e18 p q r s a b c)))],cq (e19 p q r s a b c) ++ cq (e20 p q r s a b c) ++ [gl (.int .i64 0)],(outR (e19 p q r s a b c) (e20 p q r s a b c)).cells,[gx (.int .i64 (outPC (e19 p q r s a b c) (e20 p q r s a b c)))]].flatten) tys_ok mixed
     [gs ((t1.f h0)) [.row (syms 0 60)] (.r (.c (.sym 60))),
      gs (pOf a b_a) [.row (syms 36 8)] (.r (sy [61,62])),
      gs (pOf b b_b) [.row (syms 44 8)] (.r (sy [63,64])),
      gs (pOf c b_c) [.row (syms 52 8)] (.r (sy [65,66])),
      gs (pPoint p b_p) [.row (syms 0 9)] (.r (.row (syms 67 4))),
      gs (pPoint q b_q) [.row (syms 9 9)] (.r (.row (syms 71 4))),
      gs (pPoint r b_r) [.row (syms 18 9)] (.r (.row (syms 75 4))),
      gs (pPoint s b_s) [.row (syms 27 9)] (.r (.row (syms 79 4))),
      gs ((t2.f h1)) [.row (syms 67 4),.row (syms 71 4),.row (syms 75 4),sy [61,62],sy [63,64]] (.tup [.row (syms 83 4),.c (.sym 87)]),
      gs ((t3.f h2)) [.row (syms 67 4),.row (syms 71 4),.row (syms 79 4),sy [61,62],sy [65,66]] (.tup [.row (syms 88 4),.c (.sym 92)]),
      gs ((t4.f h3)) [.row (syms 67 4),.row (syms 75 4),.row (syms 79 4),sy [63,64],sy [65,66]] (.tup [.row (syms 93 4),.c (.sym 97)]),
      gvM tys_ok mixed [gs ((t5.f h4)) [.row (syms 71 4),.row (syms 83 4),.row (syms 88 4),sy [63,64],sy [65,66]] (.tup [.row (syms 98 4),.c (.sym 102)])] [] [] Tryz.func31 (enters_of Tryz.func31 (by kernel_rfl)) 2000 [19] [⟨flA [syms 67 16,syms 61 6,syms 83 4,syms 88 4,syms 93 4],72⟩] [.c (.own 0 0)] (.tup [.row (syms 98 4),.c (.sym 102)]),
      gs (t6) [.row (syms 98 4)] (.tup [.row (syms 103 9),.c (.sym 112)]),
      gvM tys_ok mixed [gs ((t7.f h6)) [.row (syms 75 4),.row (syms 83 4),.row (syms 93 4),sy [61,62],sy [65,66]] (.tup [.row (syms 113 4),.c (.sym 117)])] [] [] Tryz.func32 (enters_of Tryz.func32 (by kernel_rfl)) 2000 [19] [⟨flA [syms 67 16,syms 61 6,syms 83 4,syms 88 4,syms 93 4],72⟩] [.c (.own 0 0)] (.tup [.row (syms 113 4),.c (.sym 117)]),
      gs (t8) [.row (syms 113 4)] (.tup [.row (syms 118 9),.c (.sym 127)]),
      gvM tys_ok mixed [gs ((t9.f h8)) [.row (syms 79 4),.row (syms 88 4),.row (syms 93 4),sy [61,62],sy [63,64]] (.tup [.row (syms 128 4),.c (.sym 132)])] [] [] Tryz.func33 (enters_of Tryz.func33 (by kernel_rfl)) 2000 [19] [⟨flA [syms 67 16,syms 61 6,syms 83 4,syms 88 4,syms 93 4],72⟩] [.c (.own 0 0)] (.tup [.row (syms 128 4),.c (.sym 132)]),
      gs (t10) [.row (syms 128 4)] (.tup [.row (syms 133 9),.c (.sym 142)])]
     [bI .neq 34 (.sym 60) (.lit (.int .i64 0)) 0 0 false rfl,bI .neq 34 (.sym 87) (.lit (.int .i64 0)) 0 0 false rfl,bI .neq 34 (.sym 92) (.lit (.int .i64 0)) 0 0 false rfl,bI .neq 34 (.sym 97) (.lit (.int .i64 0)) 0 0 false rfl,bI .neq 34 (.sym 102) (.lit (.int .i64 0)) 0 0 false rfl,bI .neq 34 (.sym 112) (.lit (.int .i64 0)) (outPC (e15 p q r s a b c) (e16 p q r s a b c)) 0 false (by simp [cmpB,h5]),bI .neq 34 (.sym 117) (.lit (.int .i64 0)) 0 0 false rfl,bI .neq 34 (.sym 127) (.lit (.int .i64 0)) (outPC (e17 p q r s a b c) (e18 p q r s a b c)) 0 true (by simp [cmpB,h7]),bI .neq 34 (.sym 132) (.lit (.int .i64 0)) 0 0 false rfl,bI .neq 34 (.sym 142) (.lit (.int .i64 0)) (outPC (e19 p q r s a b c) (e20 p q r s a b c)) 0 false (by simp [cmpB,h9])] [] Tryz.func13 (enters_of Tryz.func13 (by kernel_rfl)) 2000 [.row (syms 0 60),.c (.lit (.int .i64 3))] (.tup [.row (flA [zPA,zPA,zPA]),.c (.sym 127)])))
   (fun h9 => .ie (fun h => h9 h) (ev_sp (L := [(rawPt p).cells,(rawPt q).cells,(rawPt r).cells,(rawPt s).cells,(rawQ a).cells,(rawQ b).cells,(rawQ c).cells,[gl (.int .i64 0)],cq a,cq b,cq c,cq (ptX p),cq (ptY p),cq (ptX q),cq (ptY q),cq (ptX r),cq (ptY r),cq (ptX s),cq (ptY s),cq (e9 p q r a b) ++ cq (e10 p q r a b) ++ [gl (.int .i64 0)],cq (e11 p q s a c) ++ cq (e12 p q s a c) ++ [gl (.int .i64 0)],cq (e13 p r s b c) ++ cq (e14 p r s b c) ++ [gl (.int .i64 0)],cq (e15 p q r s a b c) ++ cq (e16 p q r s a b c) ++ [gl (.int .i64 0)],(outR (e15 p q r s a b c) (e16 p q r s a b c)).cells,[gx (.int .i64 (outPC (e15 p q r s a b c) (e16 p q r s a b c)))],cq (e17 p q r s a b c) ++ cq (e18 p q r s a b c) ++ [gl (.int .i64 0)],(outR (e17 p q r s a b c) (e18 p q r s a b c)).cells,[gx (.int .i64 (outPC (e17 p q r s a b c) (e18 p q r s a b c)))],cq (e19 p q r s a b c) ++ cq (e20 p q r s a b c) ++ [gl (.int .i64 0)],(outR (e19 p q r s a b c) (e20 p q r s a b c)).cells,[gx (.int .i64 (outPC (e19 p q r s a b c) (e20 p q r s a b c)))]].flatten) tys_ok mixed
     [gs ((t1.f h0)) [.row (syms 0 60)] (.r (.c (.sym 60))),
      gs (pOf a b_a) [.row (syms 36 8)] (.r (sy [61,62])),
      gs (pOf b b_b) [.row (syms 44 8)] (.r (sy [63,64])),
      gs (pOf c b_c) [.row (syms 52 8)] (.r (sy [65,66])),
      gs (pPoint p b_p) [.row (syms 0 9)] (.r (.row (syms 67 4))),
      gs (pPoint q b_q) [.row (syms 9 9)] (.r (.row (syms 71 4))),
      gs (pPoint r b_r) [.row (syms 18 9)] (.r (.row (syms 75 4))),
      gs (pPoint s b_s) [.row (syms 27 9)] (.r (.row (syms 79 4))),
      gs ((t2.f h1)) [.row (syms 67 4),.row (syms 71 4),.row (syms 75 4),sy [61,62],sy [63,64]] (.tup [.row (syms 83 4),.c (.sym 87)]),
      gs ((t3.f h2)) [.row (syms 67 4),.row (syms 71 4),.row (syms 79 4),sy [61,62],sy [65,66]] (.tup [.row (syms 88 4),.c (.sym 92)]),
      gs ((t4.f h3)) [.row (syms 67 4),.row (syms 75 4),.row (syms 79 4),sy [63,64],sy [65,66]] (.tup [.row (syms 93 4),.c (.sym 97)]),
      gvM tys_ok mixed [gs ((t5.f h4)) [.row (syms 71 4),.row (syms 83 4),.row (syms 88 4),sy [63,64],sy [65,66]] (.tup [.row (syms 98 4),.c (.sym 102)])] [] [] Tryz.func31 (enters_of Tryz.func31 (by kernel_rfl)) 2000 [19] [⟨flA [syms 67 16,syms 61 6,syms 83 4,syms 88 4,syms 93 4],72⟩] [.c (.own 0 0)] (.tup [.row (syms 98 4),.c (.sym 102)]),
      gs (t6) [.row (syms 98 4)] (.tup [.row (syms 103 9),.c (.sym 112)]),
      gvM tys_ok mixed [gs ((t7.f h6)) [.row (syms 75 4),.row (syms 83 4),.row (syms 93 4),sy [61,62],sy [65,66]] (.tup [.row (syms 113 4),.c (.sym 117)])] [] [] Tryz.func32 (enters_of Tryz.func32 (by kernel_rfl)) 2000 [19] [⟨flA [syms 67 16,syms 61 6,syms 83 4,syms 88 4,syms 93 4],72⟩] [.c (.own 0 0)] (.tup [.row (syms 113 4),.c (.sym 117)]),
      gs (t8) [.row (syms 113 4)] (.tup [.row (syms 118 9),.c (.sym 127)]),
      gvM tys_ok mixed [gs ((t9.f h8)) [.row (syms 79 4),.row (syms 88 4),.row (syms 93 4),sy [61,62],sy [63,64]] (.tup [.row (syms 128 4),.c (.sym 132)])] [] [] Tryz.func33 (enters_of Tryz.func33 (by kernel_rfl)) 2000 [19] [⟨flA [syms 67 16,syms 61 6,syms 83 4,syms 88 4,syms 93 4],72⟩] [.c (.own 0 0)] (.tup [.row (syms 128 4),.c (.sym 132)]),
      gs (t10) [.row (syms 128 4)] (.tup [.row (syms 133 9),.c (.sym 142)])]
     [bI .neq 34 (.sym 60) (.lit (.int .i64 0)) 0 0 false rfl,bI .neq 34 (.sym 87) (.lit (.int .i64 0)) 0 0 false rfl,bI .neq 34 (.sym 92) (.lit (.int .i64 0)) 0 0 false rfl,bI .neq 34 (.sym 97) (.lit (.int .i64 0)) 0 0 false rfl,bI .neq 34 (.sym 102) (.lit (.int .i64 0)) 0 0 false rfl,bI .neq 34 (.sym 112) (.lit (.int .i64 0)) (outPC (e15 p q r s a b c) (e16 p q r s a b c)) 0 false (by simp [cmpB,h5]),bI .neq 34 (.sym 117) (.lit (.int .i64 0)) 0 0 false rfl,bI .neq 34 (.sym 127) (.lit (.int .i64 0)) (outPC (e17 p q r s a b c) (e18 p q r s a b c)) 0 true (by simp [cmpB,h7]),bI .neq 34 (.sym 132) (.lit (.int .i64 0)) 0 0 false rfl,bI .neq 34 (.sym 142) (.lit (.int .i64 0)) (outPC (e19 p q r s a b c) (e20 p q r s a b c)) 0 true (by simp [cmpB,h9])] [] Tryz.func13 (enters_of Tryz.func13 (by kernel_rfl)) 2000 [.row (syms 0 60),.c (.lit (.int .i64 3))] (.tup [.row (flA [zPA,zPA,zPA]),.c (.sym 142)])))))))))))
   (fun h5 => .ie (fun h => h5 h) ((Classical.em (kBad (ptX r) (ptY r) (e9 p q r a b) (e10 p q r a b) (e13 p r s b c) (e14 p r s b c))).elim (fun h6 => .it h6 (ev_sp (L := [(rawPt p).cells,(rawPt q).cells,(rawPt r).cells,(rawPt s).cells,(rawQ a).cells,(rawQ b).cells,(rawQ c).cells,[gl (.int .i64 0)],cq a,cq b,cq c,cq (ptX p),cq (ptY p),cq (ptX q),cq (ptY q),cq (ptX r),cq (ptY r),cq (ptX s),cq (ptY s),cq (e9 p q r a b) ++ cq (e10 p q r a b) ++ [gl (.int .i64 0)],cq (e11 p q s a c) ++ cq (e12 p q s a c) ++ [gl (.int .i64 0)],cq (e13 p r s b c) ++ cq (e14 p r s b c) ++ [gl (.int .i64 0)],cq (e15 p q r s a b c) ++ cq (e16 p q r s a b c) ++ [gl (.int .i64 0)],(outR (e15 p q r s a b c) (e16 p q r s a b c)).cells,[gx (.int .i64 (outPC (e15 p q r s a b c) (e16 p q r s a b c)))],[gl .nilp,gl .nilp,gl .nilp,gl .nilp,gl (.int .i64 370)]].flatten) tys_ok mixed
     [gs ((t1.f h0)) [.row (syms 0 60)] (.r (.c (.sym 60))),
      gs (pOf a b_a) [.row (syms 36 8)] (.r (sy [61,62])),
      gs (pOf b b_b) [.row (syms 44 8)] (.r (sy [63,64])),
      gs (pOf c b_c) [.row (syms 52 8)] (.r (sy [65,66])),
      gs (pPoint p b_p) [.row (syms 0 9)] (.r (.row (syms 67 4))),
      gs (pPoint q b_q) [.row (syms 9 9)] (.r (.row (syms 71 4))),
      gs (pPoint r b_r) [.row (syms 18 9)] (.r (.row (syms 75 4))),
      gs (pPoint s b_s) [.row (syms 27 9)] (.r (.row (syms 79 4))),
      gs ((t2.f h1)) [.row (syms 67 4),.row (syms 71 4),.row (syms 75 4),sy [61,62],sy [63,64]] (.tup [.row (syms 83 4),.c (.sym 87)]),
      gs ((t3.f h2)) [.row (syms 67 4),.row (syms 71 4),.row (syms 79 4),sy [61,62],sy [65,66]] (.tup [.row (syms 88 4),.c (.sym 92)]),
      gs ((t4.f h3)) [.row (syms 67 4),.row (syms 75 4),.row (syms 79 4),sy [63,64],sy [65,66]] (.tup [.row (syms 93 4),.c (.sym 97)]),
      gvM tys_ok mixed [gs ((t5.f h4)) [.row (syms 71 4),.row (syms 83 4),.row (syms 88 4),sy [63,64],sy [65,66]] (.tup [.row (syms 98 4),.c (.sym 102)])] [] [] Tryz.func31 (enters_of Tryz.func31 (by kernel_rfl)) 2000 [19] [⟨flA [syms 67 16,syms 61 6,syms 83 4,syms 88 4,syms 93 4],72⟩] [.c (.own 0 0)] (.tup [.row (syms 98 4),.c (.sym 102)]),
      gs (t6) [.row (syms 98 4)] (.tup [.row (syms 103 9),.c (.sym 112)]),
      gvM tys_ok mixed [gs ((t7.t h6)) [.row (syms 75 4),.row (syms 83 4),.row (syms 93 4),sy [61,62],sy [65,66]] (.tup [.row (syms 113 4),.c (.sym 117)])] [] [] Tryz.func32 (enters_of Tryz.func32 (by kernel_rfl)) 2000 [19] [⟨flA [syms 67 16,syms 61 6,syms 83 4,syms 88 4,syms 93 4],72⟩] [.c (.own 0 0)] (.tup [.row (syms 113 4),.c (.sym 117)])]
     [bI .neq 34 (.sym 60) (.lit (.int .i64 0)) 0 0 false rfl,bI .neq 34 (.sym 87) (.lit (.int .i64 0)) 0 0 false rfl,bI .neq 34 (.sym 92) (.lit (.int .i64 0)) 0 0 false rfl,bI .neq 34 (.sym 97) (.lit (.int .i64 0)) 0 0 false rfl,bI .neq 34 (.sym 102) (.lit (.int .i64 0)) 0 0 false rfl,bI .neq 34 (.sym 112) (.lit (.int .i64 0)) (outPC (e15 p q r s a b c) (e16 p q r s a b c)) 0 true (by simp [cmpB,h5]),bI .neq 34 (.sym 117) (.lit (.int .i64 0)) 370 0 true rfl] [] Tryz.func13 (enters_of Tryz.func13 (by kernel_rfl)) 2000 [.row (syms 0 60),.c (.lit (.int .i64 3))] (.tup [.row (flA [zPA,zPA,zPA]),.c (.sym 117)])))
   (fun h6 => .ie h6 ((Classical.em ((outPC (e17 p q r s a b c) (e18 p q r s a b c)) = 0)).elim (fun h7 => .it h7 ((Classical.em (kBad (ptX s) (ptY s) (e11 p q s a c) (e12 p q s a c) (e13 p r s b c) (e14 p r s b c))).elim (fun h8 => .it h8 (ev_sp (L := [(rawPt p).cells,(rawPt q).cells,(rawPt r).cells,(rawPt s).cells,(rawQ a).cells,(rawQ b).cells,(rawQ c).cells,[gl (.int .i64 0)],cq a,cq b,cq c,cq (ptX p),cq (ptY p),cq (ptX q),cq (ptY q),cq (ptX r),cq (ptY r),cq (ptX s),cq (ptY s),cq (e9 p q r a b) ++ cq (e10 p q r a b) ++ [gl (.int .i64 0)],cq (e11 p q s a c) ++ cq (e12 p q s a c) ++ [gl (.int .i64 0)],cq (e13 p r s b c) ++ cq (e14 p r s b c) ++ [gl (.int .i64 0)],cq (e15 p q r s a b c) ++ cq (e16 p q r s a b c) ++ [gl (.int .i64 0)],(outR (e15 p q r s a b c) (e16 p q r s a b c)).cells,[gx (.int .i64 (outPC (e15 p q r s a b c) (e16 p q r s a b c)))],cq (e17 p q r s a b c) ++ cq (e18 p q r s a b c) ++ [gl (.int .i64 0)],(outR (e17 p q r s a b c) (e18 p q r s a b c)).cells,[gx (.int .i64 (outPC (e17 p q r s a b c) (e18 p q r s a b c)))],[gl .nilp,gl .nilp,gl .nilp,gl .nilp,gl (.int .i64 370)]].flatten) tys_ok mixed
     [gs ((t1.f h0)) [.row (syms 0 60)] (.r (.c (.sym 60))),
      gs (pOf a b_a) [.row (syms 36 8)] (.r (sy [61,62])),
      gs (pOf b b_b) [.row (syms 44 8)] (.r (sy [63,64])),
      gs (pOf c b_c) [.row (syms 52 8)] (.r (sy [65,66])),
      gs (pPoint p b_p) [.row (syms 0 9)] (.r (.row (syms 67 4))),
      gs (pPoint q b_q) [.row (syms 9 9)] (.r (.row (syms 71 4))),
      gs (pPoint r b_r) [.row (syms 18 9)] (.r (.row (syms 75 4))),
      gs (pPoint s b_s) [.row (syms 27 9)] (.r (.row (syms 79 4))),
      gs ((t2.f h1)) [.row (syms 67 4),.row (syms 71 4),.row (syms 75 4),sy [61,62],sy [63,64]] (.tup [.row (syms 83 4),.c (.sym 87)]),
      gs ((t3.f h2)) [.row (syms 67 4),.row (syms 71 4),.row (syms 79 4),sy [61,62],sy [65,66]] (.tup [.row (syms 88 4),.c (.sym 92)]),
      gs ((t4.f h3)) [.row (syms 67 4),.row (syms 75 4),.row (syms 79 4),sy [63,64],sy [65,66]] (.tup [.row (syms 93 4),.c (.sym 97)]),
      gvM tys_ok mixed [gs ((t5.f h4)) [.row (syms 71 4),.row (syms 83 4),.row (syms 88 4),sy [63,64],sy [65,66]] (.tup [.row (syms 98 4),.c (.sym 102)])] [] [] Tryz.func31 (enters_of Tryz.func31 (by kernel_rfl)) 2000 [19] [⟨flA [syms 67 16,syms 61 6,syms 83 4,syms 88 4,syms 93 4],72⟩] [.c (.own 0 0)] (.tup [.row (syms 98 4),.c (.sym 102)]),
      gs (t6) [.row (syms 98 4)] (.tup [.row (syms 103 9),.c (.sym 112)]),
      gvM tys_ok mixed [gs ((t7.f h6)) [.row (syms 75 4),.row (syms 83 4),.row (syms 93 4),sy [61,62],sy [65,66]] (.tup [.row (syms 113 4),.c (.sym 117)])] [] [] Tryz.func32 (enters_of Tryz.func32 (by kernel_rfl)) 2000 [19] [⟨flA [syms 67 16,syms 61 6,syms 83 4,syms 88 4,syms 93 4],72⟩] [.c (.own 0 0)] (.tup [.row (syms 113 4),.c (.sym 117)]),
      gs (t8) [.row (syms 113 4)] (.tup [.row (syms 118 9),.c (.sym 127)]),
      gvM tys_ok mixed [gs ((t9.t h8)) [.row (syms 79 4),.row (syms 88 4),.row (syms 93 4),sy [61,62],sy [63,64]] (.tup [.row (syms 128 4),.c (.sym 132)])] [] [] Tryz.func33 (enters_of Tryz.func33 (by kernel_rfl)) 2000 [19] [⟨flA [syms 67 16,syms 61 6,syms 83 4,syms 88 4,syms 93 4],72⟩] [.c (.own 0 0)] (.tup [.row (syms 128 4),.c (.sym 132)])]
     [bI .neq 34 (.sym 60) (.lit (.int .i64 0)) 0 0 false rfl,bI .neq 34 (.sym 87) (.lit (.int .i64 0)) 0 0 false rfl,bI .neq 34 (.sym 92) (.lit (.int .i64 0)) 0 0 false rfl,bI .neq 34 (.sym 97) (.lit (.int .i64 0)) 0 0 false rfl,bI .neq 34 (.sym 102) (.lit (.int .i64 0)) 0 0 false rfl,bI .neq 34 (.sym 112) (.lit (.int .i64 0)) (outPC (e15 p q r s a b c) (e16 p q r s a b c)) 0 true (by simp [cmpB,h5]),bI .neq 34 (.sym 117) (.lit (.int .i64 0)) 0 0 false rfl,bI .neq 34 (.sym 127) (.lit (.int .i64 0)) (outPC (e17 p q r s a b c) (e18 p q r s a b c)) 0 false (by simp [cmpB,h7]),bI .neq 34 (.sym 132) (.lit (.int .i64 0)) 370 0 true rfl] [] Tryz.func13 (enters_of Tryz.func13 (by kernel_rfl)) 2000 [.row (syms 0 60),.c (.lit (.int .i64 3))] (.tup [.row (flA [zPA,zPA,zPA]),.c (.sym 132)])))
   (fun h8 => .ie h8 ((Classical.em ((outPC (e19 p q r s a b c) (e20 p q r s a b c)) = 0)).elim (fun h9 => .it h9 (ev_sp (L := [(rawPt p).cells,(rawPt q).cells,(rawPt r).cells,(rawPt s).cells,(rawQ a).cells,(rawQ b).cells,(rawQ c).cells,[gl (.int .i64 0)],cq a,cq b,cq c,cq (ptX p),cq (ptY p),cq (ptX q),cq (ptY q),cq (ptX r),cq (ptY r),cq (ptX s),cq (ptY s),cq (e9 p q r a b) ++ cq (e10 p q r a b) ++ [gl (.int .i64 0)],cq (e11 p q s a c) ++ cq (e12 p q s a c) ++ [gl (.int .i64 0)],cq (e13 p r s b c) ++ cq (e14 p r s b c) ++ [gl (.int .i64 0)],cq (e15 p q r s a b c) ++ cq (e16 p q r s a b c) ++ [gl (.int .i64 0)],(outR (e15 p q r s a b c) (e16 p q r s a b c)).cells,[gx (.int .i64 (outPC (e15 p q r s a b c) (e16 p q r s a b c)))],cq (e17 p q r s a b c) ++ cq (e18 p q r s a b c) ++ [gl (.int .i64 0)],(outR (e17 p q r s a b c) (e18 p q r s a b c)).cells,[gx (.int .i64 (outPC (e17 p q r s a b c) (e18 p q r s a b c)))],cq (e19 p q r s a b c) ++ cq (e20 p q r s a b c) ++ [gl (.int .i64 0)],(outR (e19 p q r s a b c) (e20 p q r s a b c)).cells,[gx (.int .i64 (outPC (e19 p q r s a b c) (e20 p q r s a b c)))]].flatten) tys_ok mixed
     [gs ((t1.f h0)) [.row (syms 0 60)] (.r (.c (.sym 60))),
      gs (pOf a b_a) [.row (syms 36 8)] (.r (sy [61,62])),
      gs (pOf b b_b) [.row (syms 44 8)] (.r (sy [63,64])),
      gs (pOf c b_c) [.row (syms 52 8)] (.r (sy [65,66])),
      gs (pPoint p b_p) [.row (syms 0 9)] (.r (.row (syms 67 4))),
      gs (pPoint q b_q) [.row (syms 9 9)] (.r (.row (syms 71 4))),
      gs (pPoint r b_r) [.row (syms 18 9)] (.r (.row (syms 75 4))),
      gs (pPoint s b_s) [.row (syms 27 9)] (.r (.row (syms 79 4))),
      gs ((t2.f h1)) [.row (syms 67 4),.row (syms 71 4),.row (syms 75 4),sy [61,62],sy [63,64]] (.tup [.row (syms 83 4),.c (.sym 87)]),
      gs ((t3.f h2)) [.row (syms 67 4),.row (syms 71 4),.row (syms 79 4),sy [61,62],sy [65,66]] (.tup [.row (syms 88 4),.c (.sym 92)]),
      gs ((t4.f h3)) [.row (syms 67 4),.row (syms 75 4),.row (syms 79 4),sy [63,64],sy [65,66]] (.tup [.row (syms 93 4),.c (.sym 97)]),
      gvM tys_ok mixed [gs ((t5.f h4)) [.row (syms 71 4),.row (syms 83 4),.row (syms 88 4),sy [63,64],sy [65,66]] (.tup [.row (syms 98 4),.c (.sym 102)])] [] [] Tryz.func31 (enters_of Tryz.func31 (by kernel_rfl)) 2000 [19] [⟨flA [syms 67 16,syms 61 6,syms 83 4,syms 88 4,syms 93 4],72⟩] [.c (.own 0 0)] (.tup [.row (syms 98 4),.c (.sym 102)]),
      gs (t6) [.row (syms 98 4)] (.tup [.row (syms 103 9),.c (.sym 112)]),
      gvM tys_ok mixed [gs ((t7.f h6)) [.row (syms 75 4),.row (syms 83 4),.row (syms 93 4),sy [61,62],sy [65,66]] (.tup [.row (syms 113 4),.c (.sym 117)])] [] [] Tryz.func32 (enters_of Tryz.func32 (by kernel_rfl)) 2000 [19] [⟨flA [syms 67 16,syms 61 6,syms 83 4,syms 88 4,syms 93 4],72⟩] [.c (.own 0 0)] (.tup [.row (syms 113 4),.c (.sym 117)]),
      gs (t8) [.row (syms 113 4)] (.tup [.row (syms 118 9),.c (.sym 127)]),
      gvM tys_ok mixed [gs ((t9.f h8)) [.row (syms 79 4),.row (syms 88 4),.row (syms 93 4),sy [61,62],sy [63,64]] (.tup [.row (syms 128 4),.c (.sym 132)])] [] [] Tryz.func33 (enters_of Tryz.func33 (by kernel_rfl)) 2000 [19] [⟨flA [syms 67 16,syms 61 6,syms 83 4,syms 88 4,syms 93 4],72⟩] [.c (.own 0 0)] (.tup [.row (syms 128 4),.c (.sym 132)]),
      gs (t10) [.row (syms 128 4)] (.tup [.row (syms 133 9),.c (.sym 142)])]
     [bI .neq 34 (.sym 60) (.lit (.int .i64 0)) 0 0 false rfl,bI .neq 34 (.sym 87) (.lit (.int .i64 0)) 0 0 false rfl,bI .neq 34 (.sym 92) (.lit (.int .i64 0)) 0 0 false rfl,bI .neq 34 (.sym 97) (.lit (.int .i64 0)) 0 0 false rfl,bI .neq 34 (.sym 102) (.lit (.int .i64 0)) 0 0 false rfl,bI .neq 34 (.sym 112) (.lit (.int .i64 0)) (outPC (e15 p q r s a b c) (e16 p q r s a b c)) 0 true (by simp [cmpB,h5]),bI .neq 34 (.sym 117) (.lit (.int .i64 0)) 0 0 false rfl,bI .neq 34 (.sym 127) (.lit (.int .i64 0)) (outPC (e17 p q r s a b c) (e18 p q r s a b c)) 0 false (by simp [cmpB,h7]),bI .neq 34 (.sym 132) (.lit (.int .i64 0)) 0 0 false rfl,bI .neq 34 (.sym 142) (.lit (.int .i64 0)) (outPC (e19 p q r s a b c) (e20 p q r s a b c)) 0 false (by simp [cmpB,h9])] [] Tryz.func13 (enters_of Tryz.func13 (by kernel_rfl)) 2000 [.row (syms 0 60),.c (.lit (.int .i64 3))] (.tup [.row (flA [zPA,zPA,zPA]),.c (.sym 112)])))
   (fun h9 => .ie (fun h => h9 h) (ev_sp (L := [(rawPt p).cells,(rawPt q).cells,(rawPt r).cells,(rawPt s).cells,(rawQ a).cells,(rawQ b).cells,(rawQ c).cells,[gl (.int .i64 0)],cq a,cq b,cq c,cq (ptX p),cq (ptY p),cq (ptX q),cq (ptY q),cq (ptX r),cq (ptY r),cq (ptX s),cq (ptY s),cq (e9 p q r a b) ++ cq (e10 p q r a b) ++ [gl (.int .i64 0)],cq (e11 p q s a c) ++ cq (e12 p q s a c) ++ [gl (.int .i64 0)],cq (e13 p r s b c) ++ cq (e14 p r s b c) ++ [gl (.int .i64 0)],cq (e15 p q r s a b c) ++ cq (e16 p q r s a b c) ++ [gl (.int .i64 0)],(outR (e15 p q r s a b c) (e16 p q r s a b c)).cells,[gx (.int .i64 (outPC (e15 p q r s a b c) (e16 p q r s a b c)))],cq (e17 p q r s a b c) ++ cq (e18 p q r s a b c) ++ [gl (.int .i64 0)],(outR (e17 p q r s a b c) (e18 p q r s a b c)).cells,[gx (.int .i64 (outPC (e17 p q r s a b c) (e18 p q r s a b c)))],cq (e19 p q r s a b c) ++ cq (e20 p q r s a b c) ++ [gl (.int .i64 0)],(outR (e19 p q r s a b c) (e20 p q r s a b c)).cells,[gx (.int .i64 (outPC (e19 p q r s a b c) (e20 p q r s a b c)))]].flatten) tys_ok mixed
     [gs ((t1.f h0)) [.row (syms 0 60)] (.r (.c (.sym 60))),
      gs (pOf a b_a) [.row (syms 36 8)] (.r (sy [61,62])),
      gs (pOf b b_b) [.row (syms 44 8)] (.r (sy [63,64])),
      gs (pOf c b_c) [.row (syms 52 8)] (.r (sy [65,66])),
      gs (pPoint p b_p) [.row (syms 0 9)] (.r (.row (syms 67 4))),
      gs (pPoint q b_q) [.row (syms 9 9)] (.r (.row (syms 71 4))),
      gs (pPoint r b_r) [.row (syms 18 9)] (.r (.row (syms 75 4))),
      gs (pPoint s b_s) [.row (syms 27 9)] (.r (.row (syms 79 4))),
      gs ((t2.f h1)) [.row (syms 67 4),.row (syms 71 4),.row (syms 75 4),sy [61,62],sy [63,64]] (.tup [.row (syms 83 4),.c (.sym 87)]),
      gs ((t3.f h2)) [.row (syms 67 4),.row (syms 71 4),.row (syms 79 4),sy [61,62],sy [65,66]] (.tup [.row (syms 88 4),.c (.sym 92)]),
      gs ((t4.f h3)) [.row (syms 67 4),.row (syms 75 4),.row (syms 79 4),sy [63,64],sy [65,66]] (.tup [.row (syms 93 4),.c (.sym 97)]),
      gvM tys_ok mixed [gs ((t5.f h4)) [.row (syms 71 4),.row (syms 83 4),.row (syms 88 4),sy [63,64],sy [65,66]] (.tup [.row (syms 98 4),.c (.sym 102)])] [] [] Tryz.func31 (enters_of Tryz.func31 (by kernel_rfl)) 2000 [19] [⟨flA [syms 67 16,syms 61 6,syms 83 4,syms 88 4,syms 93 4],72⟩] [.c (.own 0 0)] (.tup [.row (syms 98 4),.c (.sym 102)]),
      gs (t6) [.row (syms 98 4)] (.tup [.row (syms 103 9),.c (.sym 112)]),
      gvM tys_ok mixed [gs ((t7.f h6)) [.row (syms 75 4),.row (syms 83 4),.row (syms 93 4),sy [61,62],sy [65,66]] (.tup [.row (syms 113 4),.c (.sym 117)])] [] [] Tryz.func32 (enters_of Tryz.func32 (by kernel_rfl)) 2000 [19] [⟨flA [syms 67 16,syms 61 6,syms 83 4,syms 88 4,syms 93 4],72⟩] [.c (.own 0 0)] (.tup [.row (syms 113 4),.c (.sym 117)]),
      gs (t8) [.row (syms 113 4)] (.tup [.row (syms 118 9),.c (.sym 127)]),
      gvM tys_ok mixed [gs ((t9.f h8)) [.row (syms 79 4),.row (syms 88 4),.row (syms 93 4),sy [61,62],sy [63,64]] (.tup [.row (syms 128 4),.c (.sym 132)])] [] [] Tryz.func33 (enters_of Tryz.func33 (by kernel_rfl)) 2000 [19] [⟨flA [syms 67 16,syms 61 6,syms 83 4,syms 88 4,syms 93 4],72⟩] [.c (.own 0 0)] (.tup [.row (syms 128 4),.c (.sym 132)]),
      gs (t10) [.row (syms 128 4)] (.tup [.row (syms 133 9),.c (.sym 142)])]
     [bI .neq 34 (.sym 60) (.lit (.int .i64 0)) 0 0 false rfl,bI .neq 34 (.sym 87) (.lit (.int .i64 0)) 0 0 false rfl,bI .neq 34 (.sym 92) (.lit (.int .i64 0)) 0 0 false rfl,bI .neq 34 (.sym 97) (.lit (.int .i64 0)) 0 0 false rfl,bI .neq 34 (.sym 102) (.lit (.int .i64 0)) 0 0 false rfl,bI .neq 34 (.sym 112) (.lit (.int .i64 0)) (outPC (e15 p q r s a b c) (e16 p q r s a b c)) 0 true (by simp [cmpB,h5]),bI .neq 34 (.sym 117) (.lit (.int .i64 0)) 0 0 false rfl,bI .neq 34 (.sym 127) (.lit (.int .i64 0)) (outPC (e17 p q r s a b c) (e18 p q r s a b c)) 0 false (by simp [cmpB,h7]),bI .neq 34 (.sym 132) (.lit (.int .i64 0)) 0 0 false rfl,bI .neq 34 (.sym 142) (.lit (.int .i64 0)) (outPC (e19 p q r s a b c) (e20 p q r s a b c)) 0 true (by simp [cmpB,h9])] [] Tryz.func13 (enters_of Tryz.func13 (by kernel_rfl)) 2000 [.row (syms 0 60),.c (.lit (.int .i64 3))] (.tup [.row (flA [zPA,zPA,zPA]),.c (.sym 142)])))))))
   (fun h7 => .ie (fun h => h7 h) ((Classical.em (kBad (ptX s) (ptY s) (e11 p q s a c) (e12 p q s a c) (e13 p r s b c) (e14 p r s b c))).elim (fun h8 => .it h8 (ev_sp (L := [(rawPt p).cells,(rawPt q).cells,(rawPt r).cells,(rawPt s).cells,(rawQ a).cells,(rawQ b).cells,(rawQ c).cells,[gl (.int .i64 0)],cq a,cq b,cq c,cq (ptX p),cq (ptY p),cq (ptX q),cq (ptY q),cq (ptX r),cq (ptY r),cq (ptX s),cq (ptY s),cq (e9 p q r a b) ++ cq (e10 p q r a b) ++ [gl (.int .i64 0)],cq (e11 p q s a c) ++ cq (e12 p q s a c) ++ [gl (.int .i64 0)],cq (e13 p r s b c) ++ cq (e14 p r s b c) ++ [gl (.int .i64 0)],cq (e15 p q r s a b c) ++ cq (e16 p q r s a b c) ++ [gl (.int .i64 0)],(outR (e15 p q r s a b c) (e16 p q r s a b c)).cells,[gx (.int .i64 (outPC (e15 p q r s a b c) (e16 p q r s a b c)))],cq (e17 p q r s a b c) ++ cq (e18 p q r s a b c) ++ [gl (.int .i64 0)],(outR (e17 p q r s a b c) (e18 p q r s a b c)).cells,[gx (.int .i64 (outPC (e17 p q r s a b c) (e18 p q r s a b c)))],[gl .nilp,gl .nilp,gl .nilp,gl .nilp,gl (.int .i64 370)]].flatten) tys_ok mixed
     [gs ((t1.f h0)) [.row (syms 0 60)] (.r (.c (.sym 60))),
      gs (pOf a b_a) [.row (syms 36 8)] (.r (sy [61,62])),
      gs (pOf b b_b) [.row (syms 44 8)] (.r (sy [63,64])),
      gs (pOf c b_c) [.row (syms 52 8)] (.r (sy [65,66])),
      gs (pPoint p b_p) [.row (syms 0 9)] (.r (.row (syms 67 4))),
      gs (pPoint q b_q) [.row (syms 9 9)] (.r (.row (syms 71 4))),
      gs (pPoint r b_r) [.row (syms 18 9)] (.r (.row (syms 75 4))),
      gs (pPoint s b_s) [.row (syms 27 9)] (.r (.row (syms 79 4))),
      gs ((t2.f h1)) [.row (syms 67 4),.row (syms 71 4),.row (syms 75 4),sy [61,62],sy [63,64]] (.tup [.row (syms 83 4),.c (.sym 87)]),
      gs ((t3.f h2)) [.row (syms 67 4),.row (syms 71 4),.row (syms 79 4),sy [61,62],sy [65,66]] (.tup [.row (syms 88 4),.c (.sym 92)]),
      gs ((t4.f h3)) [.row (syms 67 4),.row (syms 75 4),.row (syms 79 4),sy [63,64],sy [65,66]] (.tup [.row (syms 93 4),.c (.sym 97)]),
      gvM tys_ok mixed [gs ((t5.f h4)) [.row (syms 71 4),.row (syms 83 4),.row (syms 88 4),sy [63,64],sy [65,66]] (.tup [.row (syms 98 4),.c (.sym 102)])] [] [] Tryz.func31 (enters_of Tryz.func31 (by kernel_rfl)) 2000 [19] [⟨flA [syms 67 16,syms 61 6,syms 83 4,syms 88 4,syms 93 4],72⟩] [.c (.own 0 0)] (.tup [.row (syms 98 4),.c (.sym 102)]),
      gs (t6) [.row (syms 98 4)] (.tup [.row (syms 103 9),.c (.sym 112)]),
      gvM tys_ok mixed [gs ((t7.f h6)) [.row (syms 75 4),.row (syms 83 4),.row (syms 93 4),sy [61,62],sy [65,66]] (.tup [.row (syms 113 4),.c (.sym 117)])] [] [] Tryz.func32 (enters_of Tryz.func32 (by kernel_rfl)) 2000 [19] [⟨flA [syms 67 16,syms 61 6,syms 83 4,syms 88 4,syms 93 4],72⟩] [.c (.own 0 0)] (.tup [.row (syms 113 4),.c (.sym 117)]),
      gs (t8) [.row (syms 113 4)] (.tup [.row (syms 118 9),.c (.sym 127)]),
      gvM tys_ok mixed [gs ((t9.t h8)) [.row (syms 79 4),.row (syms 88 4),.row (syms 93 4),sy [61,62],sy [63,64]] (.tup [.row (syms 128 4),.c (.sym 132)])] [] [] Tryz.func33 (enters_of Tryz.func33 (by kernel_rfl)) 2000 [19] [⟨flA [syms 67 16,syms 61 6,syms 83 4,syms 88 4,syms 93 4],72⟩] [.c (.own 0 0)] (.tup [.row (syms 128 4),.c (.sym 132)])]
     [bI .neq 34 (.sym 60) (.lit (.int .i64 0)) 0 0 false rfl,bI .neq 34 (.sym 87) (.lit (.int .i64 0)) 0 0 false rfl,bI .neq 34 (.sym 92) (.lit (.int .i64 0)) 0 0 false rfl,bI .neq 34 (.sym 97) (.lit (.int .i64 0)) 0 0 false rfl,bI .neq 34 (.sym 102) (.lit (.int .i64 0)) 0 0 false rfl,bI .neq 34 (.sym 112) (.lit (.int .i64 0)) (outPC (e15 p q r s a b c) (e16 p q r s a b c)) 0 true (by simp [cmpB,h5]),bI .neq 34 (.sym 117) (.lit (.int .i64 0)) 0 0 false rfl,bI .neq 34 (.sym 127) (.lit (.int .i64 0)) (outPC (e17 p q r s a b c) (e18 p q r s a b c)) 0 true (by simp [cmpB,h7]),bI .neq 34 (.sym 132) (.lit (.int .i64 0)) 370 0 true rfl] [] Tryz.func13 (enters_of Tryz.func13 (by kernel_rfl)) 2000 [.row (syms 0 60),.c (.lit (.int .i64 3))] (.tup [.row (flA [zPA,zPA,zPA]),.c (.sym 132)])))
   (fun h8 => .ie h8 ((Classical.em ((outPC (e19 p q r s a b c) (e20 p q r s a b c)) = 0)).elim (fun h9 => .it h9 (ev_sp (L := [(rawPt p).cells,(rawPt q).cells,(rawPt r).cells,(rawPt s).cells,(rawQ a).cells,(rawQ b).cells,(rawQ c).cells,[gl (.int .i64 0)],cq a,cq b,cq c,cq (ptX p),cq (ptY p),cq (ptX q),cq (ptY q),cq (ptX r),cq (ptY r),cq (ptX s),cq (ptY s),cq (e9 p q r a b) ++ cq (e10 p q r a b) ++ [gl (.int .i64 0)],cq (e11 p q s a c) ++ cq (e12 p q s a c) ++ [gl (.int .i64 0)],cq (e13 p r s b c) ++ cq (e14 p r s b c) ++ [gl (.int .i64 0)],cq (e15 p q r s a b c) ++ cq (e16 p q r s a b c) ++ [gl (.int .i64 0)],(outR (e15 p q r s a b c) (e16 p q r s a b c)).cells,[gx (.int .i64 (outPC (e15 p q r s a b c) (e16 p q r s a b c)))],cq (e17 p q r s a b c) ++ cq (e18 p q r s a b c) ++ [gl (.int .i64 0)],(outR (e17 p q r s a b c) (e18 p q r s a b c)).cells,[gx (.int .i64 (outPC (e17 p q r s a b c) (e18 p q r s a b c)))],cq (e19 p q r s a b c) ++ cq (e20 p q r s a b c) ++ [gl (.int .i64 0)],(outR (e19 p q r s a b c) (e20 p q r s a b c)).cells,[gx (.int .i64 (outPC (e19 p q r s a b c) (e20 p q r s a b c)))]].flatten) tys_ok mixed
     [gs ((t1.f h0)) [.row (syms 0 60)] (.r (.c (.sym 60))),
      gs (pOf a b_a) [.row (syms 36 8)] (.r (sy [61,62])),
      gs (pOf b b_b) [.row (syms 44 8)] (.r (sy [63,64])),
      gs (pOf c b_c) [.row (syms 52 8)] (.r (sy [65,66])),
      gs (pPoint p b_p) [.row (syms 0 9)] (.r (.row (syms 67 4))),
      gs (pPoint q b_q) [.row (syms 9 9)] (.r (.row (syms 71 4))),
      gs (pPoint r b_r) [.row (syms 18 9)] (.r (.row (syms 75 4))),
      gs (pPoint s b_s) [.row (syms 27 9)] (.r (.row (syms 79 4))),
      gs ((t2.f h1)) [.row (syms 67 4),.row (syms 71 4),.row (syms 75 4),sy [61,62],sy [63,64]] (.tup [.row (syms 83 4),.c (.sym 87)]),
      gs ((t3.f h2)) [.row (syms 67 4),.row (syms 71 4),.row (syms 79 4),sy [61,62],sy [65,66]] (.tup [.row (syms 88 4),.c (.sym 92)]),
      gs ((t4.f h3)) [.row (syms 67 4),.row (syms 75 4),.row (syms 79 4),sy [63,64],sy [65,66]] (.tup [.row (syms 93 4),.c (.sym 97)]),
      gvM tys_ok mixed [gs ((t5.f h4)) [.row (syms 71 4),.row (syms 83 4),.row (syms 88 4),sy [63,64],sy [65,66]] (.tup [.row (syms 98 4),.c (.sym 102)])] [] [] Tryz.func31 (enters_of Tryz.func31 (by kernel_rfl)) 2000 [19] [⟨flA [syms 67 16,syms 61 6,syms 83 4,syms 88 4,syms 93 4],72⟩] [.c (.own 0 0)] (.tup [.row (syms 98 4),.c (.sym 102)]),
      gs (t6) [.row (syms 98 4)] (.tup [.row (syms 103 9),.c (.sym 112)]),
      gvM tys_ok mixed [gs ((t7.f h6)) [.row (syms 75 4),.row (syms 83 4),.row (syms 93 4),sy [61,62],sy [65,66]] (.tup [.row (syms 113 4),.c (.sym 117)])] [] [] Tryz.func32 (enters_of Tryz.func32 (by kernel_rfl)) 2000 [19] [⟨flA [syms 67 16,syms 61 6,syms 83 4,syms 88 4,syms 93 4],72⟩] [.c (.own 0 0)] (.tup [.row (syms 113 4),.c (.sym 117)]),
      gs (t8) [.row (syms 113 4)] (.tup [.row (syms 118 9),.c (.sym 127)]),
      gvM tys_ok mixed [gs ((t9.f h8)) [.row (syms 79 4),.row (syms 88 4),.row (syms 93 4),sy [61,62],sy [63,64]] (.tup [.row (syms 128 4),.c (.sym 132)])] [] [] Tryz.func33 (enters_of Tryz.func33 (by kernel_rfl)) 2000 [19] [⟨flA [syms 67 16,syms 61 6,syms 83 4,syms 88 4,syms 93 4],72⟩] [.c (.own 0 0)] (.tup [.row (syms 128 4),.c (.sym 132)]),
      gs (t10) [.row (syms 128 4)] (.tup [.row (syms 133 9),.c (.sym 142)])]
     [bI .neq 34 (.sym 60) (.lit (.int .i64 0)) 0 0 false rfl,bI .neq 34 (.sym 87) (.lit (.int .i64 0)) 0 0 false rfl,bI .neq 34 (.sym 92) (.lit (.int .i64 0)) 0 0 false rfl,bI .neq 34 (.sym 97) (.lit (.int .i64 0)) 0 0 false rfl,bI .neq 34 (.sym 102) (.lit (.int .i64 0)) 0 0 false rfl,bI .neq 34 (.sym 112) (.lit (.int .i64 0)) (outPC (e15 p q r s a b c) (e16 p q r s a b c)) 0 true (by simp [cmpB,h5]),bI .neq 34 (.sym 117) (.lit (.int .i64 0)) 0 0 false rfl,bI .neq 34 (.sym 127) (.lit (.int .i64 0)) (outPC (e17 p q r s a b c) (e18 p q r s a b c)) 0 true (by simp [cmpB,h7]),bI .neq 34 (.sym 132) (.lit (.int .i64 0)) 0 0 false rfl,bI .neq 34 (.sym 142) (.lit (.int .i64 0)) (outPC (e19 p q r s a b c) (e20 p q r s a b c)) 0 false (by simp [cmpB,h9])] [] Tryz.func13 (enters_of Tryz.func13 (by kernel_rfl)) 2000 [.row (syms 0 60),.c (.lit (.int .i64 3))] (.tup [.row (flA [zPA,zPA,zPA]),.c (.sym 127)])))
   (fun h9 => .ie (fun h => h9 h) (ev_sp (L := [(rawPt p).cells,(rawPt q).cells,(rawPt r).cells,(rawPt s).cells,(rawQ a).cells,(rawQ b).cells,(rawQ c).cells,[gl (.int .i64 0)],cq a,cq b,cq c,cq (ptX p),cq (ptY p),cq (ptX q),cq (ptY q),cq (ptX r),cq (ptY r),cq (ptX s),cq (ptY s),cq (e9 p q r a b) ++ cq (e10 p q r a b) ++ [gl (.int .i64 0)],cq (e11 p q s a c) ++ cq (e12 p q s a c) ++ [gl (.int .i64 0)],cq (e13 p r s b c) ++ cq (e14 p r s b c) ++ [gl (.int .i64 0)],cq (e15 p q r s a b c) ++ cq (e16 p q r s a b c) ++ [gl (.int .i64 0)],(outR (e15 p q r s a b c) (e16 p q r s a b c)).cells,[gx (.int .i64 (outPC (e15 p q r s a b c) (e16 p q r s a b c)))],cq (e17 p q r s a b c) ++ cq (e18 p q r s a b c) ++ [gl (.int .i64 0)],(outR (e17 p q r s a b c) (e18 p q r s a b c)).cells,[gx (.int .i64 (outPC (e17 p q r s a b c) (e18 p q r s a b c)))],cq (e19 p q r s a b c) ++ cq (e20 p q r s a b c) ++ [gl (.int .i64 0)],(outR (e19 p q r s a b c) (e20 p q r s a b c)).cells,[gx (.int .i64 (outPC (e19 p q r s a b c) (e20 p q r s a b c)))]].flatten) tys_ok mixed
     [gs ((t1.f h0)) [.row (syms 0 60)] (.r (.c (.sym 60))),
      gs (pOf a b_a) [.row (syms 36 8)] (.r (sy [61,62])),
      gs (pOf b b_b) [.row (syms 44 8)] (.r (sy [63,64])),
      gs (pOf c b_c) [.row (syms 52 8)] (.r (sy [65,66])),
      gs (pPoint p b_p) [.row (syms 0 9)] (.r (.row (syms 67 4))),
      gs (pPoint q b_q) [.row (syms 9 9)] (.r (.row (syms 71 4))),
      gs (pPoint r b_r) [.row (syms 18 9)] (.r (.row (syms 75 4))),
      gs (pPoint s b_s) [.row (syms 27 9)] (.r (.row (syms 79 4))),
      gs ((t2.f h1)) [.row (syms 67 4),.row (syms 71 4),.row (syms 75 4),sy [61,62],sy [63,64]] (.tup [.row (syms 83 4),.c (.sym 87)]),
      gs ((t3.f h2)) [.row (syms 67 4),.row (syms 71 4),.row (syms 79 4),sy [61,62],sy [65,66]] (.tup [.row (syms 88 4),.c (.sym 92)]),
      gs ((t4.f h3)) [.row (syms 67 4),.row (syms 75 4),.row (syms 79 4),sy [63,64],sy [65,66]] (.tup [.row (syms 93 4),.c (.sym 97)]),
      gvM tys_ok mixed [gs ((t5.f h4)) [.row (syms 71 4),.row (syms 83 4),.row (syms 88 4),sy [63,64],sy [65,66]] (.tup [.row (syms 98 4),.c (.sym 102)])] [] [] Tryz.func31 (enters_of Tryz.func31 (by kernel_rfl)) 2000 [19] [⟨flA [syms 67 16,syms 61 6,syms 83 4,syms 88 4,syms 93 4],72⟩] [.c (.own 0 0)] (.tup [.row (syms 98 4),.c (.sym 102)]),
      gs (t6) [.row (syms 98 4)] (.tup [.row (syms 103 9),.c (.sym 112)]),
      gvM tys_ok mixed [gs ((t7.f h6)) [.row (syms 75 4),.row (syms 83 4),.row (syms 93 4),sy [61,62],sy [65,66]] (.tup [.row (syms 113 4),.c (.sym 117)])] [] [] Tryz.func32 (enters_of Tryz.func32 (by kernel_rfl)) 2000 [19] [⟨flA [syms 67 16,syms 61 6,syms 83 4,syms 88 4,syms 93 4],72⟩] [.c (.own 0 0)] (.tup [.row (syms 113 4),.c (.sym 117)]),
      gs (t8) [.row (syms 113 4)] (.tup [.row (syms 118 9),.c (.sym 127)]),
      gvM tys_ok mixed [gs ((t9.f h8)) [.row (syms 79 4),.row (syms 88 4),.row (syms 93 4),sy [61,62],sy [63,64]] (.tup [.row (syms 128 4),.c (.sym 132)])] [] [] Tryz.func33 (enters_of Tryz.func33 (by kernel_rfl)) 2000 [19] [⟨flA [syms 67 16,syms 61 6,syms 83 4,syms 88 4,syms 93 4],72⟩] [.c (.own 0 0)] (.tup [.row (syms 128 4),.c (.sym 132)]),
      gs (t10) [.row (syms 128 4)] (.tup [.row (syms 133 9),.c (.sym 142)])]
     [bI .neq 34 (.sym 60) (.lit (.int .i64 0)) 0 0 false rfl,bI .neq 34 (.sym 87) (.lit (.int .i64 0)) 0 0 false rfl,bI .neq 34 (.sym 92) (.lit (.int .i64 0)) 0 0 false rfl,bI .neq 34 (.sym 97) (.lit (.int .i64 0)) 0 0 false rfl,bI .neq 34 (.sym 102) (.lit (.int .i64 0)) 0 0 false rfl,bI .neq 34 (.sym 112) (.lit (.int .i64 0)) (outPC (e15 p q r s a b c) (e16 p q r s a b c)) 0 true (by simp [cmpB,h5]),bI .neq 34 (.sym 117) (.lit (.int .i64 0)) 0 0 false rfl,bI .neq 34 (.sym 127) (.lit (.int .i64 0)) (outPC (e17 p q r s a b c) (e18 p q r s a b c)) 0 true (by simp [cmpB,h7]),bI .neq 34 (.sym 132) (.lit (.int .i64 0)) 0 0 false rfl,bI .neq 34 (.sym 142) (.lit (.int .i64 0)) (outPC (e19 p q r s a b c) (e20 p q r s a b c)) 0 true (by simp [cmpB,h9])] [] Tryz.func13 (enters_of Tryz.func13 (by kernel_rfl)) 2000 [.row (syms 0 60),.c (.lit (.int .i64 3))] (.tup [.row (flA [zPA,zPA,zPA]),.c (.sym 142)]))))))))))))))))))
set_option maxHeartbeats 4000000 in
theorem nLast (p q r s : Pt) (a b c : QC) (b_p : ShortP p) (b_q : ShortP q) (b_r : ShortP r) (b_s : ShortP s) (b_a : ShortZ a) (b_b : ShortZ b) (b_c : ShortZ c)  : SpecC Tryz.prog true 6 [.row ((rawPt p).cells ++ (rawPt q).cells ++ (rawPt r).cells ++ (rawPt s).cells ++ (rawQ a).cells ++ (rawQ b).cells ++ (rawQ c).cells)] (if ((a = (⟨0,0⟩ : QC) ∨ b = (⟨0,0⟩ : QC) ∨ c = (⟨0,0⟩ : QC) ∨ a = b ∨ b = c ∨ c = a)) then .tup [.row (zPG),.c (gl (.int .i64 2))] else if (kBad (ptX p) (ptY p) (ptX q) (ptY q) (ptX r) (ptY r) ∨ kBad (ptX p) (ptY p) (ptX q) (ptY q) (ptX s) (ptY s) ∨ kBad (ptX p) (ptY p) (ptX r) (ptY r) (ptX s) (ptY s) ∨ kBad (ptX q) (ptY q) (e9 p q r a b) (e10 p q r a b) (e11 p q s a c) (e12 p q s a c)) then .tup [.row (zPG),.c (gl (.int .i64 370))] else if (outPC (e15 p q r s a b c) (e16 p q r s a b c)) = 0 then .tup [.row ((outR (e15 p q r s a b c) (e16 p q r s a b c)).cells),.c (gl (.int .i64 0))] else .tup [.row (zPG),.c (gx (.int .i64 (outPC (e15 p q r s a b c) (e16 p q r s a b c))))]) :=
  have t1 := nfaces1 p q r s a b c b_p b_q b_r b_s b_a b_b b_c
  (Classical.em ((a = (⟨0,0⟩ : QC) ∨ b = (⟨0,0⟩ : QC) ∨ c = (⟨0,0⟩ : QC) ∨ a = b ∨ b = c ∨ c = a))).elim (fun h0 => .it h0 (ev_sp (L := [(rawPt p).cells,(rawPt q).cells,(rawPt r).cells,(rawPt s).cells,(rawQ a).cells,(rawQ b).cells,(rawQ c).cells,zPG ++ zPG ++ zPG ++ [gl (.int .i64 2)]].flatten) tys_ok mixed
     [gs ((t1.t h0)) [.row (syms 0 60),.c (.lit (.int .i64 1))] (.tup [.row (syms 60 27),.c (.sym 87)])]
     [] [] Tryz.func6 (enters_of Tryz.func6 (by kernel_rfl)) 2000 [.row (syms 0 60)] (.tup [.row (syms 60 9),.c (.sym 87)])))
   (fun h0 => .ie h0 ((Classical.em (kBad (ptX p) (ptY p) (ptX q) (ptY q) (ptX r) (ptY r) ∨ kBad (ptX p) (ptY p) (ptX q) (ptY q) (ptX s) (ptY s) ∨ kBad (ptX p) (ptY p) (ptX r) (ptY r) (ptX s) (ptY s) ∨ kBad (ptX q) (ptY q) (e9 p q r a b) (e10 p q r a b) (e11 p q s a c) (e12 p q s a c))).elim (fun h1 => .it h1 (ev_sp (L := [(rawPt p).cells,(rawPt q).cells,(rawPt r).cells,(rawPt s).cells,(rawQ a).cells,(rawQ b).cells,(rawQ c).cells,zPG ++ zPG ++ zPG ++ [gl (.int .i64 370)]].flatten) tys_ok mixed
     [gs (((t1.f h0).t h1)) [.row (syms 0 60),.c (.lit (.int .i64 1))] (.tup [.row (syms 60 27),.c (.sym 87)])]
     [] [] Tryz.func6 (enters_of Tryz.func6 (by kernel_rfl)) 2000 [.row (syms 0 60)] (.tup [.row (syms 60 9),.c (.sym 87)])))
   (fun h1 => .ie h1 ((Classical.em ((outPC (e15 p q r s a b c) (e16 p q r s a b c)) = 0)).elim (fun h2 => .it h2 (ev_sp (L := [(rawPt p).cells,(rawPt q).cells,(rawPt r).cells,(rawPt s).cells,(rawQ a).cells,(rawQ b).cells,(rawQ c).cells,(outR (e15 p q r s a b c) (e16 p q r s a b c)).cells ++ zPG ++ zPG ++ [gl (.int .i64 0)]].flatten) tys_ok mixed
     [gs ((((t1.f h0).f h1).t h2)) [.row (syms 0 60),.c (.lit (.int .i64 1))] (.tup [.row (syms 60 27),.c (.sym 87)])]
     [] [] Tryz.func6 (enters_of Tryz.func6 (by kernel_rfl)) 2000 [.row (syms 0 60)] (.tup [.row (syms 60 9),.c (.sym 87)])))
   (fun h2 => .ie (fun h => h2 h) (ev_sp (L := [(rawPt p).cells,(rawPt q).cells,(rawPt r).cells,(rawPt s).cells,(rawQ a).cells,(rawQ b).cells,(rawQ c).cells,zPG ++ zPG ++ zPG ++ [gx (.int .i64 (outPC (e15 p q r s a b c) (e16 p q r s a b c)))]].flatten) tys_ok mixed
     [gs ((((t1.f h0).f h1).f h2)) [.row (syms 0 60),.c (.lit (.int .i64 1))] (.tup [.row (syms 60 27),.c (.sym 87)])]
     [] [] Tryz.func6 (enters_of Tryz.func6 (by kernel_rfl)) 2000 [.row (syms 0 60)] (.tup [.row (syms 60 9),.c (.sym 87)])))))))
set_option maxHeartbeats 4000000 in
theorem nFaces (p q r s : Pt) (a b c : QC) (b_p : ShortP p) (b_q : ShortP q) (b_r : ShortP r) (b_s : ShortP s) (b_a : ShortZ a) (b_b : ShortZ b) (b_c : ShortZ c)  : SpecC Tryz.prog true 7 [.row ((rawPt p).cells ++ (rawPt q).cells ++ (rawPt r).cells ++ (rawPt s).cells ++ (rawQ a).cells ++ (rawQ b).cells ++ (rawQ c).cells)] (if ((a = (⟨0,0⟩ : QC) ∨ b = (⟨0,0⟩ : QC) ∨ c = (⟨0,0⟩ : QC) ∨ a = b ∨ b = c ∨ c = a)) then .tup [.row (zPG ++ zPG ++ zPG),.c (gl (.int .i64 2))] else if (kBad (ptX p) (ptY p) (ptX q) (ptY q) (ptX r) (ptY r) ∨ kBad (ptX p) (ptY p) (ptX q) (ptY q) (ptX s) (ptY s) ∨ kBad (ptX p) (ptY p) (ptX r) (ptY r) (ptX s) (ptY s) ∨ kBad (ptX q) (ptY q) (e9 p q r a b) (e10 p q r a b) (e11 p q s a c) (e12 p q s a c)) then .tup [.row (zPG ++ zPG ++ zPG),.c (gl (.int .i64 370))] else if (outPC (e15 p q r s a b c) (e16 p q r s a b c)) = 0 then if kBad (ptX r) (ptY r) (e9 p q r a b) (e10 p q r a b) (e13 p r s b c) (e14 p r s b c) then .tup [.row (zPG ++ zPG ++ zPG),.c (gl (.int .i64 370))] else if (outPC (e17 p q r s a b c) (e18 p q r s a b c)) = 0 then if kBad (ptX s) (ptY s) (e11 p q s a c) (e12 p q s a c) (e13 p r s b c) (e14 p r s b c) then .tup [.row (zPG ++ zPG ++ zPG),.c (gl (.int .i64 370))] else if (outPC (e19 p q r s a b c) (e20 p q r s a b c)) = 0 then .tup [.row ((outR (e15 p q r s a b c) (e16 p q r s a b c)).cells ++ (outR (e17 p q r s a b c) (e18 p q r s a b c)).cells ++ (outR (e19 p q r s a b c) (e20 p q r s a b c)).cells),.c (gl (.int .i64 0))] else .tup [.row (zPG ++ zPG ++ zPG),.c (gx (.int .i64 (outPC (e19 p q r s a b c) (e20 p q r s a b c))))] else if kBad (ptX s) (ptY s) (e11 p q s a c) (e12 p q s a c) (e13 p r s b c) (e14 p r s b c) then .tup [.row (zPG ++ zPG ++ zPG),.c (gl (.int .i64 370))] else if (outPC (e19 p q r s a b c) (e20 p q r s a b c)) = 0 then .tup [.row (zPG ++ zPG ++ zPG),.c (gx (.int .i64 (outPC (e17 p q r s a b c) (e18 p q r s a b c))))] else .tup [.row (zPG ++ zPG ++ zPG),.c (gx (.int .i64 (outPC (e19 p q r s a b c) (e20 p q r s a b c))))] else if kBad (ptX r) (ptY r) (e9 p q r a b) (e10 p q r a b) (e13 p r s b c) (e14 p r s b c) then .tup [.row (zPG ++ zPG ++ zPG),.c (gl (.int .i64 370))] else if (outPC (e17 p q r s a b c) (e18 p q r s a b c)) = 0 then if kBad (ptX s) (ptY s) (e11 p q s a c) (e12 p q s a c) (e13 p r s b c) (e14 p r s b c) then .tup [.row (zPG ++ zPG ++ zPG),.c (gl (.int .i64 370))] else if (outPC (e19 p q r s a b c) (e20 p q r s a b c)) = 0 then .tup [.row (zPG ++ zPG ++ zPG),.c (gx (.int .i64 (outPC (e15 p q r s a b c) (e16 p q r s a b c))))] else .tup [.row (zPG ++ zPG ++ zPG),.c (gx (.int .i64 (outPC (e19 p q r s a b c) (e20 p q r s a b c))))] else if kBad (ptX s) (ptY s) (e11 p q s a c) (e12 p q s a c) (e13 p r s b c) (e14 p r s b c) then .tup [.row (zPG ++ zPG ++ zPG),.c (gl (.int .i64 370))] else if (outPC (e19 p q r s a b c) (e20 p q r s a b c)) = 0 then .tup [.row (zPG ++ zPG ++ zPG),.c (gx (.int .i64 (outPC (e17 p q r s a b c) (e18 p q r s a b c))))] else .tup [.row (zPG ++ zPG ++ zPG),.c (gx (.int .i64 (outPC (e19 p q r s a b c) (e20 p q r s a b c))))]) :=
  have t1 := nfaces3 p q r s a b c b_p b_q b_r b_s b_a b_b b_c
  (Classical.em ((a = (⟨0,0⟩ : QC) ∨ b = (⟨0,0⟩ : QC) ∨ c = (⟨0,0⟩ : QC) ∨ a = b ∨ b = c ∨ c = a))).elim (fun h0 => .it h0 (ev_sp (L := [(rawPt p).cells,(rawPt q).cells,(rawPt r).cells,(rawPt s).cells,(rawQ a).cells,(rawQ b).cells,(rawQ c).cells,zPG ++ zPG ++ zPG ++ [gl (.int .i64 2)]].flatten) tys_ok mixed
     [gs ((t1.t h0)) [.row (syms 0 60),.c (.lit (.int .i64 3))] (.tup [.row (syms 60 27),.c (.sym 87)])]
     [] [] Tryz.func7 (enters_of Tryz.func7 (by kernel_rfl)) 2000 [.row (syms 0 60)] (.tup [.row (syms 60 27),.c (.sym 87)])))
   (fun h0 => .ie h0 ((Classical.em (kBad (ptX p) (ptY p) (ptX q) (ptY q) (ptX r) (ptY r) ∨ kBad (ptX p) (ptY p) (ptX q) (ptY q) (ptX s) (ptY s) ∨ kBad (ptX p) (ptY p) (ptX r) (ptY r) (ptX s) (ptY s) ∨ kBad (ptX q) (ptY q) (e9 p q r a b) (e10 p q r a b) (e11 p q s a c) (e12 p q s a c))).elim (fun h1 => .it h1 (ev_sp (L := [(rawPt p).cells,(rawPt q).cells,(rawPt r).cells,(rawPt s).cells,(rawQ a).cells,(rawQ b).cells,(rawQ c).cells,zPG ++ zPG ++ zPG ++ [gl (.int .i64 370)]].flatten) tys_ok mixed
     [gs (((t1.f h0).t h1)) [.row (syms 0 60),.c (.lit (.int .i64 3))] (.tup [.row (syms 60 27),.c (.sym 87)])]
     [] [] Tryz.func7 (enters_of Tryz.func7 (by kernel_rfl)) 2000 [.row (syms 0 60)] (.tup [.row (syms 60 27),.c (.sym 87)])))
   (fun h1 => .ie h1 ((Classical.em ((outPC (e15 p q r s a b c) (e16 p q r s a b c)) = 0)).elim (fun h2 => .it h2 ((Classical.em (kBad (ptX r) (ptY r) (e9 p q r a b) (e10 p q r a b) (e13 p r s b c) (e14 p r s b c))).elim (fun h3 => .it h3 (ev_sp (L := [(rawPt p).cells,(rawPt q).cells,(rawPt r).cells,(rawPt s).cells,(rawQ a).cells,(rawQ b).cells,(rawQ c).cells,zPG ++ zPG ++ zPG ++ [gl (.int .i64 370)]].flatten) tys_ok mixed
     [gs (((((t1.f h0).f h1).t h2).t h3)) [.row (syms 0 60),.c (.lit (.int .i64 3))] (.tup [.row (syms 60 27),.c (.sym 87)])]
     [] [] Tryz.func7 (enters_of Tryz.func7 (by kernel_rfl)) 2000 [.row (syms 0 60)] (.tup [.row (syms 60 27),.c (.sym 87)])))
   (fun h3 => .ie h3 ((Classical.em ((outPC (e17 p q r s a b c) (e18 p q r s a b c)) = 0)).elim (fun h4 => .it h4 ((Classical.em (kBad (ptX s) (ptY s) (e11 p q s a c) (e12 p q s a c) (e13 p r s b c) (e14 p r s b c))).elim (fun h5 => .it h5 (ev_sp (L := [(rawPt p).cells,(rawPt q).cells,(rawPt r).cells,(rawPt s).cells,(rawQ a).cells,(rawQ b).cells,(rawQ c).cells,zPG ++ zPG ++ zPG ++ [gl (.int .i64 370)]].flatten) tys_ok mixed
     [gs (((((((t1.f h0).f h1).t h2).f h3).t h4).t h5)) [.row (syms 0 60),.c (.lit (.int .i64 3))] (.tup [.row (syms 60 27),.c (.sym 87)])]
     [] [] Tryz.func7 (enters_of Tryz.func7 (by kernel_rfl)) 2000 [.row (syms 0 60)] (.tup [.row (syms 60 27),.c (.sym 87)])))
   (fun h5 => .ie h5 ((Classical.em ((outPC (e19 p q r s a b c) (e20 p q r s a b c)) = 0)).elim (fun h6 => .it h6 (ev_sp (L := [(rawPt p).cells,(rawPt q).cells,(rawPt r).cells,(rawPt s).cells,(rawQ a).cells,(rawQ b).cells,(rawQ c).cells,(outR (e15 p q r s a b c) (e16 p q r s a b c)).cells ++ (outR (e17 p q r s a b c) (e18 p q r s a b c)).cells ++ (outR (e19 p q r s a b c) (e20 p q r s a b c)).cells ++ [gl (.int .i64 0)]].flatten) tys_ok mixed
     [gs ((((((((t1.f h0).f h1).t h2).f h3).t h4).f h5).t h6)) [.row (syms 0 60),.c (.lit (.int .i64 3))] (.tup [.row (syms 60 27),.c (.sym 87)])]
     [] [] Tryz.func7 (enters_of Tryz.func7 (by kernel_rfl)) 2000 [.row (syms 0 60)] (.tup [.row (syms 60 27),.c (.sym 87)])))
   (fun h6 => .ie (fun h => h6 h) (ev_sp (L := [(rawPt p).cells,(rawPt q).cells,(rawPt r).cells,(rawPt s).cells,(rawQ a).cells,(rawQ b).cells,(rawQ c).cells,zPG ++ zPG ++ zPG ++ [gx (.int .i64 (outPC (e19 p q r s a b c) (e20 p q r s a b c)))]].flatten) tys_ok mixed
     [gs ((((((((t1.f h0).f h1).t h2).f h3).t h4).f h5).f h6)) [.row (syms 0 60),.c (.lit (.int .i64 3))] (.tup [.row (syms 60 27),.c (.sym 87)])]
     [] [] Tryz.func7 (enters_of Tryz.func7 (by kernel_rfl)) 2000 [.row (syms 0 60)] (.tup [.row (syms 60 27),.c (.sym 87)])))))))
   (fun h4 => .ie (fun h => h4 h) ((Classical.em (kBad (ptX s) (ptY s) (e11 p q s a c) (e12 p q s a c) (e13 p r s b c) (e14 p r s b c))).elim (fun h5 => .it h5 (ev_sp (L := [(rawPt p).cells,(rawPt q).cells,(rawPt r).cells,(rawPt s).cells,(rawQ a).cells,(rawQ b).cells,(rawQ c).cells,zPG ++ zPG ++ zPG ++ [gl (.int .i64 370)]].flatten) tys_ok mixed
     [gs (((((((t1.f h0).f h1).t h2).f h3).f h4).t h5)) [.row (syms 0 60),.c (.lit (.int .i64 3))] (.tup [.row (syms 60 27),.c (.sym 87)])]
     [] [] Tryz.func7 (enters_of Tryz.func7 (by kernel_rfl)) 2000 [.row (syms 0 60)] (.tup [.row (syms 60 27),.c (.sym 87)])))
   (fun h5 => .ie h5 ((Classical.em ((outPC (e19 p q r s a b c) (e20 p q r s a b c)) = 0)).elim (fun h6 => .it h6 (ev_sp (L := [(rawPt p).cells,(rawPt q).cells,(rawPt r).cells,(rawPt s).cells,(rawQ a).cells,(rawQ b).cells,(rawQ c).cells,zPG ++ zPG ++ zPG ++ [gx (.int .i64 (outPC (e17 p q r s a b c) (e18 p q r s a b c)))]].flatten) tys_ok mixed
     [gs ((((((((t1.f h0).f h1).t h2).f h3).f h4).f h5).t h6)) [.row (syms 0 60),.c (.lit (.int .i64 3))] (.tup [.row (syms 60 27),.c (.sym 87)])]
     [] [] Tryz.func7 (enters_of Tryz.func7 (by kernel_rfl)) 2000 [.row (syms 0 60)] (.tup [.row (syms 60 27),.c (.sym 87)])))
   (fun h6 => .ie (fun h => h6 h) (ev_sp (L := [(rawPt p).cells,(rawPt q).cells,(rawPt r).cells,(rawPt s).cells,(rawQ a).cells,(rawQ b).cells,(rawQ c).cells,zPG ++ zPG ++ zPG ++ [gx (.int .i64 (outPC (e19 p q r s a b c) (e20 p q r s a b c)))]].flatten) tys_ok mixed
     [gs ((((((((t1.f h0).f h1).t h2).f h3).f h4).f h5).f h6)) [.row (syms 0 60),.c (.lit (.int .i64 3))] (.tup [.row (syms 60 27),.c (.sym 87)])]
     [] [] Tryz.func7 (enters_of Tryz.func7 (by kernel_rfl)) 2000 [.row (syms 0 60)] (.tup [.row (syms 60 27),.c (.sym 87)])))))))))))
   (fun h2 => .ie (fun h => h2 h) ((Classical.em (kBad (ptX r) (ptY r) (e9 p q r a b) (e10 p q r a b) (e13 p r s b c) (e14 p r s b c))).elim (fun h3 => .it h3 (ev_sp (L := [(rawPt p).cells,(rawPt q).cells,(rawPt r).cells,(rawPt s).cells,(rawQ a).cells,(rawQ b).cells,(rawQ c).cells,zPG ++ zPG ++ zPG ++ [gl (.int .i64 370)]].flatten) tys_ok mixed
     [gs (((((t1.f h0).f h1).f h2).t h3)) [.row (syms 0 60),.c (.lit (.int .i64 3))] (.tup [.row (syms 60 27),.c (.sym 87)])]
     [] [] Tryz.func7 (enters_of Tryz.func7 (by kernel_rfl)) 2000 [.row (syms 0 60)] (.tup [.row (syms 60 27),.c (.sym 87)])))
   (fun h3 => .ie h3 ((Classical.em ((outPC (e17 p q r s a b c) (e18 p q r s a b c)) = 0)).elim (fun h4 => .it h4 ((Classical.em (kBad (ptX s) (ptY s) (e11 p q s a c) (e12 p q s a c) (e13 p r s b c) (e14 p r s b c))).elim (fun h5 => .it h5 (ev_sp (L := [(rawPt p).cells,(rawPt q).cells,(rawPt r).cells,(rawPt s).cells,(rawQ a).cells,(rawQ b).cells,(rawQ c).cells,zPG ++ zPG ++ zPG ++ [gl (.int .i64 370)]].flatten) tys_ok mixed
     [gs (((((((t1.f h0).f h1).f h2).f h3).t h4).t h5)) [.row (syms 0 60),.c (.lit (.int .i64 3))] (.tup [.row (syms 60 27),.c (.sym 87)])]
     [] [] Tryz.func7 (enters_of Tryz.func7 (by kernel_rfl)) 2000 [.row (syms 0 60)] (.tup [.row (syms 60 27),.c (.sym 87)])))
   (fun h5 => .ie h5 ((Classical.em ((outPC (e19 p q r s a b c) (e20 p q r s a b c)) = 0)).elim (fun h6 => .it h6 (ev_sp (L := [(rawPt p).cells,(rawPt q).cells,(rawPt r).cells,(rawPt s).cells,(rawQ a).cells,(rawQ b).cells,(rawQ c).cells,zPG ++ zPG ++ zPG ++ [gx (.int .i64 (outPC (e15 p q r s a b c) (e16 p q r s a b c)))]].flatten) tys_ok mixed
     [gs ((((((((t1.f h0).f h1).f h2).f h3).t h4).f h5).t h6)) [.row (syms 0 60),.c (.lit (.int .i64 3))] (.tup [.row (syms 60 27),.c (.sym 87)])]
     [] [] Tryz.func7 (enters_of Tryz.func7 (by kernel_rfl)) 2000 [.row (syms 0 60)] (.tup [.row (syms 60 27),.c (.sym 87)])))
   (fun h6 => .ie (fun h => h6 h) (ev_sp (L := [(rawPt p).cells,(rawPt q).cells,(rawPt r).cells,(rawPt s).cells,(rawQ a).cells,(rawQ b).cells,(rawQ c).cells,zPG ++ zPG ++ zPG ++ [gx (.int .i64 (outPC (e19 p q r s a b c) (e20 p q r s a b c)))]].flatten) tys_ok mixed
     [gs ((((((((t1.f h0).f h1).f h2).f h3).t h4).f h5).f h6)) [.row (syms 0 60),.c (.lit (.int .i64 3))] (.tup [.row (syms 60 27),.c (.sym 87)])]
     [] [] Tryz.func7 (enters_of Tryz.func7 (by kernel_rfl)) 2000 [.row (syms 0 60)] (.tup [.row (syms 60 27),.c (.sym 87)])))))))
   (fun h4 => .ie (fun h => h4 h) ((Classical.em (kBad (ptX s) (ptY s) (e11 p q s a c) (e12 p q s a c) (e13 p r s b c) (e14 p r s b c))).elim (fun h5 => .it h5 (ev_sp (L := [(rawPt p).cells,(rawPt q).cells,(rawPt r).cells,(rawPt s).cells,(rawQ a).cells,(rawQ b).cells,(rawQ c).cells,zPG ++ zPG ++ zPG ++ [gl (.int .i64 370)]].flatten) tys_ok mixed
     [gs (((((((t1.f h0).f h1).f h2).f h3).f h4).t h5)) [.row (syms 0 60),.c (.lit (.int .i64 3))] (.tup [.row (syms 60 27),.c (.sym 87)])]
     [] [] Tryz.func7 (enters_of Tryz.func7 (by kernel_rfl)) 2000 [.row (syms 0 60)] (.tup [.row (syms 60 27),.c (.sym 87)])))
   (fun h5 => .ie h5 ((Classical.em ((outPC (e19 p q r s a b c) (e20 p q r s a b c)) = 0)).elim (fun h6 => .it h6 (ev_sp (L := [(rawPt p).cells,(rawPt q).cells,(rawPt r).cells,(rawPt s).cells,(rawQ a).cells,(rawQ b).cells,(rawQ c).cells,zPG ++ zPG ++ zPG ++ [gx (.int .i64 (outPC (e17 p q r s a b c) (e18 p q r s a b c)))]].flatten) tys_ok mixed
     [gs ((((((((t1.f h0).f h1).f h2).f h3).f h4).f h5).t h6)) [.row (syms 0 60),.c (.lit (.int .i64 3))] (.tup [.row (syms 60 27),.c (.sym 87)])]
     [] [] Tryz.func7 (enters_of Tryz.func7 (by kernel_rfl)) 2000 [.row (syms 0 60)] (.tup [.row (syms 60 27),.c (.sym 87)])))
   (fun h6 => .ie (fun h => h6 h) (ev_sp (L := [(rawPt p).cells,(rawPt q).cells,(rawPt r).cells,(rawPt s).cells,(rawQ a).cells,(rawQ b).cells,(rawQ c).cells,zPG ++ zPG ++ zPG ++ [gx (.int .i64 (outPC (e19 p q r s a b c) (e20 p q r s a b c)))]].flatten) tys_ok mixed
     [gs ((((((((t1.f h0).f h1).f h2).f h3).f h4).f h5).f h6)) [.row (syms 0 60),.c (.lit (.int .i64 3))] (.tup [.row (syms 60 27),.c (.sym 87)])]
     [] [] Tryz.func7 (enters_of Tryz.func7 (by kernel_rfl)) 2000 [.row (syms 0 60)] (.tup [.row (syms 60 27),.c (.sym 87)])))))))))))))))
set_option maxHeartbeats 4000000 in
theorem ncube_bad (v0 v1 v2 v3 : RawP) (v4 v5 v6 : RawG) (b_v0 : RawP.Sz v0) (b_v1 : RawP.Sz v1) (b_v2 : RawP.Sz v2) (b_v3 : RawP.Sz v3) (b_v4 : RawG.Sz v4) (b_v5 : RawG.Sz v5) (b_v6 : RawG.Sz v6) (hbad : ¬ (POk v0.val ∧ POk v1.val ∧ POk v2.val ∧ POk v3.val ∧ GOk v4.val ∧ ¬ v4 = rawQ ⟨0,0⟩ ∧ GOk v5.val ∧ ¬ v5 = rawQ ⟨0,0⟩ ∧ GOk v6.val ∧ ¬ v6 = rawQ ⟨0,0⟩ ∧ ¬ v4 = v5 ∧ ¬ v5 = v6 ∧ ¬ v6 = v4)) : SpecC Tryz.prog true 27 [.row (v0.cells ++ v1.cells ++ v2.cells ++ v3.cells ++ v4.cells ++ v5.cells ++ v6.cells)] (.r (.c (gl (.int .i64 2)))) :=
  (Classical.em (POk v0.val)).elim (fun h0 => (Classical.em (POk v1.val)).elim (fun h1 => (Classical.em (POk v2.val)).elim (fun h2 => (Classical.em (POk v3.val)).elim (fun h3 => (Classical.em (GOk v4.val)).elim (fun h4 => (Classical.em (v4 = rawQ ⟨0,0⟩)).elim (fun h5 => ev_sp (L := [v0.cells,v1.cells,v2.cells,v3.cells,v4.cells,v5.cells,v6.cells].flatten) tys_ok mixed
     [gs (pSMay v0 b_v0 true (tI h0)) [.row (syms 0 9)] (.r (.c (.lit (.bool true)))),
      gs (pSMay v1 b_v1 true (tI h1)) [.row (syms 9 9)] (.r (.c (.lit (.bool true)))),
      gs (pSMay v2 b_v2 true (tI h2)) [.row (syms 18 9)] (.r (.c (.lit (.bool true)))),
      gs (pSMay v3 b_v3 true (tI h3)) [.row (syms 27 9)] (.r (.c (.lit (.bool true)))),
      gs (pGMay v4 b_v4 true (tI h4)) [.row (syms 36 8)] (.r (.c (.lit (.bool true)))),
      gs (pGZero v4 true (tI h5)) [.row (syms 36 8)] (.r (.c (.lit (.bool true))))]
     [] [] Tryz.func27 (enters_of Tryz.func27 (by kernel_rfl)) 2000 [.row (syms 0 60)] (.r (.c (.lit (.int .i64 2)))))
   (fun h5 => (Classical.em (GOk v5.val)).elim (fun h6 => (Classical.em (v5 = rawQ ⟨0,0⟩)).elim (fun h7 => ev_sp (L := [v0.cells,v1.cells,v2.cells,v3.cells,v4.cells,v5.cells,v6.cells].flatten) tys_ok mixed
     [gs (pSMay v0 b_v0 true (tI h0)) [.row (syms 0 9)] (.r (.c (.lit (.bool true)))),
      gs (pSMay v1 b_v1 true (tI h1)) [.row (syms 9 9)] (.r (.c (.lit (.bool true)))),
      gs (pSMay v2 b_v2 true (tI h2)) [.row (syms 18 9)] (.r (.c (.lit (.bool true)))),
      gs (pSMay v3 b_v3 true (tI h3)) [.row (syms 27 9)] (.r (.c (.lit (.bool true)))),
      gs (pGMay v4 b_v4 true (tI h4)) [.row (syms 36 8)] (.r (.c (.lit (.bool true)))),
      gs (pGZero v4 false (fI h5)) [.row (syms 36 8)] (.r (.c (.lit (.bool false)))),
      gs (pGMay v5 b_v5 true (tI h6)) [.row (syms 44 8)] (.r (.c (.lit (.bool true)))),
      gs (pGZero v5 true (tI h7)) [.row (syms 44 8)] (.r (.c (.lit (.bool true))))]
     [] [] Tryz.func27 (enters_of Tryz.func27 (by kernel_rfl)) 2000 [.row (syms 0 60)] (.r (.c (.lit (.int .i64 2)))))
   (fun h7 => (Classical.em (GOk v6.val)).elim (fun h8 => (Classical.em (v6 = rawQ ⟨0,0⟩)).elim (fun h9 => ev_sp (L := [v0.cells,v1.cells,v2.cells,v3.cells,v4.cells,v5.cells,v6.cells].flatten) tys_ok mixed
     [gs (pSMay v0 b_v0 true (tI h0)) [.row (syms 0 9)] (.r (.c (.lit (.bool true)))),
      gs (pSMay v1 b_v1 true (tI h1)) [.row (syms 9 9)] (.r (.c (.lit (.bool true)))),
      gs (pSMay v2 b_v2 true (tI h2)) [.row (syms 18 9)] (.r (.c (.lit (.bool true)))),
      gs (pSMay v3 b_v3 true (tI h3)) [.row (syms 27 9)] (.r (.c (.lit (.bool true)))),
      gs (pGMay v4 b_v4 true (tI h4)) [.row (syms 36 8)] (.r (.c (.lit (.bool true)))),
      gs (pGZero v4 false (fI h5)) [.row (syms 36 8)] (.r (.c (.lit (.bool false)))),
      gs (pGMay v5 b_v5 true (tI h6)) [.row (syms 44 8)] (.r (.c (.lit (.bool true)))),
      gs (pGZero v5 false (fI h7)) [.row (syms 44 8)] (.r (.c (.lit (.bool false)))),
      gs (pGMay v6 b_v6 true (tI h8)) [.row (syms 52 8)] (.r (.c (.lit (.bool true)))),
      gs (pGZero v6 true (tI h9)) [.row (syms 52 8)] (.r (.c (.lit (.bool true))))]
     [] [] Tryz.func27 (enters_of Tryz.func27 (by kernel_rfl)) 2000 [.row (syms 0 60)] (.r (.c (.lit (.int .i64 2)))))
   (fun h9 => (Classical.em (v4 = v5)).elim (fun h10 => ev_sp (L := [v0.cells,v1.cells,v2.cells,v3.cells,v4.cells,v5.cells,v6.cells].flatten) tys_ok mixed
     [gs (pSMay v0 b_v0 true (tI h0)) [.row (syms 0 9)] (.r (.c (.lit (.bool true)))),
      gs (pSMay v1 b_v1 true (tI h1)) [.row (syms 9 9)] (.r (.c (.lit (.bool true)))),
      gs (pSMay v2 b_v2 true (tI h2)) [.row (syms 18 9)] (.r (.c (.lit (.bool true)))),
      gs (pSMay v3 b_v3 true (tI h3)) [.row (syms 27 9)] (.r (.c (.lit (.bool true)))),
      gs (pGMay v4 b_v4 true (tI h4)) [.row (syms 36 8)] (.r (.c (.lit (.bool true)))),
      gs (pGZero v4 false (fI h5)) [.row (syms 36 8)] (.r (.c (.lit (.bool false)))),
      gs (pGMay v5 b_v5 true (tI h6)) [.row (syms 44 8)] (.r (.c (.lit (.bool true)))),
      gs (pGZero v5 false (fI h7)) [.row (syms 44 8)] (.r (.c (.lit (.bool false)))),
      gs (pGMay v6 b_v6 true (tI h8)) [.row (syms 52 8)] (.r (.c (.lit (.bool true)))),
      gs (pGZero v6 false (fI h9)) [.row (syms 52 8)] (.r (.c (.lit (.bool false))))]
     [bG (.row (syms 36 8)) (.row (syms 44 8)) v4 v5 true (tI h10)] [] Tryz.func27 (enters_of Tryz.func27 (by kernel_rfl)) 2000 [.row (syms 0 60)] (.r (.c (.lit (.int .i64 2)))))
   (fun h10 => (Classical.em (v5 = v6)).elim (fun h11 => ev_sp (L := [v0.cells,v1.cells,v2.cells,v3.cells,v4.cells,v5.cells,v6.cells].flatten) tys_ok mixed
     [gs (pSMay v0 b_v0 true (tI h0)) [.row (syms 0 9)] (.r (.c (.lit (.bool true)))),
      gs (pSMay v1 b_v1 true (tI h1)) [.row (syms 9 9)] (.r (.c (.lit (.bool true)))),
      gs (pSMay v2 b_v2 true (tI h2)) [.row (syms 18 9)] (.r (.c (.lit (.bool true)))),
      gs (pSMay v3 b_v3 true (tI h3)) [.row (syms 27 9)] (.r (.c (.lit (.bool true)))),
      gs (pGMay v4 b_v4 true (tI h4)) [.row (syms 36 8)] (.r (.c (.lit (.bool true)))),
      gs (pGZero v4 false (fI h5)) [.row (syms 36 8)] (.r (.c (.lit (.bool false)))),
      gs (pGMay v5 b_v5 true (tI h6)) [.row (syms 44 8)] (.r (.c (.lit (.bool true)))),
      gs (pGZero v5 false (fI h7)) [.row (syms 44 8)] (.r (.c (.lit (.bool false)))),
      gs (pGMay v6 b_v6 true (tI h8)) [.row (syms 52 8)] (.r (.c (.lit (.bool true)))),
      gs (pGZero v6 false (fI h9)) [.row (syms 52 8)] (.r (.c (.lit (.bool false))))]
     [bG (.row (syms 36 8)) (.row (syms 44 8)) v4 v5 false (fI h10),bG (.row (syms 44 8)) (.row (syms 52 8)) v5 v6 true (tI h11)] [] Tryz.func27 (enters_of Tryz.func27 (by kernel_rfl)) 2000 [.row (syms 0 60)] (.r (.c (.lit (.int .i64 2)))))
   (fun h11 => (Classical.em (v6 = v4)).elim (fun h12 => ev_sp (L := [v0.cells,v1.cells,v2.cells,v3.cells,v4.cells,v5.cells,v6.cells].flatten) tys_ok mixed
     [gs (pSMay v0 b_v0 true (tI h0)) [.row (syms 0 9)] (.r (.c (.lit (.bool true)))),
      gs (pSMay v1 b_v1 true (tI h1)) [.row (syms 9 9)] (.r (.c (.lit (.bool true)))),
      gs (pSMay v2 b_v2 true (tI h2)) [.row (syms 18 9)] (.r (.c (.lit (.bool true)))),
      gs (pSMay v3 b_v3 true (tI h3)) [.row (syms 27 9)] (.r (.c (.lit (.bool true)))),
      gs (pGMay v4 b_v4 true (tI h4)) [.row (syms 36 8)] (.r (.c (.lit (.bool true)))),
      gs (pGZero v4 false (fI h5)) [.row (syms 36 8)] (.r (.c (.lit (.bool false)))),
      gs (pGMay v5 b_v5 true (tI h6)) [.row (syms 44 8)] (.r (.c (.lit (.bool true)))),
      gs (pGZero v5 false (fI h7)) [.row (syms 44 8)] (.r (.c (.lit (.bool false)))),
      gs (pGMay v6 b_v6 true (tI h8)) [.row (syms 52 8)] (.r (.c (.lit (.bool true)))),
      gs (pGZero v6 false (fI h9)) [.row (syms 52 8)] (.r (.c (.lit (.bool false))))]
     [bG (.row (syms 36 8)) (.row (syms 44 8)) v4 v5 false (fI h10),bG (.row (syms 44 8)) (.row (syms 52 8)) v5 v6 false (fI h11),bG (.row (syms 52 8)) (.row (syms 36 8)) v6 v4 true (tI h12)] [] Tryz.func27 (enters_of Tryz.func27 (by kernel_rfl)) 2000 [.row (syms 0 60)] (.r (.c (.lit (.int .i64 2)))))
   (fun h12 => (hbad ⟨h0,h1,h2,h3,h4,h5,h6,h7,h8,h9,h10,h11,h12⟩).elim)))))
   (fun h8 => ev_sp (L := [v0.cells,v1.cells,v2.cells,v3.cells,v4.cells,v5.cells,v6.cells].flatten) tys_ok mixed
     [gs (pSMay v0 b_v0 true (tI h0)) [.row (syms 0 9)] (.r (.c (.lit (.bool true)))),
      gs (pSMay v1 b_v1 true (tI h1)) [.row (syms 9 9)] (.r (.c (.lit (.bool true)))),
      gs (pSMay v2 b_v2 true (tI h2)) [.row (syms 18 9)] (.r (.c (.lit (.bool true)))),
      gs (pSMay v3 b_v3 true (tI h3)) [.row (syms 27 9)] (.r (.c (.lit (.bool true)))),
      gs (pGMay v4 b_v4 true (tI h4)) [.row (syms 36 8)] (.r (.c (.lit (.bool true)))),
      gs (pGZero v4 false (fI h5)) [.row (syms 36 8)] (.r (.c (.lit (.bool false)))),
      gs (pGMay v5 b_v5 true (tI h6)) [.row (syms 44 8)] (.r (.c (.lit (.bool true)))),
      gs (pGZero v5 false (fI h7)) [.row (syms 44 8)] (.r (.c (.lit (.bool false)))),
      gs (pGMay v6 b_v6 false (fI h8)) [.row (syms 52 8)] (.r (.c (.lit (.bool false))))]
     [] [] Tryz.func27 (enters_of Tryz.func27 (by kernel_rfl)) 2000 [.row (syms 0 60)] (.r (.c (.lit (.int .i64 2)))))))
   (fun h6 => ev_sp (L := [v0.cells,v1.cells,v2.cells,v3.cells,v4.cells,v5.cells,v6.cells].flatten) tys_ok mixed
     [gs (pSMay v0 b_v0 true (tI h0)) [.row (syms 0 9)] (.r (.c (.lit (.bool true)))),
      gs (pSMay v1 b_v1 true (tI h1)) [.row (syms 9 9)] (.r (.c (.lit (.bool true)))),
      gs (pSMay v2 b_v2 true (tI h2)) [.row (syms 18 9)] (.r (.c (.lit (.bool true)))),
      gs (pSMay v3 b_v3 true (tI h3)) [.row (syms 27 9)] (.r (.c (.lit (.bool true)))),
      gs (pGMay v4 b_v4 true (tI h4)) [.row (syms 36 8)] (.r (.c (.lit (.bool true)))),
      gs (pGZero v4 false (fI h5)) [.row (syms 36 8)] (.r (.c (.lit (.bool false)))),
      gs (pGMay v5 b_v5 false (fI h6)) [.row (syms 44 8)] (.r (.c (.lit (.bool false))))]
     [] [] Tryz.func27 (enters_of Tryz.func27 (by kernel_rfl)) 2000 [.row (syms 0 60)] (.r (.c (.lit (.int .i64 2)))))))
   (fun h4 => ev_sp (L := [v0.cells,v1.cells,v2.cells,v3.cells,v4.cells,v5.cells,v6.cells].flatten) tys_ok mixed
     [gs (pSMay v0 b_v0 true (tI h0)) [.row (syms 0 9)] (.r (.c (.lit (.bool true)))),
      gs (pSMay v1 b_v1 true (tI h1)) [.row (syms 9 9)] (.r (.c (.lit (.bool true)))),
      gs (pSMay v2 b_v2 true (tI h2)) [.row (syms 18 9)] (.r (.c (.lit (.bool true)))),
      gs (pSMay v3 b_v3 true (tI h3)) [.row (syms 27 9)] (.r (.c (.lit (.bool true)))),
      gs (pGMay v4 b_v4 false (fI h4)) [.row (syms 36 8)] (.r (.c (.lit (.bool false))))]
     [] [] Tryz.func27 (enters_of Tryz.func27 (by kernel_rfl)) 2000 [.row (syms 0 60)] (.r (.c (.lit (.int .i64 2))))))
   (fun h3 => ev_sp (L := [v0.cells,v1.cells,v2.cells,v3.cells,v4.cells,v5.cells,v6.cells].flatten) tys_ok mixed
     [gs (pSMay v0 b_v0 true (tI h0)) [.row (syms 0 9)] (.r (.c (.lit (.bool true)))),
      gs (pSMay v1 b_v1 true (tI h1)) [.row (syms 9 9)] (.r (.c (.lit (.bool true)))),
      gs (pSMay v2 b_v2 true (tI h2)) [.row (syms 18 9)] (.r (.c (.lit (.bool true)))),
      gs (pSMay v3 b_v3 false (fI h3)) [.row (syms 27 9)] (.r (.c (.lit (.bool false))))]
     [] [] Tryz.func27 (enters_of Tryz.func27 (by kernel_rfl)) 2000 [.row (syms 0 60)] (.r (.c (.lit (.int .i64 2))))))
   (fun h2 => ev_sp (L := [v0.cells,v1.cells,v2.cells,v3.cells,v4.cells,v5.cells,v6.cells].flatten) tys_ok mixed
     [gs (pSMay v0 b_v0 true (tI h0)) [.row (syms 0 9)] (.r (.c (.lit (.bool true)))),
      gs (pSMay v1 b_v1 true (tI h1)) [.row (syms 9 9)] (.r (.c (.lit (.bool true)))),
      gs (pSMay v2 b_v2 false (fI h2)) [.row (syms 18 9)] (.r (.c (.lit (.bool false))))]
     [] [] Tryz.func27 (enters_of Tryz.func27 (by kernel_rfl)) 2000 [.row (syms 0 60)] (.r (.c (.lit (.int .i64 2))))))
   (fun h1 => ev_sp (L := [v0.cells,v1.cells,v2.cells,v3.cells,v4.cells,v5.cells,v6.cells].flatten) tys_ok mixed
     [gs (pSMay v0 b_v0 true (tI h0)) [.row (syms 0 9)] (.r (.c (.lit (.bool true)))),
      gs (pSMay v1 b_v1 false (fI h1)) [.row (syms 9 9)] (.r (.c (.lit (.bool false))))]
     [] [] Tryz.func27 (enters_of Tryz.func27 (by kernel_rfl)) 2000 [.row (syms 0 60)] (.r (.c (.lit (.int .i64 2))))))
   (fun h0 => ev_sp (L := [v0.cells,v1.cells,v2.cells,v3.cells,v4.cells,v5.cells,v6.cells].flatten) tys_ok mixed
     [gs (pSMay v0 b_v0 false (fI h0)) [.row (syms 0 9)] (.r (.c (.lit (.bool false))))]
     [] [] Tryz.func27 (enters_of Tryz.func27 (by kernel_rfl)) 2000 [.row (syms 0 60)] (.r (.c (.lit (.int .i64 2)))))
set_option maxHeartbeats 4000000 in
theorem nfaces1_bad (v0 v1 v2 v3 : RawP) (v4 v5 v6 : RawG) (b_v0 : RawP.Sz v0) (b_v1 : RawP.Sz v1) (b_v2 : RawP.Sz v2) (b_v3 : RawP.Sz v3) (b_v4 : RawG.Sz v4) (b_v5 : RawG.Sz v5) (b_v6 : RawG.Sz v6) (hbad : ¬ (POk v0.val ∧ POk v1.val ∧ POk v2.val ∧ POk v3.val ∧ GOk v4.val ∧ ¬ v4 = rawQ ⟨0,0⟩ ∧ GOk v5.val ∧ ¬ v5 = rawQ ⟨0,0⟩ ∧ GOk v6.val ∧ ¬ v6 = rawQ ⟨0,0⟩ ∧ ¬ v4 = v5 ∧ ¬ v5 = v6 ∧ ¬ v6 = v4)) : SpecC Tryz.prog true 13 [.row (v0.cells ++ v1.cells ++ v2.cells ++ v3.cells ++ v4.cells ++ v5.cells ++ v6.cells),.c (gl (.int .i64 1))] (.tup [.row (zPG ++ zPG ++ zPG),.c (gl (.int .i64 2))]) :=
  ev_sp (L := [v0.cells,v1.cells,v2.cells,v3.cells,v4.cells,v5.cells,v6.cells].flatten) tys_ok mixed
     [gs (ncube_bad v0 v1 v2 v3 v4 v5 v6 b_v0 b_v1 b_v2 b_v3 b_v4 b_v5 b_v6 hbad) [.row (syms 0 60)] (.r (.c (.lit (.int .i64 2))))]
     [] [] Tryz.func13 (enters_of Tryz.func13 (by kernel_rfl)) 2000 [.row (syms 0 60),.c (.lit (.int .i64 1))] (.tup [.row (flA [zPA,zPA,zPA]),.c (.lit (.int .i64 2))])
set_option maxHeartbeats 4000000 in
theorem nfaces3_bad (v0 v1 v2 v3 : RawP) (v4 v5 v6 : RawG) (b_v0 : RawP.Sz v0) (b_v1 : RawP.Sz v1) (b_v2 : RawP.Sz v2) (b_v3 : RawP.Sz v3) (b_v4 : RawG.Sz v4) (b_v5 : RawG.Sz v5) (b_v6 : RawG.Sz v6) (hbad : ¬ (POk v0.val ∧ POk v1.val ∧ POk v2.val ∧ POk v3.val ∧ GOk v4.val ∧ ¬ v4 = rawQ ⟨0,0⟩ ∧ GOk v5.val ∧ ¬ v5 = rawQ ⟨0,0⟩ ∧ GOk v6.val ∧ ¬ v6 = rawQ ⟨0,0⟩ ∧ ¬ v4 = v5 ∧ ¬ v5 = v6 ∧ ¬ v6 = v4)) : SpecC Tryz.prog true 13 [.row (v0.cells ++ v1.cells ++ v2.cells ++ v3.cells ++ v4.cells ++ v5.cells ++ v6.cells),.c (gl (.int .i64 3))] (.tup [.row (zPG ++ zPG ++ zPG),.c (gl (.int .i64 2))]) :=
  ev_sp (L := [v0.cells,v1.cells,v2.cells,v3.cells,v4.cells,v5.cells,v6.cells].flatten) tys_ok mixed
     [gs (ncube_bad v0 v1 v2 v3 v4 v5 v6 b_v0 b_v1 b_v2 b_v3 b_v4 b_v5 b_v6 hbad) [.row (syms 0 60)] (.r (.c (.lit (.int .i64 2))))]
     [] [] Tryz.func13 (enters_of Tryz.func13 (by kernel_rfl)) 2000 [.row (syms 0 60),.c (.lit (.int .i64 3))] (.tup [.row (flA [zPA,zPA,zPA]),.c (.lit (.int .i64 2))])
set_option maxHeartbeats 4000000 in
theorem nLast_bad (v0 v1 v2 v3 : RawP) (v4 v5 v6 : RawG) (b_v0 : RawP.Sz v0) (b_v1 : RawP.Sz v1) (b_v2 : RawP.Sz v2) (b_v3 : RawP.Sz v3) (b_v4 : RawG.Sz v4) (b_v5 : RawG.Sz v5) (b_v6 : RawG.Sz v6) (hbad : ¬ (POk v0.val ∧ POk v1.val ∧ POk v2.val ∧ POk v3.val ∧ GOk v4.val ∧ ¬ v4 = rawQ ⟨0,0⟩ ∧ GOk v5.val ∧ ¬ v5 = rawQ ⟨0,0⟩ ∧ GOk v6.val ∧ ¬ v6 = rawQ ⟨0,0⟩ ∧ ¬ v4 = v5 ∧ ¬ v5 = v6 ∧ ¬ v6 = v4)) : SpecC Tryz.prog true 6 [.row (v0.cells ++ v1.cells ++ v2.cells ++ v3.cells ++ v4.cells ++ v5.cells ++ v6.cells)] (.tup [.row (zPG),.c (gl (.int .i64 2))]) :=
  ev_sp (L := [v0.cells,v1.cells,v2.cells,v3.cells,v4.cells,v5.cells,v6.cells].flatten) tys_ok mixed
     [gs (nfaces1_bad v0 v1 v2 v3 v4 v5 v6 b_v0 b_v1 b_v2 b_v3 b_v4 b_v5 b_v6 hbad) [.row (syms 0 60),.c (.lit (.int .i64 1))] (.tup [.row (flA [zPA,zPA,zPA]),.c (.lit (.int .i64 2))])]
     [] [] Tryz.func6 (enters_of Tryz.func6 (by kernel_rfl)) 2000 [.row (syms 0 60)] (.tup [.row (zPA),.c (.lit (.int .i64 2))])
set_option maxHeartbeats 4000000 in
theorem nFaces_bad (v0 v1 v2 v3 : RawP) (v4 v5 v6 : RawG) (b_v0 : RawP.Sz v0) (b_v1 : RawP.Sz v1) (b_v2 : RawP.Sz v2) (b_v3 : RawP.Sz v3) (b_v4 : RawG.Sz v4) (b_v5 : RawG.Sz v5) (b_v6 : RawG.Sz v6) (hbad : ¬ (POk v0.val ∧ POk v1.val ∧ POk v2.val ∧ POk v3.val ∧ GOk v4.val ∧ ¬ v4 = rawQ ⟨0,0⟩ ∧ GOk v5.val ∧ ¬ v5 = rawQ ⟨0,0⟩ ∧ GOk v6.val ∧ ¬ v6 = rawQ ⟨0,0⟩ ∧ ¬ v4 = v5 ∧ ¬ v5 = v6 ∧ ¬ v6 = v4)) : SpecC Tryz.prog true 7 [.row (v0.cells ++ v1.cells ++ v2.cells ++ v3.cells ++ v4.cells ++ v5.cells ++ v6.cells)] (.tup [.row (zPG ++ zPG ++ zPG),.c (gl (.int .i64 2))]) :=
  ev_sp (L := [v0.cells,v1.cells,v2.cells,v3.cells,v4.cells,v5.cells,v6.cells].flatten) tys_ok mixed
     [gs (nfaces3_bad v0 v1 v2 v3 v4 v5 v6 b_v0 b_v1 b_v2 b_v3 b_v4 b_v5 b_v6 hbad) [.row (syms 0 60),.c (.lit (.int .i64 3))] (.tup [.row (flA [zPA,zPA,zPA]),.c (.lit (.int .i64 2))])]
     [] [] Tryz.func7 (enters_of Tryz.func7 (by kernel_rfl)) 2000 [.row (syms 0 60)] (.tup [.row (flA [zPA,zPA,zPA]),.c (.lit (.int .i64 2))])
end Go.Proofs.YteljkhfbgliokaaGreat
