/- Laws for the walk. -/
import Derived.Test.YtjlhiaafnpompaaGreatYbi
set_option linter.unusedVariables false
set_option maxHeartbeats 4000000
set_option linter.unusedSimpArgs false
namespace Go.Proofs.YtjlhiaafnpompaaGreat
open Go.RowKit Tr
open Classical
theorem pPPointC(x y z:QC){m l:Nat}(lx:ZL x m)(ly:ZL y l)(h0:y≠⟨0,0⟩)(hz:x / y=z)(hs:ShortZ z)(hb:(m+l+(m+l)+1)+(l+l+(l+l)+1)<137438953472):SpecC Tryz.prog true 42 [.row (cq x++cq y)] (.tup [.row (gl (.bool false) :: (rawQ z).cells),.c (gl (.int .i64 0))]):=by
 have k:=pPPoint x y lx ly hb
 rw[outR_is h0 hz hs,outPC_is h0 hz hs] at k
 exact k
theorem kends  :SpecC Tryz.prog true 81 [.row ((rawQ (⟨0,0⟩:QC)).cells++(rawQ (⟨-1,0⟩:QC)).cells++(rawQ (⟨1,0⟩:QC)).cells++(rawQ (⟨0,0⟩:QC)).cells++[gl (.bool false)])] (.tup [.row (cq (⟨0,0⟩:QC)),.row (cq (⟨0,2⟩:QC)),.c (gl (.int .i64 0))]) :=
  ev_sp (L := [(rawQ (⟨0,0⟩ : QC)).cells,(rawQ (⟨-1,0⟩ : QC)).cells,(rawQ (⟨1,0⟩ : QC)).cells,(rawQ (⟨0,0⟩ : QC)).cells,cq (⟨0,0⟩ : QC),cq (⟨-1,0⟩ : QC),cq (⟨1,0⟩ : QC),cq (⟨0,0⟩ : QC),cq (⟨0,0⟩ : QC),cq (⟨0,0⟩ : QC),cq (⟨4,0⟩ : QC),cq (⟨-4,0⟩ : QC),cq (⟨-4,0⟩ : QC),cq (⟨0,2⟩ : QC)].flatten) tys_ok mixed
     [gs (fMap (⟨0,0⟩:QC) (⟨-1,0⟩:QC) (⟨1,0⟩:QC) (⟨0,0⟩:QC) false (short_c (by decide +kernel)) (short_c (by decide +kernel)) (short_c (by decide +kernel)) (short_c (by decide +kernel))) [.row (flA [syms 0 32,[.lit (.bool false)]])] (.r (.row (flA [syms 32 8,[.lit (.bool false)]]))),gs (pSub (⟨0,0⟩:QC) (⟨0,0⟩:QC) (ZL_int 0 0 (by decide) (by decide) (by decide) (by decide)) (ZL_int 0 0 (by decide) (by decide) (by decide) (by decide)) (by decide)) [sy [32,33],sy [38,39]] (.r (sy [40,41])),gs (pMul (⟨0,0⟩:QC) (⟨0,0⟩:QC) (ZL_int 0 0 (by decide) (by decide) (by decide) (by decide)) (ZL_int 0 0 (by decide) (by decide) (by decide) (by decide)) (by decide)) [sy [40,41],sy [40,41]] (.r (sy [42,43])),gs (pQInt 4 0 (by decide) (by decide) (by decide) (by decide)) [.c (.lit (.int .i64 4)),.c (.lit (.int .i64 0))] (.r (sy [44,45])),gs (pMul (⟨-1,0⟩:QC) (⟨4,0⟩:QC) (ZL_int (-1) 0 (by decide) (by decide) (by decide) (by decide)) (ZL_int 4 0 (by decide) (by decide) (by decide) (by decide)) (by decide)) [sy [34,35],sy [44,45]] (.r (sy [46,47])),gs (pAdd (⟨0,0⟩:QC) (⟨-4,0⟩:QC) (ZL_int 0 0 (by decide) (by decide) (by decide) (by decide)) (ZL_int (-4) 0 (by decide) (by decide) (by decide) (by decide)) (by decide)) [sy [42,43],sy [46,47]] (.r (sy [48,49])),gs (pSqrtC (⟨-4,0⟩:QC) (⟨0,2⟩:QC) ((ZL_int (-4) 0 (by decide) (by decide) (by decide) (by decide)).mono (by omega)) (by decide +kernel)) [sy [48,49]] (.tup [sy [50,51],.c (.lit (.bool true))])]
     [] [] Tryz.func81 eo81 2000 [.row (flA [syms 0 32,[.lit (.bool false)]])] (.tup [sy [40,41],sy [50,51],.c (.lit (.int .i64 0))])
theorem lknown  :SpecC Tryz.prog true 7 [] (.r (.c (gl (.bool true)))) :=
  ev_spi (L := [(rawQ (⟨1,0⟩ : QC)).cells,(rawQ (⟨0,0⟩ : QC)).cells,(rawQ (⟨-1,0⟩ : QC)).cells,(rawQ (⟨1,0⟩ : QC)).cells,(rawQ (⟨0,0⟩ : QC)).cells,(rawQ (⟨0,0⟩ : QC)).cells,(rawQ (⟨1,0⟩ : QC)).cells,cq (⟨1,0⟩ : QC),cq (⟨0,0⟩ : QC),cq (⟨0,2⟩ : QC),cq (⟨2,0⟩ : QC),cq (⟨0,2⟩ : QC),cq (⟨0,-2⟩ : QC),(rawQ (⟨0,1⟩ : QC)).cells,(rawQ (⟨0,-1⟩ : QC)).cells,(rawQ (⟨0,1⟩ : QC)).cells,(rawQ (⟨0,-1⟩ : QC)).cells].flatten) tys_ok mixed
     [gs (pGInt 1 0 (by decide) (by decide) (by decide) (by decide)) [.c (.lit (.int .i64 1)),.c (.lit (.int .i64 0))] (.r (.row (syms 0 8))),gs (pGInt 0 0 (by decide) (by decide) (by decide) (by decide)) [.c (.lit (.int .i64 0)),.c (.lit (.int .i64 0))] (.r (.row (syms 8 8))),gs (pGInt (-1) 0 (by decide) (by decide) (by decide) (by decide)) [.c (.lit (.int .i64 (-1))),.c (.lit (.int .i64 0))] (.r (.row (syms 16 8))),gs ((((fKind (⟨1,0⟩:QC) (⟨1,0⟩:QC) (⟨0,0⟩:QC) (⟨1,0⟩:QC) (short_c (by decide +kernel)) (short_c (by decide +kernel)) (short_c (by decide +kernel)) (short_c (by decide +kernel)) (by decide +kernel) (by decide +kernel)).f (by decide +kernel)).t (by decide +kernel)).t (by decide +kernel)) [.row (flA [syms 0 8,syms 0 16,syms 0 8,[.lit (.bool false)]])] (.tup [.c (.lit (.int .i64 2)),.c (.lit (.int .i64 0))]),gs (((fOrder (⟨0,0⟩:QC) (⟨-1,0⟩:QC) (⟨1,0⟩:QC) (⟨0,0⟩:QC) (short_c (by decide +kernel)) (short_c (by decide +kernel)) (short_c (by decide +kernel)) (short_c (by decide +kernel)) (by decide +kernel) (by decide +kernel)).f (by decide +kernel)).t (by decide +kernel)) [.row (flA [syms 8 16,syms 0 16,[.lit (.bool false)]])] (.tup [.c (.lit (.int .i64 2)),.c (.lit (.int .i64 0))]),gs (fasked (⟨0,0⟩:QC) (⟨-1,0⟩:QC) (⟨1,0⟩:QC) (⟨0,0⟩:QC) (short_c (by decide +kernel)) (short_c (by decide +kernel)) (short_c (by decide +kernel)) (short_c (by decide +kernel)) (by decide +kernel) (by decide +kernel)) [.row (flA [syms 8 16,syms 0 16,[.lit (.bool false)]])] (.r (.c (.lit (.int .i64 0)))),gs (mOne) [] (.r (.row (flA [syms 24 32,[.lit (.bool false)]]))),gs (pQInt 1 0 (by decide) (by decide) (by decide) (by decide)) [.c (.lit (.int .i64 1)),.c (.lit (.int .i64 0))] (.r (sy [56,57])),gs (pGZero (rawQ (⟨1,0⟩:QC)) false ((fI (by decide +kernel)).trans rawQ_inj.symm)) [.row (syms 0 8)] (.r (.c (.lit (.bool false)))),gs (kends) [.row (flA [syms 8 16,syms 0 16,[.lit (.bool false)]])] (.tup [sy [58,59],sy [60,61],.c (.lit (.int .i64 0))]),gs (pQInt 2 0 (by decide) (by decide) (by decide) (by decide)) [.c (.lit (.int .i64 2)),.c (.lit (.int .i64 0))] (.r (sy [62,63])),gs (pAdd (⟨0,0⟩:QC) (⟨0,2⟩:QC) (ZL_int 0 0 (by decide) (by decide) (by decide) (by decide)) (ZL_int 0 2 (by decide) (by decide) (by decide) (by decide)) (by decide)) [sy [58,59],sy [60,61]] (.r (sy [64,65])),gs (pSub (⟨0,0⟩:QC) (⟨0,2⟩:QC) (ZL_int 0 0 (by decide) (by decide) (by decide) (by decide)) (ZL_int 0 2 (by decide) (by decide) (by decide) (by decide)) (by decide)) [sy [58,59],sy [60,61]] (.r (sy [66,67])),gs (pQZero (⟨0,2⟩:QC) false (fI (by decide +kernel))) [sy [60,61]] (.r (.c (.lit (.bool false)))),gs (pPPointC (⟨0,2⟩:QC) (⟨2,0⟩:QC) (⟨0,1⟩:QC) (ZL_int 0 2 (by decide) (by decide) (by decide) (by decide)) (ZL_int 2 0 (by decide) (by decide) (by decide) (by decide)) (by decide +kernel) (by decide +kernel) (short_c (by decide +kernel)) (by decide)) [.row [.sym 64,.sym 65,.sym 62,.sym 63]] (.tup [.row (flA [[.lit (.bool false)],syms 68 8]),.c (.lit (.int .i64 0))]),gs (pPPointC (⟨0,-2⟩:QC) (⟨2,0⟩:QC) (⟨0,-1⟩:QC) (ZL_int 0 (-2) (by decide) (by decide) (by decide) (by decide)) (ZL_int 2 0 (by decide) (by decide) (by decide) (by decide)) (by decide +kernel) (by decide +kernel) (short_c (by decide +kernel)) (by decide)) [.row [.sym 66,.sym 67,.sym 62,.sym 63]] (.tup [.row (flA [[.lit (.bool false)],syms 76 8]),.c (.lit (.int .i64 0))]),gs (pGInt 0 1 (by decide) (by decide) (by decide) (by decide)) [.c (.lit (.int .i64 0)),.c (.lit (.int .i64 1))] (.r (.row (syms 84 8))),gs (pGInt 0 (-1) (by decide) (by decide) (by decide) (by decide)) [.c (.lit (.int .i64 0)),.c (.lit (.int .i64 (-1)))] (.r (.row (syms 92 8)))]
     [bM (.row (flA [syms 8 16,syms 0 16,[.lit (.bool false)]])) (.row (flA [syms 24 32,[.lit (.bool false)]])) (⟨rawQ (⟨0,0⟩:QC),rawQ (⟨-1,0⟩:QC),rawQ (⟨1,0⟩:QC),rawQ (⟨0,0⟩:QC),false⟩:RawM) (⟨rawQ (⟨1,0⟩:QC),rawQ (⟨0,0⟩:QC),rawQ (⟨0,0⟩:QC),rawQ (⟨1,0⟩:QC),false⟩:RawM) false ((fI (by decide +kernel)).trans mk_inj),bG (.row (syms 68 8)) (.row (syms 84 8)) (rawQ (⟨0,1⟩:QC)) (rawQ (⟨0,1⟩:QC)) true (tI rfl),bG (.row (syms 76 8)) (.row (syms 92 8)) (rawQ (⟨0,-1⟩:QC)) (rawQ (⟨0,-1⟩:QC)) true (tI rfl)] [] ((.cons (n:=2000) Tryz.func18 eo18 (.cons (n:=2000) Tryz.func41 eo41 .nil)):FnsOk Tryz.prog _) 6 2 Tryz.func7 eo7 2000 [] (.r (.c (.lit (.bool true))))
end Go.Proofs.YtjlhiaafnpompaaGreat
set_option linter.unusedSimpArgs false
namespace Go.Proofs.YtjlhiaafnpompaaGreat
open Go.RowKit Tr
open Classical
theorem gSum(x y z:QC)(b_x:ShortZ x)(b_y:ShortZ y)(b_z:ShortZ z) :SpecM Tryz.prog true 17 [((rawQ x).cells++(rawQ y).cells++(rawQ z).cells,27)] [.sl 0 0 3 3] (if ShortZ ((((⟨0,0⟩:QC)+x)+y)+z) then .tup [.row ((rawQ ((((⟨0,0⟩:QC)+x)+y)+z)).cells),.c (gl (.int .i64 0))] else .tup [.row (zGG),.c (gl (.int .i64 4))]) :=
  have t1:=pNInt 0 0 (by decide) (by decide) (by decide) (by decide)
  have t2:=pNAdd (⟨0,0⟩:QC) x (ZL_int 0 0 (by decide) (by decide) (by decide) (by decide)) (ZL_short b_x) (by decide)
  have t3:=pNAdd ((⟨0,0⟩:QC)+x) y (ZL_add (ZL_int 0 0 (by decide) (by decide) (by decide) (by decide)) (ZL_short b_x)) (ZL_short b_y) (by decide)
  have t4:=pNAdd (((⟨0,0⟩:QC)+x)+y) z (ZL_add (ZL_add (ZL_int 0 0 (by decide) (by decide) (by decide) (by decide)) (ZL_short b_x)) (ZL_short b_y)) (ZL_short b_z) (by decide)
  (Classical.em (ShortZ ((((⟨0,0⟩ : QC) + x) + y) + z))).elim (fun h0 => .it h0 (ev_smi (L := [(rawQ x).cells,(rawQ y).cells,(rawQ z).cells,cn (⟨0,0⟩ : QC),cn x,cn y,cn z,cn ((⟨0,0⟩ : QC) + x),cn (((⟨0,0⟩ : QC) + x) + y),cn ((((⟨0,0⟩ : QC) + x) + y) + z),(rawQ ((((⟨0,0⟩ : QC) + x) + y) + z)).cells].flatten) tys_ok mixed
     [gs (t1) [.c (.lit (.int .i64 0)),.c (.lit (.int .i64 0))] (.r (sy [24,25])),gs (pEOf x b_x) [.row (syms 0 8)] (.tup [sy [26,27],.c (.lit (.bool true))]),gs (pEOf y b_y) [.row (syms 8 8)] (.tup [sy [28,29],.c (.lit (.bool true))]),gs (pEOf z b_z) [.row (syms 16 8)] (.tup [sy [30,31],.c (.lit (.bool true))]),gs (t2) [sy [24,25],sy [26,27]] (.r (sy [32,33])),gs (t3) [sy [32,33],sy [28,29]] (.r (sy [34,35])),gs (t4) [sy [34,35],sy [30,31]] (.r (sy [36,37])),gs (pNTold ((((⟨0,0⟩:QC)+x)+y)+z) ((ZL_add (ZL_add (ZL_add (ZL_int 0 0 (by decide) (by decide) (by decide) (by decide)) (ZL_short b_x)) (ZL_short b_y)) (ZL_short b_z)).mono (by omega)) h0) [sy [36,37]] (.tup [.row (syms 38 8),.c (.lit (.int .i64 0))])]
     [] [] ((.cons (n:=2000) Tryz.func51 eo51 (.cons (n:=2000) Tryz.func86 eo86 .nil)):FnsOk Tryz.prog _) 8 2 Tryz.func17 eo17 2000 [⟨syms 0 24,27,none⟩] [.c (.sl 0 0 3 3)] (.tup [.row (syms 38 8),.c (.lit (.int .i64 0))])))
   (fun h0=>.ie (fun h=>h0 h) (ev_smi (L:=[(rawQ x).cells,(rawQ y).cells,(rawQ z).cells,cn (⟨0,0⟩:QC),cn x,cn y,cn z,cn ((⟨0,0⟩:QC)+x),cn (((⟨0,0⟩:QC)+x)+y),cn ((((⟨0,0⟩:QC)+x)+y)+z)].flatten) tys_ok mixed
     [gs (t1) [.c (.lit (.int .i64 0)),.c (.lit (.int .i64 0))] (.r (sy [24,25])),gs (pEOf x b_x) [.row (syms 0 8)] (.tup [sy [26,27],.c (.lit (.bool true))]),gs (pEOf y b_y) [.row (syms 8 8)] (.tup [sy [28,29],.c (.lit (.bool true))]),gs (pEOf z b_z) [.row (syms 16 8)] (.tup [sy [30,31],.c (.lit (.bool true))]),gs (t2) [sy [24,25],sy [26,27]] (.r (sy [32,33])),gs (t3) [sy [32,33],sy [28,29]] (.r (sy [34,35])),gs (t4) [sy [34,35],sy [30,31]] (.r (sy [36,37])),gs (pNToldL ((((⟨0,0⟩:QC)+x)+y)+z) ((ZL_add (ZL_add (ZL_add (ZL_int 0 0 (by decide) (by decide) (by decide) (by decide)) (ZL_short b_x)) (ZL_short b_y)) (ZL_short b_z)).mono (by omega)) h0) [sy [36,37]] (.tup [.row (zGA),.c (.lit (.int .i64 4))])]
     [] [] ((.cons (n:=2000) Tryz.func51 eo51 (.cons (n:=2000) Tryz.func86 eo86 .nil)):FnsOk Tryz.prog _) 8 2 Tryz.func17 eo17 2000 [⟨syms 0 24,27,none⟩] [.c (.sl 0 0 3 3)] (.tup [.row (zGA),.c (.lit (.int .i64 4))])))
theorem fAlike(a b c d a2 b2 c2 d2:QC)(b_a:ShortZ a)(b_b:ShortZ b)(b_c:ShortZ c)(b_d:ShortZ d)(b_a2:ShortZ a2)(b_b2:ShortZ b2)(b_c2:ShortZ c2)(b_d2:ShortZ d2)(hd:¬(((a*d) - (b*c))=(⟨0,0⟩:QC)))(hn:c=(⟨1,0⟩:QC)∨(c=(⟨0,0⟩:QC)∧d=(⟨1,0⟩:QC)))(hd2:¬(((a2*d2) - (b2*c2))=(⟨0,0⟩:QC)))(hn2:c2=(⟨1,0⟩:QC)∨(c2=(⟨0,0⟩:QC)∧d2=(⟨1,0⟩:QC))):SpecC Tryz.prog true 13 [.row ((rawQ a).cells++(rawQ b).cells++(rawQ c).cells++(rawQ d).cells++[gl (.bool false)]),.row ((rawQ a2).cells++(rawQ b2).cells++(rawQ c2).cells++(rawQ d2).cells++[gl (.bool false)])] (if a=(⟨1,0⟩:QC)∧b=(⟨0,0⟩:QC)∧c=(⟨0,0⟩:QC)∧d=(⟨1,0⟩:QC) then if a=a2∧b=b2∧c=c2∧d=d2 then .tup [.c (gl (.bool true)),.c (gl (.int .i64 0))] else .tup [.c (gl (.bool false)),.c (gl (.int .i64 0))] else if a2=(⟨1,0⟩:QC)∧b2=(⟨0,0⟩:QC)∧c2=(⟨0,0⟩:QC)∧d2=(⟨1,0⟩:QC) then if a=a2∧b=b2∧c=c2∧d=d2 then .tup [.c (gl (.bool true)),.c (gl (.int .i64 0))] else .tup [.c (gl (.bool false)),.c (gl (.int .i64 0))] else if(e1 a b c d)=(e1 a2 b2 c2 d2) then .tup [.c (gl (.bool true)),.c (gl (.int .i64 0))] else .tup [.c (gl (.bool false)),.c (gl (.int .i64 0))]) :=
  have t1:=mCheck a b c d false b_a b_b b_c b_d
  have t2:=mCheck a2 b2 c2 d2 false b_a2 b_b2 b_c2 b_d2
  have t3:=fMap a b c d false b_a b_b b_c b_d
  have t4:=fsgn a b c d false ((ZL_short b_a).mono (by omega)) ((ZL_short b_b).mono (by omega)) ((ZL_short b_c).mono (by omega)) ((ZL_short b_d).mono (by omega)) hd
  have t5:=fMap a2 b2 c2 d2 false b_a2 b_b2 b_c2 b_d2
  have t6:=fsgn a2 b2 c2 d2 false ((ZL_short b_a2).mono (by omega)) ((ZL_short b_b2).mono (by omega)) ((ZL_short b_c2).mono (by omega)) ((ZL_short b_d2).mono (by omega)) hd2
  have t7:=pQSame (e1 a b c d) (e1 a2 b2 c2 d2) (fsgn_b0_1 a b c d false (ZL_short b_a) (ZL_short b_b) (ZL_short b_c) (ZL_short b_d) hd) (fsgn_b0_1 a2 b2 c2 d2 false (ZL_short b_a2) (ZL_short b_b2) (ZL_short b_c2) (ZL_short b_d2) hd2) (by decide)
  (Classical.em (a = (⟨1,0⟩ : QC) ∧ b = (⟨0,0⟩ : QC) ∧ c = (⟨0,0⟩ : QC) ∧ d = (⟨1,0⟩ : QC))).elim (fun h0 => .it h0 ((Classical.em (a = a2 ∧ b = b2 ∧ c = c2 ∧ d = d2)).elim (fun h1 => .it h1 (ev_sp (L := [(rawQ a).cells,(rawQ b).cells,(rawQ c).cells,(rawQ d).cells,(rawQ a2).cells,(rawQ b2).cells,(rawQ c2).cells,(rawQ d2).cells,(rawQ (⟨1,0⟩ : QC)).cells,(rawQ (⟨0,0⟩ : QC)).cells,(rawQ (⟨0,0⟩ : QC)).cells,(rawQ (⟨1,0⟩ : QC)).cells].flatten) tys_ok mixed
     [gs ((t1.f hd).t hn) [.row (flA [syms 0 32,[.lit (.bool false)]])] (.r (.c (.lit (.int .i64 0)))),gs ((t2.f hd2).t hn2) [.row (flA [syms 32 32,[.lit (.bool false)]])] (.r (.c (.lit (.int .i64 0)))),gs (mOne) [] (.r (.row (flA [syms 64 32,[.lit (.bool false)]])))]
     [bM (.row (flA [syms 0 32,[.lit (.bool false)]])) (.row (flA [syms 64 32,[.lit (.bool false)]])) (⟨rawQ a,rawQ b,rawQ c,rawQ d,false⟩:RawM) (⟨rawQ (⟨1,0⟩:QC),rawQ (⟨0,0⟩:QC),rawQ (⟨0,0⟩:QC),rawQ (⟨1,0⟩:QC),false⟩:RawM) true ((tI h0).trans mk_inj),bM (.row (flA [syms 0 32,[.lit (.bool false)]])) (.row (flA [syms 32 32,[.lit (.bool false)]])) (⟨rawQ a,rawQ b,rawQ c,rawQ d,false⟩:RawM) (⟨rawQ a2,rawQ b2,rawQ c2,rawQ d2,false⟩:RawM) true ((tI h1).trans mk_inj)] [] Tryz.func13 eo13 2000 [.row (flA [syms 0 32,[.lit (.bool false)]]),.row (flA [syms 32 32,[.lit (.bool false)]])] (.tup [.c (.lit (.bool true)),.c (.lit (.int .i64 0))])))
   (fun h1=>.ie (fun h=>h1 h) (ev_sp (L:=[(rawQ a).cells,(rawQ b).cells,(rawQ c).cells,(rawQ d).cells,(rawQ a2).cells,(rawQ b2).cells,(rawQ c2).cells,(rawQ d2).cells,(rawQ (⟨1,0⟩:QC)).cells,(rawQ (⟨0,0⟩:QC)).cells,(rawQ (⟨0,0⟩:QC)).cells,(rawQ (⟨1,0⟩:QC)).cells].flatten) tys_ok mixed
     [gs ((t1.f hd).t hn) [.row (flA [syms 0 32,[.lit (.bool false)]])] (.r (.c (.lit (.int .i64 0)))),gs ((t2.f hd2).t hn2) [.row (flA [syms 32 32,[.lit (.bool false)]])] (.r (.c (.lit (.int .i64 0)))),gs (mOne) [] (.r (.row (flA [syms 64 32,[.lit (.bool false)]])))]
     [bM (.row (flA [syms 0 32,[.lit (.bool false)]])) (.row (flA [syms 64 32,[.lit (.bool false)]])) (⟨rawQ a,rawQ b,rawQ c,rawQ d,false⟩:RawM) (⟨rawQ (⟨1,0⟩:QC),rawQ (⟨0,0⟩:QC),rawQ (⟨0,0⟩:QC),rawQ (⟨1,0⟩:QC),false⟩:RawM) true ((tI h0).trans mk_inj),bM (.row (flA [syms 0 32,[.lit (.bool false)]])) (.row (flA [syms 32 32,[.lit (.bool false)]])) (⟨rawQ a,rawQ b,rawQ c,rawQ d,false⟩:RawM) (⟨rawQ a2,rawQ b2,rawQ c2,rawQ d2,false⟩:RawM) false ((fI h1).trans mk_inj)] [] Tryz.func13 eo13 2000 [.row (flA [syms 0 32,[.lit (.bool false)]]),.row (flA [syms 32 32,[.lit (.bool false)]])] (.tup [.c (.lit (.bool false)),.c (.lit (.int .i64 0))])))))
   (fun h0=>.ie (fun h=>h0 h) ((Classical.em (a2=(⟨1,0⟩:QC)∧b2=(⟨0,0⟩:QC)∧c2=(⟨0,0⟩:QC)∧d2=(⟨1,0⟩:QC))).elim (fun h1=>.it h1 ((Classical.em (a=a2∧b=b2∧c=c2∧d=d2)).elim (fun h2=>.it h2 (ev_sp (L:=[(rawQ a).cells,(rawQ b).cells,(rawQ c).cells,(rawQ d).cells,(rawQ a2).cells,(rawQ b2).cells,(rawQ c2).cells,(rawQ d2).cells,(rawQ (⟨1,0⟩:QC)).cells,(rawQ (⟨0,0⟩:QC)).cells,(rawQ (⟨0,0⟩:QC)).cells,(rawQ (⟨1,0⟩:QC)).cells].flatten) tys_ok mixed
     [gs ((t1.f hd).t hn) [.row (flA [syms 0 32,[.lit (.bool false)]])] (.r (.c (.lit (.int .i64 0)))),gs ((t2.f hd2).t hn2) [.row (flA [syms 32 32,[.lit (.bool false)]])] (.r (.c (.lit (.int .i64 0)))),gs (mOne) [] (.r (.row (flA [syms 64 32,[.lit (.bool false)]])))]
     [bM (.row (flA [syms 0 32,[.lit (.bool false)]])) (.row (flA [syms 64 32,[.lit (.bool false)]])) (⟨rawQ a,rawQ b,rawQ c,rawQ d,false⟩:RawM) (⟨rawQ (⟨1,0⟩:QC),rawQ (⟨0,0⟩:QC),rawQ (⟨0,0⟩:QC),rawQ (⟨1,0⟩:QC),false⟩:RawM) false ((fI h0).trans mk_inj),bM (.row (flA [syms 32 32,[.lit (.bool false)]])) (.row (flA [syms 64 32,[.lit (.bool false)]])) (⟨rawQ a2,rawQ b2,rawQ c2,rawQ d2,false⟩:RawM) (⟨rawQ (⟨1,0⟩:QC),rawQ (⟨0,0⟩:QC),rawQ (⟨0,0⟩:QC),rawQ (⟨1,0⟩:QC),false⟩:RawM) true ((tI h1).trans mk_inj),bM (.row (flA [syms 0 32,[.lit (.bool false)]])) (.row (flA [syms 32 32,[.lit (.bool false)]])) (⟨rawQ a,rawQ b,rawQ c,rawQ d,false⟩:RawM) (⟨rawQ a2,rawQ b2,rawQ c2,rawQ d2,false⟩:RawM) true ((tI h2).trans mk_inj)] [] Tryz.func13 eo13 2000 [.row (flA [syms 0 32,[.lit (.bool false)]]),.row (flA [syms 32 32,[.lit (.bool false)]])] (.tup [.c (.lit (.bool true)),.c (.lit (.int .i64 0))])))
   (fun h2=>.ie (fun h=>h2 h) (ev_sp (L:=[(rawQ a).cells,(rawQ b).cells,(rawQ c).cells,(rawQ d).cells,(rawQ a2).cells,(rawQ b2).cells,(rawQ c2).cells,(rawQ d2).cells,(rawQ (⟨1,0⟩:QC)).cells,(rawQ (⟨0,0⟩:QC)).cells,(rawQ (⟨0,0⟩:QC)).cells,(rawQ (⟨1,0⟩:QC)).cells].flatten) tys_ok mixed
     [gs ((t1.f hd).t hn) [.row (flA [syms 0 32,[.lit (.bool false)]])] (.r (.c (.lit (.int .i64 0)))),gs ((t2.f hd2).t hn2) [.row (flA [syms 32 32,[.lit (.bool false)]])] (.r (.c (.lit (.int .i64 0)))),gs (mOne) [] (.r (.row (flA [syms 64 32,[.lit (.bool false)]])))]
     [bM (.row (flA [syms 0 32,[.lit (.bool false)]])) (.row (flA [syms 64 32,[.lit (.bool false)]])) (⟨rawQ a,rawQ b,rawQ c,rawQ d,false⟩:RawM) (⟨rawQ (⟨1,0⟩:QC),rawQ (⟨0,0⟩:QC),rawQ (⟨0,0⟩:QC),rawQ (⟨1,0⟩:QC),false⟩:RawM) false ((fI h0).trans mk_inj),bM (.row (flA [syms 32 32,[.lit (.bool false)]])) (.row (flA [syms 64 32,[.lit (.bool false)]])) (⟨rawQ a2,rawQ b2,rawQ c2,rawQ d2,false⟩:RawM) (⟨rawQ (⟨1,0⟩:QC),rawQ (⟨0,0⟩:QC),rawQ (⟨0,0⟩:QC),rawQ (⟨1,0⟩:QC),false⟩:RawM) true ((tI h1).trans mk_inj),bM (.row (flA [syms 0 32,[.lit (.bool false)]])) (.row (flA [syms 32 32,[.lit (.bool false)]])) (⟨rawQ a,rawQ b,rawQ c,rawQ d,false⟩:RawM) (⟨rawQ a2,rawQ b2,rawQ c2,rawQ d2,false⟩:RawM) false ((fI h2).trans mk_inj)] [] Tryz.func13 eo13 2000 [.row (flA [syms 0 32,[.lit (.bool false)]]),.row (flA [syms 32 32,[.lit (.bool false)]])] (.tup [.c (.lit (.bool false)),.c (.lit (.int .i64 0))])))))
   (fun h1=>.ie (fun h=>h1 h) ((Classical.em ((e1 a b c d)=(e1 a2 b2 c2 d2))).elim (fun h2=>.it h2 (ev_sp (L:=[(rawQ a).cells,(rawQ b).cells,(rawQ c).cells,(rawQ d).cells,(rawQ a2).cells,(rawQ b2).cells,(rawQ c2).cells,(rawQ d2).cells,(rawQ (⟨1,0⟩:QC)).cells,(rawQ (⟨0,0⟩:QC)).cells,(rawQ (⟨0,0⟩:QC)).cells,(rawQ (⟨1,0⟩:QC)).cells,cq a,cq b,cq c,cq d,cq (e1 a b c d),cq a2,cq b2,cq c2,cq d2,cq (e1 a2 b2 c2 d2)].flatten) tys_ok mixed
     [gs ((t1.f hd).t hn) [.row (flA [syms 0 32,[.lit (.bool false)]])] (.r (.c (.lit (.int .i64 0)))),gs ((t2.f hd2).t hn2) [.row (flA [syms 32 32,[.lit (.bool false)]])] (.r (.c (.lit (.int .i64 0)))),gs (mOne) [] (.r (.row (flA [syms 64 32,[.lit (.bool false)]]))),gs (t3) [.row (flA [syms 0 32,[.lit (.bool false)]])] (.r (.row (flA [syms 96 8,[.lit (.bool false)]]))),gs (t4) [.row (flA [syms 96 8,[.lit (.bool false)]])] (.r (sy [104,105])),gs (t5) [.row (flA [syms 32 32,[.lit (.bool false)]])] (.r (.row (flA [syms 106 8,[.lit (.bool false)]]))),gs (t6) [.row (flA [syms 106 8,[.lit (.bool false)]])] (.r (sy [114,115])),gs (t7 true (tI h2)) [sy [104,105],sy [114,115]] (.r (.c (.lit (.bool true))))]
     [bM (.row (flA [syms 0 32,[.lit (.bool false)]])) (.row (flA [syms 64 32,[.lit (.bool false)]])) (⟨rawQ a,rawQ b,rawQ c,rawQ d,false⟩:RawM) (⟨rawQ (⟨1,0⟩:QC),rawQ (⟨0,0⟩:QC),rawQ (⟨0,0⟩:QC),rawQ (⟨1,0⟩:QC),false⟩:RawM) false ((fI h0).trans mk_inj),bM (.row (flA [syms 32 32,[.lit (.bool false)]])) (.row (flA [syms 64 32,[.lit (.bool false)]])) (⟨rawQ a2,rawQ b2,rawQ c2,rawQ d2,false⟩:RawM) (⟨rawQ (⟨1,0⟩:QC),rawQ (⟨0,0⟩:QC),rawQ (⟨0,0⟩:QC),rawQ (⟨1,0⟩:QC),false⟩:RawM) false ((fI h1).trans mk_inj)] [] Tryz.func13 eo13 2000 [.row (flA [syms 0 32,[.lit (.bool false)]]),.row (flA [syms 32 32,[.lit (.bool false)]])] (.tup [.c (.lit (.bool true)),.c (.lit (.int .i64 0))])))
   (fun h2=>.ie (fun h=>h2 h) (ev_sp (L:=[(rawQ a).cells,(rawQ b).cells,(rawQ c).cells,(rawQ d).cells,(rawQ a2).cells,(rawQ b2).cells,(rawQ c2).cells,(rawQ d2).cells,(rawQ (⟨1,0⟩:QC)).cells,(rawQ (⟨0,0⟩:QC)).cells,(rawQ (⟨0,0⟩:QC)).cells,(rawQ (⟨1,0⟩:QC)).cells,cq a,cq b,cq c,cq d,cq (e1 a b c d),cq a2,cq b2,cq c2,cq d2,cq (e1 a2 b2 c2 d2)].flatten) tys_ok mixed
     [gs ((t1.f hd).t hn) [.row (flA [syms 0 32,[.lit (.bool false)]])] (.r (.c (.lit (.int .i64 0)))),gs ((t2.f hd2).t hn2) [.row (flA [syms 32 32,[.lit (.bool false)]])] (.r (.c (.lit (.int .i64 0)))),gs (mOne) [] (.r (.row (flA [syms 64 32,[.lit (.bool false)]]))),gs (t3) [.row (flA [syms 0 32,[.lit (.bool false)]])] (.r (.row (flA [syms 96 8,[.lit (.bool false)]]))),gs (t4) [.row (flA [syms 96 8,[.lit (.bool false)]])] (.r (sy [104,105])),gs (t5) [.row (flA [syms 32 32,[.lit (.bool false)]])] (.r (.row (flA [syms 106 8,[.lit (.bool false)]]))),gs (t6) [.row (flA [syms 106 8,[.lit (.bool false)]])] (.r (sy [114,115])),gs (t7 false (fI h2)) [sy [104,105],sy [114,115]] (.r (.c (.lit (.bool false))))]
     [bM (.row (flA [syms 0 32,[.lit (.bool false)]])) (.row (flA [syms 64 32,[.lit (.bool false)]])) (⟨rawQ a,rawQ b,rawQ c,rawQ d,false⟩:RawM) (⟨rawQ (⟨1,0⟩:QC),rawQ (⟨0,0⟩:QC),rawQ (⟨0,0⟩:QC),rawQ (⟨1,0⟩:QC),false⟩:RawM) false ((fI h0).trans mk_inj),bM (.row (flA [syms 32 32,[.lit (.bool false)]])) (.row (flA [syms 64 32,[.lit (.bool false)]])) (⟨rawQ a2,rawQ b2,rawQ c2,rawQ d2,false⟩:RawM) (⟨rawQ (⟨1,0⟩:QC),rawQ (⟨0,0⟩:QC),rawQ (⟨0,0⟩:QC),rawQ (⟨1,0⟩:QC),false⟩:RawM) false ((fI h1).trans mk_inj)] [] Tryz.func13 eo13 2000 [.row (flA [syms 0 32,[.lit (.bool false)]]),.row (flA [syms 32 32,[.lit (.bool false)]])] (.tup [.c (.lit (.bool false)),.c (.lit (.int .i64 0))])))))))
end Go.Proofs.YtjlhiaafnpompaaGreat
namespace Go.Proofs.YtjlhiaafnpompaaGreat
open Go.RowKit Tr
open Classical
theorem eUndo(p:Q4)(hp:ZL4 p 200000000)(hd:dq p≠⟨0,0⟩):SpecC Tryz.prog true 22 [.row (mR p false)] (.r (.row (mR (inv4 p) false))):=by
 obtain⟨m1,m2,m3,m4⟩:=hp
 obtain⟨a,b,c,d⟩:=p
 unfold inv4
 by_cases hc:((⟨0,0⟩:QC) - c)=⟨0,0⟩
 ·have e:by4 (adj4 (a,b,c,d))=a:=if_pos hc
  have k:a≠⟨0,0⟩:=dq_cd (adj_ne hd) hc
  unfold nm4
  rw[e]
  exact eUndo0 a b c d m1 m2 m3 m4 hc k
 ·have e:by4 (adj4 (a,b,c,d))=(⟨0,0⟩:QC) - c:=if_neg hc
  unfold nm4
  rw[e]
  exact eUndoC a b c d m1 m2 m3 m4 hc
theorem eToldOk(p:Q4)(hd:dq p≠⟨0,0⟩)(hn:Nf p)(hs:Sh4 p):SpecC Tryz.prog true 23 [.row (mR p false)] (.tup [.row (mQ p false),.c (gl (.int .i64 0))]):=by
 have k:=eTold false p (hs.zl.mono (by decide)) hd
 rw[nm4_id hn] at k
 exact k.t hs
theorem inv_nf{m:Q4}(hd:dq m≠⟨0,0⟩):Nf (inv4 m):=nm4_nf (adj_ne hd)
theorem inv_dq{m:Q4}(hd:dq m≠⟨0,0⟩):dq (inv4 m)≠⟨0,0⟩:=nm4_dq (adj_ne hd)
theorem inv_ok{m:Q4}(hd:dq m≠⟨0,0⟩)(hs:Sh4 (inv4 m)):MapOk (inv4 m):=⟨hs,inv_nf hd,inv_dq hd⟩
theorem els_ok{b m:Q4}(hb:dq b≠⟨0,0⟩)(hm:dq m≠⟨0,0⟩)(hs:Sh4 (els b m)):MapOk (els b m):=by
 rw[els_eq hb hm] at hs ⊢
 exact⟨hs,nm4_nf (W2_ne hb hm),nm4_dq (W2_ne hb hm)⟩
theorem eInv(m:Q4)(h:MapOk m)(hs:Sh4 (inv4 m)):SpecC Tryz.prog true 8 [.row (mQ m false)] (.tup [.row (mQ (inv4 m) false),.c (gl (.int .i64 0))]) :=
  ev_sp (L := mQ m false ++ mR m false ++ mR (inv4 m) false ++ mQ (inv4 m) false) tys_ok mixed
     [gs (eOpenOk m false h) [.row (syms 0 33)] (.tup [.row (syms 33 9),.c (.lit (.bool true))]),gs (eUndo m (h.1.zl.mono (by decide)) h.2.2) [.row (syms 33 9)] (.r (.row (syms 42 9))),gs (eToldOk (inv4 m) (inv_dq h.2.2) (inv_nf h.2.2) hs) [.row (syms 42 9)] (.tup [.row (syms 51 33),.c (.lit (.int .i64 0))])]
     [] [] Tryz.func8 eo8 2000 [.row (syms 0 33)] (.tup [.row (syms 51 33),.c (.lit (.int .i64 0))])
theorem ordS_is(s:QC):ordS s=0∧(s≠⟨0,0⟩∧s≠⟨1,0⟩∧s≠⟨2,0⟩∧s≠⟨3,0⟩)∨ordS s=2∧s=⟨0,0⟩∨ordS s=3∧s=⟨1,0⟩∨ordS s=4∧s=⟨2,0⟩∨ordS s=6∧s=⟨3,0⟩:=by
 unfold ordS
 by_cases h0:s=⟨0,0⟩
 ·rw[if_pos h0]; exact .inr (.inl ⟨rfl,h0⟩)
 rw[if_neg h0]
 by_cases h1:s=⟨1,0⟩
 ·rw[if_pos h1]; exact .inr (.inr (.inl ⟨rfl,h1⟩))
 rw[if_neg h1]
 by_cases h2:s=⟨2,0⟩
 ·rw[if_pos h2]; exact .inr (.inr (.inr (.inl ⟨rfl,h2⟩)))
 rw[if_neg h2]
 by_cases h3:s=⟨3,0⟩
 ·rw[if_pos h3]; exact .inr (.inr (.inr (.inr ⟨rfl,h3⟩)))
 ·rw[if_neg h3]; exact .inl ⟨rfl,h0,h1,h2,h3⟩
theorem ord_chain{s:QC}{f:FuncId}{fa:List FR}{r2 r3 r4 r6 r0:FV}(A:SpecC Tryz.prog true f fa (if s=⟨0,0⟩ then r2 else if s=⟨1,0⟩ then r3 else if s=⟨2,0⟩ then r4 else if s=⟨3,0⟩ then r6 else r0)) :
  SpecC Tryz.prog true f fa (if ordS s=2 then r2 else if ordS s=3 then r3 else if ordS s=4 then r4 else if ordS s=6 then r6 else r0):=by
 rcases ordS_is s with⟨e,h0,h1,h2,h3⟩|⟨e,h⟩|⟨e,h⟩|⟨e,h⟩|⟨e,h⟩
 ·rw[e]; rw[if_neg h0,if_neg h1,if_neg h2,if_neg h3] at A; exact A
 ·rw[e]; rw[if_pos h] at A; exact A
 ·rw[e]; rw[if_neg (by rw[h]; decide +kernel),if_pos h] at A; exact A
 ·rw[e]; rw[if_neg (by rw[h]; decide +kernel),if_neg (by rw[h]; decide +kernel),if_pos h] at A; exact A
 ·rw[e]; rw[if_neg (by rw[h]; decide +kernel),if_neg (by rw[h]; decide +kernel),if_neg (by rw[h]; decide +kernel),if_pos h] at A; exact A
abbrev OrdOf(q:Q4)(n:Int):Prop:=SpecC Tryz.prog true 12 [.row (mQ q false)] (.tup [.c (gx (.int .i64 n)),.c (gl (.int .i64 0))])
abbrev KindOf(q:Q4)(k:Int):Prop:=SpecC Tryz.prog true 11 [.row (mQ q false)] (.tup [.c (gx (.int .i64 k)),.c (gl (.int .i64 0))])
theorem ord_of{a b c d:QC}(hm:MapOk (a,b,c,d)):OrdOf (a,b,c,d) (if Scal (a,b,c,d) then 1 else(ordS (e1 a b c d):Int)):=by
 obtain⟨⟨ha,hb,hc,hd⟩,hn,hdt⟩:=hm
 have A:=fOrder a b c d ha hb hc hd hdt hn
 by_cases hs:b=⟨0,0⟩∧c=⟨0,0⟩∧a=d
 ·rw[if_pos (show Scal (a,b,c,d) from hs)]
  exact((A.t hs.1).t hs.2.1).t hs.2.2
 rw[if_neg (show ¬Scal (a,b,c,d) from hs)]
 have A:=ord_chain (show SpecC _ _ _ _ (if(e1 a b c d)=⟨0,0⟩ then _ else if(e1 a b c d)=⟨1,0⟩ then _ else if(e1 a b c d)=⟨2,0⟩ then _ else if(e1 a b c d)=⟨3,0⟩ then _ else _) from by
  by_cases k1:b=⟨0,0⟩
  ·have A:=A.t k1
   by_cases k2:c=⟨0,0⟩
   ·exact(A.t k2).f (fun k3=>hs ⟨k1,k2,k3⟩)
   ·exact A.f k2
  ·exact A.f k1)
 rcases ordS_is (e1 a b c d) with⟨e,_⟩|⟨e,_⟩|⟨e,_⟩|⟨e,_⟩|⟨e,_⟩<;>rw[e] at A ⊢<;>exact A
theorem ord_same{m n:Q4}(hm:MapOk m)(hn:MapOk n)(he:e1 m.1 m.2.1 m.2.2.1 m.2.2.2=e1 n.1 n.2.1 n.2.2.1 n.2.2.2)(hs:Scal m↔Scal n):∃ o:Int,OrdOf m o∧OrdOf n o:=by
 obtain⟨a,b,c,d⟩:=m
 obtain⟨a2,b2,c2,d2⟩:=n
 refine⟨_,ord_of hm,?_⟩
 have k:=ord_of hn
 rw[←show e1 a b c d=e1 a2 b2 c2 d2 from he] at k
 simp only[hs]
 exact k
theorem kind_same{m n:Q4}(hm:MapOk m)(hn:MapOk n)(he:e1 m.1 m.2.1 m.2.2.1 m.2.2.2=e1 n.1 n.2.1 n.2.2.1 n.2.2.2)(hs:m=q1↔n=q1):∃ o:Int,KindOf m o∧KindOf n o:=by
 obtain⟨a,b,c,d⟩:=m
 obtain⟨a2,b2,c2,d2⟩:=n
 obtain⟨⟨ha,hb,hc,hd⟩,hnf,hdt⟩:=hm
 obtain⟨⟨ha2,hb2,hc2,hd2⟩,hnf2,hdt2⟩:=hn
 have A:=fKind a b c d ha hb hc hd hdt hnf
 have B:=fKind a2 b2 c2 d2 ha2 hb2 hc2 hd2 hdt2 hnf2
 rw[←show e1 a b c d=e1 a2 b2 c2 d2 from he] at B
 simp only[q1,Prod.mk.injEq] at hs
 by_cases h1:(a=(⟨1,0⟩:QC)∧b=(⟨0,0⟩:QC)∧c=(⟨0,0⟩:QC)∧d=(⟨1,0⟩:QC))
 ·exact⟨1,A.t h1,B.t (hs.1 h1)⟩
 have A:=A.f h1
 have B:=B.f (fun h=>h1 (hs.2 h))
 by_cases i1:(((e1 a b c d).im).num.sign)=0
 ·have A:=A.t i1
  have B:=B.t i1
  by_cases i2:(cmpR ((e1 a b c d).re) (4:Rat))=0
  ·exact⟨2,A.t i2,B.t i2⟩
  have A:=A.f i2
  have B:=B.f i2
  by_cases i3:(cmpR ((e1 a b c d).re) (4:Rat))=(-1)
  ·have A:=A.t i3
   have B:=B.t i3
   by_cases i4:(((e1 a b c d).re).num.sign)≥0
   ·exact⟨3,A.t i4,B.t i4⟩
   have A:=A.f i4
   have B:=B.f i4
   by_cases i5:(cmpR ((e1 a b c d).re) (4:Rat))=1
   ·exact⟨4,A.t i5,B.t i5⟩
   ·exact⟨5,A.f i5,B.f i5⟩
  have A:=A.f i3
  have B:=B.f i3
  by_cases i5:(cmpR ((e1 a b c d).re) (4:Rat))=1
  ·exact⟨4,A.t i5,B.t i5⟩
  ·exact⟨5,A.f i5,B.f i5⟩
 ·exact⟨5,A.f i1,B.f i1⟩
theorem one_scal4{m:Q4}(h:Nf m):m=q1↔Scal m:=by
 obtain⟨a,b,c,d⟩:=m
 constructor
 ·intro e; rw[e]; exact⟨rfl,rfl,rfl⟩
 ·rintro⟨h1,h2,h3⟩
  simp only at h1 h2 h3
  subst h1; subst h2; subst h3
  rcases h with h|⟨_,h⟩
  ·exact absurd (show(⟨0,0⟩:QC)=⟨1,0⟩ from h) (by decide)
  ·simp only at h; rw[h]; rfl
end Go.Proofs.YtjlhiaafnpompaaGreat
