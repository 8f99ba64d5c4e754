/- Laws for the walk. -/
import Derived.Test.YthklnbaddobieaaGreatVaw
import Derived.Test.YthklnbaddobieaaGreatVbe
set_option linter.unusedVariables false
set_option maxHeartbeats 4000000
set_option linter.unusedSimpArgs false
namespace Tr
open Ieee
theorem f64_fun{q:Rat}{x y:Nat}(hx:F64 q x)(hy:F64 q y):x=y:=by
 obtain⟨B,h1,rfl⟩:=hx
 obtain⟨C,h2,rfl⟩:=hy
 rw[nearB_fun h1 h2]
end Tr
namespace Go.Proofs.YthklnbaddobieaaGreat
open Go.RowKit Tr
theorem RL_sF{q:Rat}(h:ShortF q):RL q 1024:=⟨Nat.le_trans (wl_size (numS_strN _)) h.1,Nat.le_trans (wl_size (numS_strN _)) h.2⟩
def E66:Nat:=2112
theorem E66_eq:E66=2112:=rfl
theorem vv_lt{b:Nat}(hb:b≤GW):VV b<2 ^ E66:=by
 refine Nat.lt_of_le_of_lt (VV_le hb) ?_
 have e:GW=Bt (U44+1) 9007199254740991:=by unfold GW Bt; rw[U44_eq]
 rw[e,VV_bt ⟨by decide,.inr (by decide)⟩]
 have h1:(9007199254740991:Nat)*2 ^ (U44+1)<2 ^ 53*2 ^ (U44+1):=Nat.mul_lt_mul_of_pos_right (by decide) (Nat.two_pow_pos _)
 rw[←Nat.pow_add] at h1
 refine Nat.lt_of_lt_of_le h1 (Nat.pow_le_pow_right (by decide) ?_)
 rw[U44_eq,E66_eq]; decide
theorem wl_of{n j:Nat}(h:n<2 ^ (32*j)):(words n).length≤j:=by
 refine words_length_le ?_
 rw[show(4294967296:Nat)=2 ^ 32 by decide,←Nat.pow_mul]; exact h
theorem wl_at{n e:Nat}(j:Nat)(h:n<2 ^ e)(he:e=32*j):(words n).length≤j:=by subst he; exact wl_of h
theorem wl_66{n:Nat}(h:n<2 ^ E66):(words n).length≤66:=wl_at 66 h E66_eq
theorem fq_divInt(s:Bool)(b:Nat):fq s b=Rat.divInt (sgv s b) ((2 ^ UU:Nat):Int):=by
 unfold fq; rw[Rat.divInt_eq_div]; rfl
theorem uu_int:((2 ^ UU:Nat):Int)≠0:=by have:=Nat.two_pow_pos UU; omega
theorem uu_wl:(words (2 ^ UU)).length≤66:=wl_66 (Nat.pow_lt_pow_right (by decide) (by rw[UU_eq,E66_eq]; decide))
theorem RL_fq{s:Bool}{b:Nat}(hb:b≤GW):RL (fq s b) 66:=by
 rw[fq_divInt]
 refine RL_divInt uu_int ?_ ?_
 ·rw[sgv_abs]; exact wl_66 (vv_lt hb)
 ·rw[Int.natAbs_natCast]; exact uu_wl
structure RwF where
 n1:Bool
 n2:Bool
 s1:ByteArray
 s2:ByteArray
def RwF.val(f:RwF):Value:=.agg #[.bool f.n1,.string f.s1,.bool f.n2,.string f.s2]
def RwF.cells(f:RwF):List GF:=[gx (.bool f.n1),gx (.string f.s1),gx (.bool f.n2),gx (.string f.s2)]
theorem pure_of{P:Program}{f:FuncId}{vs:List Value}{v:Value}(h:∀ w,Calls P f vs.toArray w fun e w'=>e=.returned v∧w=w'):PureC P f vs v:=fun w=>(h w).mono fun e w' ⟨h1,h2⟩=>⟨h1,by subst h2; exact Below.refl _ _⟩
theorem aFMay(f:RwF)(r:Bool)(hr:r=true↔FracOk f.val):SpecC Tryz.prog true 22 [.row f.cells] (B1 r) :=
 spec1 eo22 fun w A u _ _ hu=>by
  rw[(FR.val_ok (u:=f.val) (x:=.row f.cells) (by kernel_rfl)).1 hu]
  exact(May_free f.n1 f.n2 f.s1 f.s2 r hr w).mono fun r' w' h=>⟨_,h.1,rfl,h.2⟩
theorem aFMayQ(q:Rat)(h:ShortF q):SpecC Tryz.prog true 22 [F1 q] (.r (.c (gl (.bool true)))) :=
 aFMay ⟨decide (q.num<0),false,strN q.num.natAbs,strN q.den⟩ true ⟨fun _=>⟨q,rfl,h.1,h.2⟩,fun _=>rfl⟩
theorem den_str(q:Rat):numS (strN q.den)≠0:=by rw[numS_strN]; exact q.den_nz
theorem aXRat(q:Rat)(h:ShortF q):SpecC Tryz.prog true 35 [F1 q] (.r (.c (gr q))) :=
 spec1 eo35 fun w A u hR _ hu=>by
  rw[(FR.val_ok (u:=encF q) (x:=.row (rF q)) (by kernel_rfl)).1 hu]
  refine(XRat_any _ _ _ _ (den_str q) (Nat.lt_of_le_of_lt h.1 (by decide)) (Nat.lt_of_le_of_lt h.2 (by decide)) w).mono ?_
  rintro e w' ⟨v,h1,h2⟩
  rw[encF_divInt rfl] at h2
  exact⟨v,h1,h2.2 A (hR rfl),h2.1⟩
theorem aF64(q:Rat){x:Nat}(hF:F64 q x)(hl:RL q 2048):SpecC Tryz.prog true 36 [.c (gr q)] (.tup [.c (gx (.float .f64 x)),.c ga]) :=
 spec1 eo36 fun w A u hR _ hu=>(F64_any q u A w hu hl).mono fun e w' ⟨x',b,h1,h2,h3⟩=>by
  rw[f64_fun h2 hF] at h1
  exact⟨_,h1,⟨[.float .f64 x,.bool b],rfl,rfl,⟨rfl,fun k x=>by simp⟩,trivial⟩,h3⟩
theorem aFin{s:Bool}{b:Nat}(hb:b<9223372036854775808)(r:Bool)(hr:r=decide (b≤GW)):PureC Tryz.prog 37 [.float .f64 (sgw s b)] (.bool r) :=
 pure_of fun w=>by rw[hr]; exact nfinite_any hb w
theorem gw63{b:Nat}(h:b≤GW):b<9223372036854775808:=by unfold GW at h; omega
theorem gwT{b:Nat}(h:b≤GW):true=decide (b≤GW):=by simp[h]
-- @@GEN
theorem nFloat_ok(q:Rat)(h:ShortF q){s:Bool}{b:Nat}(hF:F64 q (sgw s b))(hb:b≤GW):SpecC Tryz.prog true 10 [F1 q] (.tup [.c (gx (.float .f64 (pz s b))),.c (gl (.int .i64 0))]) :=
  ev_sp (L:=rF q++[gr q,gx (.float .f64 (sgw s b)),ga,gx (.float .f64 (pz s b))]) tys_ok mixed
    [gs (aFMayQ q h) [.row [.sym 0,.sym 1,.sym 2,.sym 3]] (.r (.c (.lit (.bool true)))),gs (aXRat q h) [.row [.sym 0,.sym 1,.sym 2,.sym 3]] (.r (.c (.sym 4))),gs (aF64 q hF ((RL_sF h).mono (by decide))) [.c (.sym 4)] (.tup [.c (.sym 5),.c (.sym 6)]),gp 37 [.c (.sym 5)] (.r (.c (.lit (.bool true)))) eo37 (aFin (s:=s) (b:=b) (gw63 hb) true (gwT hb)) (by kernel_rfl) (by kernel_rfl)]
    [gb .add 28 (.c (.sym 5)) (.c (.lit (.flt 0))) (.sym 7) (fl_arith .add _ _ _ _ (add_zero (s:=s) (b:=b) hb)) (by kernel_rfl) (by kernel_rfl) (by kernel_rfl)] []
    Tryz.func10 eo10 100 [.row [.sym 0,.sym 1,.sym 2,.sym 3]] (.tup [.c (.sym 7),.c (.lit (.int .i64 0))])
theorem nFloat_inf(q:Rat)(h:ShortF q){s:Bool}(hF:F64 q (sgw s (GW+1))):SpecC Tryz.prog true 10 [F1 q] (.tup [.c (gl (.flt 0)),.c (gl (.int .i64 6))]) :=
  ev_sp (L:=rF q++[gr q,gx (.float .f64 (sgw s (GW+1))),ga]) tys_ok mixed
    [gs (aFMayQ q h) [.row [.sym 0,.sym 1,.sym 2,.sym 3]] (.r (.c (.lit (.bool true)))),gs (aXRat q h) [.row [.sym 0,.sym 1,.sym 2,.sym 3]] (.r (.c (.sym 4))),gs (aF64 q hF ((RL_sF h).mono (by decide))) [.c (.sym 4)] (.tup [.c (.sym 5),.c (.sym 6)]),gp 37 [.c (.sym 5)] (.r (.c (.lit (.bool false)))) eo37 (aFin (s:=s) (b:=GW+1) (by decide) false (by decide)) (by kernel_rfl) (by kernel_rfl)] [] []
    Tryz.func10 eo10 100 [.row [.sym 0,.sym 1,.sym 2,.sym 3]] (.tup [.c (.lit (.flt 0)),.c (.lit (.int .i64 6))])
def upV(r:Option Nat):FV:=match r with|some y=>.tup [.c (gx (.float .f64 y)),.c (gl (.int .i64 0))]|none=>.tup [.c (gl (.flt 0)),.c (gl (.int .i64 6))]
end Go.Proofs.YthklnbaddobieaaGreat
set_option linter.unusedSimpArgs false
namespace Tr
open Ieee
end Tr
namespace Go.Proofs.YthklnbaddobieaaGreat
open Go.RowKit Tr
def FltA(q:Rat)(r:Option Nat):Prop:=∃ B,NearB (uq q) B∧r=(if B≤GW then some (pz (decide (q<0)) B) else none)
theorem near_uq0{B:Nat}(h:NearB (uq 0) B):B=0:=nearB_fun h near_zero
theorem nFloat_any(q:Rat)(h:ShortF q){r:Option Nat}(hr:FltA q r):SpecC Tryz.prog true 10 [F1 q] (upV r):=by
 obtain⟨B,hB,rfl⟩:=hr
 have hF:F64 q (if q=0 then 0 else sgw (decide (q.num<0)) (min B (GW+1))):=⟨B,hB,rfl⟩
 by_cases hz:q=0
 ·subst hz
  have hb:=near_uq0 hB
  subst hb
  rw[if_pos rfl] at hF
  rw[if_pos (Nat.zero_le _)]
  exact nFloat_ok 0 h (s:=false) (b:=0) hF (Nat.zero_le _)
 ·rw[if_neg hz,num_neg] at hF
  by_cases hg:B≤GW
  ·rw[Nat.min_eq_left (by omega)] at hF
   rw[if_pos hg]
   exact nFloat_ok q h hF hg
  ·rw[Nat.min_eq_right (by omega)] at hF
   rw[if_neg hg]
   exact nFloat_inf q h hF
end Go.Proofs.YthklnbaddobieaaGreat
namespace Go.Proofs.YthklnbaddobieaaGreat
open Go.RowKit Go.Shelf Tr
attribute [local go_sem] Oper.semAt_some
theorem complex_end{R:Ending→World→Prop}{tmps:Array Value}{D m:Nat}{w:World}{a b:Nat}{z:Int}(t2:tmps.getD 2 undef=.pointer (some ⟨m,0,none⟩))(t3:tmps.getD 3 undef=.pointer (some ⟨m+1,0,none⟩))(hD:w.heap[D]?=some (.deferred (some [])))
  (h2:w.heap[m]?=some (.cells #[.complex .f64 a b] 54 (0,0))) (h3:w.heap[m+1]?=some (.cells #[.int .i64 z] 29 (0,0))) (n2:m≠D) (n3:m+1≠D)
  (hR:R (.returned (.tuple #[.complex .f64 a b,.int .i64 z])) (w.putObj D (.deferred none))):bodyPostM Fence.wide 3 Tryz.prog Tryz.f65 R .ret { tmps:=tmps,defers:=[{ target:=.collected D,args:=#[] }] } w:=by
 have g2:(w.putObj D (.deferred none)).heap[m]?=some (.cells #[.complex .f64 a b] 54 (0,0)):=(World.putObj_heap_other n2).trans h2
 have g3:(w.putObj D (.deferred none)).heap[m+1]?=some (.cells #[.int .i64 z] 29 (0,0)):=(World.putObj_heap_other n3).trans h3
 refine leave_marks (v:=.tuple #[.complex .f64 a b,.int .i64 z]) hD (results_two Tryz.results65 ?_ ?_) hR
 ·simp only[resV,t2,asAddr,Sem.run_bind,Sem.run_pure,Result.andThen_ok]
  exact load_one Tryz.underlying54 rfl (by unfold World.cell?; simp only[g2]; rfl)
 ·simp only[resV,t3,asAddr,Sem.run_bind,Sem.run_pure,Result.andThen_ok]
  exact load_one Tryz.underlying29 rfl (by unfold World.cell?; simp only[g3]; rfl)
def cAt(y:Nat→Nat)(pre:List Nat)(j:Nat):Nat:=if j∈pre.map (· % 2) then y j else 0
theorem cAt_same(y:Nat→Nat)(pre:List Nat)(x j:Nat)(h:x % 2=j):cAt y (pre++[x]) j=y j:=by unfold cAt; rw[if_pos]; simp[h]
theorem cAt_other(y:Nat→Nat)(pre:List Nat)(x j:Nat)(h:¬x % 2=j):cAt y (pre++[x]) j=cAt y pre j:=by
 unfold cAt
 have:j∈(pre++[x]).map (· % 2)↔j∈pre.map (· % 2):=by
  simp only[List.map_append,List.map_cons,List.map_nil,List.mem_append,List.mem_singleton]
  exact⟨fun k=>k.elim id (fun k=>absurd k.symm h),.inl⟩
 by_cases hj:j∈pre.map (· % 2)
 ·rw[if_pos hj,if_pos (this.2 hj)]
 ·rw[if_neg hj,if_neg (fun k=>hj (this.1 k))]
theorem ixM_eq(x j:Nat)(h:x % 2=j):ixM 2 x=(j:Nat):=by unfold ixM; rw[h]
set_option maxRecDepth 100000 in
theorem complex_walk(n1 n2 n3 n4:Bool)(s1 s2 s3 s4:ByteArray)(row:Nat→Array Value)(hr0:row 0=#[.bool n1,.string s1,.bool n2,.string s2])(hr1:row 1=#[.bool n3,.string s3,.bool n4,.string s4])
  (hz:∀ j,(row j).size=4) (hcl:∀ j,(row j).all (·.oneCell')=true) (y:Nat→Nat) (e:Nat→Int)
  (hM:∀ W,Calls Tryz.prog 128 #[.agg #[.bool n1,.string s1,.bool n2,.string s2,.bool n3,.string s3,.bool n4,.string s4]] W fun r w'=>r=.returned (.bool true)∧Below W.heap.size W w')
  (hF:∀ j W,Calls Tryz.prog 10 #[.agg (row j)] W fun r w'=>r=.returned (.tuple #[.float .f64 (y j),.int .i64 (e j)])∧Below W.heap.size W w')
  (RV:Value) (hv1:e 0=0∧e 1=0→RV=.tuple #[.complex .f64 (y 0) (y 1),.int .i64 0]) (hv2:¬(e 0=0∧e 1=0)→RV=.tuple #[.complex .f64 0 0,.int .i64 6])
  (w:World):Calls Tryz.prog 65 #[.agg #[.bool n1,.string s1,.bool n2,.string s2,.bool n3,.string s3,.bool n4,.string s4]] w fun r w'=>r=.returned RV∧Below w.heap.size w w':=by
 refine(callsIn_wide (n:=3)).1 ?_
 refine callsIn_of_wp_marks Tryz.func65 rfl trivial ?_ rfl
 refine wpIn_wide.2 ?_
 simp only[Tryz.ntmps65,List.size_toArray,List.length_cons,List.length_nil,Nat.reduceAdd,Nat.reduceSub,Array.replicate_succ,Array.replicate_zero,List.push_toArray,List.append_toArray,List.nil_append,List.cons_append]
 go_wp2_with fail
 obtain⟨wa,hwa⟩:∃ wa:World,wa=((w.alloc (Obj.cells #[.bool n1,.string s1,.bool n2,.string s2,.bool n3,.string s3,.bool n4,.string s4] 50)).alloc (Obj.cells #[Value.complex FloatKind.f64 0 0] 54)).alloc (Obj.cells #[Value.int IntKind.i64 0] 29):=⟨_,rfl⟩
 have hza:wa.heap.size=w.heap.size+3:=by rw[hwa]; simp
 have hba:Below w.heap.size w wa:=by rw[hwa]; exact((br.alloc (Nat.le_refl _) _).alloc (by simp) _).alloc (by simp only[World.size_alloc]; omega) _
 have hr1':wa.heap[w.heap.size]?=some (.cells #[.bool n1,.string s1,.bool n2,.string s2,.bool n3,.string s3,.bool n4,.string s4] 50 (0,0)):=by
  rw[hwa]
  exact((((Below.refl _ (w.alloc (Obj.cells #[.bool n1,.string s1,.bool n2,.string s2,.bool n3,.string s3,.bool n4,.string s4] 50))).alloc (Nat.le_refl _) _).alloc (by simp) _).block w.heap.size (by simp)).trans (World.alloc_heap_new w _)
 have hr2:wa.heap[w.heap.size+1]?=some (.cells #[.complex .f64 0 0] 54 (0,0)):=by
  rw[hwa]
  generalize hx:w.alloc (Obj.cells #[.bool n1,.string s1,.bool n2,.string s2,.bool n3,.string s3,.bool n4,.string s4] 50)=x
  have hs:w.heap.size+1=x.heap.size:=by rw[←hx]; simp
  rw[hs]
  exact(((Below.refl _ (x.alloc (Obj.cells #[Value.complex FloatKind.f64 0 0] 54))).alloc (Nat.le_refl _) _).block x.heap.size (by simp)).trans (World.alloc_heap_new x _)
 have hr3:wa.heap[w.heap.size+2]?=some (.cells #[.int .i64 0] 29 (0,0)):=by
  rw[hwa]
  generalize hx:(w.alloc (Obj.cells #[.bool n1,.string s1,.bool n2,.string s2,.bool n3,.string s3,.bool n4,.string s4] 50)).alloc (Obj.cells #[Value.complex FloatKind.f64 0 0] 54)=x
  have hs:w.heap.size+2=x.heap.size:=by rw[←hx]; simp
  rw[hs]
  exact World.alloc_heap_new x _
 rw[←hwa]
 clear hwa
 refine(hM _).mono ?_
 rintro r1 wb ⟨rfl,hbb⟩
 have hwb:Below w.heap.size w wb:=hba.trans (hbb.mono hba.size)
 have hsb:=hbb.size
 have hb1:wb.heap[w.heap.size]?=some (.cells #[.bool n1,.string s1,.bool n2,.string s2,.bool n3,.string s3,.bool n4,.string s4] 50 (0,0)):=(hbb.block _ (by omega)).trans hr1'
 have hb2:=(hbb.block _ (by omega)).trans hr2
 have hb3:=(hbb.block _ (by omega)).trans hr3
 have i4:((Tryz.prog).info? 25).map (·.size)=some 4:=by kernel_rfl
 obtain⟨wc,hwc⟩:∃ wc:World,wc=wb.alloc (Obj.cells #[Value.float FloatKind.f64 0,Value.float FloatKind.f64 0] 173):=⟨_,rfl⟩
 have hbc:Below wb.heap.size wb wc:=by rw[hwc]; exact br.alloc (Nat.le_refl _) _
 have hsc:wc.heap.size=wb.heap.size+1:=by rw[hwc]; simp
 have hc4:wc.heap[wb.heap.size]?=some (.cells #[Value.float FloatKind.f64 0,Value.float FloatKind.f64 0] 173 (0,0)):=by rw[hwc]; exact World.alloc_heap_new wb _
 have hc1:=(hbc.block _ (by omega)).trans hb1
 have l0:(loadVar 25 ⟨w.heap.size,0,none⟩).run Tryz.prog wc=.ok (.agg #[.bool n1,.string s1,.bool n2,.string s2]) wc:=run_loadVar_part wc _ 0 _ _ _ _ _ _ hc1 Tryz.underlying25 rfl (by rw[i4]; rfl) rfl
 have l1:(loadVar 25 ⟨w.heap.size,4,none⟩).run Tryz.prog wc=.ok (.agg #[.bool n3,.string s3,.bool n4,.string s4]) wc:=run_loadVar_part wc _ 4 _ _ _ _ _ _ hc1 Tryz.underlying25 rfl (by rw[i4]; rfl) rfl
 rw[hwc] at l0 l1
 go_wp2_with (first
  | (refine wpList_load_any rfl 25 _ rfl ⟨w.heap.size,0,none⟩ _ (by rfl) l0 ?_)
  | (refine wpList_load_any rfl 25 _ rfl ⟨w.heap.size,4,none⟩ _ (by rfl) l1 ?_)
  | fail)
 rw[←hwc]
 obtain⟨wd,hwd⟩:∃ wd:World,wd=wc.alloc (Obj.cells #[.bool n1,.string s1,.bool n2,.string s2,.bool n3,.string s3,.bool n4,.string s4] 25):=⟨_,rfl⟩
 have hcd:Below wc.heap.size wc wd:=by rw[hwd]; exact br.alloc (Nat.le_refl _) _
 have hsd:wd.heap.size=wb.heap.size+2:=by rw[hwd]; simp[hsc]
 have hd5:wd.heap[wb.heap.size+1]?=some (.cells #[.bool n1,.string s1,.bool n2,.string s2,.bool n3,.string s3,.bool n4,.string s4] 25 (0,0)):=by
  rw[hwd,←hsc]; exact World.alloc_heap_new wc _
 have hd4:=(hcd.block _ (by omega)).trans hc4
 rw[←hwd]
 clear hwc hwd
 refine(allF_any _ _ _ _).mono ?_
 rintro e1 we ⟨rfl,hwe⟩
 have hze:we.heap.size=wb.heap.size+3:=by rw[hwe]; simp[hsd]
 have hde:Below wd.heap.size wd we:=by rw[hwe]; exact br.alloc (Nat.le_refl _) _
 have he4:=(hde.block _ (by omega)).trans hd4
 have he5:=(hde.block _ (by omega)).trans hd5
 have he6:we.cell? ⟨wd.heap.size,0,none⟩=some (.slice (some ⟨wb.heap.size+1,0,none⟩) 2 2):=by rw[hwe]; simp[go_sem]
 rw[hsd] at he6
 rw[hsd]
 clear hwe
 have hbe:Below wb.heap.size wb we:=(hbc.trans (hcd.mono (by omega))).trans (hde.mono (by omega))
 have hwwe:Below w.heap.size w we:=hwb.trans (hbe.mono (by omega))
 go_wp2_with fail
 obtain⟨q,hq⟩:∃ q,q=wb.heap.size:=⟨_,rfl⟩
 have hqe:q<we.heap.size:=by omega
 refine wpIn_wide.1 (wpIn_rangeFunc_ownH (α:=Nat) (n:=3) (w0:=we) (gf:=186) (lb:=#[.pointer (some ⟨wb.heap.size+2,0,none⟩)]) rfl (by decide) rfl (fence_wide_fn _) (enters_of Tryz.func186 (by kernel_rfl) rfl)
  (allF_stops row hz hcl Fence.wide 2 trivial rfl (by decide) (wb.heap.size+2) (wb.heap.size+1) 0 2 2 (by decide) (fun k=>k=q) we.heap.size we (Nat.le_refl _) ?hc ?hcs)
  (fun h k=>h.trans k) ?hKb br (fun _=>rfl)
  (fun pre W=>W.heap[q]?=some (.cells #[.float .f64 (cAt y pre 0),.float .f64 (cAt y pre 1)] 173 (0,0))∧(∀ j,j∈pre→e (j % 2)=0)∧BelowM (fun k=>k=q) we.heap.size we W)
  (fun c pre W=>c=.ret∧¬(e 0=0∧e 1=0)∧W.heap[w.heap.size+1]?=some (.cells #[.complex .f64 0 0] 54 (0,0))∧W.heap[w.heap.size+2]?=some (.cells #[.int .i64 6] 29 (0,0))∧Below w.heap.size w W)
  ?hI ?hIx ?h0
  (fun x a' W=>∃ b6,we.heap.size≤b6∧W.heap[b6]?=some (.cells (row (x % 2)) 25 (0,0))∧a'={ tmps:=#[.agg #[.bool n1,.string s1,.bool n2,.string s2,.bool n3,.string s3,.bool n4,.string s4],.pointer (some ⟨w.heap.size,0,none⟩),.pointer (some ⟨w.heap.size+1,0,none⟩),.pointer (some ⟨w.heap.size+1+1,0,none⟩),.pointer (some ⟨wb.heap.size,0,none⟩),.int .i64 (ixM 2 x),.pointer (some ⟨b6,0,none⟩),undef,undef,
   .agg #[.bool n1,.string s1,.bool n2,.string s2,.bool n3,.string s3,.bool n4,.string s4],.bool true,.bool false,.pointer (some ⟨w.heap.size,0,none⟩),.agg #[.bool n1,.string s1,.bool n2,.string s2],.pointer (some ⟨w.heap.size,4,none⟩),.agg #[.bool n3,.string s3,.bool n4,.string s4],
   .slice (some ⟨wb.heap.size+1,0,none⟩) 2 2,.func (.func 186) #[] #[.pointer (some ⟨wb.heap.size+2,0,none⟩)],.int .i64 (ixM 2 x),.agg (row (x % 2)),undef,undef,undef,undef,undef,undef,undef,undef,undef,undef,undef,undef,undef,undef,undef],defers:=[] })
  ?hAx ?assign ?body ?done ?stop)
 case hc=>exact fun W h=>(World.cell?_of_block (w:=we) (h.block (wb.heap.size+2) (by omega) (by omega))).trans he6
 case hcs =>
  intro W h j hj
  have h5:=(h.block (wb.heap.size+1) (by omega) (by omega)).trans he5
  have hj':j=0∨j=1:=by omega
  rcases hj' with rfl|rfl
  ·rw[hr0]; exact run_loadVar_part W _ 0 _ _ _ _ _ _ h5 Tryz.underlying25 rfl (by rw[i4]; rfl) rfl
  ·rw[hr1]; exact run_loadVar_part W _ 4 _ _ _ _ _ _ h5 Tryz.underlying25 rfl (by rw[i4]; rfl) rfl
 case hKb =>
  intro W l o o' hl ho h1 h2
  exact⟨rfl,rfl,rfl,by simp[World.putObj],fun k hk _=>World.putObj_heap_other (by omega)⟩
 case hI =>
  rintro pre W W' row' ⟨hv,hok,hB⟩ hg hr
  have hx:W'.heap[q]?=W.heap[q]?:=hg.block _ (Array.getElem?_eq_some_iff.1 hv).1 (fun e=>by
   obtain⟨k1,o,k2,k3⟩:=hr _ e.symm
   omega)
  refine⟨hx.trans hv,hok,?_⟩
  refine hB.trans ⟨hg.os,hg.tape,hg.output,hg.size,fun k hk _=>hg.block k (Nat.lt_of_lt_of_le hk hB.size) (fun e=>?_)⟩
  have:=(hr _ e.symm).1
  omega
 case hIx =>
  rintro c pre W W' row' ⟨h1,h2,h3,h4,h5⟩ hg hr
  have hw:=hwwe.size
  refine⟨h1,h2,(hg.block _ (Array.getElem?_eq_some_iff.1 h3).1 (fun e=>?_)).trans h3,(hg.block _ (Array.getElem?_eq_some_iff.1 h4).1 (fun e=>?_)).trans h4,h5.trans ⟨hg.os,hg.tape,hg.output,hg.size,fun k hk=>hg.block k (Nat.lt_of_lt_of_le hk h5.size) (fun e=>?_)⟩⟩
  ·have:=(hr _ e.symm).1; omega
  ·have:=(hr _ e.symm).1; omega
  ·have:=(hr _ e.symm).1; omega
 case h0=>exact⟨by rw[hq]; exact he4,(by simp),BelowM.refl _ _ _⟩
 case hAx =>
  rintro x a' u W W' row' ⟨b6,h1,h2,h3⟩ hg hr
  exact⟨b6,h1,(hg.block _ (Array.getElem?_eq_some_iff.1 h2).1 (fun e=>by
   obtain⟨_,o,k2,k3⟩:=hr _ e.symm
   rw[h2] at k2
   cases k2
   cases k3)).trans h2,h3⟩
 case assign =>
  intro l pre x W K hI hK
  have z4:=hz (x % 2)
  have c4:=hcl (x % 2)
  have hnw:=World.alloc_heap_new W (Obj.cells zFr 25 (0,0))
  unfold zFr at hnw
  gi_wp2_with (refine wpListIn_store_row rfl 25 _ _ rfl W.heap.size _ (by rfl) (by rfl) 25 _ hnw (by rw[i4,z4]) (by rw[z4]; rfl) c4 ?_)
  obtain⟨hv,hok,hB⟩:=hI
  generalize hW':(W.alloc _).setRow W.heap.size (row (x % 2))=W'
  have hWW:Below W.heap.size W W':=by
   rw[←hW']
   exact(br.alloc (Nat.le_refl _) _).trans ⟨rfl,rfl,rfl,by simp[World.setRow],fun k hk=>setRow_other _ _ _ _ (by omega)⟩
  have hnw':W'.heap[W.heap.size]?=some (.cells (row (x % 2)) 25 (0,0)):=by rw[←hW']; exact setRow_heap _ _ _ _ _ _ hnw
  have hM:BelowM (fun k=>k=q) we.heap.size W W':=BelowM.of hWW hB.size
  exact hK _ _ ⟨hWW.size,fun k o _ h _=>(hWW.block k (Array.getElem?_eq_some_iff.1 h).1).trans h⟩ hM ⟨(hWW.block _ (Array.getElem?_eq_some_iff.1 hv).1).trans hv,hok,hB.trans hM⟩ ⟨W.heap.size,hB.size,hnw',rfl⟩
 case body =>
  rintro l pre x a' W hl ⟨rl,hrl⟩ ⟨hv,hok,hB⟩ ⟨b6,hb6,h6,rfl⟩ hlen
  have l24:(loadVar 25 ⟨b6,0,none⟩).run Tryz.prog W=.ok (.agg (row (x % 2))) W:=run_loadVar_row W b6 _ _ _ _ _ h6 Tryz.underlying25 rfl (by rw[i4,hz])
  gi_wp2_with (refine wpListIn_load_any rfl 25 _ rfl ⟨b6,0,none⟩ _ (by rfl) l24 ?_)
  refine⟨trivial,?_⟩
  refine(CallsIn.inRound l (callsIn_wide.2 (hF (x % 2) W))).mono ?_
  rintro r1 W1 ⟨rfl,hb1'⟩
  have hs1:=hb1'.size
  have hBs:=hB.size
  have hq1:W1.heap[q]?=some (.cells #[.float .f64 (cAt y pre 0),.float .f64 (cAt y pre 1)] 173 (0,0)):=(hb1'.block _ (by omega)).trans hv
  have hwW1:Below w.heap.size w W1:=⟨hb1'.os.trans (hB.os.trans hwwe.os),hb1'.tape.trans (hB.tape.trans hwwe.tape),hb1'.output.trans (hB.output.trans hwwe.output),by have:=hwwe.size; omega,fun k hk=>(hb1'.block k (by have:=hwwe.size; omega)).trans ((hB.block k (by have:=hwwe.size; omega) (by omega)).trans (hwwe.block k hk))⟩
  have hM1:BelowM (fun k=>k=q) we.heap.size W W1:=BelowM.of hb1' (by omega)
  have hK1:KeepsFrom we.heap.size W W1:=⟨hs1,fun k o _ ho _=>(hb1'.block k (Array.getElem?_eq_some_iff.1 ho).1).trans ho⟩
  have old:∀ k,k<wb.heap.size→W1.heap[k]?=wb.heap[k]?:=fun k hk=>(hb1'.block k (by omega)).trans ((hB.block k (by omega) (by omega)).trans (hbe.block k hk))
  have k2:=(old (w.heap.size+1) (by omega)).trans hb2
  have k3:=(old (w.heap.size+2) (by omega)).trans hb3
  obtain⟨z,hz'⟩:∃ z,z=e (x % 2):=⟨_,rfl⟩
  rw[←hz']
  have HZ:=Lib.hid hz'
  clear hz'
  by_cases hz0:z=0
  ·subst hz0
   have fin:∀ i:Nat,x % 2=i→(W2:World)→W2=W1.setCell ⟨q,i,none⟩ (.float .f64 (y i))→i<2→W2.heap[q]?=some (.cells #[.float .f64 (cAt y (pre++[x]) 0),.float .f64 (cAt y (pre++[x]) 1)] 173 (0,0))∧BelowM (fun k=>k=q) we.heap.size W1 W2∧KeepsFrom we.heap.size W1 W2:=by
    intro i hi W2 hW2 hi2
    have e1:W2.heap[q]?=some (.cells ((#[.float .f64 (cAt y pre 0),.float .f64 (cAt y pre 1)]:Array Value).set! i (.float .f64 (y i))) 173 (0,0)):=by
     rw[hW2]; exact heap_setCell_same _ _ i _ _ _ hq1
    refine⟨?_,by rw[hW2]; exact⟨rfl,rfl,rfl,by simp,fun k _ hk=>heap_set _ _ _ _ _ hk⟩,by rw[hW2]; exact⟨by simp,fun k o hk ho _=>(heap_set _ _ _ _ _ (by omega)).trans ho⟩⟩
    rw[e1]
    have hi':i=0∨i=1:=by omega
    rcases hi' with rfl|rfl
    ·rw[cAt_same y pre x 0 hi,cAt_other y pre x 1 (by omega)]; rfl
    ·rw[cAt_same y pre x 1 hi,cAt_other y pre x 0 (by omega)]; rfl
   have ok2:∀ j,j∈pre++[x]→e (j % 2)=0:=by
    intro j hj
    rw[List.mem_append,List.mem_singleton] at hj
    rcases hj with hj|rfl
    ·exact hok j hj
    ·exact HZ.out.symm
   have hx2:x % 2=0∨x % 2=1:=by omega
   have f0:W1.frozen? ⟨wb.heap.size,0,none⟩=false:=by rw[←hq]; unfold World.frozen?; simp only[hq1]; rfl
   have f1:W1.frozen? ⟨wb.heap.size,1,none⟩=false:=by rw[←hq]; unfold World.frozen?; simp only[hq1]; rfl
   have g0:W1.cell? ⟨wb.heap.size,0,none⟩=some (.float .f64 (cAt y pre 0)):=by rw[←hq]; unfold World.cell?; simp only[hq1]; rfl
   have g1:W1.cell? ⟨wb.heap.size,1,none⟩=some (.float .f64 (cAt y pre 1)):=by rw[←hq]; unfold World.cell?; simp only[hq1]; rfl
   rcases hx2 with hx|hx
   ·rw[ixM_eq x 0 hx,hx]
    gi_wp2
    obtain⟨p1,p2,p3⟩:=fin 0 hx _ rfl (by omega)
    subst hq
    exact⟨hK1.trans p3,hM1.trans p2,p1,ok2,hB.trans (hM1.trans p2)⟩
   ·rw[ixM_eq x 1 hx,hx]
    gi_wp2
    obtain⟨p1,p2,p3⟩:=fin 1 hx _ rfl (by omega)
    subst hq
    exact⟨hK1.trans p3,hM1.trans p2,p1,ok2,hB.trans (hM1.trans p2)⟩
  ·have hd:decide (z=0)=false:=by simpa using hz0
   have c2:W1.cell? ⟨w.heap.size+1,0,none⟩=some (.complex .f64 0 0):=by unfold World.cell?; simp only[k2]; rfl
   have f2:W1.frozen? ⟨w.heap.size+1,0,none⟩=false:=by unfold World.frozen?; simp only[k2]; rfl
   have c3:W1.cell? ⟨w.heap.size+1+1,0,none⟩=some (.int .i64 0):=by unfold World.cell?; simp only[k3]; rfl
   have f3:W1.frozen? ⟨w.heap.size+1+1,0,none⟩=false:=by unfold World.frozen?; simp only[k3]; rfl
   gi_wp2
   obtain⟨W2,hW2⟩:∃ W2:World,W2=W1.setCell ⟨w.heap.size+1,0,none⟩ (.complex .f64 0 0):=⟨_,rfl⟩
   obtain⟨W3,hW3⟩:∃ W3:World,W3=W2.setCell ⟨w.heap.size+2,0,none⟩ (.int .i64 6):=⟨_,rfl⟩
   have g2:W2.heap[w.heap.size+1]?=some (.cells #[.complex .f64 0 0] 54 (0,0)):=by rw[hW2]; exact heap_setCell_same _ _ 0 _ _ _ k2
   have g3:W2.heap[w.heap.size+2]?=some (.cells #[.int .i64 0] 29 (0,0)):=by rw[hW2,heap_set _ _ _ _ _ (by omega)]; exact k3
   have j2:W3.heap[w.heap.size+1]?=some (.cells #[.complex .f64 0 0] 54 (0,0)):=by rw[hW3,heap_set _ _ _ _ _ (by omega)]; exact g2
   have j3:W3.heap[w.heap.size+2]?=some (.cells #[.int .i64 6] 29 (0,0)):=by rw[hW3]; exact heap_setCell_same _ _ 0 _ _ _ g3
   have hb13:Below w.heap.size W1 W3:=(show Below w.heap.size W1 W2 from by rw[hW2]; exact below_set br (by omega) _).trans (show Below w.heap.size W2 W3 from by rw[hW3]; exact below_set br (by omega) _)
   have hK13:KeepsFrom we.heap.size W1 W3:=⟨hb13.size,fun k o hk ho _=>by rw[hW3,heap_set _ _ _ _ _ (by omega),hW2,heap_set _ _ _ _ _ (by omega)]; exact ho⟩
   have hne:¬(e 0=0∧e 1=0):=fun⟨a0,a1⟩=>by
    have hx2:x % 2=0∨x % 2=1:=by omega
    have hz1:=HZ.out
    rcases hx2 with hx|hx
    ·rw[hx] at hz1; omega
    ·rw[hx] at hz1; omega
   have goal:KeepsFrom we.heap.size W W3∧Code.ret=Code.ret∧_∧_∧_∧_:=⟨hK1.trans hK13,rfl,hne,j2,j3,hwW1.trans hb13⟩
   rw[hW3,hW2] at goal
   exact goal
 case done =>
  rintro D xs W hD hxs ⟨hv,hok,hB⟩ hD2
  have e10:xs=[0,1]:=hxs
  subst e10
  have hs:=hB.size
  have q0:W.cell? ⟨wb.heap.size,0,none⟩=some (.float .f64 (y 0)):=by
   have:cAt y [0,1] 0=y 0:=by unfold cAt; rw[if_pos (by simp)]
   rw[←hq]; unfold World.cell?; simp only[hv,this]; rfl
  have q1:W.cell? ⟨wb.heap.size,1,none⟩=some (.float .f64 (y 1)):=by
   have:cAt y [0,1] 1=y 1:=by unfold cAt; rw[if_pos (by simp)]
   rw[←hq]; unfold World.cell?; simp only[hv,this]; rfl
  have old:∀ k,k<wb.heap.size→W.heap[k]?=wb.heap[k]?:=fun k hk=>(hB.block k (by omega) (by omega)).trans (hbe.block k hk)
  have k2:=(old (w.heap.size+1) (by omega)).trans hb2
  have k3:=(old (w.heap.size+2) (by omega)).trans hb3
  have c2:W.cell? ⟨w.heap.size+1,0,none⟩=some (.complex .f64 0 0):=by unfold World.cell?; simp only[k2]; rfl
  have f2:W.frozen? ⟨w.heap.size+1,0,none⟩=false:=by unfold World.frozen?; simp only[k2]; rfl
  have c3:W.cell? ⟨w.heap.size+1+1,0,none⟩=some (.int .i64 0):=by unfold World.cell?; simp only[k3]; rfl
  have f3:W.frozen? ⟨w.heap.size+1+1,0,none⟩=false:=by unfold World.frozen?; simp only[k3]; rfl
  have h00:e 0=0:=hok 0 (by simp)
  have h11:e 1=0:=hok 1 (by simp)
  have hwW:Below w.heap.size w W:=⟨hB.os.trans hwwe.os,hB.tape.trans hwwe.tape,hB.output.trans hwwe.output,by have:=hwwe.size; omega,fun k hk=>(hB.block k (by have:=hwwe.size; omega) (by omega)).trans (hwwe.block k hk)⟩
  have HO:=Lib.hid (And.intro h00 (And.intro h11 (And.intro hwW (And.intro k2 (And.intro k3 hD2)))))
  clear h00 h11 hv hok old k2 k3 hD2
  go_wp2_with fail
  obtain⟨h00,h11,hwW,k2,k3,hD2⟩:=HO.out
  obtain⟨W2,hW2⟩:∃ W2:World,W2=W.setCell ⟨w.heap.size+1,0,none⟩ (.complex .f64 (y 0) (y 1)):=⟨_,rfl⟩
  obtain⟨W3,hW3⟩:∃ W3:World,W3=W2.setCell ⟨w.heap.size+2,0,none⟩ (.int .i64 0):=⟨_,rfl⟩
  have g2:W2.heap[w.heap.size+1]?=some (.cells #[.complex .f64 (y 0) (y 1)] 54 (0,0)):=by rw[hW2]; exact heap_setCell_same _ _ 0 _ _ _ k2
  have g3:W2.heap[w.heap.size+2]?=some (.cells #[.int .i64 0] 29 (0,0)):=by rw[hW2,heap_set _ _ _ _ _ (by omega)]; exact k3
  have j2:W3.heap[w.heap.size+1]?=some (.cells #[.complex .f64 (y 0) (y 1)] 54 (0,0)):=by rw[hW3,heap_set _ _ _ _ _ (by omega)]; exact g2
  have j3:W3.heap[w.heap.size+2]?=some (.cells #[.int .i64 0] 29 (0,0)):=by rw[hW3]; exact heap_setCell_same _ _ 0 _ _ _ g3
  have jD:W3.heap[D]?=some (.deferred (some [])):=by rw[hW3,heap_set _ _ _ _ _ (by omega),hW2,heap_set _ _ _ _ _ (by omega)]; exact hD2
  have hb13:Below w.heap.size W W3:=(show Below w.heap.size W W2 from by rw[hW2]; exact below_set br (by omega) _).trans (show Below w.heap.size W2 W3 from by rw[hW3]; exact below_set br (by omega) _)
  have goal:=complex_end (R:=fun r w'=>r=.returned RV∧Below w.heap.size w w') (tmps:=#[.agg #[.bool n1,.string s1,.bool n2,.string s2,.bool n3,.string s3,.bool n4,.string s4],.pointer (some ⟨w.heap.size,0,none⟩),.pointer (some ⟨w.heap.size+1,0,none⟩),.pointer (some ⟨w.heap.size+1+1,0,none⟩),.pointer (some ⟨wb.heap.size,0,none⟩),undef,undef,undef,undef,
   .agg #[.bool n1,.string s1,.bool n2,.string s2,.bool n3,.string s3,.bool n4,.string s4],.bool true,.bool false,.pointer (some ⟨w.heap.size,0,none⟩),.agg #[.bool n1,.string s1,.bool n2,.string s2],.pointer (some ⟨w.heap.size,4,none⟩),.agg #[.bool n3,.string s3,.bool n4,.string s4],
   .slice (some ⟨wb.heap.size+1,0,none⟩) 2 2,.func (.func 186) #[] #[.pointer (some ⟨wb.heap.size+2,0,none⟩)],undef,undef,undef,undef,undef,undef,undef,undef,undef,undef,undef,undef,
   .pointer (some ⟨wb.heap.size,0,none⟩),.float .f64 (y 0),.pointer (some ⟨wb.heap.size,1,none⟩),.float .f64 (y 1),.complex .f64 (y 0) (y 1)]) (m:=w.heap.size+1) rfl rfl jD j2 j3 (by omega) (by omega)
   ⟨by rw[hv1 ⟨h00,h11⟩],(hwW.trans hb13).trans ⟨rfl,rfl,rfl,by simp[World.putObj],fun k hk=>World.putObj_heap_other (by have:=hwwe.size; omega)⟩⟩
  rw[hW3,hW2] at goal
  exact goal
 case stop =>
  rintro D c pre W hD ⟨k,hk,hpre⟩ ⟨rfl,hne,h2,h3,hB⟩ hD2
  have hs:=hwwe.size
  refine wpIn_wide.2 (wp_ret ?_)
  refine complex_end (m:=w.heap.size+1) rfl rfl hD2 h2 h3 (by omega) (by omega) ⟨by rw[hv2 hne],?_⟩
  exact hB.trans ⟨rfl,rfl,rfl,by simp[World.putObj],fun k hk=>World.putObj_heap_other (by omega)⟩
end Go.Proofs.YthklnbaddobieaaGreat
namespace Go.Proofs.YthklnbaddobieaaGreat
open Go.RowKit Tr
theorem gUp(a N:Nat)(ha:WL a 1073741824)(hN:N<1099511627776)(w:World)(A:Nat→Prop)(u v:Value)(hR:true=true→Rcv A w)(hu:WsF (words a) u w A)(hv:v=.int .i64 N) :
  Calls Tryz.prog 174 #[u,v] w fun r w'=>∃ v,r=.returned v∧WsF (words (a*2 ^ N)) v w' A∧Below w.heap.size w w':=by
 subst hv
 have h1:(words a).length≤1073741824:=ha
 have:=sup_any (words a) N u w (wok_words a) hu.wsl (by omega) hN
 rw[wv_words] at this
 exact this.mono fun e w' ⟨v,h1,h2,h3⟩=>⟨v,h1,h2.avoids ((hR rfl).below h3),h3⟩
theorem wl_x{n e:Nat}(j:Nat)(h:n<2 ^ e)(he:e=32*j):(words n).length≤j:=by
 subst he; refine words_length_le ?_
 rw[show(4294967296:Nat)=2 ^ 32 by decide,←Nat.pow_mul]; exact h
def E129:Nat:=4128
theorem E129_eq:E129=4128:=rfl
theorem sshift1(N:Nat)(hN:N<4096):PureC Tryz.prog 112 [encZ 1,.int .i64 N] (encZ ((2 ^ N:Nat):Int)):=by
  have hl:WL (1*2 ^ N) 8589934592:=by
    rw[Nat.one_mul]
    exact Nat.le_trans (wl_x 129 (Nat.pow_lt_pow_right (a:=2) (by decide) (show N<E129 by rw[E129_eq]; omega)) E129_eq) (by decide)
  have hm:=gMade (decide ((1:Int)<0)) (1*2 ^ N) hl
  rw[show sgn (decide ((1:Int)<0)) (1*2 ^ N)=((2 ^ N:Nat):Int) by rw[Nat.one_mul]; rfl] at hm
  exact ev_pure (hp:=true) (L:=cz 1++[gx (.int .i64 N),gw (words 1),gw (words (1*2 ^ N))]++cz ((2 ^ N:Nat):Int)) tys_ok mixed
    [gm1 169 (.c (.sym 1)) (.r (.c (.sym 3))) eo169 (gWords 1 (WL.one.mono (by decide))),gm2 174 (.c (.sym 3)) (.c (.sym 2)) (.r (.c (.sym 4))) eo174 (gUp 1 N (WL.one.mono (by decide)) (by omega)),gm2x 144 (.c (.sym 0)) (.c (.sym 4)) (.r (.row (zA 5))) eo144 hm]
    [gbInt .geq 3 .i64 (.sym 2) (.lit (.int .i64 0)) N 0 true (by simp[cmpB]) rfl rfl] []
    Tryz.func112 100 [.row (zA 0),.c (.sym 2)] (.r (.row (zA 5))) (by kernel_rfl) rfl rfl
end Go.Proofs.YthklnbaddobieaaGreat
