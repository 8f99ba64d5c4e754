/- Laws for the walk. -/
import Derived.Test.YthklnbaddobieaaGreatYac
import Derived.Deep.RegionWith
import Derived.Deep.RegionHeld3
set_option linter.unusedVariables false
set_option maxHeartbeats 4000000
namespace Go.Proofs.YthklnbaddobieaaGreat
open Go.RowKit Go.Shelf Tr
attribute [local go_sem] Oper.semAt_some
end Go.Proofs.YthklnbaddobieaaGreat
namespace Go.Proofs.YthklnbaddobieaaGreat
open Go.RowKit Go.Shelf Tr
end Go.Proofs.YthklnbaddobieaaGreat
namespace Go.Proofs.YthklnbaddobieaaGreat
open Go.RowKit Go.Shelf Tr
theorem ffinite_ok(b off len cap:Nat)(f:Nat→Nat)(w:World)(hlen:len≤1000)(hc:∀ j,j<len→w.cell? ⟨b,off+j,none⟩=some (.float .f64 (f j))∧Fin1 (f j)) :
  Calls Tryz.prog 136 #[.slice (some ⟨b,off,none⟩) len cap] w fun e w'=>e=.returned (.bool true)∧w=w':=by
 have HC:=Lib.hid hc
 clear hc
 go_enter Tryz.func136,Tryz.ntmps136
 go_wp2
 go_loop [7] (fun i=>∃ k:Nat,k≤len∧i=.int .i64 k) (fun i=>len - (intOf i).toNat)
 case atStart=>exact⟨0,Nat.zero_le _,rfl⟩
 case round =>
  obtain⟨k,hk,rfl⟩:=hrel
  by_cases hlt:k<len
  ·obtain⟨hcell,h0,h1,h2⟩:=HC.out k hlt
   go_wp2_with (first|(go_at_call 97; refine(isnan_any _ _).mono ?_; rintro e w' ⟨rfl,rfl⟩; rw[h1])|(go_at_call 38; refine(isinf0_any h0 _).mono ?_; rintro e w' ⟨rfl,rfl⟩; rw[h2]))
   go_round
   case rel=>exact⟨k+1,by omega,by go_num⟩
   case measure=>simp[intOf]; omega
  ·go_wp2
   go_ret
   exact⟨rfl,rfl⟩
theorem fin_one:Fin1 4607182418800017408:=by unfold Fin1; decide +kernel
theorem fin_mone:Fin1 13830554455654793216:=by unfold Fin1; decide +kernel
theorem fin_zero:Fin1 0:=by unfold Fin1; decide +kernel
def CPow(A bq bi C r:Nat):Prop:=∃ s u,VOp .mul A C s∧CDot bq bi bq bi u∧VOp .sub u s r
theorem power_ok{A bq bi C r:Nat}(h:CPow A bq bi C r)(w:World) :
  Calls Tryz.prog 135 #[.agg #[.float .f64 A,.complex .f64 bq bi,.float .f64 C]] w fun e w'=>e=.returned (.float .f64 r)∧Below w.heap.size w w':=by
 obtain⟨s,u,h1,h2,h3⟩:=h
 go_enter Tryz.func135,Tryz.ntmps135
 go_wp2_with (first|(go_at_call 138; refine(abs2_ok h2 _).mono ?_; rintro e w' ⟨rfl,rfl⟩)|(refine wpList_fok rfl _ _ _ _ _ rfl _ _ rfl rfl (by with_reducible assumption) ?_))
 go_ret
 exact⟨rfl,br.alloc (Nat.le_refl _) _⟩
theorem sqrt_one(w:World):Calls Tryz.prog 137 #[.float .f64 4607182418800017408] w fun e w'=>e=.returned (.float .f64 4607182418800017408)∧w=w':=by
 have e1:∀ w:World,(callFunc 190 #[.float .f64 4607182418800017408]).run Tryz.prog w=.ok (.value (.float .f64 4607182418800017408)) w:=fun w=>by kernel_rfl
 go_enter Tryz.func137,Tryz.ntmps137
 go_wp2
 go_ret
 exact⟨rfl,rfl⟩
theorem ffin4{a b c d:Nat}(ha:Fin1 a)(hb:Fin1 b)(hc:Fin1 c)(hd:Fin1 d)(w:World)(t:TypeId)(B:Nat)(hB:B=w.heap.size) :
  Calls Tryz.prog 136 #[.slice (some ⟨B,0,none⟩) 4 4] (w.alloc (.cells #[.float .f64 a,.float .f64 b,.float .f64 c,.float .f64 d] t)) fun e w'=>e=.returned (.bool true)∧w.alloc (.cells #[.float .f64 a,.float .f64 b,.float .f64 c,.float .f64 d] t)=w' :=
 hB▸ffinite_ok _ _ _ _ (fun j=>if j=0 then a else if j=1 then b else if j=2 then c else d) _ (by decide) (fun j hj=>by
  have:j=0∨j=1∨j=2∨j=3:=by omega
  rcases this with rfl|rfl|rfl|rfl<;>simp[go_sem]<;>assumption)
theorem ffin3{a b c:Nat}(ha:Fin1 a)(hb:Fin1 b)(hc:Fin1 c)(w:World)(t:TypeId)(B:Nat)(hB:B=w.heap.size) :
  Calls Tryz.prog 136 #[.slice (some ⟨B,0,none⟩) 3 3] (w.alloc (.cells #[.float .f64 a,.float .f64 b,.float .f64 c] t)) fun e w'=>e=.returned (.bool true)∧w.alloc (.cells #[.float .f64 a,.float .f64 b,.float .f64 c] t)=w' :=
 hB▸ffinite_ok _ _ _ _ (fun j=>if j=0 then a else if j=1 then b else c) _ (by decide) (fun j hj=>by
  have:j=0∨j=1∨j=2:=by omega
  rcases this with rfl|rfl|rfl<;>simp[go_sem]<;>assumption)
theorem radius_unit(w:World) :
  Calls Tryz.prog 70 #[.agg #[.float .f64 4607182418800017408,.complex .f64 0 0,.float .f64 13830554455654793216]] w fun e w'=>e=.returned (.tuple #[.float .f64 4607182418800017408,.int .i64 0])∧Below w.heap.size w w':=by
 have hp:CPow 4607182418800017408 0 0 13830554455654793216 4607182418800017408:=⟨13830554455654793216,0,by unfold VOp; decide +kernel,⟨0,0,by unfold VOp; decide +kernel,by unfold VOp; decide +kernel,by unfold VOp; decide +kernel⟩,by unfold VOp; decide +kernel⟩
 have t1:(FloatKind.f64.format.order 4607182418800017408 0 == some .eq)=false:=by decide +kernel
 have t2:(FloatKind.f64.format.order 4607182418800017408 0 == some .lt)=false:=by decide +kernel
 have q1:VOp .quo 4607182418800017408 4607182418800017408 4607182418800017408:=by unfold VOp; decide +kernel
 have q2:=fun w=>q1.run (P:=Tryz.prog) 28 w
 have ha:=fun w=>abs_any (x:=4607182418800017408) (by decide) w
 go_enter Tryz.func70,Tryz.ntmps70
 go_wp2_with (first|(go_at_call 135; refine(power_ok hp _).mono ?_; rintro e w1 ⟨rfl,hb1⟩; obtain⟨hc,hf⟩:=bcell hb1; have hz:=hb1.size; simp at hz))
 refine(ffin4 fin_one fin_zero fin_zero fin_mone _ _ _ rfl).mono ?_
 rintro e w' ⟨rfl,rfl⟩
 obtain⟨w3,hw3⟩:∃ w3:World,w3=w1.alloc (Obj.cells #[Value.float FloatKind.f64 4607182418800017408,Value.float FloatKind.f64 0,Value.float FloatKind.f64 0,Value.float FloatKind.f64 13830554455654793216] 28):=⟨_,rfl⟩
 have hB3:Below w1.heap.size w1 w3:=by rw[hw3]; exact br.alloc (Nat.le_refl _) _
 have c0:w3.cell? ⟨w.heap.size,0,none⟩=some (.float .f64 4607182418800017408):=by
  rw[hB3.cell (p:=⟨w.heap.size,0,none⟩) (by show w.heap.size<_; omega),hc _ _ (by simp)]; simp[go_sem]
 rw[←hw3]
 clear hw3 hc hf
 go_wp2
 go_quiet ((first|(go_at_call 137; exact quiet_eq (sqrt_one _))|(go_at_call 98; exact quiet_eq (ha _))))
 go_wp2
 go_ret2
 refine⟨rfl,below_drewN ?_ _⟩
 exact((Below.refl w.heap.size w).alloc (Nat.le_refl _) (Obj.cells #[Value.float FloatKind.f64 4607182418800017408,Value.complex FloatKind.f64 0 0,Value.float FloatKind.f64 13830554455654793216] 72)).trans ((hb1.mono (by simp)).trans (hB3.mono (by omega)))
theorem side_unit(w:World) :
  Calls Tryz.prog 71 #[.agg #[.float .f64 4607182418800017408,.complex .f64 0 0,.float .f64 13830554455654793216],.complex .f64 4602678819172646912 0] w fun e w'=>e=.returned (.tuple #[.int .i64 (-1),.int .i64 0])∧Below w.heap.size w w':=by
 have hv:CVal 4607182418800017408 0 0 13830554455654793216 4602678819172646912 0 13828302655841107968:=⟨4598175219545276416,0,0,4598175219545276416,0,4598175219545276416,⟨4598175219545276416,0,by unfold VOp; decide +kernel,by unfold VOp; decide +kernel,by unfold VOp; decide +kernel⟩,
  ⟨0,0,0,0,by unfold VOp; decide +kernel,by unfold VOp; decide +kernel,by unfold VOp; decide +kernel,by unfold VOp; decide +kernel,by unfold VOp; decide +kernel,by unfold VOp; decide +kernel⟩,by unfold VOp; decide +kernel,by unfold VOp; decide +kernel,by unfold VOp; decide +kernel,by unfold VOp; decide +kernel⟩
 have t1:(FloatKind.f64.format.order 13828302655841107968 13828302655841107968 != some .eq)=false:=by decide +kernel
 have t2:(FloatKind.f64.format.order 13828302655841107968 0 == some .lt)=true:=by decide +kernel
 go_enter Tryz.func71,Tryz.ntmps71
 go_wp2_with (first|(go_at_call 73; refine(value_ok hv _).mono ?_; rintro e w1 ⟨rfl,hb1⟩))
 go_ret2
 refine⟨rfl,?_⟩
 exact(((Below.refl w.heap.size w).alloc (Nat.le_refl _) (Obj.cells #[Value.float FloatKind.f64 4607182418800017408,Value.complex FloatKind.f64 0 0,Value.float FloatKind.f64 13830554455654793216] 72)).trans (hb1.mono (by simp)))
theorem centre_line(w:World) :
  Calls Tryz.prog 72 #[.agg #[.float .f64 0,.complex .f64 4607182418800017408 0,.float .f64 0]] w fun e w'=>e=.returned (.tuple #[.complex .f64 0 0,.int .i64 5])∧Below w.heap.size w w':=by
 have t1:(FloatKind.f64.format.order 0 0 == some .eq)=true:=by decide +kernel
 go_enter Tryz.func72,Tryz.ntmps72
 go_wp2_with (first|(go_at_call 136; refine(ffin3 fin_zero fin_one fin_zero _ _ _ (by simp)).mono ?_; rintro e w' ⟨rfl,rfl⟩))
 go_ret2
 refine⟨rfl,?_⟩
 exact((br.alloc (Nat.le_refl _) _).alloc (by simp) _)
theorem known_ok(w:World) :
  Calls Tryz.prog 29 #[] w fun e w'=>e=.returned (.bool true)∧Below w.heap.size w w':=by
 have hv:CVal 4607182418800017408 0 0 13830554455654793216 4611686018427387904 0 4613937818241073152:=⟨4616189618054758400,0,0,4616189618054758400,0,4616189618054758400,⟨4616189618054758400,0,by unfold VOp; decide +kernel,by unfold VOp; decide +kernel,by unfold VOp; decide +kernel⟩,
  ⟨0,0,0,0,by unfold VOp; decide +kernel,by unfold VOp; decide +kernel,by unfold VOp; decide +kernel,by unfold VOp; decide +kernel,by unfold VOp; decide +kernel,by unfold VOp; decide +kernel⟩,by unfold VOp; decide +kernel,by unfold VOp; decide +kernel,by unfold VOp; decide +kernel,by unfold VOp; decide +kernel⟩
 have t1:(FloatKind.f64.format.order 4613937818241073152 4613937818241073152 == some .eq)=true:=by decide +kernel
 have t2:(FloatKind.f64.format.order 4607182418800017408 4607182418800017408 == some .eq)=true:=by decide +kernel
 go_enter Tryz.func29,Tryz.ntmps29
 go_wp2_with (first
  | (go_at_call 70; refine(radius_unit _).mono ?_; rintro e w1 ⟨rfl,hb1⟩; obtain⟨hc1,hf1⟩:=bcell hb1; have hz1:=hb1.size; simp at hz1; have hl1:w.heap.size<w1.heap.size:=by omega)
  | (go_at_call 71; refine(side_unit _).mono ?_; rintro e w2 ⟨rfl,hb2⟩; obtain⟨hc2,hf2⟩:=bcell hb2; have hz2:=hb2.size; have hl2:w.heap.size<w2.heap.size:=by omega)
  | (go_at_call 72; refine(centre_line _).mono ?_; rintro e w3 ⟨rfl,hb3⟩; obtain⟨hc3,hf3⟩:=bcell hb3; have hz3:=hb3.size; have hl3:w.heap.size<w3.heap.size:=by omega)
  | (go_at_call 73; refine(value_ok hv _).mono ?_; rintro e w4 ⟨rfl,hb4⟩; obtain⟨hc4,hf4⟩:=bcell hb4))
 go_ret
 refine⟨rfl,?_⟩
 exact(((((Below.refl w.heap.size w).alloc (Nat.le_refl _) (Obj.cells #[Value.float FloatKind.f64 4607182418800017408,Value.complex FloatKind.f64 0 0,Value.float FloatKind.f64 13830554455654793216] 72)).trans (hb1.mono (by simp))).trans (hb2.mono (by omega))).trans (hb3.mono (by omega))).trans (hb4.mono (by omega))
end Go.Proofs.YthklnbaddobieaaGreat
namespace Go.Proofs.YthklnbaddobieaaGreat
open Go.RowKit Go.Shelf
attribute [local go_sem] Oper.semAt_some
theorem wpListIn_load_any{F:Fence}{n:Nat}{P:Program}{ops:Array Oper}{rest:List Oper}{o:Oper}{a:Act}{w:World}{Q:Exit→Act→World→Prop}(hgd:o.guard=none)(ty:TypeId)(x:Operand)(ho:o.op=.load ty x)
  (p:Addr) (v:Value) (hx:a.eval x=.pointer (some p)) (hl:(loadVar ty p).run P w=.ok v w)
  (h:wpListIn F n P ops Q rest (a.put o.dst v) w):wpListIn F n P ops Q (o :: rest) a w :=
 wpListIn_plain hgd fun K hK=>by
  refine⟨fun f hf=>(by simp only[Oper.about,ho] at hf; cases hf),?_⟩
  have e:(o.semAt F.round a.eval).run P w=.ok (.value v) w:=by
   rw[Oper.semAt_plain F _ _ (fun c=>by rw[ho]; exact nofun)]
   unfold execOp
   simp only[ho,hx,Instr.loadAt,Instr.sureAddr,Sem.run_bind,Sem.run_pure,Result.andThen_ok,hl]
  rw[e]
  exact hK _ _ h
end Go.Proofs.YthklnbaddobieaaGreat
namespace Go.Proofs.YthklnbaddobieaaGreat
open Go.RowKit Go.Shelf
theorem wpList_load_any{P:Program}{ops:Array Oper}{rest:List Oper}{o:Oper}{a:Act}{w:World}{Q:Exit→Act→World→Prop}(hgd:o.guard=none)(ty:TypeId)(x:Operand)(ho:o.op=.load ty x)
  (p:Addr) (v:Value) (hx:a.eval x=.pointer (some p)) (hl:(loadVar ty p).run P w=.ok v w)
  (h:wpList P ops Q rest (a.put o.dst v) w):wpList P ops Q (o :: rest) a w :=
 wpList_plain hgd fun K hK=>by
  unfold Oper.wp
  have e:(execOp a.eval o).run P w=.ok (.value v) w:=by
   unfold execOp
   simp only[ho,hx,Instr.loadAt,Instr.sureAddr,Sem.run_bind,Sem.run_pure,Result.andThen_ok,hl]
  rw[e]
  exact hK _ _ h
end Go.Proofs.YthklnbaddobieaaGreat
