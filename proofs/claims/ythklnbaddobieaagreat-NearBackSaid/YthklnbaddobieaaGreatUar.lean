/- Laws for the walk. -/
import Derived.Test.YthklnbaddobieaaGreatUaq
import Derived.Laws.Rows
import Derived.Laws.CopyRow
import Derived.BigCall
import Derived.LoopN
import Derived.Scope
set_option linter.unusedVariables false
set_option maxHeartbeats 4000000
namespace Tr
open Ieee
theorem half_ex{Y:Rat}:∀(n low high:Nat),high - low≤n→Half Y low high→∃ b,Below0 Y b
 | 0,low,high,hn,h=>⟨low,half_end (by have:=h.1; rw[show high=low by omega] at h; exact h)⟩
 | n+1,low,high,hn,h=>by
  rcases Nat.lt_or_ge low high with c|c
  ·by_cases hm:(VV (high - (high - low) / 2):Rat)≤Y
   ·exact half_ex n _ _ (by omega) (half_low h c hm)
   ·exact half_ex n _ _ (by omega) (half_high h c (Rat.not_le.1 hm))
  ·have:=h.1
   exact⟨low,half_end (by rw[show high=low by omega] at h; exact h)⟩
theorem bel_ex{Y:Rat}(h:0≤Y):∃ b,Below0 Y b:=half_ex _ _ _ (Nat.le_refl _) (half_start h)
noncomputable def bel(Y:Rat):Nat:=if h:0≤Y then Classical.choose (bel_ex h) else 0
theorem bel_spec{Y:Rat}(h:0≤Y):Below0 Y (bel Y):=by
 unfold bel; rw[dif_pos h]; exact Classical.choose_spec (bel_ex h)
def uq(q:Rat):Rat:=unitsQ q.num.natAbs q.den
theorem uq_pos{q:Rat}(h:0≤q):uq q=q*((2 ^ UU:Nat):Rat):=by
 unfold uq unitsQ
 congr 1
 have h1:((q.num.natAbs:Nat):Rat)=((q.num:Int):Rat):=by
  have:((q.num.natAbs:Nat):Int)=q.num:=Int.natAbs_of_nonneg (Rat.num_nonneg.2 h)
  rw[←this]; rfl
 rw[h1]
 have:=Rat.num_divInt_den q
 rw[Rat.divInt_eq_div] at this
 exact this
theorem uq_opp(q:Rat):uq (-q)=uq q:=by
 unfold uq; rw[Rat.neg_num,Rat.neg_den,Int.natAbs_neg]
theorem uq_neg{q:Rat}(h:q<0):uq q=-q*((2 ^ UU:Nat):Rat):=by
 rw[←uq_opp,uq_pos (by grind)]
theorem uq_nonneg(q:Rat):0≤uq q:=by
 have hu:=two_pos UU
 by_cases h:0≤q
 ·rw[uq_pos h]; exact Rat.mul_nonneg h (Rat.le_of_lt hu)
 ·have h2:q<0:=Rat.not_le.1 h
  rw[uq_neg h2]; exact Rat.mul_nonneg (by grind) (Rat.le_of_lt hu)
theorem uq_zero{q:Rat}:uq q=0↔q=0:=by
 have hu:=two_pos UU
 constructor
 ·intro h
  by_cases h0:0≤q
  ·rw[uq_pos h0] at h
   generalize ((2 ^ UU:Nat):Rat)=u at *
   grind
  ·have h2:q<0:=Rat.not_le.1 h0
   rw[uq_neg h2] at h
   generalize ((2 ^ UU:Nat):Rat)=u at *
   grind
 ·rintro rfl
  rw[uq_pos (Rat.le_refl)]
  generalize ((2 ^ UU:Nat):Rat)=u at *
  grind
theorem fq_units(s:Bool)(b:Nat):fq s b*((2 ^ UU:Nat):Rat)=(if s then -((VV b:Nat):Rat) else((VV b:Nat):Rat)):=by
 have hu:=uu_ne
 have e1:(((VV b:Nat):Int):Rat)=((VV b:Nat):Rat):=rfl
 unfold fq sgv
 generalize ((2 ^ UU:Nat):Rat)=u at *
 cases s
 ·simp only[Bool.false_eq_true,if_false,e1]; grind
 ·simp only[if_true,Rat.intCast_neg,e1]; grind
theorem lt_units{x y u:Rat}(hu:0<u):x<y↔x*u<y*u:=by
 constructor
 ·intro h; exact Rat.mul_lt_mul_of_pos_right h hu
 ·intro h
  by_cases c:x<y
  ·exact c
  ·exact absurd (rlt_le h (Rat.mul_le_mul_of_nonneg_right (Rat.not_lt.1 c) (Rat.le_of_lt hu))) Rat.lt_irrefl
theorem fq_lt_pos{q:Rat}(h:0≤q)(b:Nat):fq false b<q↔(VV b:Rat)<uq q:=by
 rw[lt_units (two_pos UU),fq_units,uq_pos h]; rfl
theorem fq_lt_neg{q:Rat}(h:q<0)(b:Nat):fq true b<q↔uq q<(VV b:Rat):=by
 rw[lt_units (two_pos UU),fq_units,uq_neg h]
 simp only[if_true]
 generalize ((2 ^ UU:Nat):Rat)=u
 generalize ((VV b:Nat):Rat)=v
 constructor<;>intro<;>grind
def pz(s:Bool)(b:Nat):Nat:=if b=0 then 0 else sgw s b
noncomputable def upQ(q:Rat):Option Nat :=
 if q<0 then some (pz true (bel (uq q))) else if(VV (bel (uq q)):Rat)=uq q then some (bel (uq q)) else if bel (uq q)=GW then none else some (bel (uq q)+1)
noncomputable def downQ(q:Rat):Option Nat :=
 if q<0 then(match upQ (-q) with|some y=>some (if y=0 then 0 else sgw true y)|none=>none) else some (bel (uq q))
theorem bel_lt{q:Rat}(h:bel (uq q)<GW):uq q<(VV (bel (uq q)+1):Rat):=(bel_spec (uq_nonneg q)).2.2 h
theorem bel_le(q:Rat):(VV (bel (uq q)):Rat)≤uq q:=(bel_spec (uq_nonneg q)).2.1
theorem bel_GW(q:Rat):bel (uq q)≤GW:=(bel_spec (uq_nonneg q)).1
theorem bel_zero:bel (uq 0)=0:=by
 have h:=bel_le 0
 rw[uq_zero.2 rfl] at h
 have h2:VV (bel (uq 0))=0:=by
  have h3:((VV (bel (uq 0)):Nat):Rat)≤((0:Nat):Rat):=by rw[uq_zero.2 rfl]; exact h
  have h4:VV (bel (uq 0))≤0:=by exact_mod_cast h3
  omega
 exact VV_inj (h2.trans (show VV 0=0 from rfl).symm)
theorem near_uq{B:Nat}{q:Rat}(hB:NearB (unitsQ q.num.natAbs q.den) B):NearB (uq q) B:=hB
theorem num_neg{q:Rat}:decide (q.num<0)=decide (q<0):=by
 rw[Bool.eq_iff_iff,decide_eq_true_eq,decide_eq_true_eq]
 constructor
 ·intro h
  by_cases c:q<0
  ·exact c
  ·have:=Rat.num_nonneg.2 (Rat.not_lt.1 c); omega
 ·intro h
  rcases Int.lt_or_le q.num 0 with c|c
  ·exact c
  ·exact absurd (rle_lt (Rat.num_nonneg.1 c) h) Rat.lt_irrefl
theorem up_prog{q:Rat}{x:Nat}(hF:F64 q x):∃ s b f2,x=sgw s b∧b≤GW+1∧f2=(if fq s (min b GW)<q then nxW s (min b GW) else sgw s (min b GW)) ∧
  ((upQ q=none∧f2=GW+1)∨∃ t d,f2=sgw t d∧d≤GW∧upQ q=some (pz t d)):=by
 obtain⟨B,hB,hx⟩:=hF
 have hB:=near_uq hB
 have h0:=bel_spec (uq_nonneg q)
 by_cases hz:q=0
 ·subst hz
  rw[if_pos rfl] at hx
  refine⟨false,0,0,hx,by omega,?_,.inr ⟨false,0,rfl,by omega,?_⟩⟩
  ·rw[Nat.zero_min,if_neg]; rfl
   rw[fq_lt_pos Rat.le_refl,uq_zero.2 rfl]
   exact Rat.lt_irrefl
  ·unfold upQ
   rw[if_neg Rat.lt_irrefl,bel_zero,if_pos (by rw[uq_zero.2 rfl]; rfl)]; rfl
 ·rw[if_neg hz,num_neg] at hx
  refine⟨_,min B (GW+1),_,hx,Nat.min_le_right _ _,rfl,?_⟩
  have hmm:min (min B (GW+1)) GW=min B GW:=by omega
  rw[hmm]
  by_cases hs:q<0
  ·rw[show decide (q<0)=true by simp[hs]]
   right
   have hu:=up_neg hB h0
   refine⟨true,bel (uq q),?_,h0.1,?_⟩
   ·by_cases c:fq true (min B GW)<q
    ·have c':=(fq_lt_neg hs _).1 c
     rw[if_pos c]
     rw[if_pos c'] at hu
     have hne:¬min B GW=0:=by
      intro e
      rw[e] at c'
      exact absurd (rle_lt (uq_nonneg q) c') (by rw[show VV 0=0 from rfl]; exact Rat.lt_irrefl)
     unfold nxW
     rw[if_neg hne,if_pos rfl,hu]
    ·have c':¬uq q<(VV (min B GW):Rat):=fun k=>c ((fq_lt_neg hs _).2 k)
     rw[if_neg c]
     rw[if_neg c'] at hu
     rw[hu]
   ·unfold upQ; rw[if_pos hs]
  ·rw[show decide (q<0)=false by simp[hs]]
   have hp:0≤q:=Rat.not_lt.1 hs
   have hu:=up_pos hB h0
   have e:(if fq false (min B GW)<q then nxW false (min B GW) else sgw false (min B GW))=(if(VV (bel (uq q)):Rat)=uq q then bel (uq q) else bel (uq q)+1):=by
    rw[←hu]
    by_cases c:fq false (min B GW)<q
    ·rw[if_pos c,if_pos ((fq_lt_pos hp _).1 c)]
     unfold nxW
     by_cases h0:min B GW=0
     ·rw[if_pos h0,h0]
     ·rw[if_neg h0]; rfl
    ·rw[if_neg c,if_neg (fun k=>c ((fq_lt_pos hp _).2 k))]; rfl
   rw[e]
   unfold upQ
   rw[if_neg hs]
   have hg:=h0.1
   by_cases c:(VV (bel (uq q)):Rat)=uq q
   ·rw[if_pos c,if_pos c]
    refine .inr ⟨false,bel (uq q),rfl,hg,?_⟩
    unfold pz
    by_cases k:bel (uq q)=0
    ·rw[if_pos k,k]
    ·rw[if_neg k]; rfl
   ·rw[if_neg c,if_neg c]
    by_cases k:bel (uq q)=GW
    ·rw[if_pos k,k]; exact .inl ⟨rfl,rfl⟩
    ·rw[if_neg k]
     refine .inr ⟨false,bel (uq q)+1,rfl,by omega,?_⟩
     unfold pz
     rw[if_neg (by omega)]; rfl
theorem down_up(q:Rat):downQ q=(match upQ (-q) with|none=>none|some y=>some (if y=0 then 0 else y ^^^ 9223372036854775808)):=by
 have hg:=bel_GW q
 by_cases hs:q<0
 ·unfold downQ
  rw[if_pos hs]
  have:∀ y,upQ (-q)=some y→y≤GW:=by
   intro y hy
   unfold upQ at hy
   rw[if_neg (by grind),uq_opp] at hy
   split at hy
   ·cases hy; exact hg
   ·split at hy
    ·cases hy
    ·cases hy; omega
  cases h:upQ (-q) with
  | none=>rfl
  | some y =>
   have hy:=this y h
   simp only
   by_cases h0:y=0
   ·rw[if_pos h0,if_pos h0]
   ·rw[if_neg h0,if_neg h0]
    have:=sgw_xor (s:=false) (b:=y) (by omega)
    rw[show sgw false y=y from rfl] at this
    rw[this]; rfl
 ·have hp:0≤q:=Rat.not_lt.1 hs
  unfold downQ
  rw[if_neg hs]
  by_cases hz:q=0
  ·subst hz
   have:upQ (-0)=some 0:=by
    unfold upQ
    rw[show(-0:Rat)=0 from rfl,if_neg Rat.lt_irrefl,bel_zero,if_pos (by rw[uq_zero.2 rfl]; rfl)]
   rw[this,bel_zero]; rfl
  ·have hn:-q<0:=by grind
   have:upQ (-q)=some (pz true (bel (uq q))):=by
    unfold upQ; rw[if_pos hn,uq_opp]
   rw[this]
   simp only
   unfold pz
   by_cases h0:bel (uq q)=0
   ·rw[if_pos h0,if_pos rfl,h0]
   ·rw[if_neg h0,if_neg (by unfold sgw; simp),sgw_xor (by omega)]; rfl
end Tr
namespace Tr
open Go Go.RowKit
inductive LV where
 | bool (b:Bool)|int (k:IntKind) (n:Int)|str0|nilp|nils|nilf|flt (b:Nat)|cpl (a b:Nat)
def LV.val:LV→Value
 | .bool b=>.bool b
 | .int k n=>.int k n
 | .str0=>.string ⟨#[]⟩
 | .nilp=>.pointer none
 | .nils=>.slice none 0 0
 | .nilf=>.nilFunc
 | .flt b=>.float .f64 b
 | .cpl a b=>.complex .f64 a b
def LV.of:Value→Option LV
 | .bool b=>some (.bool b)
 | .int k n=>some (.int k n)
 | .string s=>match s with|⟨⟨[]⟩⟩=>some .str0|_=>none
 | .pointer none=>some .nilp
 | .slice none 0 0=>some .nils
 | .nilFunc=>some .nilf
 | .float .f64 b=>some (.flt b)
 | .complex .f64 a b=>some (.cpl a b)
 | _=>none
theorem LV.of_val{v:Value}{l:LV}(h:LV.of v=some l):l.val=v:=by
 unfold LV.of at h
 split at h
 ·cases h; rfl
 ·cases h; rfl
 ·split at h
  ·cases h; rfl
  ·cases h
 ·cases h; rfl
 ·cases h; rfl
 ·cases h; rfl
 ·cases h; rfl
 ·cases h; rfl
 ·cases h
def LV.beq:LV→LV→Bool
 | .bool a,.bool b=>a == b
 | .int k n,.int j m=>decide (k=j) && decide (n=m)
 | .str0,.str0|.nilp,.nilp|.nils,.nils|.nilf,.nilf=>true
 | .flt a,.flt b=>a == b
 | .cpl a b,.cpl c d=>a == c && b == d
 | _,_=>false
theorem LV.eq_of{a b:LV}(h:a.beq b=true):a=b:=by
 unfold LV.beq at h
 split at h<;>simp_all
def LV.isInt:LV→Bool|.int .u32 _=>true|_=>false
inductive AC where
 | sym (i:Nat)|lit (l:LV)|own (b off:Nat)|sl (b off len cap:Nat)|sg (b off len:Nat)|fn (f:FuncId) (first caps:List Nat)
inductive AR where
 | c (x:AC)|row (l:List AC)
inductive AV where
 | r (x:AR)|tup (l:List AR)|undf|junk
def AC.beq:AC→AC→Bool
 | .sym i,.sym j=>i == j
 | .lit l,.lit m=>l.beq m
 | .own b o,.own c p=>b == c && o == p
 | .sl b o n c,.sl b' o' n' c'=>b == b' && o == o' && n == n' && c == c'
 | .sg b o n,.sg b' o' n'=>b == b' && o == o' && n == n'
 | .fn f a b,.fn g c d=>f == g && a == c && b == d
 | _,_=>false
theorem AC.eq_of{a b:AC}(h:a.beq b=true):a=b:=by
 unfold AC.beq at h
 split at h
 ·simp_all
 ·rw[LV.eq_of h]
 ·simp_all
 ·simp only[Bool.and_eq_true,beq_iff_eq] at h
  obtain⟨⟨⟨rfl,rfl⟩,rfl⟩,rfl⟩:=h; rfl
 ·simp only[Bool.and_eq_true,beq_iff_eq] at h
  obtain⟨⟨rfl,rfl⟩,rfl⟩:=h; rfl
 ·simp only[Bool.and_eq_true,beq_iff_eq] at h
  obtain⟨⟨rfl,rfl⟩,rfl⟩:=h; rfl
 ·cases h
def beqL{α:Type}(p:α→α→Bool):List α→List α→Bool
 | [],[]=>true
 | a :: l,b :: m=>p a b && beqL p l m
 | _,_=>false
theorem eqL_of{α:Type}{p:α→α→Bool}(hp:∀ a b,p a b=true→a=b):∀{l m:List α},beqL p l m=true→l=m
 | [],[],_=>rfl
 | a :: l,b :: m,h=>by
  simp only[beqL,Bool.and_eq_true] at h
  rw[hp _ _ h.1,eqL_of hp h.2]
 | [],_ :: _,h=>by cases h
 | _ :: _,[],h=>by cases h
def AR.beq:AR→AR→Bool
 | .c a,.c b=>a.beq b
 | .row l,.row m=>beqL AC.beq l m
 | _,_=>false
theorem AR.eq_of{a b:AR}(h:a.beq b=true):a=b:=by
 unfold AR.beq at h
 split at h
 ·rw[AC.eq_of h]
 ·rw[eqL_of (fun _ _=>AC.eq_of) h]
 ·cases h
def AV.beq:AV→AV→Bool
 | .r a,.r b=>a.beq b
 | .tup l,.tup m=>beqL AR.beq l m
 | .undf,.undf=>true
 | _,_=>false
theorem AV.eq_of{a b:AV}(h:a.beq b=true):a=b:=by
 unfold AV.beq at h
 split at h
 ·rw[AR.eq_of h]
 ·rw[eqL_of (fun _ _=>AR.eq_of) h]
 ·rfl
 ·cases h
structure Sg where
 at_:Nat→Option Nat
 room:Nat→Nat
instance:CoeFun Sg (fun _=>Nat→Option Nat):=⟨Sg.at_⟩
def ptrs(σ:Sg):List Nat→List Value→Prop
 | [],[]=>True
 | b :: l,v :: vs=>(∃ n,σ b=some n∧v=.pointer (some ⟨n,0,none⟩))∧ptrs σ l vs
 | _,_=>False
def AC.ok(T:Nat→Fact)(σ:Sg):AC→Fact
 | .sym i=>T i
 | .lit l=>fun v _ _=>v=l.val
 | .own b o=>fun v _ _=>∃ n,σ b=some n∧v=.pointer (some ⟨n,o,none⟩)
 | .sl b o n c=>fun v _ _=>∃ m,σ b=some m∧v=.slice (some ⟨m,o,none⟩) n c
 | .sg b o n=>fun v _ _=>∃ m,σ b=some m∧n≤σ.room b∧v=.slice (some ⟨m,o,none⟩) n (σ.room b)
 | .fn f a b=>fun v _ _=>∃ us vs:List Value,v=.func (.func f) us.toArray vs.toArray∧ptrs σ a us∧ptrs σ b vs
def oks(T:Nat→Fact)(σ:Sg):List AC→List Value→World→(Nat→Prop)→Prop
 | [],[],_,_=>True
 | x :: l,v :: vs,w,A=>x.ok T σ v w A∧oks T σ l vs w A
 | _,_,_,_=>False
def AR.ok(T:Nat→Fact)(σ:Sg):AR→Fact
 | .c x=>x.ok T σ
 | .row l=>fun v w A=>∃ vs,v=.agg vs.toArray∧oks T σ l vs w A
def okr(T:Nat→Fact)(σ:Sg):List AR→List Value→World→(Nat→Prop)→Prop
 | [],[],_,_=>True
 | x :: l,v :: vs,w,A=>x.ok T σ v w A∧okr T σ l vs w A
 | _,_,_,_=>False
def AV.ok(T:Nat→Fact)(σ:Sg):AV→Fact
 | .r x=>x.ok T σ
 | .tup l=>fun v w A=>∃ vs,v=.tuple vs.toArray∧okr T σ l vs w A
 | .undf=>fun v _ _=>v=undef
 | .junk=>fun _ _ _=>True
structure TOk(T:Nat→Fact)(ints:Nat→Bool):Prop where
 keeps:∀ i,(T i).Keeps
 cell:∀ i v w A,T i v w A→v.oneCell'=true
 noint:∀ i,ints i=false→∀ v w A,T i v w A→∀(k:Unit) (x:Int),v≠.int .u32 x
section
variable{T:Nat→Fact}{σ σ':Sg}{ints:Nat→Bool}
def Sub(σ σ':Sg):Prop:=∀ b n,σ b=some n→σ' b=some n∧σ'.room b=σ.room b
theorem Sub.refl(σ:Sg):Sub σ σ:=fun _ _ h=>⟨h,rfl⟩
theorem ptrs.keep(hs:Sub σ σ'):∀{l:List Nat} {vs:List Value},ptrs σ l vs→ptrs σ' l vs
 | [],[],_=>trivial
 | b :: l,v :: vs,h=>by obtain⟨⟨n,h1,h2⟩,h3⟩:=h; exact⟨⟨n,(hs _ _ h1).1,h2⟩,ptrs.keep hs h3⟩
 | [],_ :: _,h=>h.elim
 | _ :: _,[],h=>h.elim
theorem ptrs.okr{w:World}{A:Nat→Prop}:∀{l:List Nat} {vs:List Value},ptrs σ l vs→okr T σ (l.map fun b=>AR.c (.own b 0)) vs w A
 | [],[],_=>trivial
 | b :: l,v :: vs,h=>⟨h.1,ptrs.okr h.2⟩
 | [],_ :: _,h=>h.elim
 | _ :: _,[],h=>h.elim
def Kp(w w':World)(A A':Nat→Prop):Prop:=w.heap.size≤w'.heap.size∧∀ b,b<w.heap.size→¬A b→w'.heap[b]?=w.heap[b]?∧¬A' b
theorem AC.ok.keep(ht:TOk T ints){w w':World}{A A':Nat→Prop}(hs:Sub σ σ')(hk:Kp w w' A A'){x:AC}{v:Value}(h:x.ok T σ v w A):x.ok T σ' v w' A':=by
 cases x with
 | sym i=>exact ht.keeps i v w w' A A' hk.1 hk.2 h
 | lit l=>exact h
 | own b o=>obtain⟨n,h1,h2⟩:=h; exact⟨n,(hs _ _ h1).1,h2⟩
 | sl b o n c=>obtain⟨m,h1,h2⟩:=h; exact⟨m,(hs _ _ h1).1,h2⟩
 | sg b o n=>obtain⟨m,h1,h2,h3⟩:=h; exact⟨m,(hs _ _ h1).1,by rw[(hs _ _ h1).2]; exact h2,by rw[(hs _ _ h1).2]; exact h3⟩
 | fn f a b=>obtain⟨us,vs,h1,h2,h3⟩:=h; exact⟨us,vs,h1,h2.keep hs,h3.keep hs⟩
theorem oks.keep(ht:TOk T ints){w w':World}{A A':Nat→Prop}(hs:Sub σ σ')(hk:Kp w w' A A'):∀{l:List AC} {vs:List Value},oks T σ l vs w A→oks T σ' l vs w' A'
 | [],[],_=>trivial
 | x :: l,v :: vs,h=>⟨AC.ok.keep ht hs hk h.1,oks.keep ht hs hk h.2⟩
 | [],_ :: _,h=>h.elim
 | _ :: _,[],h=>h.elim
theorem AR.ok.keep(ht:TOk T ints){w w':World}{A A':Nat→Prop}(hs:Sub σ σ')(hk:Kp w w' A A'){x:AR}{v:Value}(h:x.ok T σ v w A):x.ok T σ' v w' A':=by
 cases x with
 | c x=>exact AC.ok.keep (x:=x) ht hs hk h
 | row l=>obtain⟨vs,h1,h2⟩:=h; exact⟨vs,h1,oks.keep ht hs hk h2⟩
theorem okr.keep(ht:TOk T ints){w w':World}{A A':Nat→Prop}(hs:Sub σ σ')(hk:Kp w w' A A'):∀{l:List AR} {vs:List Value},okr T σ l vs w A→okr T σ' l vs w' A'
 | [],[],_=>trivial
 | x :: l,v :: vs,h=>⟨AR.ok.keep ht hs hk h.1,okr.keep ht hs hk h.2⟩
 | [],_ :: _,h=>h.elim
 | _ :: _,[],h=>h.elim
theorem AV.ok.keep(ht:TOk T ints){w w':World}{A A':Nat→Prop}(hs:Sub σ σ')(hk:Kp w w' A A'){x:AV}{v:Value}(h:x.ok T σ v w A):x.ok T σ' v w' A':=by
 cases x with
 | r x=>exact AR.ok.keep (x:=x) ht hs hk h
 | tup l=>obtain⟨vs,h1,h2⟩:=h; exact⟨vs,h1,okr.keep ht hs hk h2⟩
 | undf=>exact h
 | junk=>trivial
theorem oks.length{w:World}{A:Nat→Prop}:∀{l:List AC} {vs:List Value},oks T σ l vs w A→vs.length=l.length
 | [],[],_=>rfl
 | x :: l,v :: vs,h=>by simp[oks.length h.2]
 | [],_ :: _,h=>h.elim
 | _ :: _,[],h=>h.elim
theorem oks.get{w:World}{A:Nat→Prop}:∀{l:List AC} {vs:List Value},oks T σ l vs w A→∀{i:Nat} {x:AC},l[i]?=some x→∃ v,vs[i]?=some v∧x.ok T σ v w A
 | [],[],_,_,_,h=>by simp at h
 | y :: l,v :: vs,h,i,x,hi=>by
  cases i with
  | zero=>simp at hi; subst hi; exact⟨v,by simp,h.1⟩
  | succ i=>simp at hi ⊢; exact oks.get h.2 hi
 | [],_ :: _,h,_,_,_=>h.elim
 | _ :: _,[],h,_,_,_=>h.elim
theorem okr.append{w:World}{A:Nat→Prop}:∀{l m:List AR} {vs us:List Value},okr T σ l vs w A→okr T σ m us w A→okr T σ (l++m) (vs++us) w A
 | [],_,[],_,_,h=>h
 | x :: l,m,v :: vs,us,h,h'=>⟨h.1,okr.append h.2 h'⟩
 | [],_,_ :: _,_,h,_=>h.elim
 | _ :: _,_,[],_,h,_=>h.elim
theorem oks.append{w:World}{A:Nat→Prop}:∀{l m:List AC} {vs us:List Value},oks T σ l vs w A→oks T σ m us w A→oks T σ (l++m) (vs++us) w A
 | [],_,[],_,_,h=>h
 | x :: l,m,v :: vs,us,h,h'=>⟨h.1,oks.append h.2 h'⟩
 | [],_,_ :: _,_,h,_=>h.elim
 | _ :: _,_,[],_,h,_=>h.elim
theorem oks.take{w:World}{A:Nat→Prop}(n:Nat):∀{l:List AC} {vs:List Value},oks T σ l vs w A→oks T σ (l.take n) (vs.take n) w A:=by
 induction n with
 | zero=>intro l vs _; simp[oks]
 | succ n ih =>
  intro l vs h
  cases l<;>cases vs<;>simp only[oks] at h ⊢
  ·simp[oks]
  ·simp only[List.take_succ_cons,oks]; exact⟨h.1,ih h.2⟩
theorem oks.drop{w:World}{A:Nat→Prop}(n:Nat):∀{l:List AC} {vs:List Value},oks T σ l vs w A→oks T σ (l.drop n) (vs.drop n) w A:=by
 induction n with
 | zero=>intro l vs h; simpa using h
 | succ n ih =>
  intro l vs h
  cases l<;>cases vs<;>simp only[oks] at h ⊢
  ·simp[oks]
  ·simp only[List.drop_succ_cons]; exact ih h.2
theorem okr.length{w:World}{A:Nat→Prop}:∀{l:List AR} {vs:List Value},okr T σ l vs w A→vs.length=l.length
 | [],[],_=>rfl
 | x :: l,v :: vs,h=>by simp[okr.length h.2]
 | [],_ :: _,h=>h.elim
 | _ :: _,[],h=>h.elim
theorem okr.get{w:World}{A:Nat→Prop}:∀{l:List AR} {vs:List Value},okr T σ l vs w A→∀{i:Nat} {x:AR},l[i]?=some x→∃ v,vs[i]?=some v∧x.ok T σ v w A
 | [],[],_,_,_,h=>by simp at h
 | y :: l,v :: vs,h,i,x,hi=>by
  cases i with
  | zero=>simp at hi; subst hi; exact⟨v,by simp,h.1⟩
  | succ i=>simp at hi ⊢; exact okr.get h.2 hi
 | [],_ :: _,h,_,_,_=>h.elim
 | _ :: _,[],h,_,_,_=>h.elim
theorem AC.ok.one(ht:TOk T ints){x:AC}{v:Value}{w:World}{A:Nat→Prop}(h:x.ok T σ v w A):v.oneCell'=true:=by
 cases x with
 | sym i=>exact ht.cell i v w A h
 | lit l=>rw[show v=l.val from h]; cases l<;>rfl
 | own b o=>obtain⟨n,_,rfl⟩:=h; rfl
 | sl b o n c=>obtain⟨m,_,rfl⟩:=h; rfl
 | sg b o n=>obtain⟨m,_,_,rfl⟩:=h; rfl
 | fn f a b=>obtain⟨us,vs,rfl,_⟩:=h; rfl
theorem oks.one(ht:TOk T ints){w:World}{A:Nat→Prop}:∀{l:List AC} {vs:List Value},oks T σ l vs w A→∀ v∈vs,v.oneCell'=true
 | [],[],_,_,h=>by cases h
 | x :: l,v :: vs,h,u,hu=>by
  rcases List.mem_cons.1 hu with e|e
  ·subst e; exact h.1.one ht
  ·exact oks.one ht h.2 u e
 | [],_ :: _,h,_,_=>h.elim
 | _ :: _,[],h,_,_=>h.elim
def AC.noint(ints:Nat→Bool):AC→Bool
 | .sym i=>!ints i
 | .lit l=>!l.isInt
 | _=>true
theorem AC.ok.noint(ht:TOk T ints){x:AC}{v:Value}{w:World}{A:Nat→Prop}(h:x.ok T σ v w A)(hx:x.noint ints=true)(k:Unit)(z:Int):v≠.int .u32 z:=by
 cases x with
 | sym i=>exact ht.noint i (by simpa[AC.noint] using hx) v w A h k z
 | lit l =>
  rw[show v=l.val from h]
  cases l with
  | int j n=>cases j<;>simp[AC.noint,LV.isInt] at hx<;>simp[LV.val]
  | _=>simp[LV.val]
 | own b o=>obtain⟨n,_,rfl⟩:=h; simp
 | sl b o n c=>obtain⟨m,_,rfl⟩:=h; simp
 | sg b o n=>obtain⟨m,_,_,rfl⟩:=h; simp
 | fn f a b=>obtain⟨us,vs,rfl,_⟩:=h; simp
theorem oks.noint(ht:TOk T ints){w:World}{A:Nat→Prop}:∀{l:List AC} {vs:List Value},oks T σ l vs w A→l.all (AC.noint ints)=true→∀ v∈vs,∀(k:Unit) (x:Int),v≠.int .u32 x
 | [],[],_,_,_,h=>by cases h
 | x :: l,v :: vs,h,ha,u,hu=>by
  simp only[List.all_cons,Bool.and_eq_true] at ha
  rcases List.mem_cons.1 hu with e|e
  ·subst e; exact h.1.noint ht ha.1
  ·exact oks.noint ht h.2 ha.2 u e
 | [],_ :: _,h,_,_,_=>h.elim
 | _ :: _,[],h,_,_,_=>h.elim
end
def AR.cells:AR→List AC|.c x=>[x]|.row l=>l
theorem AR.ok.cells{T:Nat→Fact}{σ:Sg}{ints:Nat→Bool}(ht:TOk T ints){x:AR}{v:Value}{w:World}{A:Nat→Prop}(h:x.ok T σ v w A):∃ vs,v.cells=vs.toArray∧oks T σ x.cells vs w A:=by
 cases x with
 | c x =>
  refine⟨[v],?_,h,trivial⟩
  have:=AC.ok.one (x:=x) ht h
  cases v<;>simp[Value.oneCell'] at this<;>rfl
 | row l=>obtain⟨vs,rfl,h2⟩:=h; exact⟨vs,rfl,h2⟩
end Tr
namespace Tr
open Go Go.RowKit
structure TyI where
 agg:Bool
 size:Nat
 zero:List LV
 fields:List (Nat×Nat×Bool)
 arr:Option (Nat×Nat×Nat)
def isAggD:TypeDesc→Bool|.struct _|.array _ _=>true|_=>false
def fieldsOk(P:Program):List Field→List (Nat×Nat×Bool)→Bool
 | [],[]=>true
 | f :: fs,(o,n,g) :: l =>
  f.offset == o && ((P.info? f.type).map (·.size) == some n) && ((P.underlying f.type).map isAggD == some g) && fieldsOk P fs l
 | _,_=>false
def lvsOk:List Value→List LV→Bool
 | [],[]=>true
 | v :: vs,l :: ls=>(match LV.of v with|some m=>m.beq l|none=>false) && lvsOk vs ls
 | _,_=>false
theorem lvsOk_spec:∀{vs:List Value} {ls:List LV},lvsOk vs ls=true→vs=ls.map LV.val
 | [],[],_=>rfl
 | v :: vs,l :: ls,h=>by
  simp only[lvsOk,Bool.and_eq_true] at h
  have h1:=h.1
  cases hv:LV.of v with
  | none=>simp[hv] at h1
  | some m =>
   simp only[hv] at h1
   rw[List.map_cons,←LV.eq_of h1,LV.of_val hv,lvsOk_spec h.2]
 | [],_ :: _,h=>by cases h
 | _ :: _,[],h=>by cases h
def TyI.good(P:Program)(t:TypeId)(i:TyI):Bool :=
  match P.info? t,P.underlying t with
  | some ti,some d =>
    ti.size == i.size && (match ti.zero with|some z=>lvsOk z.cells.toList i.zero|none=>false) && isAggD d == i.agg &&
    (match d with
     | .struct fs=>fieldsOk P fs.toList i.fields && i.arr == none
     | .array n e=>i.fields.isEmpty && (match i.arr,(P.info? e).map (·.size) with|some (m,k,e'),some s=>m == n && k == s && e' == e|_,_=>false)
     | .slice e=>i.fields.isEmpty && (match i.arr,(P.info? e).map (·.size) with|some (_,k,e'),some s=>k == s && e' == e|_,_=>false)
     | _=>i.fields.isEmpty && i.arr == none) && decide (ti.bytes≤1048576)
  | _,_=>false
structure AB where
 cells:List AC
 ty:TypeId
 more:Option Nat:=none
structure CS where
 f:FuncId
 args:List AR
 res:AV
 needs:List (Nat×AB):=[]
 give:Option Nat:=none
 put:Option (Nat×AB):=none
 frz:Option (Nat×AB):=none
structure BS where
 op:BinOp
 t:TypeId
 x:AR
 y:AR
 res:AC
structure OS where
 same:Oper→Bool
 args:List AR
 res:AV
inductive BK where
 | unborn|dead|live (b:AB)|lent (b:AB)
structure AS where
 tmps:List AV
 blocks:List BK
inductive Ex where
 | normal|exit (id:Nat)|ret
structure LC where
 key:Nat
 pre:AS
 ex:Ex
 post:AS
abbrev Inl:=FuncId→List AR→(Nat→Option BK)→Nat→Nat→Option (AV×List (Nat×BK)×List Nat)
structure Cx where
 tys:List (TypeId×TyI)
 calls:List CS
 bins:List BS
 others:List OS
 cuts:List LC:=[]
 hp:Bool
 ints:Nat→Bool
 inl:Inl:=fun _ _ _ _ _=>none
 width:Nat:=1
 dfs:List Deferred:=[]
def lookT(t:TypeId):List (TypeId×TyI)→Option TyI
 | []=>none
 | (u,i) :: l=>if u == t then some i else lookT t l
structure Eff where
 val:AV
 wr:List (Nat×BK)
def opv(sl:Nat→AV):Operand→AV
 | .tmp t=>sl t
 | .const v=>match LV.of v with|some l=>.r (.c (.lit l))|none=>.junk
 | .func f=>.r (.c (.fn f [] []))
 | _=>.junk
def AV.ar:AV→Option AR|.r x=>some x|_=>none
def AV.bool:AV→Option Bool|.r (.c (.lit (.bool b)))=>some b|_=>none
def AV.int:AV→Option (IntKind×Int)|.r (.c (.lit (.int k n)))=>some (k,n)|_=>none
def AV.own:AV→Option (Nat×Nat)|.r (.c (.own b o))=>some (b,o)|_=>none
def over{α:Type}(l:List α)(off:Nat)(m:List α):List α:=l.take off++m++l.drop (off+m.length)
def fillA(place:Nat→Option (Nat×Nat))(cells:List AC):List (Nat×List AC)→Option (List AC)
 | []=>some cells
 | (i,v) :: rest =>
  match place i with
  | none=>none
  | some (off,size)=>if v.length == size && decide (off+v.length≤cells.length) then fillA place (over cells off v) rest else none
def TyI.place(i:TyI)(k:Nat):Option (Nat×Nat) :=
 match i.arr with
 | some (_,n,_)=>some (k*n,n)
 | none=>(i.fields[k]?).map fun p=>(p.1,p.2.1)
def partsA(sl:Nat→AV):List (Nat×Operand)→Option (List (Nat×List AC))
 | []=>some []
 | (i,x) :: l=>match (opv sl x).ar,partsA sl l with
  | some a,some r=>some ((i,a.cells) :: r)
  | _,_=>none
def arsA(sl:Nat→AV):List Operand→Option (List AR)
 | []=>some []
 | x :: l=>match (opv sl x).ar,arsA sl l with
  | some a,some r=>some (a :: r)
  | _,_=>none
def ownsA(sl:Nat→AV):List Operand→Option (List Nat)
 | []=>some []
 | x :: l=>match (opv sl x).own,ownsA sl l with
  | some (b,0),some r=>some (b :: r)
  | _,_=>none
def calleeA(sl:Nat→AV):Callee→Option (FuncId×List Nat×List Nat)
 | .value (.func f)=>some (f,[],[])
 | .value x=>match opv sl x with|.r (.c (.fn f a b))=>some (f,a,b)|_=>none
 | _=>none
def ownR(l:List Nat):List AR:=l.map fun b=>.c (.own b 0)
def AB.beq(a b:AB):Bool:=beqL AC.beq a.cells b.cells && a.ty == b.ty && a.more == b.more
theorem AB.eq_of{a b:AB}(h:a.beq b=true):a=b:=by
 unfold AB.beq at h
 simp only[Bool.and_eq_true,beq_iff_eq] at h
 cases a; cases b
 simp only at h
 rw[eqL_of (fun _ _=>AC.eq_of) h.1.1,h.1.2,h.2]
def needsOk(bl:Nat→Option BK):List (Nat×AB)→Bool
 | []=>true
 | (b,ab) :: l=>(match bl b with|some (.live c)|some (.lent c)=>c.beq ab && ab.more.isNone|_=>false) && needsOk bl l
def findC(bl:Nat→Option BK)(f:FuncId)(az:List AR):List CS→Option CS
 | []=>none
 | e :: l=>if e.f == f && beqL AR.beq e.args az && e.frz.isNone && needsOk bl e.needs then some e else findC bl f az l
def findB(op:BinOp)(t:TypeId)(a b:AR):List BS→Option BS
 | []=>none
 | e :: l=>if decide (e.op=op) && e.t == t && e.x.beq a && e.y.beq b then some e else findB op t a b l
def findO(o:Oper)(az:List AR):List OS→Option OS
 | []=>none
 | e :: l=>if e.same o && beqL AR.beq e.args az then some e else findO o az l
def other(cx:Cx)(o:Oper)(sl:Nat→AV):Option Eff :=
 match arsA sl o.op.operands.toList with
 | some az=>match findO o az cx.others with|some e=>some ⟨e.res,[]⟩|none=>none
 | none=>none
def litB(op:BinOp):AV→AV→Option LV
 | .r (.c (.lit (.int k n))),.r (.c (.lit (.int j m))) =>
  if decide (k=j) then
   match op with
   | .eql=>some (.bool (n == m))
   | .neq=>some (.bool (n != m))
   | .lss=>some (.bool (decide (n<m)))
   | .leq=>some (.bool (decide (n≤m)))
   | .gtr=>some (.bool (decide (n>m)))
   | .geq=>some (.bool (decide (n≥m)))
   | .add=>some (.int k (k.wrap (n+m)))
   | .sub=>some (.int k (k.wrap (n - m)))
   | .mul=>some (.int k (k.wrap (n*m)))
   | _=>none
  else none
 | _,_=>none
def okCells(cx:Cx)(l:List AC):Bool:=!cx.hp || l.all (AC.noint cx.ints)
def bndA(sl:Nat→AV):Option Operand→Option (Option Nat)
 | none=>some none
 | some o=>match (opv sl o).int with|some (_,n)=>if decide (0≤n) then some (some n.toNat) else none|none=>none
def srcA(bl:Nat→Option BK)(es:Nat):AV→Option (List AC×Nat)
 | .r (.c (.sl b off m _))|.r (.c (.sg b off m))=>match bl b with
  | some (.live ab)|some (.lent ab)=>if decide (off+m*es≤ab.cells.length) then some ((ab.cells.drop off).take (m*es),m) else none
  | _=>none
 | _=>none
def appendA(cx:Cx)(new t:Nat)(x y:AV)(bl:Nat→Option BK):Option Eff :=
  match lookT t cx.tys,bl new with
  | some i,some .unborn=>match i.agg,i.arr with
    | false,some (_,es,e)=>match lookT e cx.tys,srcA bl es y with
      | some ie,some (news,m) =>
        if ie.size == es && decide (0<es) && ie.zero.length == es && okCells cx (ie.zero.map AC.lit) && okCells cx news && decide (0<m) then
          match x with
          | .r (.c (.lit .nils))=>if decide (m≤1048576) then some ⟨.r (.c (.sg new 0 m)),[(new,.live ⟨news,e,some es⟩)]⟩ else none
          | .r (.c (.sl b off n cap)) =>
            if decide (n+m≤cap) then
              (match bl b with
               | some (.live ab)=>if decide (off+(n+m)*es≤ab.cells.length) then some ⟨.r (.c (.sl b off (n+m) cap)),[(b,.live { ab with cells:=over ab.cells (off+n*es) news })]⟩ else none
               | _=>none)
            else(match srcA bl es x with
              | some (olds,_)=>if decide (n+m≤1048576) && okCells cx olds then some ⟨.r (.c (.sg new 0 (n+m))),[(new,.live ⟨olds++news,e,some es⟩)]⟩ else none
              | none=>none)
          | .r (.c (.sg b 0 n))=>(match bl b with
            | some (.live ab)=>if decide (n+m≤1048576) && ab.more == some es && ab.cells.length == n*es && ab.ty == e then some ⟨.r (.c (.sg new 0 (n+m))),[(new,.live ⟨ab.cells++news,e,some es⟩),(b,.dead)]⟩ else none
            | _=>none)
          | _=>none
        else none
      | _,_=>none
    | _,_=>none
  | _,_=>none
def zeros(l:List LV)(n:Nat):List AC:=(List.range n).map fun k=>AC.lit (l.getD (k % l.length) .str0)
def compute(cx:Cx)(new len:Nat)(o:Oper)(sl:Nat→AV)(bl:Nat→Option BK):Option Eff :=
  match o.op with
  | .move x|.assign x=>some ⟨opv sl x,[]⟩
  | .pick c a b=>match (opv sl c).bool with|some t=>some ⟨opv sl (if t then a else b),[]⟩|none=>none
  | .alloc t=>match lookT t cx.tys,bl new with
    | some i,some .unborn=>if okCells cx (i.zero.map AC.lit) then some ⟨.r (.c (.own new 0)),[(new,.live ⟨i.zero.map AC.lit,t,none⟩)]⟩ else none
    | _,_=>none
  | .box t x=>match (opv sl x).ar,bl new with
    | some a,some .unborn=>if okCells cx a.cells then some ⟨.r (.c (.own new 0)),[(new,.live ⟨a.cells,t,none⟩)]⟩ else none
    | _,_=>none
  | .build t ps=>match lookT t cx.tys,partsA sl ps.toList with
    | some i,some parts=>if i.agg then(match fillA i.place (i.zero.map AC.lit) parts with|some cs=>some ⟨.r (.row cs),[]⟩|none=>none) else none
    | _,_=>none
  | .buildSlice t len ps=>match lookT t cx.tys,partsA sl ps.toList,bl new with
    | some i,some parts,some .unborn=>match i.agg,i.arr with
      | false,some (_,es,e)=>match lookT e cx.tys with
        | some ie =>
          if decide (len*es≤16777216) && decide (0<len*es) && ie.size == es && decide (0<ie.zero.length) then
            (match fillA (fun k=>some (k*es,es)) (zeros ie.zero (len*es)) parts with
             | some cs=>if okCells cx cs then some ⟨.r (.c (.sl new 0 len len)),[(new,.live ⟨cs,e,none⟩)]⟩ else none
             | none=>none)
          else none
        | none=>none
      | _,_=>none
    | _,_,_=>none
  | .makeSlice t l c=>match lookT t cx.tys,(opv sl l).int,(opv sl c).int,bl new with
    | some i,some (_,n),some (_,k),some .unborn=>match i.agg,i.arr with
      | false,some (_,es,e)=>match lookT e cx.tys with
        | some ie =>
          if decide (0≤n) && decide (n≤k) && decide (k*es≤16777216) && decide (k≤1048576) && ie.size == es && decide (0<ie.zero.length) && okCells cx (zeros ie.zero (k.toNat*es)) then
            some ⟨.r (.c (.sl new 0 n.toNat k.toNat)),[(new,.live ⟨zeros ie.zero (k.toNat*es),e,none⟩)]⟩
          else none
        | none=>none
      | _,_=>none
    | _,_,_,_=>none
  | .indexAddr t x ix=>match lookT t cx.tys,opv sl x,(opv sl ix).int with
    | some i,.r (.c (.own b off)),some (_,n)=>match i.agg,i.arr with
      | true,some (m,es,_)=>if decide (0≤n) && decide (n<(m:Int)) then some ⟨.r (.c (.own b (off+n.toNat*es))),[]⟩ else none
      | _,_=>none
    | some i,.r (.c (.sl b off len _)),some (_,n)=>match i.agg,i.arr with
      | false,some (_,es,_)=>if decide (0≤n) && decide (n<(len:Int)) then some ⟨.r (.c (.own b (off+n.toNat*es))),[]⟩ else none
      | _,_=>none
    | some i,.r (.c (.sg b off len)),some (_,n)=>match i.agg,i.arr with
      | false,some (_,es,_)=>if decide (0≤n) && decide (n<(len:Int)) then some ⟨.r (.c (.own b (off+n.toNat*es))),[]⟩ else none
      | _,_=>none
    | _,_,_=>none
  | .load t x=>match lookT t cx.tys,(opv sl x).own with
    | some i,some (b,off)=>match bl b with
      | some (.live ab)|some (.lent ab) =>
        if i.agg then(if decide (off+i.size≤ab.cells.length) then some ⟨.r (.row ((ab.cells.drop off).take i.size)),[]⟩ else none)
        else(match ab.cells[off]? with|some c=>some ⟨.r (.c c),[]⟩|none=>none)
      | _=>none
    | _,_=>none
  | .store t x y=>match lookT t cx.tys,(opv sl x).own,(opv sl y).ar with
    | some i,some (b,off),some a=>match bl b with
      | some (.live ab) =>
        if a.cells.length == i.size && decide (off+i.size≤ab.cells.length) && okCells cx a.cells then some ⟨.undf,[(b,.live { ab with cells:=over ab.cells off a.cells })]⟩ else none
      | _=>none
    | _,_,_=>none
  | .slice t x lo hi none=>match lookT t cx.tys,bndA sl lo,bndA sl hi with
    | some i,some lo,some hi=>match i.arr,opv sl x with
      | some (n,es,_),.r (.c (.own b off))=>if i.agg && decide (lo.getD 0≤hi.getD n) && decide (hi.getD n≤n) then some ⟨.r (.c (.sl b (if n=lo.getD 0 then off else off+lo.getD 0*es) (hi.getD n - lo.getD 0) (n - lo.getD 0))),[]⟩ else none
      | some (_,es,_),.r (.c (.sl b off n cap))=>if !i.agg && decide (lo.getD 0≤hi.getD n) && decide (hi.getD n≤cap) then some ⟨.r (.c (.sl b (if cap=lo.getD 0 then off else off+lo.getD 0*es) (hi.getD n - lo.getD 0) (cap - lo.getD 0))),[]⟩ else none
      | some (_,es,_),.r (.c (.sg b off n))=>if !i.agg && lo.getD 0 == 0 && decide (hi.getD n≤n) then some ⟨.r (.c (.sg b off (hi.getD n))),[]⟩ else none
      | _,_=>none
    | _,_,_=>none
  | .fieldAddr t x k=>match lookT t cx.tys,(opv sl x).own with
    | some i,some (b,off)=>match i.arr,i.fields[k]? with
      | none,some (fo,fs,_)=>if fs == 0 then none else some ⟨.r (.c (.own b (off+fo))),[]⟩
      | _,_=>none
    | _,_=>none
  | .field t x k=>match lookT t cx.tys,opv sl x with
    | some i,.r (.row cs)=>match i.arr,i.fields[k]? with
      | none,some (fo,fs,g) =>
        if g then(if decide (fo+fs≤cs.length) then some ⟨.r (.row ((cs.drop fo).take fs)),[]⟩ else none)
        else(match cs[fo]? with|some c=>some ⟨.r (.c c),[]⟩|none=>none)
      | _,_=>none
    | _,_=>none
  | .extract x i=>match opv sl x with
    | .tup l=>match l[i]? with|some a=>some ⟨.r a,[]⟩|none=>none
    | _=>none
  | .binOp op t x y _=>match litB op (opv sl x) (opv sl y) with
    | some l=>some ⟨.r (.c (.lit l)),[]⟩
    | none=>match (opv sl x).ar,(opv sl y).ar with
      | some a,some b=>match findB op t a b cx.bins with|some e=>some ⟨.r (.c e.res),[]⟩|none=>none
      | _,_=>none
  | .unOp .not _ x=>match (opv sl x).bool with|some b=>some ⟨.r (.c (.lit (.bool !b))),[]⟩|none=>other cx o sl
  | .nilCheck x=>match (opv sl x).own with|some _=>some ⟨opv sl x,[]⟩|none=>other cx o sl
  | .index t x ix=>match lookT t cx.tys,opv sl x,(opv sl ix).int with
    | some i,.r (.row cs),some (_,n)=>match i.agg,i.arr with
      | true,some (m,es,e)=>match lookT e cx.tys with
        | some ie =>
          if decide (0≤n) && decide (n<(m:Int)) && ie.size == es then
            (if ie.agg then(if decide (n.toNat*es+es≤cs.length) then some ⟨.r (.row ((cs.drop (n.toNat*es)).take es)),[]⟩ else none)
             else(match cs[n.toNat*es]? with|some c=>some ⟨.r (.c c),[]⟩|none=>none))
          else none
        | none=>none
      | _,_=>none
    | _,_,_=>other cx o sl
  | .makeFunc (.func f) first caps=>match ownsA sl first.toList,ownsA sl caps.toList with
    | some a,some b=>some ⟨.r (.c (.fn f a b)),[]⟩
    | _,_=>none
  | .call c=>match calleeA sl c.callee with
    | some (f,a,b)=>match arsA sl c.args.toList with
      | some az=>match findC bl f (ownR a++az++ownR b) cx.calls with
        | some e=>match e.give with
          | none=>(match e.put with
            | none=>some ⟨e.res,[]⟩
            | some q=>match bl q.1 with|some (.live _)=>if q.2.more.isNone && okCells cx q.2.cells then some ⟨e.res,[(q.1,.live q.2)]⟩ else none|_=>none)
          | some g=>match bl g with|some (.live _)=>some ⟨e.res,[(g,.dead)]⟩|_=>none
        | none=>match cx.inl f (ownR a++az++ownR b) bl len new with
          | some (r,ws,_)=>some ⟨r,ws⟩
          | none=>other cx o sl
      | none=>none
    | none=>match c.callee with
    | .builtin .len=>match c.args.toList,c.argTypes.toList with
      | [x],t :: _=>match opv sl x,lookT t cx.tys with
        | .r (.c (.sl _ _ n _)),some i=>(match i.agg,i.arr with|false,some _=>some ⟨.r (.c (.lit (.int .i64 n))),[]⟩|_,_=>none)
        | .r (.c (.sg _ _ n)),some i=>(match i.agg,i.arr with|false,some _=>some ⟨.r (.c (.lit (.int .i64 n))),[]⟩|_,_=>none)
        | .r (.c (.lit .nils)),some i=>(match i.agg,i.arr with|false,some _=>some ⟨.r (.c (.lit (.int .i64 0))),[]⟩|_,_=>none)
        | _,_=>other cx o sl
      | _,_=>other cx o sl
    | .builtin .append=>match c.args.toList,c.argTypes.toList with
      | [x,y],[t,u]=>if t == u then appendA cx new t (opv sl x) (opv sl y) bl else other cx o sl
      | _,_=>other cx o sl
    | _=>other cx o sl
  | _=>other cx o sl
def AC.fz(b i:Nat):AC→AC
 | .own c o=>if c == b && o == 0 then .sym i else .own c o
 | x=>x
def AR.fz(b i:Nat):AR→AR|.c x=>.c (x.fz b i)|.row l=>.row (l.map (AC.fz b i))
def AV.fz(b i:Nat):AV→AV|.r x=>.r (x.fz b i)|.tup l=>.tup (l.map (AR.fz b i))|x=>x
def BK.fz(b i:Nat):BK→BK|.live ab=>.live { ab with cells:=ab.cells.map (AC.fz b i) }|k=>k
def findZ(ab:AB):Nat→List BK→Option Nat
 | _,[]=>none
 | i,k :: l=>match k with|.live c=>if c.beq ab then some i else findZ ab (i+1) l|_=>findZ ab (i+1) l
def AS.frozen(s:AS)(b i:Nat):AS:={ tmps:=s.tmps.map (AV.fz b i),blocks:=(s.blocks.map (BK.fz b i)).set b .dead }
def AS.fz(cx:Cx)(key:Nat)(s:AS)(e:CS):AS :=
 match e.frz with
 | none=>s
 | some q=>match e.res with
  | .r (.c (.sym i))=>if q.1 == key && q.2.more.isNone && okCells cx [.sym i] then(match findZ q.2 0 s.blocks with|some b=>s.frozen b i|none=>s) else s
  | _=>s
def frzL(cx:Cx)(key:Nat):List CS→AS→AS
 | [],s=>s
 | e :: l,s=>frzL cx key l (s.fz cx key e)
def frzs(l:List CS):List CS:=l.filter fun e=>e.frz.isSome
def dropU:List BK→List BK
 | []=>[]
 | k :: l=>match dropU l with
  | []=>(match k with|.unborn=>[]|k=>[k])
  | x :: m=>k :: x :: m
def aheadA(cx:Cx)(key:Nat)(s:AS):AS :=
 match frzs cx.calls with
 | []=>s
 | e :: l=>{ frzL cx key (e :: l) s with blocks:=dropU (frzL cx key (e :: l) s).blocks }
def setL(l:List BK):List (Nat×BK)→List BK
 | []=>l
 | (b,k) :: r=>setL (l.set b k) r
def AS.put(s:AS)(d:Option Nat)(e:Eff):AS :=
  { tmps:=match d with|some d=>s.tmps.set d e.val|none=>s.tmps
    blocks:=setL s.blocks e.wr }
def wantedA(ops:Array Oper)(o:Oper)(sl:Nat→AV):Option Bool :=
 match o.guard with
 | none=>some true
 | some (j,want)=>match (ops[j]?).bind (·.dst) with
  | some d=>match sl d with
   | .r (.c (.lit (.bool b)))=>some (b == want)
   | .undf=>some false
   | _=>none
  | none=>none
structure Fp where
 rd:Nat→Bool
 wr:Nat→Bool
def Eff.fits(wr:Nat→Bool)(e:Eff):Bool:=e.wr.all fun p=>wr p.1
def act1(cx:Cx)(ops:Array Oper)(base len:Nat)(wr:Nat→Bool)(i:Nat)(sl:Nat→AV)(bl:Nat→Option BK):Option (Option Nat×Eff) :=
 match ops[i]? with
 | none=>none
 | some o =>
  match wantedA ops o sl with
  | some true =>
   match compute cx (base+i*cx.width) len o sl bl with
   | some e=>if e.fits wr then some (o.dst,e) else none
   | none=>none
  | some false=>some (o.dst,⟨.undf,[]⟩)
  | none=>none
def viewT(ops:Array Oper)(i:Nat)(s:AS)(t:Nat):AV:=if((ops[i]?).map fun o=>(o.looksAt ops).contains t).getD false then s.tmps.getD t .undf else .junk
def viewB(fp:Nat→Fp)(i:Nat)(s:AS)(b:Nat):Option BK:=if(fp i).rd b then s.blocks[b]? else none
def step1(cx:Cx)(ops:Array Oper)(base len:Nat)(fp:Nat→Fp)(i:Nat)(s:AS):Option AS :=
 match act1 cx ops base len (fp i).wr i (viewT ops i s) (viewB fp i s) with
 | some (d,e)=>some (s.put d e)
 | none=>none
def runL(cx:Cx)(ops:Array Oper)(base len:Nat)(fp:Nat→Fp):List Nat→AS→Option AS
 | [],s=>some s
 | i :: l,s=>match step1 cx ops base len fp i s with|some s1=>runL cx ops base len fp l s1|none=>none
end Tr
