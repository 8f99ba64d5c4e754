/- Laws for the walk. -/
import Derived.Test.YthklnbaddobieaaGreatUas
import Derived.Laws.AppendOwn
import Derived.ArgAppend
set_option linter.unusedVariables false
set_option maxHeartbeats 4000000
namespace Tr
open Go Go.RowKit
def needsP(T:Nat→Fact)(σ:Sg)(w:World)(A:Nat→Prop):List (Nat×AB)→Prop
 | []=>True
 | (b,ab) :: l=>(∃ n vs,σ b=some n∧A n∧w.heap[n]?=some (.cells vs.toArray ab.ty (0,0))∧oks T σ ab.cells vs w A)∧needsP T σ w A l
def CS.Ok(P:Program)(T:Nat→Fact)(hp:Bool)(e:CS):Prop :=
 match e.frz with
 | some q=>∀(σ:Sg) (w:World) (A:Nat→Prop) (n:Nat) (vs:List Value),(hp=true→Rcv A w)→w.heap[n]?=some (.cells vs.toArray q.2.ty (0,0))→oks T σ q.2.cells vs w A→e.res.ok T σ (.pointer (some ⟨n,0,none⟩)) w (fun x=>A x∧x≠n)
 | none=>∀(σ:Sg) (w:World) (A:Nat→Prop) (vs:List Value),(hp=true→Rcv A w)→(∀ n,A n→n<w.heap.size)→okr T σ e.args vs w A→needsP T σ w A e.needs →
  match e.give with
  | none=>(match e.put with
   | none=>Calls P e.f vs.toArray w fun r w'=>∃ v,r=.returned v∧e.res.ok T σ v w' A∧Below w.heap.size w w'
   | some q=>∀ n,σ q.1=some n→A n→Calls P e.f vs.toArray w fun r w'=>∃ v,r=.returned v∧e.res.ok T σ v w' A∧Mod n w w'∧∃ us:List Value,w'.heap[n]?=some (.cells us.toArray q.2.ty (0,0))∧oks T σ q.2.cells us w' A)
  | some g=>∀ n,σ g=some n→A n→Calls P e.f vs.toArray w fun r w'=>∃ v,r=.returned v∧e.res.ok T σ v w' (fun x=>A x∧x≠n)∧Mod n w w'
def Enters(P:Program)(f:FuncId):Prop:=∀ args w,(callFunc f args).run P w=.ok (.enter f args) w
def BS.Ok(P:Program)(T:Nat→Fact)(e:BS):Prop :=
 ∀(σ:Sg) (w:World) (A:Nat→Prop) (vx vy:Value) (xo yo:Operand),e.x.ok T σ vx w A→e.y.ok T σ vy w A →
  ∃ v,(do eqGuard e.op e.t xo yo vx vy; binOp e.op e.t vx vy:Sem Value).run P w=.ok v w∧e.res.ok T σ v w A
def OS.Ok(P:Program)(T:Nat→Fact)(e:OS):Prop :=
 ∀ o:Oper,e.same o=true→∀(σ:Sg) (ρ:Operand→Value) (w:World) (A:Nat→Prop),okr T σ e.args (o.op.operands.toList.map ρ) w A →
  ∃ v,(execOp ρ o).run P w=.ok (.value v) w∧e.res.ok T σ v w A
def InlOk(P:Program)(T:Nat→Fact)(cx:Cx):Prop :=
 ∀(A0 M:Nat→Prop) (w0:World) (σs:Sg) (σ:Sg) (s:AS) (a:Act) (w:World),Rel T cx A0 M w0 σs σ s a w→∀(f:FuncId) (args:List AR) (vs:List Value) (bl:Nat→Option BK) (new:Nat) (r:AV) (ws:List (Nat×BK)) (rd:List Nat),
  (∀ b k,bl b=some k→s.blocks[b]?=some k)→okr T σ args vs w (Al A0 σ s.blocks)→cx.inl f args bl s.blocks.length new=some (r,ws,rd) →
  Enters P f∧Calls P f vs.toArray w fun e w'=>∃ v,e=.returned v∧∃ σ',∀ d,Rel T cx A0 M w0 σs σ' (s.put d ⟨r,ws⟩) (a.put d v) w'
structure CxOk(P:Program)(T:Nat→Fact)(cx:Cx):Prop where
 table:TOk T cx.ints
 tys:∀ p∈cx.tys,p.2.good P p.1=true
 calls:∀ e∈cx.calls,e.Ok P T cx.hp
 enters:∀ e∈cx.calls,Enters P e.f
 bins:∀ e∈cx.bins,e.Ok P T
 others:∀ e∈cx.others,e.Ok P T
 inl:InlOk P T cx
section
variable{T:Nat→Fact}{cx:Cx}{A0 M:Nat→Prop}{w0:World}{σs:Sg}{σ:Sg}{s:AS}{a:Act}{w:World}{P:Program}{Q:Exit→Act→World→Prop}
theorem wp_value{o:Oper}{K:Act→World→Prop}{v:Value}{w':World}(h:(execOp a.eval o).run P w=.ok (.value v) w')(hK:K (a.put o.dst v) w'):o.wp P a w K Q:=by
 unfold Oper.wp; rw[h]; exact hK
theorem wp_skipped{o:Oper}{K:Act→World→Prop}{w':World}(h:(execOp a.eval o).run P w=.ok .skip w')(hK:K (a.put o.dst undef) w'):o.wp P a w K Q:=by
 unfold Oper.wp; rw[h]; exact hK
theorem lookT_mem{t:TypeId}{i:TyI}:∀{l:List (TypeId×TyI)},lookT t l=some i→(t,i)∈l
 | [],h=>by cases h
 | (u,j) :: l,h=>by
  unfold lookT at h
  split at h
  ·rename_i e
   cases h
   simp at e; subst e
   exact List.mem_cons_self
  ·exact List.mem_cons_of_mem _ (lookT_mem h)
theorem good_spec {t : TypeId} {i : TyI} (h : i.good P t = true) : ∃ ti z d,P.info? t = some ti ∧ P.underlying t = some d ∧ ti.size = i.size ∧ ti.zero = some z ∧ z.cells.toList = i.zero.map LV.val ∧ isAggD d = i.agg ∧
    (match d with
     | .struct fs=>fieldsOk P fs.toList i.fields && i.arr == none
     | .array n e=>i.fields.isEmpty && (match i.arr,(P.info? e).map (·.size) with|some (m,k,e'),some s=>m == n && k == s && e' == e|_,_=>false)
     | .slice e=>i.fields.isEmpty && (match i.arr,(P.info? e).map (·.size) with|some (_,k,e'),some s=>k == s && e' == e|_,_=>false)
     | _=>i.fields.isEmpty && i.arr == none)=true:=by
  unfold TyI.good at h
  split at h
  · rename_i ti d h1 h2
    simp only[Bool.and_eq_true] at h
    obtain⟨⟨⟨⟨h3,h4⟩,h5⟩,h6⟩,_⟩:=h
    cases hz:ti.zero with
    | none=>simp[hz] at h4
    | some z =>
      simp only[hz] at h4
      exact⟨ti,z,d,h1,h2,by simpa using h3,hz,lvsOk_spec h4,by simpa using h5,h6⟩
  · cases h
theorem good_bytes{t:TypeId}{i:TyI}(h:i.good P t=true){ti:TypeInfo}(hi:P.info? t=some ti):ti.bytes≤1048576:=by
 unfold TyI.good at h
 rw[hi] at h
 split at h
 ·rename_i ti' d h1 h2
  cases h1
  simp only[Bool.and_eq_true,decide_eq_true_eq] at h
  exact h.2
 ·cases h
theorem oks_lits{w:World}{A:Nat→Prop}:∀ l:List LV,oks T σ (l.map AC.lit) (l.map LV.val) w A
 | []=>trivial
 | _ :: l=>⟨rfl,oks_lits l⟩
theorem good_slice{t:TypeId}{i:TyI}(h:i.good P t=true)(ha:i.agg=false){m es e:Nat}(hr:i.arr=some (m,es,e)):P.underlying t=some (.slice e)∧(P.info? e).map (·.size)=some es:=by
 obtain⟨ti,z,d,g1,g2,g3,g4,g5,g6,g7⟩:=good_spec h
 rw[ha] at g6
 cases d<;>simp only[isAggD] at g6<;>try (cases g6; done)
 case slice e0 =>
  simp only[Bool.and_eq_true,hr] at g7
  cases hi:P.info? e0 with
  | none=>simp[hi] at g7
  | some ie =>
   simp[hi] at g7
   obtain⟨_,h1,h2⟩:=g7
   subst h2
   exact⟨g2,by rw[hi,h1]; rfl⟩
 all_goals (simp[hr] at g7)
theorem good_array{t:TypeId}{i:TyI}(h:i.good P t=true)(ha:i.agg=true){m es e:Nat}(hr:i.arr=some (m,es,e)):P.underlying t=some (.array m e)∧(P.info? e).map (·.size)=some es:=by
 obtain⟨ti,z,d,g1,g2,g3,g4,g5,g6,g7⟩:=good_spec h
 rw[ha] at g6
 cases d<;>simp only[isAggD] at g6<;>try (cases g6; done)
 case array n e0 =>
  simp only[Bool.and_eq_true,hr] at g7
  cases hi:P.info? e0 with
  | none=>simp[hi] at g7
  | some ie =>
   simp[hi] at g7
   obtain⟨_,⟨h0,h1⟩,h2⟩:=g7
   subst h2; subst h0
   exact⟨g2,by rw[hi,h1]; rfl⟩
 all_goals (simp[hr] at g7)
theorem oks_zeros{w:World}{A:Nat→Prop}{l:List LV}{cs:Array Value}(hc:cs.toList=l.map LV.val)(hl:0<l.length)(n:Nat):oks T σ (zeros l n) ((Array.range n).map (cs[· % cs.size]!)).toList w A:=by
 have hsz:cs.size=l.length:=by rw[←Array.length_toList,hc]; simp
 have key:∀ ks:List Nat,oks T σ (ks.map fun k=>AC.lit (l.getD (k % l.length) .str0)) (ks.map fun k=>cs[k % cs.size]!) w A:=by
  intro ks
  induction ks with
  | nil=>trivial
  | cons k ks ih =>
   refine⟨?_,ih⟩
   show cs[k % cs.size]! = (l.getD (k % l.length) .str0).val
   have h1:k % l.length<l.length:=Nat.mod_lt _ hl
   rw[hsz,getElem!_pos cs (k % l.length) (by omega)]
   have h2:cs.toList[k % l.length]?=(l.map LV.val)[k % l.length]?:=by rw[hc]
   simp[List.getD,h1,hsz] at h2 ⊢
   exact h2
 have e:((Array.range n).map (cs[· % cs.size]!)).toList=(List.range n).map fun k=>cs[k % cs.size]! := by simp
 rw[e]
 exact key _
theorem fieldsOk_places:∀{fs:List Field} {l:List (Nat×Nat×Bool)},fieldsOk P fs l=true→fs.mapM (fun f=>(P.info? f.type).map fun i=>(f.offset,i.size))=some (l.map fun p=>(p.1,p.2.1))
 | [],[],_=>rfl
 | f :: fs,(o,n,g) :: l,h=>by
  simp only[fieldsOk,Bool.and_eq_true,beq_iff_eq] at h
  obtain⟨⟨⟨h1,h2⟩,h3⟩,h4⟩:=h
  rw[List.mapM_cons,fieldsOk_places h4]
  cases hi:P.info? f.type with
  | none=>simp[hi] at h2
  | some i=>simp[hi] at h2; subst h1; simp[h2]
 | [],_ :: _,h=>by cases h
 | _ :: _,[],h=>by cases h
theorem fieldsOk_get:∀{fs:List Field} {l:List (Nat×Nat×Bool)},fieldsOk P fs l=true→∀{k:Nat} {o n:Nat} {g:Bool},l[k]?=some (o,n,g)→∃ f i d,fs[k]?=some f∧f.offset=o∧P.info? f.type=some i∧i.size=n∧P.underlying f.type=some d∧isAggD d=g
 | [],[],_,_,_,_,_,h=>by simp at h
 | f :: fs,(o,n,g) :: l,h,k,o',n',g',hk=>by
  simp only[fieldsOk,Bool.and_eq_true,beq_iff_eq] at h
  obtain⟨⟨⟨h1,h2⟩,h3⟩,h4⟩:=h
  cases k with
  | zero =>
   simp at hk
   obtain⟨rfl,rfl,rfl⟩:=hk
   cases hi:P.info? f.type with
   | none=>simp[hi] at h2
   | some i =>
    cases hu:P.underlying f.type with
    | none=>simp[hu] at h3
    | some d=>simp[hi] at h2; simp[hu] at h3; exact⟨f,i,d,rfl,h1,hi,h2,hu,h3⟩
  | succ k =>
   simp only[List.getElem?_cons_succ] at hk ⊢
   exact fieldsOk_get h4 hk
 | [],_ :: _,h,_,_,_,_,_=>by cases h
 | _ :: _,[],h,_,_,_,_,_=>by cases h
theorem fold_over(off:Nat):∀(l:List Value) (k:Nat) (cs:Array Value),off+k+l.length≤cs.size →
  ((l.zipIdx k).foldl (fun(cs:Array Value) (p:Value×Nat)=>cs.setIfInBounds (off+p.2) p.1) cs).toList=cs.toList.take (off+k)++l++cs.toList.drop (off+k+l.length)
 | [],k,cs,h=>by simp
 | v :: l,k,cs,h=>by
  simp only[List.length_cons] at h
  simp only[List.zipIdx_cons,List.foldl_cons]
  rw[fold_over off l (k+1) _ (by simp; omega)]
  apply List.ext_getElem?
  intro j
  simp only[Array.toList_setIfInBounds,List.getElem?_append,List.length_take,List.length_append,List.length_cons,List.length_set,Array.length_toList,List.getElem?_take,List.getElem?_drop,List.getElem?_set]
  have e1:min (off+(k+1)) cs.size=off+k+1:=by omega
  have e2:min (off+k) cs.size=off+k:=by omega
  simp only[e1,e2]
  by_cases h1:j<off+k
  ·simp[h1,show j<off+k+1+l.length by omega,show j<off+k+1 by omega,show j<off+(k+1) by omega,show j<off+k+(l.length+1) by omega,show off+k≠j by omega]
  ·by_cases h2:j=off+k
   ·subst h2
    simp[show off+k<off+k+1+l.length by omega,show off+k<off+(k+1) by omega,show off+k<off+k+(l.length+1) by omega,show off+k<cs.size by omega]
   ·by_cases h3:j<off+k+1+l.length
    ·simp[h1,h3,show ¬j<off+k+1 by omega,show j<off+k+(l.length+1) by omega,show j - (off+k)=(j - (off+k+1))+1 by omega]
    ·simp[h3,show ¬j<off+k+(l.length+1) by omega,show off+k≠off+(k+1)+l.length+(j - (off+k+1+l.length)) by omega]
     congr 1; omega
theorem foldA_over(off:Nat)(v:Array Value)(cs:Array Value)(h:off+v.size≤cs.size) :
  v.zipIdx.foldl (fun(cs:Array Value) (p:Value×Nat)=>cs.setIfInBounds (off+p.2) p.1) cs=(over cs.toList off v.toList).toArray:=by
 rw[←Array.foldl_toList]
 apply Array.toList_inj.1
 have:=fold_over off v.toList 0 cs (by simpa using h)
 simp only[Nat.add_zero] at this
 rw[Array.toList_zipIdx,this]
 rfl
theorem oks_over{A:Nat→Prop}{l m:List AC}{vs us:List Value}(h:oks T σ l vs w A)(h':oks T σ m us w A)(off:Nat):oks T σ (over l off m) (over vs off us) w A:=by
 unfold over
 rw[h'.length]
 exact((h.take off).append h').append (h.drop _)
theorem fill_ok{A:Nat→Prop}{place place':Nat→Option (Nat×Nat)}(hpl:∀ k,place k=place' k):∀{parts:List (Nat×List AC)} {pvs:List (Nat×Value)} {cells cs:List AC} {vs:List Value},
  (List.length parts=pvs.length∧∀(j:Nat) (i:Nat) (l:List AC),parts[j]?=some (i,l)→∃ v us,pvs[j]?=some (i,v)∧v.cells=List.toArray us∧oks T σ l us w A) →
  fillA place cells parts=some cs→oks T σ cells vs w A→∃ us,Instr.fill place' vs.toArray pvs=some (List.toArray us)∧oks T σ cs us w A
 | [],pvs,cells,cs,vs,hp,hf,hv=>by
  cases pvs with
  | nil=>cases hf; exact⟨vs,rfl,hv⟩
  | cons _ _=>simp at hp
 | (i,l) :: parts,pvs,cells,cs,vs,hp,hf,hv=>by
  cases pvs with
  | nil=>simp at hp
  | cons p pvs =>
   obtain⟨v,us,h1,h2,h3⟩:=hp.2 0 i l rfl
   simp only[List.getElem?_cons_zero,Option.some.injEq] at h1
   subst h1
   unfold fillA at hf
   unfold Instr.fill
   rw[←hpl i]
   cases hq:place i with
   | none=>simp[hq] at hf
   | some q =>
    obtain⟨off,size⟩:=q
    simp only[hq] at hf ⊢
    split at hf
    ·rename_i hc
     simp only[Bool.and_eq_true,beq_iff_eq,decide_eq_true_eq] at hc
     have hl:us.length=l.length:=h3.length
     have hl2:vs.length=cells.length:=hv.length
     rw[if_neg (by rw[h2]; simp; omega)]
     rw[foldA_over off v.cells vs.toArray (by rw[h2]; simp; omega)]
     rw[h2]
     refine fill_ok hpl (parts:=parts) ⟨by simpa using hp.1,fun j k m hj=>?_⟩ hf (oks_over hv h3 off)
     exact hp.2 (j+1) k m (by simpa using hj)
    ·cases hf
theorem partsA_ok(ht:TOk T cx.ints)(R:Rel T cx A0 M w0 σs σ s a w){sl:Nat→AV}(hsl:∀ t,sl t=.junk∨sl t=s.tmps.getD t .undf):∀{l:List (Nat×Operand)} {parts:List (Nat×List AC)},partsA sl l=some parts →
  (List.length parts=(l.map fun p=>(p.1,a.eval p.2)).length∧∀(j:Nat) (i:Nat) (m:List AC),parts[j]?=some (i,m)→∃ v us,(l.map fun p=>(p.1,a.eval p.2))[j]?=some (i,v)∧v.cells=List.toArray us∧oks T σ m us w (Al A0 σ s.blocks))
 | [],parts,h=>by cases h; simp
 | (i,x) :: l,parts,h=>by
  unfold partsA at h
  split at h
  ·rename_i ar r h1 h2
   cases h
   obtain⟨g1,g2⟩:=partsA_ok ht R hsl h2
   refine⟨by simp at g1 ⊢; exact g1,fun j k m hj=>?_⟩
   cases j with
   | zero =>
    simp only[List.getElem?_cons_zero,Option.some.injEq,Prod.mk.injEq] at hj
    obtain⟨rfl,rfl⟩:=hj
    obtain⟨us,e1,e2⟩:=(AV.ar_ok h1 (R.operand hsl x)).cells ht
    exact⟨_,us,rfl,e1,e2⟩
   | succ j=>simp only[List.getElem?_cons_succ] at hj; simpa using g2 j k m hj
  ·cases h
theorem arsA_ok(R:Rel T cx A0 M w0 σs σ s a w){sl:Nat→AV}(hsl:∀ t,sl t=.junk∨sl t=s.tmps.getD t .undf):∀{l:List Operand} {az:List AR},arsA sl l=some az→okr T σ az (l.map a.eval) w (Al A0 σ s.blocks)
 | [],az,h=>by cases h; trivial
 | x :: l,az,h=>by
  unfold arsA at h
  split at h
  ·rename_i ar r h1 h2
   cases h
   exact⟨AV.ar_ok h1 (R.operand hsl x),arsA_ok R hsl h2⟩
  ·cases h
theorem ownsA_ok(R:Rel T cx A0 M w0 σs σ s a w){sl:Nat→AV}(hsl:∀ t,sl t=.junk∨sl t=s.tmps.getD t .undf):∀{l:List Operand} {bs:List Nat},ownsA sl l=some bs→ptrs σ bs (l.map a.eval)
 | [],bs,h=>by cases h; trivial
 | x :: l,bs,h=>by
  unfold ownsA at h
  split at h
  ·rename_i b r h1 h2
   cases h
   exact⟨AV.own_ok h1 (R.operand hsl x),ownsA_ok R hsl h2⟩
  ·cases h
theorem callee_ok(R:Rel T cx A0 M w0 σs σ s a w){sl:Nat→AV}(hsl:∀ t,sl t=.junk∨sl t=s.tmps.getD t .undf){callee:Callee}{f:FuncId}{fa fb:List Nat}(h:calleeA sl callee=some (f,fa,fb))(args:Array Operand)(ats:Array TypeId)(dst:Option Tmp)(ty:TypeId)(pos:String)(after:Array Edge)(guard:Option (Nat×Bool)) :
  ∃ us vs:List Value,(execOp a.eval { dst,op:=.call { callee,args,argTypes:=ats },type:=ty,pos,after,guard }).run P w=(callFunc f (us++args.toList.map a.eval++vs).toArray).run P w∧ptrs σ fa us∧ptrs σ fb vs:=by
 unfold calleeA at h
 split at h
 ·cases h
  refine⟨[],[],?_,trivial,trivial⟩
  rw[execOp_call_go]
  congr 1
  congr 1
  apply Array.toList_inj.1; simp
 ·rename_i x _
  split at h
  ·rename_i g p q hx
   cases h
   have h1:=R.operand hsl x
   rw[hx] at h1
   obtain⟨us,vs,e,h2,h3⟩:=h1
   refine⟨us,vs,?_,h2,h3⟩
   have e0:(us.toArray++args.map a.eval++vs.toArray:Array Value)=(us++args.toList.map a.eval++vs).toArray:=by
    apply Array.toList_inj.1; simp
   simp only[execOp,resolve,e,Deferred.ofValue,Sem.run_bind,Sem.run_pure,Result.andThen_ok,invoke,e0]
  ·cases h
 ·cases h
theorem needs_ok(R:Rel T cx A0 M w0 σs σ s a w){bl:Nat→Option BK}(hbl:∀ b k,bl b=some k→s.blocks[b]?=some k):∀{l:List (Nat×AB)},needsOk bl l=true→needsP T σ w (Al A0 σ s.blocks) l
 | [],_=>trivial
 | (b,ab) :: l,h=>by
  simp only[needsOk,Bool.and_eq_true] at h
  refine⟨?_,needs_ok R hbl h.2⟩
  have h1:=h.1
  have key:∀(c:AB) (n:Nat),LiveOk T cx σ (Al A0 σ s.blocks) w b c n→c.more=none→∃ vs:List Value,w.heap[n]?=some (Obj.cells vs.toArray c.ty (0,0))∧oks T σ c.cells vs w (Al A0 σ s.blocks):=by
   rintro c n ⟨vs,rest,g3,g4,_,_,_,g8⟩ e
   rw[e] at g8
   have g8:rest=[]:=g8
   subst g8
   exact⟨vs,by simpa using g3,g4⟩
  split at h1
  ·rename_i c hc
   simp only[Bool.and_eq_true,Option.isNone_iff_eq_none] at h1
   have:=AB.eq_of h1.1
   subst this
   obtain⟨n,g1,g2,g3⟩:=R.blocks b c (hbl _ _ hc)
   obtain⟨vs,g4,g5⟩:=key _ _ g3 h1.2
   exact⟨n,vs,g1,.inr ⟨b,c,hbl _ _ hc,g1⟩,g4,g5⟩
  ·rename_i c hc
   simp only[Bool.and_eq_true,Option.isNone_iff_eq_none] at h1
   have:=AB.eq_of h1.1
   subst this
   obtain⟨n,g1,g2,g3⟩:=R.lent b c (hbl _ _ hc)
   obtain⟨vs,g4,g5⟩:=key _ _ g3 h1.2
   exact⟨n,vs,g1,.inl g2,g4,g5⟩
  ·cases h1
theorem findC_spec{bl:Nat→Option BK}{f:FuncId}{az:List AR}{e:CS}:∀{l:List CS},findC bl f az l=some e→e∈l∧e.f=f∧e.args=az∧needsOk bl e.needs=true∧e.frz=none
 | [],h=>by cases h
 | c :: l,h=>by
  unfold findC at h
  split at h
  ·rename_i hc
   cases h
   simp only[Bool.and_eq_true,beq_iff_eq] at hc
   exact⟨List.mem_cons_self,hc.1.1.1,eqL_of (fun _ _=>AR.eq_of) hc.1.1.2,hc.2,Option.isNone_iff_eq_none.1 hc.1.2⟩
  ·obtain⟨h1,h2⟩:=findC_spec h
   exact⟨List.mem_cons_of_mem _ h1,h2⟩
theorem findB_spec{op:BinOp}{t:TypeId}{x y:AR}{e:BS}:∀{l:List BS},findB op t x y l=some e→e∈l∧e.op=op∧e.t=t∧e.x=x∧e.y=y
 | [],h=>by cases h
 | c :: l,h=>by
  unfold findB at h
  split at h
  ·rename_i hc
   cases h
   simp only[Bool.and_eq_true,beq_iff_eq,decide_eq_true_eq] at hc
   exact⟨List.mem_cons_self,hc.1.1.1,hc.1.1.2,AR.eq_of hc.1.2,AR.eq_of hc.2⟩
  ·obtain⟨h1,h2⟩:=findB_spec h
   exact⟨List.mem_cons_of_mem _ h1,h2⟩
theorem findO_spec{o:Oper}{az:List AR}{e:OS}:∀{l:List OS},findO o az l=some e→e∈l∧e.same o=true∧e.args=az
 | [],h=>by cases h
 | c :: l,h=>by
  unfold findO at h
  split at h
  ·rename_i hc
   cases h
   simp only[Bool.and_eq_true] at hc
   exact⟨List.mem_cons_self,hc.1,eqL_of (fun _ _=>AR.eq_of) hc.2⟩
  ·obtain⟨h1,h2⟩:=findO_spec h
   exact⟨List.mem_cons_of_mem _ h1,h2⟩
theorem Addr.add_plain(n o k:Nat):(⟨n,o,none⟩:Addr).add k=⟨n,o+k,none⟩:=by unfold Addr.add; split<;>simp_all
theorem run_isAgg{t:TypeId}{d:TypeDesc}(h:P.underlying t=some d)(w:World):(isAgg t).run P w=.ok (isAggD d) w:=by
 unfold isAgg
 rw[Sem.run_bind,run_underlying h w]
 cases d<;>rfl
theorem other_ok(C:CxOk P T cx)(R:Rel T cx A0 M w0 σs σ s a w){sl:Nat→AV}(hsl:∀ t,sl t=.junk∨sl t=s.tmps.getD t .undf){o:Oper}{e:Eff}(h:other cx o sl=some e){K:Act→World→Prop}(hK:∀ σ' a' w',Rel T cx A0 M w0 σs σ' (s.put o.dst e) a' w'→K a' w'):o.wp P a w K Q:=by
 unfold other at h
 split at h
 ·rename_i az h1
  split at h
  ·rename_i e' h2
   cases h
   obtain⟨m1,m2,m3⟩:=findO_spec h2
   obtain⟨v,hv,hr⟩:=C.others e' m1 o m2 σ a.eval w _ (by rw[m3]; exact arsA_ok R hsl h1)
   exact wp_value hv (hK _ _ _ (R.val hr _))
  ·cases h
 ·cases h
theorem litB_ok{op:BinOp}{x y:AV}{l:LV}(h:litB op x y=some l){A:Nat→Prop}{vx vy:Value}(hx:x.ok T σ vx w A)(hy:y.ok T σ vy w A)(t:TypeId)(xo yo:Operand) :
  (do eqGuard op t xo yo vx vy; binOp op t vx vy:Sem Value).run P w=.ok l.val w:=by
 unfold litB at h
 split at h
 ·rename_i k n j m
  rw[show vx=.int k n from hx,show vy=.int j m from hy]
  split at h
  ·rename_i e
   have e:=of_decide_eq_true e
   subst e
   cases op<;>simp only[Option.some.injEq] at h<;>first|(cases h; done)|(subst h; simp[eqGuard,binOp,Op.intCmp,Op.intArith,LV.val])
  ·cases h
 ·cases h
end
end Tr
namespace Tr
open Go Go.RowKit
section
variable{T:Nat→Fact}{cx:Cx}{A0 M:Nat→Prop}{w0:World}{σs σ:Sg}{s:AS}{a:Act}{w:World}{P:Program}
theorem blk_ok(R:Rel T cx A0 M w0 σs σ s a w){bl:Nat→Option BK}(hbl:∀ b k,bl b=some k→s.blocks[b]?=some k){b:Nat}{ab:AB}(h:bl b=some (.live ab)∨bl b=some (.lent ab)):∃ n,σ b=some n∧LiveOk T cx σ (Al A0 σ s.blocks) w b ab n:=by
 rcases h with h|h
 ·obtain⟨n,g1,_,g3⟩:=R.blocks b ab (hbl _ _ h); exact⟨n,g1,g3⟩
 ·obtain⟨n,g1,_,g3⟩:=R.lent b ab (hbl _ _ h); exact⟨n,g1,g3⟩
theorem cells_at{n off k:Nat}{vs rest:List Value}{ty:TypeId}(h:w.heap[n]?=some (.cells (vs++rest).toArray ty (0,0)))(hk:off+k≤vs.length):∀(j:Nat) (u:Value),((vs.drop off).take k)[j]?=some u→w.cell? ((⟨n,off,none⟩:Addr).add j)=some u:=fun j u hj=>by
 rw[Addr.add_plain,cell_of_row w n _ _ _ _ h]
 rw[List.getElem?_take] at hj
 split at hj
 ·rw[List.getElem?_drop] at hj
  simp only[List.getElem?_toArray]
  rw[List.getElem?_append_left (by omega),hj]
 ·cases hj
theorem src_ok(R:Rel T cx A0 M w0 σs σ s a w){bl:Nat→Option BK}(hbl:∀ b k,bl b=some k→s.blocks[b]?=some k){es:Nat}{y:AV}{news:List AC}{m:Nat}(h:srcA bl es y=some (news,m)){v:Value}(hv:y.ok T σ v w (Al A0 σ s.blocks)) :
  ∃(adr:Addr) (c:Nat) (us:List Value),v=.slice (some adr) m c∧oks T σ news us w (Al A0 σ s.blocks)∧(∀ j u,us[j]?=some u→w.cell? (adr.add j)=some u)∧news.length=m*es:=by
 have key:∀(b off c':Nat),(∃ q,σ b=some q∧v=.slice (some ⟨q,off,none⟩) m c')→(match bl b with|some (.live ab)|some (.lent ab)=>if decide (off+m*es≤ab.cells.length) then some ((ab.cells.drop off).take (m*es),m) else none|_=>none)=some (news,m) →
   ∃(adr:Addr) (c:Nat) (us:List Value),v=.slice (some adr) m c∧oks T σ news us w (Al A0 σ s.blocks)∧(∀ j u,us[j]?=some u→w.cell? (adr.add j)=some u)∧news.length=m*es:=fun b off c' hq h=>by
  obtain⟨q,e1,e2⟩:=hq
  have fin:∀ ab:AB,(bl b=some (.live ab)∨bl b=some (.lent ab))→(if decide (off+m*es≤ab.cells.length) then some ((ab.cells.drop off).take (m*es),m) else none)=some (news,m) →
    ∃(adr:Addr) (c:Nat) (us:List Value),v=.slice (some adr) m c∧oks T σ news us w (Al A0 σ s.blocks)∧(∀ j u,us[j]?=some u→w.cell? (adr.add j)=some u)∧news.length=m*es:=fun ab hb h=>by
   split at h
   ·rename_i hle
    have hle:=of_decide_eq_true hle
    simp only[Option.some.injEq,Prod.mk.injEq,and_true] at h
    subst h
    obtain⟨q',g1,vs,rest,g2,g3,_⟩:=blk_ok R hbl hb
    rw[e1] at g1; cases g1
    have hl:=g3.length
    exact⟨_,c',_,e2,(g3.drop off).take (m*es),cells_at g2 (by omega),by simp; omega⟩
   ·cases h
  split at h
  ·rename_i ab hb; exact fin ab (.inl hb) h
  ·rename_i ab hb; exact fin ab (.inr hb) h
  ·cases h
 unfold srcA at h
 split at h
 ·rename_i b off k c
  have e:k=m:=by
   split at h
   ·split at h
    ·cases h; rfl
    ·cases h
   ·split at h
    ·cases h; rfl
    ·cases h
   ·cases h
  subst e
  obtain⟨q,e1,e2⟩:=hv
  exact key b off c ⟨q,e1,e2⟩ h
 ·rename_i b off k
  have e:k=m:=by
   split at h
   ·split at h
    ·cases h; rfl
    ·cases h
   ·split at h
    ·cases h; rfl
    ·cases h
   ·cases h
  subst e
  obtain⟨q,e1,_,e2⟩:=hv
  exact key b off _ ⟨q,e1,e2⟩ h
 ·cases h
theorem zero_noint{T:Nat→Fact}(ht:TOk T cx.ints){z:List LV}(h:okCells cx (z.map AC.lit)=true)(hp:cx.hp=true){zs:Array Value}(hz:zs.toList=z.map LV.val)(k:Nat):∀ v∈(Builtin.zeroCells zs k).toList,(∀(j:Unit) (x:Int),v≠.int .u32 x)∧v.oneCell'=true:=by
 intro v hv
 have hmem:v∈z.map LV.val:=by
  have h1:∃ i,v=zs[i % zs.size]! := by
   simp only[Builtin.zeroCells,Array.toList_map,List.mem_map] at hv
   obtain⟨i,_,e⟩:=hv
   exact⟨i,e.symm⟩
  obtain⟨i,rfl⟩:=h1
  by_cases h0:zs.size=0
  ·simp only[Builtin.zeroCells,h0,Nat.mul_zero] at hv
   simp at hv
  ·rw[getElem!_pos zs _ (Nat.mod_lt _ (by omega)),←hz]
   simp
 obtain⟨l,h1,rfl⟩:=List.mem_map.1 hmem
 unfold okCells at h
 simp only[hp,Bool.not_true,Bool.false_or,List.all_map,List.all_eq_true] at h
 have h2:=h l h1
 have h3:l.isInt=false:=by simpa[AC.noint] using h2
 refine⟨fun _ x=>?_,by cases l<;>rfl⟩
 cases l with
 | int j n=>cases j<;>simp[LV.isInt] at h3<;>simp[LV.val]
 | _=>simp[LV.val]
theorem okCells_app{l m:List AC}(h:okCells cx l=true)(h':okCells cx m=true):okCells cx (l++m)=true:=by
 unfold okCells at h h' ⊢
 cases hh:cx.hp
 ·simp
 ·simp only[hh,Bool.not_true,Bool.false_or] at h h' ⊢
  rw[List.all_append,h,h']; rfl
theorem grown_ok(ht:TOk T cx.ints)(R:Rel T cx A0 M w0 σs σ s a w){new:Nat}(hu:s.blocks[new]?=some .unborn){e es need cap:Nat}{ie:TyI}(hs:0<es)(hzl:ie.zero.length=es)(hok:okCells cx (ie.zero.map AC.lit)=true)
  {cells:List AC} {vs:List Value} (hc:oks T σ cells vs w (Al A0 σ s.blocks)) (ho:okCells cx cells=true) (hlen:cells.length=need*es) {z:Value} (hz:z.cells.toList=ie.zero.map LV.val) (d:Option Nat) :
  ∃ σ',Rel T cx A0 M w0 σs σ' (s.put d ⟨.r (.c (.sg new 0 need)),[(new,.live ⟨cells,e,some es⟩)]⟩) (a.put d (.slice (some ⟨w.heap.size,0,none⟩) need (grownCap w need cap e)))
   (w.drew.alloc (.cells (vs.toArray++Builtin.zeroCells z.cells (grownCap w need cap e - need)) e)):=by
 have hge:=grownCap_ge w need cap e
 have hbel:Below w.heap.size w (w.drew.alloc (.cells (vs.toArray++Builtin.zeroCells z.cells (grownCap w need cap e - need)) e)) :=
  Below.alloc (⟨rfl,rfl,rfl,Nat.le_refl _,fun _ _=>rfl⟩:Below w.heap.size w w.drew) (Nat.le_refl _) _
 refine R.born ht (room:=grownCap w need cap e) (av:=.r (.c (.sg new 0 need))) (ab:=⟨cells,e,some es⟩) hu (Nat.le_refl _) hbel (fun σ' hs' h1 h2=>?_) (fun σ' hs' h1 h2=>⟨_,h1,by rw[h2]; exact hge,by rw[h2]⟩) d
 have hk:Kp w (w.drew.alloc (.cells (vs.toArray++Builtin.zeroCells z.cells (grownCap w need cap e - need)) e)) (Al A0 σ s.blocks) (Al A0 σ' (setL s.blocks [(new,.live ⟨cells,e,some es⟩)])):=by
  refine⟨hbel.size,fun m g1 g2=>⟨hbel.block m g1,?_⟩⟩
  rintro(h3|⟨x,ac,h3,h4⟩)
  ·exact g2 (.inl h3)
  ·rw[setL_one] at h3
   by_cases e1:new=x
   ·subst e1; rw[h1] at h4; cases h4; omega
   ·rw[if_neg e1] at h3
    obtain⟨m',k1,_⟩:=R.blocks x ac h3
    rw[(hs' _ _ k1).1] at h4; cases h4
    exact g2 (.inr ⟨x,ac,h3,k1⟩)
 have hzs:z.cells.size=es:=by rw[←Array.length_toList,hz]; simp[hzl]
 refine⟨vs,(Builtin.zeroCells z.cells (grownCap w need cap e - need)).toList,?_,hc.keep ht hs' hk,ho,fun hp v hv=>((zero_noint ht hok hp hz _) v hv).1,fun v hv=>?_,?_⟩
 ·have:=heap_alloc_new w.drew (.cells (vs.toArray++Builtin.zeroCells z.cells (grownCap w need cap e - need)) e)
  rw[show w.drew.heap.size=w.heap.size from rfl] at this
  rw[this]
  congr 2
  apply Array.toList_inj.1; simp
 ·simp only[Builtin.zeroCells,Array.toList_map,List.mem_map] at hv
  obtain⟨i,hi,rfl⟩:=hv
  rw[hzs]
  have hi':z.cells[i % es]! ∈ z.cells.toList:=by
   rw[getElem!_pos z.cells _ (by rw[hzs]; exact Nat.mod_lt _ hs)]; simp
  rw[hz] at hi'
  obtain⟨l,_,e2⟩:=List.mem_map.1 hi'
  rw[←e2]; cases l<;>rfl
 ·have hl:=hc.length
  show(vs++(Builtin.zeroCells z.cells (grownCap w need cap e - need)).toList).length=σ'.room new*es
  have hzc:(Builtin.zeroCells z.cells (grownCap w need cap e - need)).toList.length=(grownCap w need cap e - need)*es:=by rw[Array.length_toList,size_zeroCells,hzs]
  rw[List.length_append,hzc,hl,hlen,h2,←Nat.add_mul]
  congr 1; omega
theorem okCells_over{l m:List AC}(h:okCells cx l=true)(h':okCells cx m=true)(off:Nat):okCells cx (over l off m)=true:=by
 unfold okCells at h h' ⊢
 cases hh:cx.hp
 ·simp
 ·simp only[hh,Bool.not_true,Bool.false_or,List.all_eq_true] at h h' ⊢
  intro c hcm
  unfold over at hcm
  rcases List.mem_append.1 hcm with hcm|hcm
  ·rcases List.mem_append.1 hcm with hcm|hcm
   ·exact h c (List.mem_of_mem_take hcm)
   ·exact h' c hcm
  ·exact h c (List.mem_of_mem_drop hcm)
theorem AS.put_two(s:AS)(d:Option Nat)(e:Eff)(l:List BK)(h:setL s.blocks e.wr=l):s.put d e={ tmps:=(s.put d ⟨e.val,[]⟩).tmps,blocks:=l }:=by
 subst h; rfl
theorem append_ok(C:CxOk P T cx)(R:Rel T cx A0 M w0 σs σ s a w){sl:Nat→AV}(hsl:∀ t,sl t=.junk∨sl t=s.tmps.getD t .undf){bl:Nat→Option BK}(hbl:∀ b k,bl b=some k→s.blocks[b]?=some k)
  {new t:Nat} {xo yo:Operand} {eff:Eff} (h:appendA cx new t (opv sl xo) (opv sl yo) bl=some eff) (ty:TypeId) (d:Option Nat) :
  ∃ v w' σ',(Builtin.append_ #[t,t] ty #[a.eval xo,a.eval yo]).run P w=.ok v w'∧Rel T cx A0 M w0 σs σ' (s.put d eff) (a.put d v) w':=by
 have ht:=C.table
 have hx:=R.operand hsl xo
 have hy:=R.operand hsl yo
 unfold appendA at h
 split at h
 ·rename_i i k1 k2
  have hu:=hbl _ _ k2
  split at h
  ·rename_i q es e hag har
   obtain⟨hund,hes⟩:=good_slice (show i.good P t=true from C.tys _ (lookT_mem k1)) hag har
   split at h
   ·rename_i ie news m k3 k4
    have hgd:ie.good P e=true:=C.tys _ (lookT_mem k3)
    obtain⟨ti,z,d',g1,g2,g3,g4,g5,g6,_⟩:=good_spec hgd
    have hby:=good_bytes hgd g1
    obtain⟨adr,c,us,y1,y2,y3,y4⟩:=src_ok R hbl k4 hy
    have hul:=y2.length
    split at h
    ·rename_i hcond
     simp only[Bool.and_eq_true,decide_eq_true_eq,beq_iff_eq] at hcond
     obtain⟨⟨⟨⟨⟨c1,c2⟩,c3⟩,c4⟩,c5⟩,c6⟩:=hcond
     have hts:ti.size=es:=by rw[g3,c1]
     have hun:us.length=m*ti.size:=by rw[hts,hul,y4]
     split at h
     ·rename_i hxv
      split at h
      ·rename_i hsm
       have hsm:=of_decide_eq_true hsm
       cases h
       rw[hxv] at hx
       have hx:a.eval xo=.slice none 0 0:=hx
       have hr:=run_append_nil (P:=P) (w:=w) t ty e ti z hund g1 g4 adr m c us hun y3 c6 (by omega) (by
        have:=Nat.mul_le_mul hsm hby; omega)
       obtain⟨σ',R'⟩:=grown_ok ht R hu c2 c3 c4 y2 c5 y4 g5 (cap:=0) d
       exact⟨_,_,σ',by rw[hx,y1]; exact hr,R'⟩
      ·cases h
     ·rename_i b off n cap hxv
      rw[hxv] at hx
      obtain⟨p,e1,e2⟩:=hx
      split at h
      ·rename_i hroom
       have hroom:=of_decide_eq_true hroom
       split at h
       ·rename_i ab hb
        split at h
        ·rename_i hle
         have hle:=of_decide_eq_true hle
         cases h
         obtain⟨p',q1,q2,vs,rest,q3,q4,q5,q6,q7,q8⟩:=R.blocks b ab (hbl _ _ hb)
         rw[e1] at q1; cases q1
         have hl:=q4.length
         have hnm:(n+m)*es=n*es+m*es:=Nat.add_mul ..
         have hfc:=run_firstCells_some (P:=P) w ti.size m adr m c us hun y3
         rw[hts] at hfc
         have hst:=run_storeCells_at P p (off+n*es) ab.ty us 0 (vs++rest).toArray w q3 (by simp; omega) (y2.one ht)
         simp only[Nat.add_zero] at hst
         have hover:(vs++rest).toArray.toList.take (off+n*es)++us++(vs++rest).toArray.toList.drop (off+n*es+us.length)=over vs (off+n*es) us++rest:=by
          unfold over
          rw[List.toList_toArray,List.take_append_of_le_length (by omega),List.drop_append_of_le_length (by omega),List.append_assoc,List.append_assoc,List.append_assoc]
         rw[hover] at hst
         have hov:(over vs (off+n*es) us).length=vs.length:=by unfold over; simp; omega
         have R':=R.write ht (hbl _ _ hb) e1 (ab':={ ab with cells:=over ab.cells (off+n*es) news }) (w':=w.setRow p (over vs (off+n*es) us++rest).toArray)
          (fun hk=>⟨over vs (off+n*es) us,rest,setRow_heap w p _ _ _ _ q3,(oks_over q4 y2 (off+n*es)).keep ht (Sub.refl _) hk,okCells_over q5 c5 _,q6,q7,by
           show(match ab.more with|none=>rest=[]|some es'=>(over vs (off+n*es) us++rest).length=σ.room b*es')
           cases hm:ab.more with
           | none=>rw[hm] at q8; exact q8
           | some es'=>rw[hm] at q8; simp only[List.length_append,hov] at q8 ⊢; exact q8⟩)
          (fun k hk=>setRow_other w p k _ hk) (by simp) ⟨rfl,rfl,rfl⟩ none
         refine⟨_,_,σ,?_,R'.val (av:=.r (.c (.sl b off (n+m) cap))) ⟨p,e1,rfl⟩ d⟩
         rw[e2,y1]
         simp[Builtin.append_,run_underlying hund,Go.sizeOf,typeInfo,g1,Builtin.lenOf,hroom,hfc,Addr.add_plain,hts,hst]
        ·cases h
       ·cases h
      ·rename_i hroom
       have hroom:¬n+m≤cap:=by simpa using hroom
       split at h
       ·rename_i olds n' k5
        split at h
        ·rename_i hsm
         simp only[Bool.and_eq_true,decide_eq_true_eq] at hsm
         cases h
         rw[hxv] at k5
         obtain⟨adr',c',us',x1,x2,x3,x4⟩:=src_ok R hbl k5 (v:=a.eval xo) ⟨p,e1,e2⟩
         rw[e2] at x1
         cases x1
         have hul':=x2.length
         have hr:=run_append_grow (P:=P) w t ty e ti z hund g1 g4 ⟨p,off,none⟩ n cap us' (by rw[hts,hul',x4]) x3 adr m c us hun y3 (by omega) (by omega) (growslice_fits (by omega) (by
          have:=Nat.mul_le_mul hsm.1 hby; omega))
         have hcc:=oks.append x2 y2
         obtain⟨σ',R'⟩:=grown_ok ht R hu c2 c3 c4 hcc (okCells_app hsm.2 c5) (need:=n+m) (by rw[List.length_append,x4,y4,Nat.add_mul]) g5 (cap:=cap) d
         refine⟨_,_,σ',by rw[e2,y1]; exact hr,?_⟩
         have e3:us'.toArray++us.toArray=(us'++us).toArray:=by simp
         rw[e3]
         exact R'
        ·cases h
       ·cases h
     ·rename_i b n hxv
      rw[hxv] at hx
      obtain⟨p,e1,hnr,e2⟩:=hx
      split at h
      ·rename_i ab hb
       split at h
       ·rename_i hsm
        simp only[Bool.and_eq_true,decide_eq_true_eq,beq_iff_eq] at hsm
        obtain⟨⟨⟨s1,s2⟩,s3⟩,s4⟩:=hsm
        cases h
        have hbs:=hbl _ _ hb
        have hne:b≠new:=fun e=>by subst e; rw[hbs] at hu; cases hu
        obtain⟨p',q1,q2,vs,rest,q3,q4,q5,q6,q7,q8⟩:=R.blocks b ab hbs
        rw[e1] at q1; cases q1
        rw[s2] at q8
        have q8:(vs++rest).length=σ.room b*es:=q8
        have hl:=q4.length
        have hcc:=oks.append q4 y2
        by_cases hroom:n+m≤σ.room b
        ·have hfc:=run_firstCells_some (P:=P) w ti.size m adr m c us hun y3
         rw[hts] at hfc
         have hle:(n+m)*es≤σ.room b*es:=Nat.mul_le_mul_right _ hroom
         have hnm:(n+m)*es=n*es+m*es:=Nat.add_mul ..
         have hst:=run_storeCells_at P p (n*es) ab.ty us 0 (vs++rest).toArray w q3 (by simp at q8 ⊢; omega) (y2.one ht)
         simp only[Nat.add_zero] at hst
         have hsplit:(vs++rest).toArray.toList.take (n*es)++us++(vs++rest).toArray.toList.drop (n*es+us.length)=(vs++us)++rest.drop us.length:=by
          rw[List.toList_toArray,List.take_append_of_le_length (by omega),List.take_of_length_le (by omega)]
          congr 1
          rw[List.drop_append,List.drop_eq_nil_of_le (by omega),List.nil_append]
          congr 1; omega
         rw[hsplit] at hst
         have R1:=R.write ht hbs e1 (ab':=⟨ab.cells++news,e,some es⟩) (w':=w.setRow p ((vs++us)++rest.drop us.length).toArray)
          (fun hk=>⟨vs++us,rest.drop us.length,by rw[←s4]; exact setRow_heap w p _ _ _ _ q3,hcc.keep ht (Sub.refl _) hk,okCells_app q5 c5,fun hp v hv=>q6 hp v (List.mem_of_mem_drop hv),fun v hv=>q7 v (List.mem_of_mem_drop hv),by
           show((vs++us)++rest.drop us.length).length=σ.room b*es
           simp at q8 ⊢; omega⟩)
          (fun k hk=>setRow_other w p k _ hk) (by simp) ⟨rfl,rfl,rfl⟩ none
         have hlb:b<s.blocks.length:=(List.getElem?_eq_some_iff.1 hbs).1
         have hb1:(s.put none ⟨.undf,[(b,.live ⟨ab.cells++news,e,some es⟩)]⟩).blocks[b]?=some (.live ⟨ab.cells++news,e,some es⟩):=by
          show(setL s.blocks [(b,_)])[b]?=_
          rw[setL_one,if_pos rfl,if_pos hlb]
         have hu1:(s.put none ⟨.undf,[(b,.live ⟨ab.cells++news,e,some es⟩)]⟩).blocks[new]?=some .unborn:=by
          show(setL s.blocks [(b,_)])[new]?=_
          rw[setL_one,if_neg hne]; exact hu
         obtain⟨σ',r1,r2,r3,R2⟩:=R1.rename ht hb1 hu1 e1
         have R3:=R2.val (av:=.r (.c (.sg new 0 (n+m)))) (v:=.slice (some ⟨p,0,none⟩) (n+m) (σ.room b)) ⟨p,r1,by rw[r2]; exact hroom,by rw[r2]⟩ d
         refine⟨.slice (some ⟨p,0,none⟩) (n+m) (σ.room b),w.setRow p ((vs++us)++rest.drop us.length).toArray,σ',?_,?_⟩
         ·rw[e2,y1]
          simp[Builtin.append_,run_underlying hund,Go.sizeOf,typeInfo,g1,Builtin.lenOf,hroom,hfc,Addr.add_plain,hts,hst]
         ·have e4:setL s.blocks [(new,.live ⟨ab.cells++news,e,some es⟩),(b,.dead)]=(((s.blocks.set b (.live ⟨ab.cells++news,e,some es⟩)).set new (.live ⟨ab.cells++news,e,some es⟩)).set b .dead):=by
           simp only[setL]
           rw[List.set_comm _ _ hne,List.set_set,List.set_comm _ _ (Ne.symm hne)]<;>first|rfl|skip
          rw[AS.put_two s d ⟨.r (.c (.sg new 0 (n+m))),[(new,.live ⟨ab.cells++news,e,some es⟩),(b,.dead)]⟩ _ e4]
          exact R3
        ·have hr:=run_append_grow (P:=P) w t ty e ti z hund g1 g4 ⟨p,0,none⟩ n (σ.room b) vs (by rw[hts,hl,s3]) (fun j u hj=>by
          have:=cells_at (off:=0) (k:=vs.length) q3 (by omega) j u (by simpa using hj)
          exact this) adr m c us hun y3 (by omega) (by omega) (growslice_fits (by omega) (by
          have:=Nat.mul_le_mul s1 hby; omega))
         obtain⟨σ',R'⟩:=grown_ok ht R hu c2 c3 c4 hcc (okCells_app q5 c5) (need:=n+m) (by rw[List.length_append,s3,y4,Nat.add_mul]) g5 (cap:=σ.room b) d
         refine⟨.slice (some ⟨w.heap.size,0,none⟩) (n+m) (grownCap w (n+m) (σ.room b) e),w.drew.alloc (.cells (vs.toArray++us.toArray++Builtin.zeroCells z.cells (grownCap w (n+m) (σ.room b) e - (n+m))) e),σ',by rw[e2,y1]; exact hr,?_⟩
         have e3:vs.toArray++us.toArray=(vs++us).toArray:=by simp
         rw[e3]
         have hb':(s.put d ⟨.r (.c (.sg new 0 (n+m))),[(new,.live ⟨ab.cells++news,e,some es⟩)]⟩).blocks[b]?=some (.live ab):=by
          show(setL s.blocks [(new,_)])[b]?=_
          rw[setL_one,if_neg (Ne.symm hne)]; exact hbs
         exact R'.forget ht hb'
       ·cases h
      ·cases h
     ·cases h
    ·cases h
   ·cases h
  ·cases h
 ·cases h
end
end Tr
