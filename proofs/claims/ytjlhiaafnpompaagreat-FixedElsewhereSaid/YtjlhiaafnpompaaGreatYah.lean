/- Laws for the walk. -/
import Derived.Test.YtjlhiaafnpompaaGreatYag
import Derived.Test.YtjlhiaafnpompaaGreatChecked
set_option linter.unusedVariables false
set_option maxHeartbeats 4000000
namespace Tr
open Go Go.RowKit
def resOne(cx:Cx)(s:AS):ResultVar→Option AR
 | .tmp t=>(s.tmps.getD t .undf).ar
 | .cell p t=>match lookT t cx.tys,(s.tmps.getD p .undf).own with
  | some i,some (b,off)=>match s.blocks[b]? with
   | some (.live ab) =>
    if i.agg then(if decide (off+i.size≤ab.cells.length) then some (.row ((ab.cells.drop off).take i.size)) else none)
    else(match ab.cells[off]? with|some c=>some (.c c)|none=>none)
   | _=>none
  | _,_=>none
def resAll(cx:Cx)(s:AS):List ResultVar→Option (List AR)
 | []=>some []
 | r :: l=>match resOne cx s r,resAll cx s l with|some x,some m=>some (x :: m)|_,_=>none
def resA(cx:Cx)(fn:Func)(s:AS):Option AV :=
 match resAll cx s fn.results.toList with
 | some [x]=>some (.r x)
 | some l=>some (.tup l)
 | none=>none
def AC.noown:AC→Bool|.own _ _|.sl _ _ _ _|.sg _ _ _=>false|.fn _ a b=>a.isEmpty && b.isEmpty|_=>true
def AR.noown(x:AR):Bool:=x.cells.all AC.noown
def AV.noown:AV→Bool|.r x=>x.noown|.tup l=>l.all AR.noown|_=>true
def enter(fn:Func)(bs:List AB)(args:List AR):AS:={ tmps:=args.map AV.r++List.replicate (fn.ntmps - args.length) .undf,blocks:=bs.map BK.lent }
def evL(cx:Cx)(fn:Func)(fuel:Nat)(bs:List AB)(args:List AR)(res:AV):Bool :=
 res.noown && bs.all (fun b=>okCells cx b.cells && b.more.isNone) &&
 match fn.body with
 | some c=>match evC cx fuel c (enter fn bs args) with
  | some (.exit _,_)=>false
  | some (_,s)=>(match resA cx fn s with|some r=>r.beq res|none=>false)
  | none=>false
 | none=>false
def evF(cx:Cx)(fn:Func)(fuel:Nat)(args:List AR)(res:AV):Bool:=args.all AR.noown && evL cx fn fuel [] args res
section
variable{T:Nat→Fact}{cx:Cx}{A0 M:Nat→Prop}{w0:World}{σs:Sg}{P:Program}{σ σ':Sg}{w:World}{A:Nat→Prop}
theorem AC.ok_noown{x:AC}(h:x.noown=true){v:Value}(hx:x.ok T σ v w A):x.ok T σ' v w A:=by
 cases x
 case fn f a b =>
  simp only[AC.noown,Bool.and_eq_true,List.isEmpty_iff] at h
  obtain⟨rfl,rfl⟩:=h
  obtain⟨us,vs,h1,h2,h3⟩:=hx
  refine⟨us,vs,h1,?_,?_⟩
  ·cases us<;>first|exact h2|exact h2.elim
  ·cases vs<;>first|exact h3|exact h3.elim
 all_goals (simp[AC.noown] at h<;>exact hx)
theorem oks_noown:∀{l:List AC} {vs:List Value},l.all AC.noown=true→oks T σ l vs w A→oks T σ' l vs w A
 | [],[],_,_=>trivial
 | x :: l,v :: vs,h,hx=>by
  simp only[List.all_cons,Bool.and_eq_true] at h
  exact⟨AC.ok_noown h.1 hx.1,oks_noown h.2 hx.2⟩
 | [],_ :: _,_,h=>h.elim
 | _ :: _,[],_,h=>h.elim
theorem AR.ok_noown{x:AR}(h:x.noown=true){v:Value}(hx:x.ok T σ v w A):x.ok T σ' v w A:=by
 cases x with
 | c x=>exact AC.ok_noown (x:=x) (by simpa[AR.noown,AR.cells] using h) hx
 | row l=>obtain⟨vs,e,h2⟩:=hx; exact⟨vs,e,oks_noown h h2⟩
theorem okr_noown:∀{l:List AR} {vs:List Value},l.all AR.noown=true→okr T σ l vs w A→okr T σ' l vs w A
 | [],[],_,_=>trivial
 | x :: l,v :: vs,h,hx=>by
  simp only[List.all_cons,Bool.and_eq_true] at h
  exact⟨AR.ok_noown h.1 hx.1,okr_noown h.2 hx.2⟩
 | [],_ :: _,_,h=>h.elim
 | _ :: _,[],_,h=>h.elim
theorem AV.ok_noown{x:AV}(h:x.noown=true){v:Value}(hx:x.ok T σ v w A):x.ok T σ' v w A:=by
 cases x with
 | r x=>exact AR.ok_noown (x:=x) h hx
 | tup l=>obtain⟨vs,e,h2⟩:=hx; exact⟨vs,e,okr_noown h h2⟩
 | undf=>exact hx
 | junk=>trivial
def resV(tmps:Array Value):ResultVar→Sem Value
 | .tmp t=>pure (tmps.getD t undef)
 | .cell p t=>do loadVar t (←asAddr (tmps.getD p undef))
theorem results_eq(fn:Func)(tmps:Array Value):results fn tmps=(do let vs ←fn.results.mapM (resV tmps); pure (if h:vs.size=1 then vs[0] else .tuple vs)):=rfl
theorem resOne_ok(C:CxOk P T cx){s:AS}{a:Act}(R:Rel T cx A0 M w0 σs σ s a w){r:ResultVar}{x:AR}(h:resOne cx s r=some x) :
  ∃ v,(resV a.tmps r).run P w=.ok v w∧x.ok T σ v w (Al A0 σ s.blocks):=by
 cases r with
 | tmp t=>exact⟨_,rfl,AV.ar_ok h (R.slot t)⟩
 | cell p t =>
  unfold resOne at h
  simp only at h
  split at h
  ·rename_i i b off h1 h2
   obtain⟨ti,z,d,g1,g2,g3,g4,g5,g6,_⟩:=good_spec (show i.good P t=true from C.tys _ (lookT_mem h1))
   obtain⟨n,e1,e2⟩:=AV.own_ok h2 (R.slot p)
   split at h
   ·rename_i ab h3
    obtain⟨n',k1,k2,vs,rest,k3,k4,_⟩:=R.blocks b ab h3
    rw[e1] at k1; cases k1
    split at h
    ·rename_i hag
     rw[hag] at g6
     split at h
     ·rename_i hle
      cases h
      have hle:=of_decide_eq_true hle
      have hl:=k4.length
      refine⟨.agg ((vs.drop off).take i.size).toArray,?_,⟨_,rfl,(k4.drop off).take i.size⟩⟩
      have hpre:(List.take i.size (List.drop off (vs++rest)))=List.take i.size (List.drop off vs):=by
       rw[List.drop_append_of_le_length (by omega),List.take_append_of_le_length (by simp; omega)]
      have:=run_loadVar_part (P:=P) w n off ab.ty t (vs++rest).toArray ((vs.drop off).take i.size).toArray (0,0) d k3 g2 (by cases d<;>first|rfl|(cases g6; done)) (by rw[g1]; simp[g3]; omega) (by
       have:(List.take i.size (List.drop off vs)).length=i.size:=by simp; omega
       simp only[List.size_toArray,this]
       exact hpre)
      simp only[resV,e2,asAddr,Sem.run_bind,Sem.run_pure,Result.andThen_ok,this]
     ·cases h
    ·rename_i hag
     split at h
     ·rename_i c h4
      cases h
      obtain⟨v,k6,k7⟩:=k4.get h4
      refine⟨v,?_,k7⟩
      have hcell:w.cell? ⟨n,off,none⟩=some v:=by
       rw[cell_of_row w n off _ _ _ k3]
       have hlt:=(List.getElem?_eq_some_iff.1 k6).1
       simp only[List.getElem?_toArray,List.getElem?_append_left hlt,k6]
      have hag':isAggD d=false:=by rw[g6]; simpa using hag
      simp[resV,e2,asAddr,loadVar,run_isAgg g2,hag',hcell]
     ·cases h
   ·cases h
  ·cases h
theorem resAll_ok(C:CxOk P T cx){s:AS}{a:Act}(R:Rel T cx A0 M w0 σs σ s a w):∀{l:List ResultVar} {xs:List AR},resAll cx s l=some xs →
  ∃ vs,(l.mapM (resV a.tmps)).run P w=.ok vs w∧okr T σ xs vs w (Al A0 σ s.blocks)
 | [],xs,h=>by cases h; exact⟨[],rfl,trivial⟩
 | r :: l,xs,h=>by
  unfold resAll at h
  split at h
  ·rename_i x m h1 h2
   cases h
   obtain⟨v,e1,e2⟩:=resOne_ok C R h1
   obtain⟨vs,e3,e4⟩:=resAll_ok C R h2
   refine⟨v :: vs,?_,e2,e4⟩
   rw[List.mapM_cons]
   simp only[Sem.run_bind,e1,Result.andThen_ok,e3,Sem.run_pure]
  ·cases h
theorem resA_ok(C:CxOk P T cx){s:AS}{a:Act}(R:Rel T cx A0 M w0 σs σ s a w){fn:Func}{x:AV}(h:resA cx fn s=some x) :
  ∃ v,(results fn a.tmps).run P w=.ok v w∧x.ok T σ v w (Al A0 σ s.blocks):=by
 unfold resA at h
 have key:∀ xs,resAll cx s fn.results.toList=some xs→∃ vs:List Value,(fn.results.mapM (resV a.tmps)).run P w=.ok vs.toArray w∧okr T σ xs vs w (Al A0 σ s.blocks):=fun xs hx=>by
  obtain⟨vs,e1,e2⟩:=resAll_ok C R hx
  refine⟨vs,?_,e2⟩
  rw[Array.mapM_eq_mapM_toList]
  simp only[map_eq_pure_bind,Sem.run_bind,e1,Result.andThen_ok,Sem.run_pure]
 split at h
 ·rename_i y hy
  cases h
  obtain⟨vs,e1,e2⟩:=key _ hy
  match vs,e2 with
  | [v],e2 =>
   refine⟨v,?_,e2.1⟩
   rw[results_eq,Sem.run_bind,e1]
   rfl
 ·rename_i l hne hl
  cases h
  obtain⟨vs,e1,e2⟩:=key _ hl
  refine⟨.tuple vs.toArray,?_,⟨vs,rfl,e2⟩⟩
  rw[results_eq,Sem.run_bind,e1]
  have hlen:=e2.length
  have h1:¬vs.toArray.size=1:=by
   intro e
   simp only[List.size_toArray] at e
   rw[hlen] at e
   cases l with
   | nil=>simp at e
   | cons x l =>
    cases l with
    | nil=>exact hne x rfl
    | cons y l=>simp at e
  simp only[Result.andThen_ok]
  rw[dif_neg h1]
  rfl
 ·cases h
theorem okr_slots:∀{l:List AR} {vs:List Value} {n:Nat},okr T σ l vs w A→∀ i (av:AV),(l.map AV.r++List.replicate n AV.undf)[i]?=some av→av.ok T σ ((vs.toArray++Array.replicate n undef).getD i undef) w A:=by
 intro l vs n h i av hi
 have hlen:=h.length
 rw[List.getElem?_append] at hi
 simp only[List.length_map] at hi
 by_cases hlt:i<l.length
 ·rw[if_pos hlt,List.getElem?_map] at hi
  obtain⟨x,hx,rfl⟩:=Option.map_eq_some_iff.1 hi
  obtain⟨v,e1,e2⟩:=h.get hx
  have:(vs.toArray++Array.replicate n undef).getD i undef=v:=by
   have h3:(vs.toArray++Array.replicate n undef)[i]?=some v:=by
    rw[Array.getElem?_append]
    simp only[List.size_toArray]
    rw[if_pos (by omega)]
    simpa using e1
   simp only[Array.getD_eq_getD_getElem?,h3,Option.getD_some]
  rw[this]; exact e2
 ·rw[if_neg hlt,List.getElem?_replicate] at hi
  split at hi
  ·cases hi
   show _=undef
   simp only[Array.getD_eq_getD_getElem?]
   rw[Array.getElem?_append]
   simp only[List.size_toArray]
   rw[if_neg (by omega),Array.getElem?_replicate]
   split<;>rfl
  ·cases hi
theorem ev_lent(C:CxOk P T cx)(hm:P.follows .mixedOrders=true){f:FuncId}{fn:Func}(hf:P.funcs[f]?=some fn){bs:List AB}{args:List AR}{res:AV}(fuel:Nat)(hev:evL cx fn fuel bs args res=true)
  (hpre:∀ k∈cx.cuts,(k.pre.low && k.pre.blocks.all (fun b=>match b with|.live ab|.lent ab=>okCells cx ab.cells|_=>true))=true) (hcut:∀ c,fn.body=some c→∀ x∈loopsOf c,∀ k∈cx.cuts,keyOf x=some k.key→k.Ok P T cx x)
  (σ:Sg) (w:World) (A:Nat→Prop) (vs:List Value) (hR:cx.hp=true→Rcv A w) (hA:∀ n,A n→n<w.heap.size) (hargs:okr T σ args vs w A)
  (hbs:∀ b ab,bs[b]?=some ab→∃ n us,σ b=some n∧A n∧w.heap[n]?=some (.cells us.toArray ab.ty (0,0))∧oks T σ ab.cells us w A) (hbey:∀ b,bs.length≤b→σ b=none) :
  Calls P f vs.toArray w fun r w'=>∃ v,r=.returned v∧res.ok T σ v w' A∧Below w.heap.size w w':=by
 unfold evL at hev
 simp only[Bool.and_eq_true] at hev
 obtain⟨⟨hnr,hbo⟩,hev⟩:=hev
 rw[List.all_eq_true] at hbo
 cases hb:fn.body with
 | none=>simp[hb] at hev
 | some c =>
  simp only[hb] at hev
  refine calls_of_wp hf hb ?_
  have hlen:=hargs.length
  have hnl:∀(b:Nat) (ab:AB),(bs.map BK.lent)[b]?≠some (.live ab):=fun b ab h=>by
   rw[List.getElem?_map] at h
   obtain⟨x,_,e⟩:=Option.map_eq_some_iff.1 h
   cases e
  have hAl:Al A σ (bs.map BK.lent)=A:=by
   funext n; unfold Al
   refine propext ⟨?_,.inl⟩
   rintro(h|⟨b,ab,h,_⟩)
   ·exact h
   ·exact absurd h (hnl b ab)
  have R0:Rel T cx A (fun _=>False) w σ0 σ (enter fn bs args) { tmps:=vs.toArray++Array.replicate (fn.ntmps - vs.toArray.size) undef,defers:=[] } w:=by
   refine⟨?_,?_,rfl,fun b ab h=>absurd h (hnl b ab),fun b ab h=>?_,fun b c n ab ac h=>absurd h (hnl b ab),fun b h=>?_,fun b h=>?_,BelowM.refl _ _ _,hR,hA,fun _ _ h=>h,fun _ h=>h.elim,Sub.zero _⟩
   ·simp[enter,hlen]
   ·show ∀ i (av:AV),(args.map AV.r++List.replicate (fn.ntmps - args.length) AV.undf)[i]?=some av→av.ok T _ _ w (Al A σ (bs.map BK.lent))
    rw[hAl]
    have:fn.ntmps - vs.toArray.size=fn.ntmps - args.length:=by simp[hlen]
    rw[this]
    exact okr_slots hargs
   ·show ∃ n,σ b=some n∧A n∧LiveOk T cx σ (Al A σ (bs.map BK.lent)) w b ab n
    rw[hAl]
    have h':(bs.map BK.lent)[b]?=some (.lent ab):=h
    rw[List.getElem?_map] at h'
    obtain⟨x,hx,e⟩:=Option.map_eq_some_iff.1 h'
    cases e
    obtain⟨n,us,g1,g2,g3,g4⟩:=hbs b ab hx
    have hok:=hbo ab (List.mem_of_getElem? hx)
    simp only[Bool.and_eq_true,Option.isNone_iff_eq_none] at hok
    exact⟨n,g1,g2,us,[],by simpa using g3,g4,hok.1,by simp,by simp,by rw[hok.2]⟩
   ·have h':(bs.map BK.lent)[b]?=some .unborn:=h
    rw[List.getElem?_map] at h'
    obtain⟨x,hx,e⟩:=Option.map_eq_some_iff.1 h'
    cases e
   ·have h':(bs.map BK.lent).length≤b:=h
    exact hbey b (by simpa using h')
  have fin:∀(σ':Sg) (s1:AS) (a':Act) (w':World),Rel T cx A (fun _=>False) w σ0 σ' s1 a' w'→(match resA cx fn s1 with|some r=>r.beq res|none=>false)=true →
    a'.defers=[]∧∃ v,(results fn a'.tmps).run P w'=.ok v w'∧∃ u,Ending.returned v=.returned u∧res.ok T σ u w' A∧Below w.heap.size w w':=fun σ' s1 a' w' R' hr=>by
   cases hx:resA cx fn s1 with
   | none=>simp[hx] at hr
   | some r =>
    simp only[hx] at hr
    have:=AV.eq_of hr
    subst this
    obtain⟨v,e1,e2⟩:=resA_ok C R' hx
    refine⟨R'.defers,v,e1,v,rfl,?_,R'.below.below⟩
    have h3:=AV.ok.keep (T:=T) (ints:=cx.ints) C.table (Sub.refl σ') (w:=w') (w':=w') (A:=Al A σ' s1.blocks) (A':=A) ⟨Nat.le_refl _,fun b _ h=>⟨rfl,fun h'=>h (.inl h')⟩⟩ e2
    exact AV.ok_noown hnr h3
  cases he:evC cx fuel c (enter fn bs args) with
  | none=>simp[he] at hev
  | some p =>
   obtain⟨e,s1⟩:=p
   simp only[he] at hev
   refine(evC_sound C hm (.inr rfl) hpre fuel (hcut c hb) R0 he fun σ' a' w' R'=>?_).1
   cases e with
   | normal=>exact fin σ' s1 a' w' R' hev
   | ret=>exact fin σ' s1 a' w' R' hev
   | exit id=>cases hev
theorem ev_spec(C:CxOk P T cx)(hm:P.follows .mixedOrders=true){f:FuncId}{fn:Func}(hf:P.funcs[f]?=some fn){args:List AR}{res:AV}(fuel:Nat)(hev:evF cx fn fuel args res=true)
  (hpre:∀ k∈cx.cuts,(k.pre.low && k.pre.blocks.all (fun b=>match b with|.live ab|.lent ab=>okCells cx ab.cells|_=>true))=true) (hcut:∀ c,fn.body=some c→∀ x∈loopsOf c,∀ k∈cx.cuts,keyOf x=some k.key→k.Ok P T cx x)
  (σ:Sg) (w:World) (A:Nat→Prop) (vs:List Value) (hR:cx.hp=true→Rcv A w) (hA:∀ n,A n→n<w.heap.size) (hargs:okr T σ args vs w A) :
  Calls P f vs.toArray w fun r w'=>∃ v,r=.returned v∧res.ok T σ v w' A∧Below w.heap.size w w':=by
 unfold evF at hev
 simp only[Bool.and_eq_true] at hev
 have hnr:res.noown=true:=by
  have:=hev.2
  unfold evL at this
  simp only[Bool.and_eq_true] at this
  exact this.1.1
 refine(ev_lent C hm hf (bs:=[]) fuel hev.2 hpre hcut ⟨fun _=>none,fun _=>0⟩ w A vs hR hA (okr_noown hev.1 hargs) (fun b ab h=>by simp at h) (fun b _=>rfl)).mono ?_
 rintro r w' ⟨v,h1,h2,h3⟩
 exact⟨v,h1,AV.ok_noown hnr h2,h3⟩
end
end Tr
namespace Tr
open Go Go.RowKit
def PureC(P:Program)(f:FuncId)(vs:List Value)(v:Value):Prop:=∀ w,Calls P f vs.toArray w fun e w'=>e=.returned v∧Below w.heap.size w w'
theorem enters_of {P : Program} {f : FuncId} {fn : Func} (hf : P.funcs[f]? = some fn) (h : (!(fn.name == "runtime.NumGoroutine") && fn.body.isSome) = true) : Enters P f := by
 intro args w
 simp only[Bool.and_eq_true,Bool.not_eq_true'] at h
 obtain⟨h1,h2⟩:=h
 have h3:fn.body.isNone=false:=by cases hb:fn.body<;>simp[hb] at h2 ⊢
 simp only[callFunc,Sem.run_bind,run_program,Result.andThen_ok,hf,h1,h3,Bool.false_eq_true,if_false,Sem.run_pure]
structure GF where
 R:Fact
 int:Bool
 keeps:R.Keeps
 cell:∀ v w A,R v w A→v.oneCell'=true
 noint:int=false→∀ v w A,R v w A→∀ k x,v≠.int k x
 ex:Option Value
 exact:∀ u,ex=some u→∀ v w A,R v w A↔v=u
def isIntV:Value→Bool|.int _ _=>true|_=>false
def gx(u:Value)(h:u.oneCell'=true:=by rfl):GF where
 R:=fun v _ _=>v=u
 int:=isIntV u
 keeps:=fun _ _ _ _ _ _ _ h=>h
 cell:=fun v _ _ e=>by rw[show v=u from e]; exact h
 noint:=fun hi v _ _ e k x e2=>by rw[show v=u from e] at e2; rw[e2] at hi; cases hi
 ex:=some u
 exact:=fun u' e v w A=>by cases e; exact Iff.rfl
def g0:GF:=gx (.bool false)
def gT(L:List GF)(i:Nat):Fact:=(L.getD i g0).R
def gI(L:List GF)(i:Nat):Bool:=(L.getD i g0).int
def AC.gv(L:List GF):AC→Option Value
 | .sym i=>(L.getD i g0).ex
 | .lit l=>some l.val
 | _=>none
def acsV(L:List GF):List AC→Option (List Value)
 | []=>some []
 | x :: l=>match x.gv L,acsV L l with|some v,some vs=>some (v :: vs)|_,_=>none
def AR.gv(L:List GF):AR→Option Value
 | .c x=>x.gv L
 | .row l=>match acsV L l with|some vs=>some (.agg vs.toArray)|none=>none
def arsV(L:List GF):List AR→Option (List Value)
 | []=>some []
 | x :: l=>match x.gv L,arsV L l with|some v,some vs=>some (v :: vs)|_,_=>none
def AV.gv(L:List GF):AV→Option Value
 | .r x=>x.gv L
 | .tup l=>match arsV L l with|some vs=>some (.tuple vs.toArray)|none=>none
 | .undf=>some undef
 | .junk=>none
section
variable{P:Program}{L:List GF}{hp:Bool}{σ:Sg}{w:World}{A:Nat→Prop}
theorem AC.gv_ok{x:AC}{u v:Value}(h:x.gv L=some u):x.ok (gT L) σ v w A↔v=u:=by
 cases x with
 | sym i=>exact(L.getD i g0).exact u h v w A
 | lit l=>cases h; exact Iff.rfl
 | own b o=>cases h
 | sl b o n c=>cases h
 | sg b o n=>cases h
 | fn f a b=>cases h
theorem acsV_ok:∀{l:List AC} {us vs:List Value},acsV L l=some us→(oks (gT L) σ l vs w A↔vs=us)
 | [],us,vs,h=>by cases h; cases vs<;>simp[oks]
 | x :: l,us,vs,h=>by
  unfold acsV at h
  split at h
  ·rename_i u r h1 h2
   cases h
   cases vs with
   | nil=>simp[oks]
   | cons v vs=>simp only[oks,AC.gv_ok h1,acsV_ok h2,List.cons.injEq]
  ·cases h
theorem AR.gv_ok{x:AR}{u v:Value}(h:x.gv L=some u):x.ok (gT L) σ v w A↔v=u:=by
 cases x with
 | c x=>exact AC.gv_ok (x:=x) h
 | row l =>
  unfold AR.gv at h
  simp only at h
  split at h
  ·rename_i vs h1
   cases h
   constructor
   ·rintro⟨us,rfl,h2⟩; rw[(acsV_ok h1).1 h2]
   ·rintro rfl; exact⟨_,rfl,(acsV_ok h1).2 rfl⟩
  ·cases h
theorem arsV_ok:∀{l:List AR} {us vs:List Value},arsV L l=some us→(okr (gT L) σ l vs w A↔vs=us)
 | [],us,vs,h=>by cases h; cases vs<;>simp[okr]
 | x :: l,us,vs,h=>by
  unfold arsV at h
  split at h
  ·rename_i u r h1 h2
   cases h
   cases vs with
   | nil=>simp[okr]
   | cons v vs=>simp only[okr,AR.gv_ok h1,arsV_ok h2,List.cons.injEq]
  ·cases h
theorem AV.gv_ok{x:AV}{u v:Value}(h:x.gv L=some u):x.ok (gT L) σ v w A↔v=u:=by
 cases x with
 | r x=>exact AR.gv_ok (x:=x) h
 | tup l =>
  unfold AV.gv at h
  simp only at h
  split at h
  ·rename_i vs h1
   cases h
   constructor
   ·rintro⟨us,rfl,h2⟩; rw[(arsV_ok h1).1 h2]
   ·rintro rfl; exact⟨_,rfl,(arsV_ok h1).2 rfl⟩
  ·cases h
 | undf=>cases h; exact Iff.rfl
 | junk=>cases h
end
structure GC(P:Program)(L:List GF)(hp:Bool) where
 cs:CS
 ent:Enters P cs.f
 ok:cs.Ok P (gT L) hp
structure GB(P:Program)(L:List GF) where
 bs:BS
 ok:bs.Ok P (gT L)
structure GO(P:Program)(L:List GF) where
 os:OS
 ok:os.Ok P (gT L)
section
variable{P:Program}{L:List GF}{hp:Bool}
def gb(op:BinOp)(t:TypeId)(x y:AR)(res:AC){vx vy v:Value}(h:∀ xo yo w,(do eqGuard op t xo yo vx vy; binOp op t vx vy:Sem Value).run P w=.ok v w)(hx:x.gv L=some vx:=by rfl)(hy:y.gv L=some vy:=by rfl)(hr:res.gv L=some v:=by rfl):GB P L :=
 ⟨{ op,t,x,y,res },fun σ w A ux uy xo yo h1 h2=>by
  have e1:ux=vx:=(AR.gv_ok hx).1 h1
  have e2:uy=vy:=(AR.gv_ok hy).1 h2
  subst e1; subst e2
  exact⟨v,h xo yo w,(AC.gv_ok hr).2 rfl⟩⟩
theorem no_inl{T:Nat→Fact}(cx:Cx)(h:cx.inl=fun _ _ _ _ _=>none):InlOk P T cx:=by
 intro A0 M w0 σs σ s a w R f args vs bl new r ws rd h1 h2 h3
 rw[h] at h3; cases h3
def gcx(tys:List (TypeId×TyI))(hp:Bool)(L:List GF)(C:List (GC P L hp))(B:List (GB P L))(O:List (GO P L)):Cx:={ tys,calls:=C.map GC.cs,bins:=B.map GB.bs,others:=O.map GO.os,hp,ints:=gI L }
theorem gcx_ok{tys:List (TypeId×TyI)}(ht:∀ p∈tys,p.2.good P p.1=true)(C:List (GC P L hp))(B:List (GB P L))(O:List (GO P L)):CxOk P (gT L) (gcx tys hp L C B O):=by
 refine⟨⟨fun i=>(L.getD i g0).keeps,fun i=>(L.getD i g0).cell,fun i=>(L.getD i g0).noint⟩,ht,fun e he=>?_,fun e he=>?_,fun e he=>?_,fun e he=>?_,no_inl _ rfl⟩
 ·obtain⟨p,_,rfl⟩:=List.mem_map.1 he; exact p.ok
 ·obtain⟨p,_,rfl⟩:=List.mem_map.1 he; exact p.ent
 ·obtain⟨p,_,rfl⟩:=List.mem_map.1 he; exact p.ok
 ·obtain⟨p,_,rfl⟩:=List.mem_map.1 he; exact p.ok
theorem ev_gen{tys:List (TypeId×TyI)}(ht:∀ p∈tys,p.2.good P p.1=true)(hm:P.follows .mixedOrders=true)(C:List (GC P L hp))(B:List (GB P L))(O:List (GO P L)){f:FuncId}{fn:Func}(hf:P.funcs[f]?=some fn)(fuel:Nat)(args:List AR)(res:AV)
  (hev:evF (gcx tys hp L C B O) fn fuel args res=true) (w:World) (A:Nat→Prop) (vs:List Value) (hR:hp=true→Rcv A w) (hA:∀ n,A n→n<w.heap.size) (hargs:okr (gT L) σ0 args vs w A) :
  Calls P f vs.toArray w fun r w'=>∃ v,r=.returned v∧res.ok (gT L) σ0 v w' A∧Below w.heap.size w w' :=
 ev_spec (gcx_ok ht C B O) hm hf fuel hev (fun k hk=>by cases hk) (fun c _ x _ k hk=>by cases hk) σ0 w A vs hR hA hargs
theorem rcv_none(w:World):Rcv NoA w:=fun _ h=>h.elim
def AC.gn(L:List GF)(b n:Nat):AC→Option Value
 | .own c o=>if c == b then some (.pointer (some ⟨n,o,none⟩)) else none
 | .sl c o k cap=>if c == b then some (.slice (some ⟨n,o,none⟩) k cap) else none
 | x=>x.gv L
def AR.gn(L:List GF)(b n:Nat):AR→Option Value
 | .c x=>x.gn L b n
 | .row l=>AR.gv L (.row l)
end
end Tr
namespace Go.Proofs.YtjlhiaafnpompaaGreat
open Go.RowKit Tr
def tys:List (TypeId×TyI):=[
 (1,⟨false,1,[.nilf],[],none⟩),
 (2,⟨false,1,[.int .i64 0],[],none⟩),
 (3,⟨false,1,[.int .i64 0],[],none⟩),
 (4,⟨false,1,[.bool false],[],none⟩),
 (5,⟨false,1,[.int .u8 0],[],none⟩),
 (6,⟨false,1,[.int .u8 0],[],none⟩),
 (7,⟨true,4,[.int .i64 0,.int .i64 0,.bool false,.int .u8 0],[(0,1,false),(1,1,false),(2,1,false),(3,1,false)],none⟩),
 (8,⟨true,4,[.int .i64 0,.int .i64 0,.bool false,.int .u8 0],[(0,1,false),(1,1,false),(2,1,false),(3,1,false)],none⟩),
 (9,⟨false,1,[.str0],[],none⟩),
 (10,⟨false,1,[.str0],[],none⟩),
 (11,⟨false,1,[.str0],[],none⟩),
 (12,⟨false,1,[.int .u64 0],[],none⟩),
 (13,⟨true,2,[.str0,.int .u64 0],[(0,1,false),(1,1,false)],none⟩),
 (14,⟨true,2,[.str0,.int .u64 0],[(0,1,false),(1,1,false)],none⟩),
 (15,⟨false,1,[.nilp],[],none⟩),
 (16,⟨false,1,[.nilp],[],none⟩),
 (17,⟨false,1,[.nilp],[],none⟩),
 (18,⟨true,1,[.nilp],[(0,1,false)],none⟩),
 (19,⟨true,1,[.nilp],[(0,1,false)],none⟩),
 (21,⟨false,1,[.int .i32 0],[],none⟩),
 (22,⟨true,2,[.bool false,.str0],[(0,1,false),(1,1,false)],none⟩),
 (23,⟨true,2,[.bool false,.str0],[(0,1,false),(1,1,false)],none⟩),
 (24,⟨true,4,[.bool false,.str0,.bool false,.str0],[(0,2,true),(2,2,true)],none⟩),
 (25,⟨true,4,[.bool false,.str0,.bool false,.str0],[(0,2,true),(2,2,true)],none⟩),
 (26,⟨true,8,[.bool false,.str0,.bool false,.str0,.bool false,.str0,.bool false,.str0],[(0,4,true),(4,4,true)],none⟩),
 (27,⟨true,8,[.bool false,.str0,.bool false,.str0,.bool false,.str0,.bool false,.str0],[(0,4,true),(4,4,true)],none⟩),
 (28,⟨true,33,[.bool false,.str0,.bool false,.str0,.bool false,.str0,.bool false,.str0,.bool false,.str0,.bool false,.str0,.bool false,.str0,.bool false,.str0,.bool false,.str0,.bool false,.str0,.bool false,.str0,.bool false,.str0,.bool false,.str0,.bool false,.str0,.bool false,.str0,.bool false,.str0,.bool false],[(0,8,true),(8,8,true),(16,8,true),(24,8,true),(32,1,false)],none⟩),
 (29,⟨true,33,[.bool false,.str0,.bool false,.str0,.bool false,.str0,.bool false,.str0,.bool false,.str0,.bool false,.str0,.bool false,.str0,.bool false,.str0,.bool false,.str0,.bool false,.str0,.bool false,.str0,.bool false,.str0,.bool false,.str0,.bool false,.str0,.bool false,.str0,.bool false,.str0,.bool false],[(0,8,true),(8,8,true),(16,8,true),(24,8,true),(32,1,false)],none⟩),
 (30,⟨false,1,[.nilf],[],none⟩),
 (31,⟨false,1,[.int .i64 0],[],none⟩),
 (32,⟨false,1,[.nilf],[],none⟩),
 (33,⟨false,1,[.nilf],[],none⟩),
 (35,⟨false,1,[.nilf],[],none⟩),
 (36,⟨false,1,[.nilf],[],none⟩),
 (38,⟨false,1,[.nilf],[],none⟩),
 (39,⟨false,1,[.int .i64 0],[],none⟩),
 (41,⟨false,1,[.nilf],[],none⟩),
 (43,⟨false,1,[.nilf],[],none⟩),
 (45,⟨false,1,[.nilf],[],none⟩),
 (46,⟨false,1,[.nilf],[],none⟩),
 (47,⟨false,1,[.nilf],[],none⟩),
 (48,⟨false,1,[.nilf],[],none⟩),
 (49,⟨false,1,[.nilf],[],none⟩),
 (50,⟨true,9,[.bool false,.bool false,.str0,.bool false,.str0,.bool false,.str0,.bool false,.str0],[(0,1,false),(1,8,true)],none⟩),
 (51,⟨true,9,[.bool false,.bool false,.str0,.bool false,.str0,.bool false,.str0,.bool false,.str0],[(0,1,false),(1,8,true)],none⟩),
 (52,⟨false,1,[.nils],[],some (0,9,51)⟩),
 (54,⟨false,1,[.nilf],[],none⟩),
 (55,⟨false,1,[.nilf],[],none⟩),
 (56,⟨false,1,[.nilf],[],none⟩),
 (57,⟨false,1,[.nilf],[],none⟩),
 (58,⟨false,1,[.nils],[],some (0,8,27)⟩),
 (59,⟨false,1,[.nilp],[],none⟩),
 (60,⟨true,2,[.nilp,.nilp],[(0,1,false),(1,1,false)],none⟩),
 (61,⟨true,2,[.nilp,.nilp],[(0,1,false),(1,1,false)],none⟩),
 (62,⟨true,9,[.nilp,.nilp,.nilp,.nilp,.nilp,.nilp,.nilp,.nilp,.bool false],[(0,2,true),(2,2,true),(4,2,true),(6,2,true),(8,1,false)],none⟩),
 (63,⟨true,9,[.nilp,.nilp,.nilp,.nilp,.nilp,.nilp,.nilp,.nilp,.bool false],[(0,2,true),(2,2,true),(4,2,true),(6,2,true),(8,1,false)],none⟩),
 (65,⟨false,1,[.nilf],[],none⟩),
 (66,⟨false,1,[.nilf],[],none⟩),
 (67,⟨false,1,[.nilf],[],none⟩),
 (68,⟨false,1,[.nils],[],some (0,33,29)⟩),
 (69,⟨false,1,[.nilf],[],none⟩),
 (70,⟨false,1,[.nilf],[],none⟩),
 (71,⟨false,1,[.nilf],[],none⟩),
 (72,⟨false,1,[.nilf],[],none⟩),
 (73,⟨false,1,[.nilf],[],none⟩),
 (74,⟨false,1,[.nilf],[],none⟩),
 (75,⟨true,2,[.nilp,.nilp],[(0,1,false),(1,1,false)],none⟩),
 (76,⟨true,2,[.nilp,.nilp],[(0,1,false),(1,1,false)],none⟩),
 (77,⟨false,1,[.nilf],[],none⟩),
 (78,⟨true,9,[.nilp,.nilp,.nilp,.nilp,.nilp,.nilp,.nilp,.nilp,.bool false],[(0,2,true),(2,2,true),(4,2,true),(6,2,true),(8,1,false)],none⟩),
 (79,⟨true,9,[.nilp,.nilp,.nilp,.nilp,.nilp,.nilp,.nilp,.nilp,.bool false],[(0,2,true),(2,2,true),(4,2,true),(6,2,true),(8,1,false)],none⟩),
 (80,⟨false,1,[.nilf],[],none⟩),
 (81,⟨false,1,[.nilf],[],none⟩),
 (82,⟨false,1,[.nilf],[],none⟩),
 (83,⟨false,1,[.nilf],[],none⟩),
 (84,⟨false,1,[.nilf],[],none⟩),
 (85,⟨false,1,[.nilf],[],none⟩),
 (86,⟨false,1,[.nilf],[],none⟩),
 (87,⟨false,1,[.nilf],[],none⟩),
 (88,⟨true,4,[.int .i64 0,.int .i64 0,.int .i64 0,.int .i64 0],[],some (4,1,3)⟩),
 (89,⟨false,1,[.nilf],[],none⟩),
 (90,⟨false,1,[.nils],[],some (0,4,94)⟩),
 (92,⟨false,1,[.nilf],[],none⟩),
 (93,⟨true,4,[.nilp,.nilp,.nilp,.nilp],[(0,2,true),(2,2,true)],none⟩),
 (94,⟨true,4,[.nilp,.nilp,.nilp,.nilp],[(0,2,true),(2,2,true)],none⟩),
 (96,⟨false,1,[.nilf],[],none⟩),
 (97,⟨false,1,[.nilf],[],none⟩),
 (98,⟨false,1,[.nilf],[],none⟩),
 (99,⟨false,1,[.nilf],[],none⟩),
 (100,⟨false,1,[.nilf],[],none⟩),
 (101,⟨false,1,[.nilf],[],none⟩),
 (102,⟨false,1,[.nilf],[],none⟩),
 (103,⟨false,1,[.nilf],[],none⟩),
 (104,⟨false,1,[.nilf],[],none⟩),
 (105,⟨false,1,[.nilf],[],none⟩),
 (106,⟨false,1,[.nilf],[],none⟩),
 (107,⟨false,1,[.nilf],[],none⟩),
 (108,⟨false,1,[.nilf],[],none⟩),
 (109,⟨false,1,[.nilf],[],none⟩),
 (110,⟨false,1,[.nilp],[],none⟩),
 (111,⟨true,9,[.nilp,.bool false,.str0,.bool false,.str0,.bool false,.str0,.bool false,.str0],[(0,1,false),(1,8,true)],none⟩),
 (112,⟨false,1,[.nils],[],some (0,9,111)⟩),
 (114,⟨false,1,[.nilf],[],none⟩),
 (115,⟨false,1,[.nilf],[],none⟩),
 (116,⟨false,1,[.nilf],[],none⟩),
 (117,⟨false,1,[.nilp],[],none⟩),
 (118,⟨true,3,[.nilp,.nilp,.nilp],[(0,1,false),(1,2,true)],none⟩),
 (119,⟨false,1,[.nils],[],some (0,3,118)⟩),
 (120,⟨false,1,[.nilf],[],none⟩),
 (121,⟨false,1,[.nilf],[],none⟩),
 (122,⟨false,1,[.nilf],[],none⟩),
 (124,⟨false,1,[.nilf],[],none⟩),
 (125,⟨false,1,[.nils],[],some (0,1,167)⟩),
 (126,⟨true,2,[.bool false,.nils],[(0,1,false),(1,1,false)],none⟩),
 (127,⟨true,2,[.bool false,.nils],[(0,1,false),(1,1,false)],none⟩),
 (128,⟨true,4,[.bool false,.nils,.bool false,.nils],[(0,2,true),(2,2,true)],none⟩),
 (129,⟨true,4,[.bool false,.nils,.bool false,.nils],[(0,2,true),(2,2,true)],none⟩),
 (130,⟨false,1,[.nilf],[],none⟩),
 (131,⟨false,1,[.nilp],[],none⟩),
 (132,⟨false,1,[.nilf],[],none⟩),
 (133,⟨false,1,[.nilf],[],none⟩),
 (134,⟨false,1,[.nilf],[],none⟩),
 (135,⟨false,1,[.nilf],[],none⟩),
 (136,⟨false,1,[.nilf],[],none⟩),
 (137,⟨false,1,[.nilf],[],none⟩),
 (138,⟨false,1,[.nilf],[],none⟩),
 (140,⟨false,1,[.nilf],[],none⟩),
 (141,⟨true,8,[.nilp,.nilp,.nilp,.nilp,.nilp,.nilp,.nilp,.nilp],[],some (2,4,94)⟩),
 (142,⟨false,1,[.nilf],[],none⟩),
 (143,⟨false,1,[.nilf],[],none⟩),
 (144,⟨false,1,[.nilf],[],none⟩),
 (145,⟨false,1,[.nilf],[],none⟩),
 (146,⟨false,1,[.nils],[],some (0,2,61)⟩),
 (148,⟨false,1,[.nilf],[],none⟩),
 (150,⟨false,1,[.nilf],[],none⟩),
 (151,⟨false,1,[.nilf],[],none⟩),
 (152,⟨false,1,[.nilf],[],none⟩),
 (153,⟨false,1,[.nils],[],some (0,1,5)⟩),
 (154,⟨false,1,[.nilf],[],none⟩),
 (155,⟨false,1,[.nilf],[],none⟩),
 (156,⟨false,1,[.nilf],[],none⟩),
 (157,⟨false,1,[.nilf],[],none⟩),
 (158,⟨false,1,[.nilf],[],none⟩),
 (159,⟨false,1,[.nilf],[],none⟩),
 (160,⟨false,1,[.nilf],[],none⟩),
 (161,⟨false,1,[.nilf],[],none⟩),
 (163,⟨false,1,[.nilf],[],none⟩),
 (164,⟨false,1,[.nilf],[],none⟩),
 (165,⟨false,1,[.nilf],[],none⟩),
 (166,⟨false,1,[.nilf],[],none⟩),
 (167,⟨false,1,[.int .u32 0],[],none⟩),
 (169,⟨false,1,[.nilf],[],none⟩),
 (171,⟨false,1,[.nilf],[],none⟩),
 (172,⟨false,1,[.int .u64 0],[],none⟩),
 (173,⟨false,1,[.nilf],[],none⟩),
 (174,⟨false,1,[.nilf],[],none⟩),
 (175,⟨false,1,[.int .u64 0],[],none⟩),
 (176,⟨false,1,[.nilf],[],none⟩),
 (178,⟨false,1,[.nilf],[],none⟩),
 (179,⟨false,1,[.nilf],[],none⟩),
 (180,⟨false,1,[.nilf],[],none⟩),
 (181,⟨false,1,[.nilf],[],none⟩),
 (183,⟨false,1,[.nilf],[],none⟩),
 (184,⟨false,1,[.nilf],[],none⟩),
 (185,⟨false,1,[.nilf],[],none⟩),
 (186,⟨false,1,[.nilf],[],none⟩),
 (187,⟨false,1,[.nilf],[],none⟩),
 (188,⟨true,4,[.nilp,.nilp,.nilp,.str0],[(0,1,false),(1,1,false),(2,1,false),(3,1,false)],none⟩),
 (189,⟨true,4,[.nilp,.nilp,.nilp,.str0],[(0,1,false),(1,1,false),(2,1,false),(3,1,false)],none⟩),
 (190,⟨true,0,[],[],some (0,1,16)⟩),
 (191,⟨true,0,[],[(0,0,true)],none⟩),
 (192,⟨true,0,[],[(0,0,true)],none⟩),
 (193,⟨false,1,[.int .u8 0],[],none⟩),
 (194,⟨false,1,[.int .u8 0],[],none⟩),
 (195,⟨false,1,[.nilf],[],none⟩),
 (196,⟨false,1,[.nilp],[],none⟩),
 (197,⟨false,1,[.int .i32 0],[],none⟩),
 (198,⟨false,1,[.int .i32 0],[],none⟩),
 (199,⟨true,11,[.int .u64 0,.int .u64 0,.int .u32 0,.int .u8 0,.int .u8 0,.int .u8 0,.int .u8 0,.nilf,.nilp,.int .i32 0,.int .i32 0],[(0,1,false),(1,1,false),(2,1,false),(3,1,false),(4,1,false),(5,1,false),(6,1,false),(7,1,false),(8,1,false),(9,1,false),(10,1,false)],none⟩),
 (200,⟨true,11,[.int .u64 0,.int .u64 0,.int .u32 0,.int .u8 0,.int .u8 0,.int .u8 0,.int .u8 0,.nilf,.nilp,.int .i32 0,.int .i32 0],[(0,1,false),(1,1,false),(2,1,false),(3,1,false),(4,1,false),(5,1,false),(6,1,false),(7,1,false),(8,1,false),(9,1,false),(10,1,false)],none⟩),
 (201,⟨false,1,[.nilp],[],none⟩)]
theorem tys_ok:∀ p∈tys,p.2.good Tryz.prog p.1=true:=List.all_eq_true.1 (by kernel_rfl)
theorem mixed:Tryz.prog.follows .mixedOrders=true:=by kernel_rfl
end Go.Proofs.YtjlhiaafnpompaaGreat
namespace Go.Proofs.YtjlhiaafnpompaaGreat
open Go Go.RowKit Tr
theorem eo3:Enters Tryz.prog 3:=enters_of Tryz.func3 (by kernel_rfl)
theorem eo5:Enters Tryz.prog 5:=enters_of Tryz.func5 (by kernel_rfl)
theorem eo6:Enters Tryz.prog 6:=enters_of Tryz.func6 (by kernel_rfl)
theorem eo7:Enters Tryz.prog 7:=enters_of Tryz.func7 (by kernel_rfl)
theorem eo8:Enters Tryz.prog 8:=enters_of Tryz.func8 (by kernel_rfl)
theorem eo10:Enters Tryz.prog 10:=enters_of Tryz.func10 (by kernel_rfl)
theorem eo11:Enters Tryz.prog 11:=enters_of Tryz.func11 (by kernel_rfl)
theorem eo12:Enters Tryz.prog 12:=enters_of Tryz.func12 (by kernel_rfl)
theorem eo13:Enters Tryz.prog 13:=enters_of Tryz.func13 (by kernel_rfl)
theorem eo14:Enters Tryz.prog 14:=enters_of Tryz.func14 (by kernel_rfl)
theorem eo15:Enters Tryz.prog 15:=enters_of Tryz.func15 (by kernel_rfl)
theorem eo16:Enters Tryz.prog 16:=enters_of Tryz.func16 (by kernel_rfl)
theorem eo17:Enters Tryz.prog 17:=enters_of Tryz.func17 (by kernel_rfl)
theorem eo18:Enters Tryz.prog 18:=enters_of Tryz.func18 (by kernel_rfl)
theorem eo20:Enters Tryz.prog 20:=enters_of Tryz.func20 (by kernel_rfl)
theorem eo21:Enters Tryz.prog 21:=enters_of Tryz.func21 (by kernel_rfl)
theorem eo22:Enters Tryz.prog 22:=enters_of Tryz.func22 (by kernel_rfl)
theorem eo23:Enters Tryz.prog 23:=enters_of Tryz.func23 (by kernel_rfl)
theorem eo25:Enters Tryz.prog 25:=enters_of Tryz.func25 (by kernel_rfl)
theorem eo26:Enters Tryz.prog 26:=enters_of Tryz.func26 (by kernel_rfl)
theorem eo28:Enters Tryz.prog 28:=enters_of Tryz.func28 (by kernel_rfl)
theorem eo29:Enters Tryz.prog 29:=enters_of Tryz.func29 (by kernel_rfl)
theorem eo30:Enters Tryz.prog 30:=enters_of Tryz.func30 (by kernel_rfl)
theorem eo31:Enters Tryz.prog 31:=enters_of Tryz.func31 (by kernel_rfl)
theorem eo32:Enters Tryz.prog 32:=enters_of Tryz.func32 (by kernel_rfl)
theorem eo33:Enters Tryz.prog 33:=enters_of Tryz.func33 (by kernel_rfl)
theorem eo34:Enters Tryz.prog 34:=enters_of Tryz.func34 (by kernel_rfl)
theorem eo35:Enters Tryz.prog 35:=enters_of Tryz.func35 (by kernel_rfl)
theorem eo36:Enters Tryz.prog 36:=enters_of Tryz.func36 (by kernel_rfl)
theorem eo38:Enters Tryz.prog 38:=enters_of Tryz.func38 (by kernel_rfl)
theorem eo39:Enters Tryz.prog 39:=enters_of Tryz.func39 (by kernel_rfl)
theorem eo40:Enters Tryz.prog 40:=enters_of Tryz.func40 (by kernel_rfl)
theorem eo41:Enters Tryz.prog 41:=enters_of Tryz.func41 (by kernel_rfl)
theorem eo42:Enters Tryz.prog 42:=enters_of Tryz.func42 (by kernel_rfl)
theorem eo43:Enters Tryz.prog 43:=enters_of Tryz.func43 (by kernel_rfl)
theorem eo44:Enters Tryz.prog 44:=enters_of Tryz.func44 (by kernel_rfl)
theorem eo45:Enters Tryz.prog 45:=enters_of Tryz.func45 (by kernel_rfl)
theorem eo46:Enters Tryz.prog 46:=enters_of Tryz.func46 (by kernel_rfl)
theorem eo47:Enters Tryz.prog 47:=enters_of Tryz.func47 (by kernel_rfl)
theorem eo48:Enters Tryz.prog 48:=enters_of Tryz.func48 (by kernel_rfl)
theorem eo49:Enters Tryz.prog 49:=enters_of Tryz.func49 (by kernel_rfl)
theorem eo51:Enters Tryz.prog 51:=enters_of Tryz.func51 (by kernel_rfl)
theorem eo52:Enters Tryz.prog 52:=enters_of Tryz.func52 (by kernel_rfl)
theorem eo53:Enters Tryz.prog 53:=enters_of Tryz.func53 (by kernel_rfl)
theorem eo56:Enters Tryz.prog 56:=enters_of Tryz.func56 (by kernel_rfl)
theorem eo58:Enters Tryz.prog 58:=enters_of Tryz.func58 (by kernel_rfl)
theorem eo59:Enters Tryz.prog 59:=enters_of Tryz.func59 (by kernel_rfl)
theorem eo60:Enters Tryz.prog 60:=enters_of Tryz.func60 (by kernel_rfl)
theorem eo61:Enters Tryz.prog 61:=enters_of Tryz.func61 (by kernel_rfl)
theorem eo62:Enters Tryz.prog 62:=enters_of Tryz.func62 (by kernel_rfl)
theorem eo63:Enters Tryz.prog 63:=enters_of Tryz.func63 (by kernel_rfl)
theorem eo64:Enters Tryz.prog 64:=enters_of Tryz.func64 (by kernel_rfl)
theorem eo67:Enters Tryz.prog 67:=enters_of Tryz.func67 (by kernel_rfl)
theorem eo68:Enters Tryz.prog 68:=enters_of Tryz.func68 (by kernel_rfl)
theorem eo69:Enters Tryz.prog 69:=enters_of Tryz.func69 (by kernel_rfl)
theorem eo70:Enters Tryz.prog 70:=enters_of Tryz.func70 (by kernel_rfl)
theorem eo80:Enters Tryz.prog 80:=enters_of Tryz.func80 (by kernel_rfl)
theorem eo81:Enters Tryz.prog 81:=enters_of Tryz.func81 (by kernel_rfl)
theorem eo86:Enters Tryz.prog 86:=enters_of Tryz.func86 (by kernel_rfl)
theorem eo87:Enters Tryz.prog 87:=enters_of Tryz.func87 (by kernel_rfl)
theorem eo94:Enters Tryz.prog 94:=enters_of Tryz.func94 (by kernel_rfl)
theorem eo95:Enters Tryz.prog 95:=enters_of Tryz.func95 (by kernel_rfl)
theorem eo112:Enters Tryz.prog 112:=enters_of Tryz.func112 (by kernel_rfl)
end Go.Proofs.YtjlhiaafnpompaaGreat
