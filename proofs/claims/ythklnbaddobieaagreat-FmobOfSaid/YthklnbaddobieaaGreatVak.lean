/- Laws for the walk. -/
import Derived.Test.YthklnbaddobieaaGreatVac
import Derived.Test.YthklnbaddobieaaGreatVaj
set_option linter.unusedVariables false
set_option maxHeartbeats 4000000
namespace Tr
open Go Go.RowKit
def PureC(P:Program)(f:FuncId)(vs:List Value)(v:Value):Prop:=∀ w,Calls P f vs.toArray w fun e w'=>e=.returned v∧Below w.heap.size w w'
theorem enters_of {P : Program} {f : FuncId} {fn : Func} (hf : P.funcs[f]? = some fn) (h : (!(fn.name == "runtime.NumGoroutine") && fn.body.isSome) = true) : Enters P f := by
 intro args w
 simp only[Bool.and_eq_true,Bool.not_eq_true'] at h
 obtain⟨h1,h2⟩:=h
 have h3:fn.body.isNone=false:=by cases hb:fn.body<;>simp[hb] at h2 ⊢
 simp only[callFunc,Sem.run_bind,run_program,Result.andThen_ok,hf,h1,h3,Bool.false_eq_true,if_false,Sem.run_pure]
structure GF where
 R:Fact
 int:Bool
 keeps:R.Keeps
 cell:∀ v w A,R v w A→v.oneCell'=true
 noint:int=false→∀ v w A,R v w A→∀(k:Unit) (x:Int),v≠.int .u32 x
 ex:Option Value
 exact:∀ u,ex=some u→∀ v w A,R v w A↔v=u
def isIntV:Value→Bool|.int .u32 _=>true|_=>false
def gx(u:Value)(h:u.oneCell'=true:=by rfl):GF where
 R:=fun v _ _=>v=u
 int:=isIntV u
 keeps:=fun _ _ _ _ _ _ _ h=>h
 cell:=fun v _ _ e=>by rw[show v=u from e]; exact h
 noint:=fun hi v _ _ e k x e2=>by rw[show v=u from e] at e2; rw[e2] at hi; cases hi
 ex:=some u
 exact:=fun u' e v w A=>by cases e; exact Iff.rfl
def g0:GF:=gx (.bool false)
def gT(L:List GF)(i:Nat):Fact:=(L.getD i g0).R
def gI(L:List GF)(i:Nat):Bool:=(L.getD i g0).int
def AC.gv(L:List GF):AC→Option Value
 | .sym i=>(L.getD i g0).ex
 | .lit l=>some l.val
 | _=>none
def acsV(L:List GF):List AC→Option (List Value)
 | []=>some []
 | x :: l=>match x.gv L,acsV L l with|some v,some vs=>some (v :: vs)|_,_=>none
def AR.gv(L:List GF):AR→Option Value
 | .c x=>x.gv L
 | .row l=>match acsV L l with|some vs=>some (.agg vs.toArray)|none=>none
def arsV(L:List GF):List AR→Option (List Value)
 | []=>some []
 | x :: l=>match x.gv L,arsV L l with|some v,some vs=>some (v :: vs)|_,_=>none
def AV.gv(L:List GF):AV→Option Value
 | .r x=>x.gv L
 | .tup l=>match arsV L l with|some vs=>some (.tuple vs.toArray)|none=>none
 | .undf=>some undef
 | .junk=>none
section
variable{P:Program}{L:List GF}{hp:Bool}{σ:Sg}{w:World}{A:Nat→Prop}
theorem AC.gv_ok{x:AC}{u v:Value}(h:x.gv L=some u):x.ok (gT L) σ v w A↔v=u:=by
 cases x with
 | sym i=>exact(L.getD i g0).exact u h v w A
 | lit l=>cases h; exact Iff.rfl
 | own b o=>cases h
 | sl b o n c=>cases h
 | sg b o n=>cases h
 | fn f a b=>cases h
theorem acsV_ok:∀{l:List AC} {us vs:List Value},acsV L l=some us→(oks (gT L) σ l vs w A↔vs=us)
 | [],us,vs,h=>by cases h; cases vs<;>simp[oks]
 | x :: l,us,vs,h=>by
  unfold acsV at h
  split at h
  ·rename_i u r h1 h2
   cases h
   cases vs with
   | nil=>simp[oks]
   | cons v vs=>simp only[oks,AC.gv_ok h1,acsV_ok h2,List.cons.injEq]
  ·cases h
theorem AR.gv_ok{x:AR}{u v:Value}(h:x.gv L=some u):x.ok (gT L) σ v w A↔v=u:=by
 cases x with
 | c x=>exact AC.gv_ok (x:=x) h
 | row l =>
  unfold AR.gv at h
  simp only at h
  split at h
  ·rename_i vs h1
   cases h
   constructor
   ·rintro⟨us,rfl,h2⟩; rw[(acsV_ok h1).1 h2]
   ·rintro rfl; exact⟨_,rfl,(acsV_ok h1).2 rfl⟩
  ·cases h
theorem arsV_ok:∀{l:List AR} {us vs:List Value},arsV L l=some us→(okr (gT L) σ l vs w A↔vs=us)
 | [],us,vs,h=>by cases h; cases vs<;>simp[okr]
 | x :: l,us,vs,h=>by
  unfold arsV at h
  split at h
  ·rename_i u r h1 h2
   cases h
   cases vs with
   | nil=>simp[okr]
   | cons v vs=>simp only[okr,AR.gv_ok h1,arsV_ok h2,List.cons.injEq]
  ·cases h
theorem AV.gv_ok{x:AV}{u v:Value}(h:x.gv L=some u):x.ok (gT L) σ v w A↔v=u:=by
 cases x with
 | r x=>exact AR.gv_ok (x:=x) h
 | tup l =>
  unfold AV.gv at h
  simp only at h
  split at h
  ·rename_i vs h1
   cases h
   constructor
   ·rintro⟨us,rfl,h2⟩; rw[(arsV_ok h1).1 h2]
   ·rintro rfl; exact⟨_,rfl,(arsV_ok h1).2 rfl⟩
  ·cases h
 | undf=>cases h; exact Iff.rfl
 | junk=>cases h
end
structure GC(P:Program)(L:List GF)(hp:Bool) where
 cs:CS
 ent:Enters P cs.f
 ok:cs.Ok P (gT L) hp
structure GB(P:Program)(L:List GF) where
 bs:BS
 ok:bs.Ok P (gT L)
structure GO(P:Program)(L:List GF) where
 os:OS
 ok:os.Ok P (gT L)
section
variable{P:Program}{L:List GF}{hp:Bool}
def gp(f:FuncId)(args:List AR)(res:AV)(ent:Enters P f){vs:List Value}{v:Value}(h:PureC P f vs v)(ha:arsV L args=some vs:=by rfl)(hr:res.gv L=some v:=by rfl):GC P L hp :=
 ⟨{ f,args,res },ent,fun σ w A us _ _ hu _=>by
  have e:us=vs:=(arsV_ok ha).1 hu
  subst e
  exact(h w).mono fun r w' h=>⟨v,h.1,(AV.gv_ok hr).2 rfl,h.2⟩⟩
def gb(op:BinOp)(t:TypeId)(x y:AR)(res:AC){vx vy v:Value}(h:∀ xo yo w,(do eqGuard op t xo yo vx vy; binOp op t vx vy:Sem Value).run P w=.ok v w)(hx:x.gv L=some vx:=by rfl)(hy:y.gv L=some vy:=by rfl)(hr:res.gv L=some v:=by rfl):GB P L :=
 ⟨{ op,t,x,y,res },fun σ w A ux uy xo yo h1 h2=>by
  have e1:ux=vx:=(AR.gv_ok hx).1 h1
  have e2:uy=vy:=(AR.gv_ok hy).1 h2
  subst e1; subst e2
  exact⟨v,h xo yo w,(AC.gv_ok hr).2 rfl⟩⟩
def gm1(f:FuncId)(x:AR)(res:AV)(ent:Enters P f)(h:∀(w:World) (A:Nat→Prop) (u:Value),(hp=true→Rcv A w)→x.ok (gT L) σ0 u w A→Calls P f #[u] w fun r w'=>∃ v,r=.returned v∧res.ok (gT L) σ0 v w' A∧Below w.heap.size w w')(hx:(x.noown && res.noown)=true:=by rfl):GC P L hp :=
 ⟨{ f,args:=[x],res },ent,fun σ w A us hR _ hu _=>by
  simp only[Bool.and_eq_true] at hx
  match us,hu with
  | [u],hu=>exact(h w A u hR (AR.ok_noown hx.1 hu.1)).mono fun r w' ⟨v,h1,h2,h3⟩=>⟨v,h1,AV.ok_noown hx.2 h2,h3⟩⟩
def gm2(f:FuncId)(x y:AR)(res:AV)(ent:Enters P f)(h:∀(w:World) (A:Nat→Prop) (u v:Value),(hp=true→Rcv A w)→x.ok (gT L) σ0 u w A→y.ok (gT L) σ0 v w A→Calls P f #[u,v] w fun r w'=>∃ v,r=.returned v∧res.ok (gT L) σ0 v w' A∧Below w.heap.size w w')(hx:(x.noown && y.noown && res.noown)=true:=by rfl):GC P L hp :=
 ⟨{ f,args:=[x,y],res },ent,fun σ w A us hR _ hu _=>by
  simp only[Bool.and_eq_true] at hx
  match us,hu with
  | [u,v],hu=>exact(h w A u v hR (AR.ok_noown hx.1.1 hu.1) (AR.ok_noown hx.1.2 hu.2.1)).mono fun r w' ⟨v,h1,h2,h3⟩=>⟨v,h1,AV.ok_noown hx.2 h2,h3⟩⟩
def gm2x(f:FuncId)(x y:AR)(res:AV)(ent:Enters P f){v:Value}(h:∀(w:World) (A:Nat→Prop) (u v':Value),(hp=true→Rcv A w)→x.ok (gT L) σ0 u w A→y.ok (gT L) σ0 v' w A→Calls P f #[u,v'] w fun r w'=>r=.returned v∧Below w.heap.size w w')(hx:(x.noown && y.noown)=true:=by rfl)(hr:res.gv L=some v:=by rfl):GC P L hp :=
 ⟨{ f,args:=[x,y],res },ent,fun σ w A us hR _ hu _=>by
  simp only[Bool.and_eq_true] at hx
  match us,hu with
  | [u,v'],hu=>exact(h w A u v' hR (AR.ok_noown hx.1 hu.1) (AR.ok_noown hx.2 hu.2.1)).mono fun r w' ⟨h1,h3⟩=>⟨v,h1,(AV.gv_ok hr).2 rfl,h3⟩⟩
theorem no_inl{T:Nat→Fact}(cx:Cx)(h:cx.inl=fun _ _ _ _ _=>none):InlOk P T cx:=by
 intro A0 M w0 σs σ s a w R f args vs bl new r ws rd h1 h2 h3
 rw[h] at h3; cases h3
def gcx(tys:List (TypeId×TyI))(hp:Bool)(L:List GF)(C:List (GC P L hp))(B:List (GB P L))(O:List (GO P L)):Cx:={ tys,calls:=C.map GC.cs,bins:=B.map GB.bs,others:=O.map GO.os,hp,ints:=gI L }
theorem gcx_ok{tys:List (TypeId×TyI)}(ht:∀ p∈tys,p.2.good P p.1=true)(C:List (GC P L hp))(B:List (GB P L))(O:List (GO P L)):CxOk P (gT L) (gcx tys hp L C B O):=by
 refine⟨⟨fun i=>(L.getD i g0).keeps,fun i=>(L.getD i g0).cell,fun i=>(L.getD i g0).noint⟩,ht,fun e he=>?_,fun e he=>?_,fun e he=>?_,fun e he=>?_,no_inl _ rfl⟩
 ·obtain⟨p,_,rfl⟩:=List.mem_map.1 he; exact p.ok
 ·obtain⟨p,_,rfl⟩:=List.mem_map.1 he; exact p.ent
 ·obtain⟨p,_,rfl⟩:=List.mem_map.1 he; exact p.ok
 ·obtain⟨p,_,rfl⟩:=List.mem_map.1 he; exact p.ok
theorem ev_gen{tys:List (TypeId×TyI)}(ht:∀ p∈tys,p.2.good P p.1=true)(hm:P.follows .mixedOrders=true)(C:List (GC P L hp))(B:List (GB P L))(O:List (GO P L)){f:FuncId}{fn:Func}(hf:P.funcs[f]?=some fn)(fuel:Nat)(args:List AR)(res:AV)
  (hev:evF (gcx tys hp L C B O) fn fuel args res=true) (w:World) (A:Nat→Prop) (vs:List Value) (hR:hp=true→Rcv A w) (hA:∀ n,A n→n<w.heap.size) (hargs:okr (gT L) σ0 args vs w A) :
  Calls P f vs.toArray w fun r w'=>∃ v,r=.returned v∧res.ok (gT L) σ0 v w' A∧Below w.heap.size w w' :=
 ev_spec (gcx_ok ht C B O) hm hf fuel hev (fun k hk=>by cases hk) (fun c _ x _ k hk=>by cases hk) σ0 w A vs hR hA hargs
theorem rcv_none(w:World):Rcv NoA w:=fun _ h=>h.elim
theorem ev_pure{tys:List (TypeId×TyI)}(ht:∀ p∈tys,p.2.good P p.1=true)(hm:P.follows .mixedOrders=true)(C:List (GC P L hp))(B:List (GB P L))(O:List (GO P L)){f:FuncId}{fn:Func}(hf:P.funcs[f]?=some fn)(fuel:Nat)(args:List AR)(res:AV)
  (hev:evF (gcx tys hp L C B O) fn fuel args res=true) {vs:List Value} {v:Value} (ha:arsV L args=some vs:=by rfl) (hr:res.gv L=some v:=by rfl):PureC P f vs v:=fun w =>
 (ev_gen ht hm C B O hf fuel args res hev w NoA vs (fun _=>rcv_none w) (fun _ h=>h.elim) ((arsV_ok ha).2 rfl)).mono fun r w' ⟨u,h1,h2,h3⟩=>⟨by rw[h1,(AV.gv_ok hr).1 h2],h3⟩
def AC.gn(L:List GF)(b n:Nat):AC→Option Value
 | .own c o=>if c == b then some (.pointer (some ⟨n,o,none⟩)) else none
 | .sl c o k cap=>if c == b then some (.slice (some ⟨n,o,none⟩) k cap) else none
 | x=>x.gv L
def AR.gn(L:List GF)(b n:Nat):AR→Option Value
 | .c x=>x.gn L b n
 | .row l=>AR.gv L (.row l)
end
end Tr
namespace Tr
open Go Go.RowKit
def blocksOk(cx:Cx)(s:AS):Bool:=s.blocks.all fun b=>match b with|.live ab|.lent ab=>okCells cx ab.cells|_=>true
def goesOn(cx:Cx)(fuel:Nat)(x:Code)(inv:AS)(pairs:List (Nat×Nat))(lits:List (LV×Nat)):Bool :=
 match evC cx fuel x inv with
 | some (.normal,s)=>tlS (relBy pairs lits) s inv
 | _=>false
def leaves(cx:Cx)(fuel:Nat)(x:Code)(inv:AS)(id:Nat)(post:AS)(pairs:List (Nat×Nat))(lits:List (LV×Nat)):Bool :=
 match evC cx fuel x inv with
 | some (.exit k,s)=>k == id && tlS (relBy pairs lits) s post
 | _=>false
def GivesBy(T T':Nat→Fact)(pairs:List (Nat×Nat))(lits:List (LV×Nat)):Prop :=
 (∀ p∈pairs,∀ v w A,T p.1 v w A→T' p.2 v w A)∧∀ p∈lits,∀ w A,T' p.2 p.1.val w A
theorem GivesBy.gives{T T':Nat→Fact}{pairs:List (Nat×Nat)}{lits:List (LV×Nat)}(h:GivesBy T T' pairs lits):Gives T T' (relBy pairs lits):=by
 intro x y hr σ v w A hx
 unfold relBy at hr
 split at hr
 ·rename_i i j
  rw[List.any_eq_true] at hr
  obtain⟨p,hp,he⟩:=hr
  simp only[Bool.and_eq_true,beq_iff_eq] at he
  obtain⟨rfl,rfl⟩:=he
  exact h.1 p hp v w A hx
 ·rename_i l j
  rw[List.any_eq_true] at hr
  obtain⟨p,hp,he⟩:=hr
  simp only[Bool.and_eq_true,beq_iff_eq] at he
  obtain⟨h1,rfl⟩:=he
  have:=LV.eq_of h1
  subst this
  rw[show v=p.1.val from hx]
  exact h.2 p hp w A
 ·rw[←LV.eq_of hr]; exact hx
 ·simp only[Bool.and_eq_true,beq_iff_eq] at hr
  obtain⟨rfl,rfl⟩:=hr; exact hx
 ·simp only[Bool.and_eq_true,beq_iff_eq] at hr
  obtain⟨⟨⟨rfl,rfl⟩,rfl⟩,rfl⟩:=hr; exact hx
 ·simp only[Bool.and_eq_true,beq_iff_eq] at hr
  obtain⟨⟨rfl,rfl⟩,rfl⟩:=hr; exact hx
 ·simp only[Bool.and_eq_true,beq_iff_eq] at hr
  obtain⟨⟨rfl,rfl⟩,rfl⟩:=hr; exact hx
 ·cases hr
section
variable{P:Program}
theorem loop_ok{ι:Type}{T0:Nat→Fact}{cx0:Cx}(h0:TOk T0 cx0.ints)(hm:P.follows .mixedOrders=true){k:LC}{x:Code}{id:Nat}(hex:k.ex=.exit id)(T:ι→Nat→Fact)(cx:ι→Cx)(C:∀ i,CxOk P (T i) (cx i))(hhp:∀ i,(cx i).hp=cx0.hp)(hcu:∀ i,(cx i).cuts=[])
  (inv:AS) (hlow:inv.low=true) (hok:∀ i,blocksOk (cx i) inv=true) (hlow':k.post.low=true) (hok':blocksOk cx0 k.post=true) (fuel:Nat) (μ:ι→Nat)
  (i0:ι) (pairs0:List (Nat×Nat)) (lits0:List (LV×Nat)) (hs:tlS (relBy pairs0 lits0) k.pre inv=true) (hg:GivesBy T0 (T i0) pairs0 lits0)
  (step:∀ i,(∃ j pairs lits,goesOn (cx i) fuel x inv pairs lits=true∧GivesBy (T i) (T j) pairs lits∧μ j<μ i)∨(∃ pairs lits,leaves (cx i) fuel x inv id k.post pairs lits=true∧GivesBy (T i) T0 pairs lits))
  (hdf:∀ i,(cx i).dfs=[]:=by intros; rfl):k.Ok P T0 cx0 x:=by
 intro hd0 A0 M w0 σ a w Q R hK
 have key:∀ n i σ a w,μ i<n→Rel (T i) (cx i) A0 M w0 σ0 σ inv a w→Code.rounds P x Q n a w:=by
  intro n
  induction n with
  | zero=>intro i σ a w h; omega
  | succ n ih =>
   intro i σ a w hlt R
   rw[rounds_succ]
   rcases step i with⟨j,pairs,lits,h1,h2,h3⟩|⟨pairs,lits,h1,h2⟩
   ·unfold goesOn at h1
    split at h1
    ·rename_i s1 he
     refine(evC_sound (C i) hm (.inl (hcu i)) (fun q hq=>by rw[hcu i] at hq; cases hq) fuel (fun y _ q hq=>by rw[hcu i] at hq; cases hq) R he fun σ' a' w' R'=>?_).1
     obtain⟨σ2,R2⟩:=R'.weaken (T':=T j) (cx':=cx j) (C j).table h2.gives (by rw[hhp i,hhp j]) (hok j) hlow h1 (by rw[hdf i,hdf j])
     exact ih j σ2 a' w' (by omega) R2
    ·cases h1
   ·unfold leaves at h1
    split at h1
    ·rename_i q s1 he
     simp only[Bool.and_eq_true,beq_iff_eq] at h1
     obtain⟨rfl,hle⟩:=h1
     refine(evC_sound (C i) hm (.inl (hcu i)) (fun q hq=>by rw[hcu i] at hq; cases hq) fuel (fun y _ q hq=>by rw[hcu i] at hq; cases hq) R he fun σ' a' w' R'=>?_).1
     obtain⟨σ2,R2⟩:=R'.weaken (T':=T0) (cx':=cx0) h0 h2.gives (hhp i).symm hok' hlow' hle (hd0.trans (hdf i).symm)
     have:=hK σ2 a' w' R2
     rw[hex] at this
     exact this
    ·cases h1
 obtain⟨σ1,R1⟩:=R.weaken (T':=T i0) (cx':=cx i0) (C i0).table hg.gives (hhp i0) (hok i0) hlow hs ((hdf i0).trans hd0.symm)
 exact wp_loop_rounds (μ i0+1) (key _ i0 σ1 a w (by omega) R1)
def gcl(tys:List (TypeId×TyI))(hp:Bool)(L:List GF)(C:List (GC P L hp))(B:List (GB P L))(O:List (GO P L))(cuts:List LC):Cx:={ gcx tys hp L C B O with cuts }
theorem gcl_ok{hp:Bool}{L:List GF}{tys:List (TypeId×TyI)}(ht:∀ p∈tys,p.2.good P p.1=true)(C:List (GC P L hp))(B:List (GB P L))(O:List (GO P L))(cuts:List LC):CxOk P (gT L) (gcl tys hp L C B O cuts) :=
 let h:=gcx_ok ht C B O
 ⟨h.table,h.tys,h.calls,h.enters,h.bins,h.others,no_inl _ rfl⟩
theorem ev_loop{hp:Bool}{L:List GF}{tys:List (TypeId×TyI)}(ht:∀ p∈tys,p.2.good P p.1=true)(hm:P.follows .mixedOrders=true)(C:List (GC P L hp))(B:List (GB P L))(O:List (GO P L))(cuts:List LC){f:FuncId}{fn:Func}(hf:P.funcs[f]?=some fn)(fuel:Nat)(args:List AR)(res:AV)
  (hev:evF (gcl tys hp L C B O cuts) fn fuel args res=true) (hpre:cuts.all (fun k=>k.pre.low && blocksOk (gcl tys hp L C B O cuts) k.pre)=true) {c:Code} (hc:fn.body=some c) (hcut:∀ x∈loopsOf c,∀ k∈cuts,keyOf x=some k.key→k.Ok P (gT L) (gcl tys hp L C B O cuts) x)
  (w:World) (A:Nat→Prop) (vs:List Value) (hR:hp=true→Rcv A w) (hA:∀ n,A n→n<w.heap.size) (hargs:okr (gT L) σ0 args vs w A) :
  Calls P f vs.toArray w fun r w'=>∃ v,r=.returned v∧res.ok (gT L) σ0 v w' A∧Below w.heap.size w w' :=
 ev_spec (gcl_ok ht C B O cuts) hm hf fuel hev (fun k hk=>List.all_eq_true.1 hpre k hk) (fun c' hc' x hx k hk hkey=>by rw[hc] at hc'; cases hc'; exact hcut x hx k hk hkey) σ0 w A vs hR hA hargs
end
end Tr
namespace Tr
open Go Go.RowKit
inductive FR where
 | c (g:GF)|row (l:List GF)
inductive FV where
 | r (x:FR)|tup (l:List FR)
def gl(l:LV):GF:=gx l.val (by cases l<;>rfl)
def okg:List GF→List Value→World→(Nat→Prop)→Prop
 | [],[],_,_=>True
 | g :: l,v :: vs,w,A=>g.R v w A∧okg l vs w A
 | _,_,_,_=>False
def FR.R:FR→Fact
 | .c g=>g.R
 | .row l=>fun v w A=>∃ vs,v=.agg vs.toArray∧okg l vs w A
def okf:List FR→List Value→World→(Nat→Prop)→Prop
 | [],[],_,_=>True
 | x :: l,v :: vs,w,A=>x.R v w A∧okf l vs w A
 | _,_,_,_=>False
def FV.R:FV→Fact
 | .r x=>x.R
 | .tup l=>fun v w A=>∃ vs,v=.tuple vs.toArray∧okf l vs w A
structure SpecC(P:Program)(hp:Bool)(f:FuncId)(args:List FR)(res:FV):Prop where
 ent:Enters P f
 ok:∀(w:World) (A:Nat→Prop) (vs:List Value),(hp=true→Rcv A w)→(∀ n,A n→n<w.heap.size)→okf args vs w A →
  Calls P f vs.toArray w fun r w'=>∃ v,r=.returned v∧res.R v w' A∧Below w.heap.size w w'
section
variable{P:Program}{hp:Bool}{fi:FuncId}{a:List FR}{r s:FV}{c:Prop}[Decidable c]
theorem SpecC.it(h:c)(k:SpecC P hp fi a r):SpecC P hp fi a (if c then r else s):=by rw[if_pos h]; exact k
theorem SpecC.ie(h:¬c)(k:SpecC P hp fi a s):SpecC P hp fi a (if c then r else s):=by rw[if_neg h]; exact k
theorem SpecC.t(k:SpecC P hp fi a (if c then r else s))(h:c):SpecC P hp fi a r:=by rw[if_pos h] at k; exact k
theorem SpecC.f(k:SpecC P hp fi a (if c then r else s))(h:¬c):SpecC P hp fi a s:=by rw[if_neg h] at k; exact k
end
def gfn(f:FuncId):GF:=gx (.func (.func f) #[] #[])
def AC.lk(L:List GF):AC→Option GF
 | .sym i=>some (L.getD i g0)
 | .lit l=>some (gl l)
 | .fn f [] []=>some (gfn f)
 | _=>none
def acsK(L:List GF):List AC→Option (List GF)
 | []=>some []
 | x :: l=>match x.lk L,acsK L l with|some v,some vs=>some (v :: vs)|_,_=>none
def AR.lk(L:List GF):AR→Option FR
 | .c x=>match x.lk L with|some g=>some (.c g)|none=>none
 | .row l=>match acsK L l with|some vs=>some (.row vs)|none=>none
def arsK(L:List GF):List AR→Option (List FR)
 | []=>some []
 | x :: l=>match x.lk L,arsK L l with|some v,some vs=>some (v :: vs)|_,_=>none
def AV.lk(L:List GF):AV→Option FV
 | .r x=>match x.lk L with|some g=>some (.r g)|none=>none
 | .tup l=>match arsK L l with|some vs=>some (.tup vs)|none=>none
 | _=>none
section
variable{P:Program}{L:List GF}{hp:Bool}{σ:Sg}{w:World}{A:Nat→Prop}
theorem AC.lk_ok{x:AC}{g:GF}{v:Value}(h:x.lk L=some g):x.ok (gT L) σ v w A↔g.R v w A:=by
 cases x with
 | sym i=>cases h; exact Iff.rfl
 | lit l=>cases h; exact Iff.rfl
 | fn f a b =>
  cases a with
  | cons _ _=>cases h
  | nil =>
   cases b with
   | cons _ _=>cases h
   | nil =>
    cases h
    constructor
    ·rintro⟨us,vs,e,h1,h2⟩
     cases us with
     | cons _ _=>exact h1.elim
     | nil =>
      cases vs with
      | cons _ _=>exact h2.elim
      | nil=>exact e
    ·intro e; exact⟨[],[],e,trivial,trivial⟩
 | _=>cases h
theorem acsK_ok:∀{l:List AC} {gs:List GF} {vs:List Value},acsK L l=some gs→(oks (gT L) σ l vs w A↔okg gs vs w A)
 | [],gs,vs,h=>by cases h; cases vs<;>exact Iff.rfl
 | x :: l,gs,vs,h=>by
  unfold acsK at h
  split at h
  ·rename_i u r h1 h2
   cases h
   cases vs with
   | nil=>exact Iff.rfl
   | cons v vs=>exact and_congr (AC.lk_ok h1) (acsK_ok h2)
  ·cases h
theorem AR.lk_ok{x:AR}{g:FR}{v:Value}(h:x.lk L=some g):x.ok (gT L) σ v w A↔g.R v w A:=by
 cases x with
 | c x =>
  unfold AR.lk at h
  simp only at h
  split at h
  ·rename_i g' h1; cases h; exact AC.lk_ok (x:=x) h1
  ·cases h
 | row l =>
  unfold AR.lk at h
  simp only at h
  split at h
  ·rename_i gs h1; cases h
   exact exists_congr fun vs=>and_congr Iff.rfl (acsK_ok h1)
  ·cases h
theorem arsK_ok:∀{l:List AR} {gs:List FR} {vs:List Value},arsK L l=some gs→(okr (gT L) σ l vs w A↔okf gs vs w A)
 | [],gs,vs,h=>by cases h; cases vs<;>exact Iff.rfl
 | x :: l,gs,vs,h=>by
  unfold arsK at h
  split at h
  ·rename_i u r h1 h2
   cases h
   cases vs with
   | nil=>exact Iff.rfl
   | cons v vs=>exact and_congr (AR.lk_ok h1) (arsK_ok h2)
  ·cases h
theorem AV.lk_ok{x:AV}{g:FV}{v:Value}(h:x.lk L=some g):x.ok (gT L) σ v w A↔g.R v w A:=by
 cases x with
 | r x =>
  unfold AV.lk at h
  simp only at h
  split at h
  ·rename_i g' h1; cases h; exact AR.lk_ok (x:=x) h1
  ·cases h
 | tup l =>
  unfold AV.lk at h
  simp only at h
  split at h
  ·rename_i gs h1; cases h
   exact exists_congr fun vs=>and_congr Iff.rfl (arsK_ok h1)
  ·cases h
 | _=>cases h
end
section
variable{P:Program}{L:List GF}
def gs{hp' hp:Bool}{f:FuncId}{fa:List FR}{fr:FV}(h:SpecC P hp' f fa fr)(args:List AR)(res:AV)(ha:arsK L args=some fa:=by kernel_rfl)(hr:res.lk L=some fr:=by kernel_rfl)(hh:(!hp' || hp)=true:=by rfl):GC P L hp :=
 ⟨{ f,args,res },h.ent,fun σ w A us hR hA hu _=>by
  have hR':hp'=true→Rcv A w:=fun e=>hR (by subst e; simpa using hh)
  exact(h.ok w A us hR' hA ((arsK_ok ha).1 hu)).mono fun r w' ⟨v,h1,h2,h3⟩=>⟨v,h1,(AV.lk_ok hr).2 h2,h3⟩⟩
theorem ev_sp{hp:Bool}{tys:List (TypeId×TyI)}(ht:∀ p∈tys,p.2.good P p.1=true)(hm:P.follows .mixedOrders=true)(C:List (GC P L hp))(B:List (GB P L))(O:List (GO P L)){f:FuncId}{fn:Func}(hf:P.funcs[f]?=some fn)(ent:Enters P f)(fuel:Nat)(args:List AR)(res:AV)
  {fa:List FR} {fr:FV} (hev:evF (gcx tys hp L C B O) fn fuel args res=true:=by kernel_rfl) (ha:arsK L args=some fa:=by kernel_rfl) (hr:res.lk L=some fr:=by kernel_rfl):SpecC P hp f fa fr :=
 ⟨ent,fun w A vs hR hA hu=>(ev_gen ht hm C B O hf fuel args res hev w A vs hR hA ((arsK_ok ha).2 hu)).mono fun r w' ⟨v,h1,h2,h3⟩=>⟨v,h1,(AV.lk_ok hr).1 h2,h3⟩⟩
def gfV:List GF→Option (List Value)
 | []=>some []
 | g :: l=>match g.ex,gfV l with|some v,some vs=>some (v :: vs)|_,_=>none
def FR.val:FR→Option Value
 | .c g=>g.ex
 | .row l=>match gfV l with|some vs=>some (.agg vs.toArray)|none=>none
def frsV:List FR→Option (List Value)
 | []=>some []
 | x :: l=>match x.val,frsV l with|some v,some vs=>some (v :: vs)|_,_=>none
def FV.val:FV→Option Value
 | .r x=>x.val
 | .tup l=>match frsV l with|some vs=>some (.tuple vs.toArray)|none=>none
variable{w:World}{A:Nat→Prop}
theorem gfV_ok:∀{l:List GF} {us vs:List Value},gfV l=some us→(okg l vs w A↔vs=us)
 | [],us,vs,h=>by cases h; cases vs<;>simp[okg]
 | g :: l,us,vs,h=>by
  unfold gfV at h
  split at h
  ·rename_i u r h1 h2
   cases h
   cases vs with
   | nil=>simp[okg]
   | cons v vs=>simp only[okg,g.exact u h1,gfV_ok h2,List.cons.injEq]
  ·cases h
theorem FR.val_ok{x:FR}{u v:Value}(h:x.val=some u):x.R v w A↔v=u:=by
 cases x with
 | c g=>exact g.exact u h v w A
 | row l =>
  unfold FR.val at h
  simp only at h
  split at h
  ·rename_i vs h1
   cases h
   constructor
   ·rintro⟨us,rfl,h2⟩; rw[(gfV_ok h1).1 h2]
   ·rintro rfl; exact⟨_,rfl,(gfV_ok h1).2 rfl⟩
  ·cases h
theorem frsV_ok:∀{l:List FR} {us vs:List Value},frsV l=some us→(okf l vs w A↔vs=us)
 | [],us,vs,h=>by cases h; cases vs<;>simp[okf]
 | x :: l,us,vs,h=>by
  unfold frsV at h
  split at h
  ·rename_i u r h1 h2
   cases h
   cases vs with
   | nil=>simp[okf]
   | cons v vs=>simp only[okf,FR.val_ok h1,frsV_ok h2,List.cons.injEq]
  ·cases h
theorem FV.val_ok{x:FV}{u v:Value}(h:x.val=some u):x.R v w A↔v=u:=by
 cases x with
 | r x=>exact FR.val_ok (x:=x) h
 | tup l =>
  unfold FV.val at h
  simp only at h
  split at h
  ·rename_i vs h1
   cases h
   constructor
   ·rintro⟨us,rfl,h2⟩; rw[(frsV_ok h1).1 h2]
   ·rintro rfl; exact⟨_,rfl,(frsV_ok h1).2 rfl⟩
  ·cases h
theorem spec_pure{f:FuncId}{vs:List Value}{v:Value}{fa:List FR}{fr:FV}(ent:Enters P f)(h:PureC P f vs v)(ha:frsV fa=some vs)(hr:fr.val=some v):SpecC P false f fa fr :=
 ⟨ent,fun w A us _ _ hu=>by
  have e:us=vs:=(frsV_ok ha).1 hu
  subst e
  exact(h w).mono fun r w' h=>⟨v,h.1,(FV.val_ok hr).2 rfl,h.2⟩⟩
theorem SpecC.pure{hp:Bool}{f:FuncId}{vs:List Value}{v:Value}{fa:List FR}{fr:FV}(h:SpecC P hp f fa fr)(ha:frsV fa=some vs)(hr:fr.val=some v):PureC P f vs v:=fun w =>
 (h.ok w NoA vs (fun _=>rcv_none w) (fun _ h=>h.elim) ((frsV_ok ha).2 rfl)).mono fun r w' ⟨u,h1,h2,h3⟩=>⟨by rw[h1,(FV.val_ok hr).1 h2],h3⟩
theorem spec1{hp:Bool}{f:FuncId}{x:FR}{res:FV}(ent:Enters P f)(h:∀(w:World) (A:Nat→Prop) (u:Value),(hp=true→Rcv A w)→(∀ n,A n→n<w.heap.size)→x.R u w A→Calls P f #[u] w fun r w'=>∃ v,r=.returned v∧res.R v w' A∧Below w.heap.size w w'):SpecC P hp f [x] res :=
 ⟨ent,fun w A us hR hA hu=>by
  match us,hu with
  | [u],hu=>exact h w A u hR hA hu.1⟩
theorem spec2{hp:Bool}{f:FuncId}{x y:FR}{res:FV}(ent:Enters P f)(h:∀(w:World) (A:Nat→Prop) (u v:Value),(hp=true→Rcv A w)→(∀ n,A n→n<w.heap.size)→x.R u w A→y.R v w A→Calls P f #[u,v] w fun r w'=>∃ v,r=.returned v∧res.R v w' A∧Below w.heap.size w w'):SpecC P hp f [x,y] res :=
 ⟨ent,fun w A us hR hA hu=>by
  match us,hu with
  | [u,v],hu=>exact h w A u v hR hA hu.1 hu.2.1⟩
def sy(l:List Nat):AR:=.row (l.map .sym)
end
def ga:GF where
 R:=fun v _ _=>v.oneCell'=true∧∀(k:Unit) (x:Int),v≠.int .u32 x
 int:=false
 keeps:=fun _ _ _ _ _ _ _ h=>h
 cell:=fun v w A h=>h.1
 noint:=fun _ v w A h=>h.2
 ex:=none
 exact:=fun u e=>by cases e
def gai:GF where
 R:=fun v _ _=>v.oneCell'=true
 int:=true
 keeps:=fun _ _ _ _ _ _ _ h=>h
 cell:=fun v w A h=>h
 noint:=fun e=>by cases e
 ex:=none
 exact:=fun u e=>by cases e
def GF.any(g:GF):GF:=if g.int then gai else ga
def FR.any:FR→FR|.c g=>.c g.any|.row l=>.row (l.map GF.any)
def FV.any:FV→FV|.r x=>.r x.any|.tup l=>.tup (l.map FR.any)
section
variable{w:World}{A:Nat→Prop}
theorem GF.any_ok{g:GF}{v:Value}(h:g.R v w A):g.any.R v w A:=by
 unfold GF.any
 cases hi:g.int
 ·exact⟨g.cell v w A h,g.noint hi v w A h⟩
 ·exact g.cell v w A h
theorem okg_any:∀{l:List GF} {vs:List Value},okg l vs w A→okg (l.map GF.any) vs w A
 | [],[],_=>trivial
 | g :: l,v :: vs,h=>⟨GF.any_ok h.1,okg_any h.2⟩
 | [],_ :: _,h=>h.elim
 | _ :: _,[],h=>h.elim
theorem FR.any_ok{x:FR}{v:Value}(h:x.R v w A):x.any.R v w A:=by
 cases x with
 | c g=>exact GF.any_ok (g:=g) h
 | row l=>obtain⟨vs,e,h⟩:=h; exact⟨vs,e,okg_any h⟩
theorem okf_any:∀{l:List FR} {vs:List Value},okf l vs w A→okf (l.map FR.any) vs w A
 | [],[],_=>trivial
 | g :: l,v :: vs,h=>⟨FR.any_ok h.1,okf_any h.2⟩
 | [],_ :: _,h=>h.elim
 | _ :: _,[],h=>h.elim
theorem FV.any_ok{x:FV}{v:Value}(h:x.R v w A):x.any.R v w A:=by
 cases x with
 | r x=>exact FR.any_ok (x:=x) h
 | tup l=>obtain⟨vs,e,h⟩:=h; exact⟨vs,e,okf_any h⟩
end
inductive FA where
 | f (x:FR)|sl (b off len cap:Nat)|own (b off:Nat)|fn (f:FuncId) (a b:List Nat)
def FA.R(σ:Sg):FA→Fact
 | .f x=>x.R
 | .sl b o n c=>fun v _ _=>∃ m,σ b=some m∧v=.slice (some ⟨m,o,none⟩) n c
 | .own b o=>fun v _ _=>∃ n,σ b=some n∧v=.pointer (some ⟨n,o,none⟩)
 | .fn g a b=>fun v _ _=>∃ us vs:List Value,v=.func (.func g) us.toArray vs.toArray∧ptrs σ a us∧ptrs σ b vs
def oka(σ:Sg):List FA→List Value→World→(Nat→Prop)→Prop
 | [],[],_,_=>True
 | x :: l,v :: vs,w,A=>x.R σ v w A∧oka σ l vs w A
 | _,_,_,_=>False
structure SpecM(P:Program)(hp:Bool)(f:FuncId)(bl:List (List GF×TypeId))(args:List FA)(res:FV):Prop where
 ent:Enters P f
 ok:∀(σ:Sg) (w:World) (A:Nat→Prop) (vs:List Value),(hp=true→Rcv A w)→(∀ n,A n→n<w.heap.size) →
  (∀ b gs ty,bl[b]?=some (gs,ty)→∃ n us,σ b=some n∧A n∧w.heap[n]?=some (.cells us.toArray ty (0,0))∧okg gs us w A)→(∀ b,bl.length≤b→σ b=none)→oka σ args vs w A →
  Calls P f vs.toArray w fun r w'=>∃ v,r=.returned v∧res.R v w' A∧Below w.heap.size w w'
section
variable{P:Program}{hp:Bool}{fi:FuncId}{bl:List (List GF×TypeId)}{a:List FA}{r s:FV}{c:Prop}[Decidable c]
theorem SpecM.it(h:c)(k:SpecM P hp fi bl a r):SpecM P hp fi bl a (if c then r else s):=by rw[if_pos h]; exact k
theorem SpecM.ie(h:¬c)(k:SpecM P hp fi bl a s):SpecM P hp fi bl a (if c then r else s):=by rw[if_neg h]; exact k
theorem SpecM.t(k:SpecM P hp fi bl a (if c then r else s))(h:c):SpecM P hp fi bl a r:=by rw[if_pos h] at k; exact k
theorem SpecM.f(k:SpecM P hp fi bl a (if c then r else s))(h:¬c):SpecM P hp fi bl a s:=by rw[if_neg h] at k; exact k
end
def AR.la(L:List GF):AR→Option FA
 | .c (.own b o)=>some (.own b o)
 | .c (.sl b o n k)=>some (.sl b o n k)
 | .c (.fn f a b)=>some (.fn f a b)
 | x=>match x.lk L with|some g=>some (.f g)|none=>none
section
variable{L:List GF}{σ:Sg}{w:World}{A:Nat→Prop}
end
section
variable{P:Program}{L:List GF}
end
end Tr
namespace Go.Proofs.YthklnbaddobieaaGreat
open Go.RowKit Go.Shelf Tr
attribute [local go_sem] Oper.semAt_some
theorem wpListIn_store_row{F:Fence}{n:Nat}{P:Program}{ops:Array Oper}{rest:List Oper}{o:Oper}{a:Act}{w:World}{Q:Exit→Act→World→Prop}(hgd:o.guard=none)(ty:TypeId)(x y:Operand)(ho:o.op=.store ty x y)
  (g:Nat) (cells:Array Value) (hx:a.eval x=.pointer (some ⟨g,0,none⟩)) (hy:a.eval y=.agg cells)
  (t:TypeId) (old:Array Value) (hg:w.heap[g]?=some (.cells old t (0,0))) (hi:(P.info? ty).map (·.size)=some cells.size)
  (hold:old.size=cells.size) (h1:cells.all (·.oneCell')=true)
  (h:wpListIn F n P ops Q rest (a.put o.dst undef) (w.setRow g cells)):wpListIn F n P ops Q (o :: rest) a w :=
 wpListIn_plain hgd fun K hK=>by
  refine⟨fun f hf=>(by simp only[Oper.about,ho] at hf; cases hf),?_⟩
  rw[Oper.semAt_plain F _ _ (fun c=>by rw[ho]; exact nofun)]
  unfold execOp
  simp only[ho,hx,hy,Instr.storeAt,Instr.sureAddr,Sem.run_bind,Sem.run_pure,Result.andThen_ok,run_storeVar_row w g t ty old cells hg hi hold h1]
  exact hK _ _ h
def AW(A:Nat→Prop)(x B:Nat)(W:World)(k:Nat):Prop:=A k∨k=x∨(B≤k∧∃ o,W.heap[k]?=some o∧o.isCells=false)
theorem AW.lt{A:Nat→Prop}{x B:Nat}{W:World}(hA:∀ n,A n→n<W.heap.size)(hx:x<W.heap.size){k:Nat}(h:AW A x B W k):k<W.heap.size:=by
 rcases h with h|rfl|⟨_,o,h,_⟩
 ·exact hA k h
 ·exact hx
 ·exact(Array.getElem?_eq_some_iff.1 h).1
theorem AW.rcv{A:Nat→Prop}{x B:Nat}{W:World}(hA:Rcv A W){vs:List Value}{t:TypeId}(hx:W.heap[x]?=some (.cells vs.toArray t (0,0)))(hn:NoW (.cells vs.toArray t (0,0))):Rcv (AW A x B W) W:=by
 intro k h
 rcases h with h|rfl|⟨_,o,h,ho⟩
 ·exact hA k h
 ·exact⟨_,hx,hn⟩
 ·refine⟨o,h,?_⟩
  intro cs T fr e
  subst e
  cases ho
theorem results_two{P:Program}{fn:Func}{tmps:Array Value}{w:World}{r1 r2:ResultVar}{v1 v2:Value}(hr:fn.results=#[r1,r2])(h1:(resV tmps r1).run P w=.ok v1 w)(h2:(resV tmps r2).run P w=.ok v2 w):(results fn tmps).run P w=.ok (.tuple #[v1,v2]) w:=by
 have e:((#[r1,r2]:Array ResultVar).mapM (resV tmps)).run P w=.ok #[v1,v2] w:=by
  rw[Array.mapM_eq_mapM_toList]
  simp only[map_eq_pure_bind,List.mapM_cons,List.mapM_nil,Sem.run_bind,h1,h2,Result.andThen_ok,Sem.run_pure]
 rw[results_eq,Sem.run_bind,hr,e]
 rfl
theorem load_one{P:Program}{w:World}{t:TypeId}{d:TypeDesc}{p:Addr}{v:Value}(hd:P.underlying t=some d)(hg:isAggD d=false)(hc:w.cell? p=some v):(loadVar t p).run P w=.ok v w:=by
 simp[loadVar,run_isAgg hd,hg,hc]
end Go.Proofs.YthklnbaddobieaaGreat
namespace Go.Proofs.YthklnbaddobieaaGreat
open Go.RowKit Go.Shelf Tr
attribute [local go_sem] Oper.semAt_some
theorem grownBy_of_belowF{w w':World}(h:Below w.heap.size w w'):w.grownBy w' none:=⟨h.os,h.tape,h.output,h.size,fun k hk _=>h.block k hk⟩
def zFr:Array Value:=#[.bool false,.string { data:=#[] },.bool false,.string { data:=#[] }]
def ixM(len x:Nat):Int:=((x % len:Nat):Int)
theorem ixM_lt{len x:Nat}(h:x<len):ixM len x=(x:Nat):=by unfold ixM; rw[Nat.mod_eq_of_lt h]
set_option maxRecDepth 100000 in
theorem allF_in(row:Nat→Array Value)(hz:∀ j,(row j).size=4)(hcl:∀ j,(row j).all (·.oneCell')=true)(F:Fence)(n:Nat)(h7:F.fn 186)(hro:F.round=none)(hn:1≤n)(l Bs b off len cap:Nat)(hreach:len*128≤140737488351232)
  (M:Nat→Prop) (n₀:Nat) (J Jx:List Nat→World→Prop) (hJg:∀ pre W W',J pre W→Below W.heap.size W W'→J pre W')
  (hY:∀ pre x W,J pre W→pre.length<len→YieldAt F (n - 1) Tryz.prog l #[.int .i64 (ixM len x),.agg (row (x % len))] W fun e W' =>
   (e=.returned (.bool true)∧J (pre++[x]) W'∧BelowM M n₀ W W')∨(e=.returned (.bool false)∧Jx (pre++[x]) W'))
  (W:World) (hn0:n₀≤W.heap.size) (hBs:∀ W',BelowM M n₀ W W'→W'.cell? ⟨Bs,0,none⟩=some (.slice (some ⟨b,off,none⟩) len cap))
  (hc:∀ W',BelowM M n₀ W W'→∀ j,j<len→(loadVar 25 ⟨b,off+j*4,none⟩).run Tryz.prog W'=.ok (.agg (row j)) W') (h0:J [] W) :
  CallsIn F n Tryz.prog 186 #[.func (.yield l) #[] #[],.pointer (some ⟨Bs,0,none⟩)] W fun e W'=>(∃ v,e=.returned v) ∧
   ((∃ ys,ys=upto (fun k=>k) len∧J ys W')∨(∃ pre,(∃ k,k≤len∧pre=upto (fun k=>k) k)∧Jx pre W')):=by
 refine callsIn_of_wp Tryz.func186 rfl h7 ?_ hro
 simp only[Tryz.ntmps186,List.size_toArray,List.length_cons,List.length_nil,Nat.reduceAdd,Nat.reduceSub,Array.replicate_succ,Array.replicate_zero,List.push_toArray,List.append_toArray,List.nil_append,List.cons_append]
 have hBw:=hBs W (BelowM.refl _ _ W)
 gi_wp2
 gi_loopw [7] (fun i wr=>∃ k:Nat,k≤len∧i=.int .i64 (k:Nat)∧J (upto (fun k=>k) k) wr∧BelowM M n₀ W wr)
  (fun i _=>len - (intOf i).toNat)
 case atStart=>exact⟨0,Nat.zero_le _,rfl,h0,BelowM.refl _ _ W⟩
 case round =>
  obtain⟨k,hk,rfl,hJs,hnx⟩:=hrel
  by_cases hlt:k<len
  ·have hcx:=hc wr hnx k hlt
   have i4:((Tryz.prog).info? 25).map (·.size)=some 4:=by kernel_rfl
   have z4:=hz k
   have c4:=hcl k
   have hnw:=World.alloc_heap_new wr (Obj.cells zFr 25 (0,0))
   obtain⟨W2,hW2⟩:∃ W2:World,W2=(wr.alloc (Obj.cells zFr 25)).setRow wr.heap.size (row k):=⟨_,rfl⟩
   have h12:Below wr.heap.size wr W2:=by
    rw[hW2]
    exact(br.alloc (Nat.le_refl _) _).trans ⟨rfl,rfl,rfl,by simp[World.setRow],fun k hk=>setRow_other _ _ _ _ (by omega)⟩
   have h27:W2.heap[wr.heap.size]?=some (.cells (row k) 25 (0,0)):=by rw[hW2]; exact setRow_heap _ _ _ _ _ _ hnw
   have l2:(loadVar 25 ⟨wr.heap.size,0,none⟩).run Tryz.prog W2=.ok (.agg (row k)) W2:=run_loadVar_row W2 _ _ _ _ _ _ h27 Tryz.underlying25 rfl (by rw[i4,z4])
   have hM2:BelowM M n₀ wr W2:=BelowM.of h12 (Nat.le_trans hn0 hnx.size)
   obtain⟨fn,tmps,assign,body,hy,hR⟩:=hY _ k W2 (hJg _ _ _ hJs h12) (by rw[upto_length]; exact hlt)
   rw[ixM_lt hlt,Nat.mod_eq_of_lt hlt] at hy
   rw[hW2] at hy l2
   unfold zFr at hnw hy l2 hW2
   gi_wp2_with (first
    | (refine wpListIn_load_any rfl 25 _ rfl ⟨b,off+k*4,none⟩ (.agg (row k)) (by rfl) hcx ?_)
    | (refine wpListIn_store_row rfl 25 _ _ rfl wr.heap.size (row k) (by rfl) (by rfl) 25 _ hnw (by rw[i4,z4]) (by rw[z4]; rfl) c4 ?_)
    | (refine wpListIn_load_any rfl 25 _ rfl ⟨wr.heap.size,0,none⟩ (.agg (row k)) (by rfl) l2 ?_))
   rw[hW2] at hR
   refine hR.mono ?_
   rintro e W3 (⟨rfl,hJ3,hk3⟩|⟨rfl,hJx3⟩)
   ·rw[←hW2] at hk3
    gi_wp2
    go_roundw
    case rel=>exact⟨k+1,by omega,by simp,by rw[upto_succ]; exact hJ3,hnx.trans (hM2.trans hk3)⟩
    case measure=>simp[intOf]; omega
   ·gi_wp2
    refine bodyPost_ret (results_none rfl _ _ _) rfl ?_
    exact⟨⟨_,rfl⟩,.inr ⟨_,⟨k+1,by omega,(by rw[upto_succ])⟩,hJx3⟩⟩
  ·obtain rfl:k=len:=by omega
   gi_wp2
   go_end0
   exact⟨⟨_,rfl⟩,.inl ⟨_,rfl,hJs⟩⟩
theorem allF_any(a:Option Addr)(len cap:Nat)(w:World) :
  Calls Tryz.prog 129 #[.slice a len cap] w fun e w'=>e=.returned (.func (.func 186) #[] #[.pointer (some ⟨w.heap.size,0,none⟩)])∧w'=w.alloc (.cells #[.slice a len cap] 177):=by
 go_enter Tryz.func129,Tryz.ntmps129
 go_wp2
 go_ret
 exact⟨rfl,rfl⟩
theorem allF_stops(row:Nat→Array Value)(hz:∀ j,(row j).size=4)(hcl:∀ j,(row j).all (·.oneCell')=true)(F:Fence)(n:Nat)(h7:F.fn 186)(hro:F.round=none)(hn:1≤n)(Bs b off len cap:Nat)(hreach:len*128≤140737488351232)
  (M:Nat→Prop) (n₀:Nat) (w:World) (hn0:n₀≤w.heap.size)
  (hc:∀ W',BelowM M n₀ w W'→W'.cell? ⟨Bs,0,none⟩=some (.slice (some ⟨b,off,none⟩) len cap))
  (hcs:∀ W',BelowM M n₀ w W'→∀ j,j<len→(loadVar 25 ⟨b,off+j*4,none⟩).run Tryz.prog W'=.ok (.agg (row j)) W') :
  SeqStopsK F n Tryz.prog 186 #[.pointer (some ⟨Bs,0,none⟩)] (fun x:Nat=>#[.int .i64 (ixM len x),.agg (row (x % len))]) (BelowM M n₀) (fun ys=>ys=upto (fun k=>k) len) (fun pre=>∃ k,k≤len∧pre=upto (fun k=>k) k) len w:=fun l J Jx W hW hJ _ hY h0=>by
 have hW':BelowM M n₀ w W:=BelowM.of hW hn0
 exact allF_in row hz hcl F n h7 hro hn l Bs b off len cap hreach M n₀ J Jx (fun pre W W' h1 h2=>hJ pre W W' none h1 (grownBy_of_belowF h2) (fun r e=>by cases e)) hY W (Nat.le_trans hn0 hW.size) (fun W' h=>hc W' (hW'.trans h)) (fun W' h j hj=>hcs W' (hW'.trans h) j hj) h0
end Go.Proofs.YthklnbaddobieaaGreat
