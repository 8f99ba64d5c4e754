/- Laws for the walk. -/
import Derived.Test.YthklnbaddobieaaGreatUaw
import Derived.Test.YthklnbaddobieaaGreatChecked
set_option linter.unusedVariables false
set_option maxHeartbeats 4000000
namespace Tr
open Go Go.RowKit
def PureC(P:Program)(f:FuncId)(vs:List Value)(v:Value):Prop:=∀ w,Calls P f vs.toArray w fun e w'=>e=.returned v∧Below w.heap.size w w'
theorem enters_of {P : Program} {f : FuncId} {fn : Func} (hf : P.funcs[f]? = some fn) (h : (!(fn.name == "runtime.NumGoroutine") && fn.body.isSome) = true) : Enters P f := by
 intro args w
 simp only[Bool.and_eq_true,Bool.not_eq_true'] at h
 obtain⟨h1,h2⟩:=h
 have h3:fn.body.isNone=false:=by cases hb:fn.body<;>simp[hb] at h2 ⊢
 simp only[callFunc,Sem.run_bind,run_program,Result.andThen_ok,hf,h1,h3,Bool.false_eq_true,if_false,Sem.run_pure]
structure GF where
 R:Fact
 int:Bool
 keeps:R.Keeps
 cell:∀ v w A,R v w A→v.oneCell'=true
 noint:int=false→∀ v w A,R v w A→∀(k:Unit) (x:Int),v≠.int .u32 x
 ex:Option Value
 exact:∀ u,ex=some u→∀ v w A,R v w A↔v=u
def isIntV:Value→Bool|.int .u32 _=>true|_=>false
def gx(u:Value)(h:u.oneCell'=true:=by rfl):GF where
 R:=fun v _ _=>v=u
 int:=isIntV u
 keeps:=fun _ _ _ _ _ _ _ h=>h
 cell:=fun v _ _ e=>by rw[show v=u from e]; exact h
 noint:=fun hi v _ _ e k x e2=>by rw[show v=u from e] at e2; rw[e2] at hi; cases hi
 ex:=some u
 exact:=fun u' e v w A=>by cases e; exact Iff.rfl
def g0:GF:=gx (.bool false)
def gT(L:List GF)(i:Nat):Fact:=(L.getD i g0).R
def gI(L:List GF)(i:Nat):Bool:=(L.getD i g0).int
def AC.gv(L:List GF):AC→Option Value
 | .sym i=>(L.getD i g0).ex
 | .lit l=>some l.val
 | _=>none
def acsV(L:List GF):List AC→Option (List Value)
 | []=>some []
 | x :: l=>match x.gv L,acsV L l with|some v,some vs=>some (v :: vs)|_,_=>none
def AR.gv(L:List GF):AR→Option Value
 | .c x=>x.gv L
 | .row l=>match acsV L l with|some vs=>some (.agg vs.toArray)|none=>none
def arsV(L:List GF):List AR→Option (List Value)
 | []=>some []
 | x :: l=>match x.gv L,arsV L l with|some v,some vs=>some (v :: vs)|_,_=>none
def AV.gv(L:List GF):AV→Option Value
 | .r x=>x.gv L
 | .tup l=>match arsV L l with|some vs=>some (.tuple vs.toArray)|none=>none
 | .undf=>some undef
 | .junk=>none
section
variable{P:Program}{L:List GF}{hp:Bool}{σ:Sg}{w:World}{A:Nat→Prop}
theorem AC.gv_ok{x:AC}{u v:Value}(h:x.gv L=some u):x.ok (gT L) σ v w A↔v=u:=by
 cases x with
 | sym i=>exact(L.getD i g0).exact u h v w A
 | lit l=>cases h; exact Iff.rfl
 | own b o=>cases h
 | sl b o n c=>cases h
 | sg b o n=>cases h
 | fn f a b=>cases h
theorem acsV_ok:∀{l:List AC} {us vs:List Value},acsV L l=some us→(oks (gT L) σ l vs w A↔vs=us)
 | [],us,vs,h=>by cases h; cases vs<;>simp[oks]
 | x :: l,us,vs,h=>by
  unfold acsV at h
  split at h
  ·rename_i u r h1 h2
   cases h
   cases vs with
   | nil=>simp[oks]
   | cons v vs=>simp only[oks,AC.gv_ok h1,acsV_ok h2,List.cons.injEq]
  ·cases h
theorem AR.gv_ok{x:AR}{u v:Value}(h:x.gv L=some u):x.ok (gT L) σ v w A↔v=u:=by
 cases x with
 | c x=>exact AC.gv_ok (x:=x) h
 | row l =>
  unfold AR.gv at h
  simp only at h
  split at h
  ·rename_i vs h1
   cases h
   constructor
   ·rintro⟨us,rfl,h2⟩; rw[(acsV_ok h1).1 h2]
   ·rintro rfl; exact⟨_,rfl,(acsV_ok h1).2 rfl⟩
  ·cases h
theorem arsV_ok:∀{l:List AR} {us vs:List Value},arsV L l=some us→(okr (gT L) σ l vs w A↔vs=us)
 | [],us,vs,h=>by cases h; cases vs<;>simp[okr]
 | x :: l,us,vs,h=>by
  unfold arsV at h
  split at h
  ·rename_i u r h1 h2
   cases h
   cases vs with
   | nil=>simp[okr]
   | cons v vs=>simp only[okr,AR.gv_ok h1,arsV_ok h2,List.cons.injEq]
  ·cases h
theorem AV.gv_ok{x:AV}{u v:Value}(h:x.gv L=some u):x.ok (gT L) σ v w A↔v=u:=by
 cases x with
 | r x=>exact AR.gv_ok (x:=x) h
 | tup l =>
  unfold AV.gv at h
  simp only at h
  split at h
  ·rename_i vs h1
   cases h
   constructor
   ·rintro⟨us,rfl,h2⟩; rw[(arsV_ok h1).1 h2]
   ·rintro rfl; exact⟨_,rfl,(arsV_ok h1).2 rfl⟩
  ·cases h
 | undf=>cases h; exact Iff.rfl
 | junk=>cases h
end
structure GC(P:Program)(L:List GF)(hp:Bool) where
 cs:CS
 ent:Enters P cs.f
 ok:cs.Ok P (gT L) hp
structure GB(P:Program)(L:List GF) where
 bs:BS
 ok:bs.Ok P (gT L)
structure GO(P:Program)(L:List GF) where
 os:OS
 ok:os.Ok P (gT L)
section
variable{P:Program}{L:List GF}{hp:Bool}
def gp(f:FuncId)(args:List AR)(res:AV)(ent:Enters P f){vs:List Value}{v:Value}(h:PureC P f vs v)(ha:arsV L args=some vs:=by rfl)(hr:res.gv L=some v:=by rfl):GC P L hp :=
 ⟨{ f,args,res },ent,fun σ w A us _ _ hu _=>by
  have e:us=vs:=(arsV_ok ha).1 hu
  subst e
  exact(h w).mono fun r w' h=>⟨v,h.1,(AV.gv_ok hr).2 rfl,h.2⟩⟩
def gb(op:BinOp)(t:TypeId)(x y:AR)(res:AC){vx vy v:Value}(h:∀ xo yo w,(do eqGuard op t xo yo vx vy; binOp op t vx vy:Sem Value).run P w=.ok v w)(hx:x.gv L=some vx:=by rfl)(hy:y.gv L=some vy:=by rfl)(hr:res.gv L=some v:=by rfl):GB P L :=
 ⟨{ op,t,x,y,res },fun σ w A ux uy xo yo h1 h2=>by
  have e1:ux=vx:=(AR.gv_ok hx).1 h1
  have e2:uy=vy:=(AR.gv_ok hy).1 h2
  subst e1; subst e2
  exact⟨v,h xo yo w,(AC.gv_ok hr).2 rfl⟩⟩
def gm1(f:FuncId)(x:AR)(res:AV)(ent:Enters P f)(h:∀(w:World) (A:Nat→Prop) (u:Value),(hp=true→Rcv A w)→x.ok (gT L) σ0 u w A→Calls P f #[u] w fun r w'=>∃ v,r=.returned v∧res.ok (gT L) σ0 v w' A∧Below w.heap.size w w')(hx:(x.noown && res.noown)=true:=by rfl):GC P L hp :=
 ⟨{ f,args:=[x],res },ent,fun σ w A us hR _ hu _=>by
  simp only[Bool.and_eq_true] at hx
  match us,hu with
  | [u],hu=>exact(h w A u hR (AR.ok_noown hx.1 hu.1)).mono fun r w' ⟨v,h1,h2,h3⟩=>⟨v,h1,AV.ok_noown hx.2 h2,h3⟩⟩
def gm2(f:FuncId)(x y:AR)(res:AV)(ent:Enters P f)(h:∀(w:World) (A:Nat→Prop) (u v:Value),(hp=true→Rcv A w)→x.ok (gT L) σ0 u w A→y.ok (gT L) σ0 v w A→Calls P f #[u,v] w fun r w'=>∃ v,r=.returned v∧res.ok (gT L) σ0 v w' A∧Below w.heap.size w w')(hx:(x.noown && y.noown && res.noown)=true:=by rfl):GC P L hp :=
 ⟨{ f,args:=[x,y],res },ent,fun σ w A us hR _ hu _=>by
  simp only[Bool.and_eq_true] at hx
  match us,hu with
  | [u,v],hu=>exact(h w A u v hR (AR.ok_noown hx.1.1 hu.1) (AR.ok_noown hx.1.2 hu.2.1)).mono fun r w' ⟨v,h1,h2,h3⟩=>⟨v,h1,AV.ok_noown hx.2 h2,h3⟩⟩
def gm2x(f:FuncId)(x y:AR)(res:AV)(ent:Enters P f){v:Value}(h:∀(w:World) (A:Nat→Prop) (u v':Value),(hp=true→Rcv A w)→x.ok (gT L) σ0 u w A→y.ok (gT L) σ0 v' w A→Calls P f #[u,v'] w fun r w'=>r=.returned v∧Below w.heap.size w w')(hx:(x.noown && y.noown)=true:=by rfl)(hr:res.gv L=some v:=by rfl):GC P L hp :=
 ⟨{ f,args:=[x,y],res },ent,fun σ w A us hR _ hu _=>by
  simp only[Bool.and_eq_true] at hx
  match us,hu with
  | [u,v'],hu=>exact(h w A u v' hR (AR.ok_noown hx.1 hu.1) (AR.ok_noown hx.2 hu.2.1)).mono fun r w' ⟨h1,h3⟩=>⟨v,h1,(AV.gv_ok hr).2 rfl,h3⟩⟩
theorem no_inl{T:Nat→Fact}(cx:Cx)(h:cx.inl=fun _ _ _ _ _=>none):InlOk P T cx:=by
 intro A0 M w0 σs σ s a w R f args vs bl new r ws rd h1 h2 h3
 rw[h] at h3; cases h3
def gcx(tys:List (TypeId×TyI))(hp:Bool)(L:List GF)(C:List (GC P L hp))(B:List (GB P L))(O:List (GO P L)):Cx:={ tys,calls:=C.map GC.cs,bins:=B.map GB.bs,others:=O.map GO.os,hp,ints:=gI L }
theorem gcx_ok{tys:List (TypeId×TyI)}(ht:∀ p∈tys,p.2.good P p.1=true)(C:List (GC P L hp))(B:List (GB P L))(O:List (GO P L)):CxOk P (gT L) (gcx tys hp L C B O):=by
 refine⟨⟨fun i=>(L.getD i g0).keeps,fun i=>(L.getD i g0).cell,fun i=>(L.getD i g0).noint⟩,ht,fun e he=>?_,fun e he=>?_,fun e he=>?_,fun e he=>?_,no_inl _ rfl⟩
 ·obtain⟨p,_,rfl⟩:=List.mem_map.1 he; exact p.ok
 ·obtain⟨p,_,rfl⟩:=List.mem_map.1 he; exact p.ent
 ·obtain⟨p,_,rfl⟩:=List.mem_map.1 he; exact p.ok
 ·obtain⟨p,_,rfl⟩:=List.mem_map.1 he; exact p.ok
theorem ev_gen{tys:List (TypeId×TyI)}(ht:∀ p∈tys,p.2.good P p.1=true)(hm:P.follows .mixedOrders=true)(C:List (GC P L hp))(B:List (GB P L))(O:List (GO P L)){f:FuncId}{fn:Func}(hf:P.funcs[f]?=some fn)(fuel:Nat)(args:List AR)(res:AV)
  (hev:evF (gcx tys hp L C B O) fn fuel args res=true) (w:World) (A:Nat→Prop) (vs:List Value) (hR:hp=true→Rcv A w) (hA:∀ n,A n→n<w.heap.size) (hargs:okr (gT L) σ0 args vs w A) :
  Calls P f vs.toArray w fun r w'=>∃ v,r=.returned v∧res.ok (gT L) σ0 v w' A∧Below w.heap.size w w' :=
 ev_spec (gcx_ok ht C B O) hm hf fuel hev (fun k hk=>by cases hk) (fun c _ x _ k hk=>by cases hk) σ0 w A vs hR hA hargs
theorem rcv_none(w:World):Rcv NoA w:=fun _ h=>h.elim
theorem ev_pure{tys:List (TypeId×TyI)}(ht:∀ p∈tys,p.2.good P p.1=true)(hm:P.follows .mixedOrders=true)(C:List (GC P L hp))(B:List (GB P L))(O:List (GO P L)){f:FuncId}{fn:Func}(hf:P.funcs[f]?=some fn)(fuel:Nat)(args:List AR)(res:AV)
  (hev:evF (gcx tys hp L C B O) fn fuel args res=true) {vs:List Value} {v:Value} (ha:arsV L args=some vs:=by rfl) (hr:res.gv L=some v:=by rfl):PureC P f vs v:=fun w =>
 (ev_gen ht hm C B O hf fuel args res hev w NoA vs (fun _=>rcv_none w) (fun _ h=>h.elim) ((arsV_ok ha).2 rfl)).mono fun r w' ⟨u,h1,h2,h3⟩=>⟨by rw[h1,(AV.gv_ok hr).1 h2],h3⟩
def AC.gn(L:List GF)(b n:Nat):AC→Option Value
 | .own c o=>if c == b then some (.pointer (some ⟨n,o,none⟩)) else none
 | .sl c o k cap=>if c == b then some (.slice (some ⟨n,o,none⟩) k cap) else none
 | x=>x.gv L
def AR.gn(L:List GF)(b n:Nat):AR→Option Value
 | .c x=>x.gn L b n
 | .row l=>AR.gv L (.row l)
end
end Tr
namespace Go.Proofs.YthklnbaddobieaaGreat
open Go.RowKit Tr
def tys:List (TypeId×TyI):=[
 (1,⟨false,1,[.nilf],[],none⟩),
 (2,⟨false,1,[.int .i64 0],[],none⟩),
 (3,⟨false,1,[.int .i64 0],[],none⟩),
 (4,⟨false,1,[.bool false],[],none⟩),
 (5,⟨false,1,[.int .u8 0],[],none⟩),
 (6,⟨false,1,[.int .u8 0],[],none⟩),
 (7,⟨true,4,[.int .i64 0,.int .i64 0,.bool false,.int .u8 0],[(0,1,false),(1,1,false),(2,1,false),(3,1,false)],none⟩),
 (8,⟨true,4,[.int .i64 0,.int .i64 0,.bool false,.int .u8 0],[(0,1,false),(1,1,false),(2,1,false),(3,1,false)],none⟩),
 (9,⟨false,1,[.str0],[],none⟩),
 (10,⟨false,1,[.str0],[],none⟩),
 (11,⟨false,1,[.str0],[],none⟩),
 (12,⟨false,1,[.int .u64 0],[],none⟩),
 (13,⟨true,2,[.str0,.int .u64 0],[(0,1,false),(1,1,false)],none⟩),
 (14,⟨true,2,[.str0,.int .u64 0],[(0,1,false),(1,1,false)],none⟩),
 (15,⟨false,1,[.nilp],[],none⟩),
 (16,⟨false,1,[.nilp],[],none⟩),
 (17,⟨false,1,[.nilp],[],none⟩),
 (18,⟨true,1,[.nilp],[(0,1,false)],none⟩),
 (19,⟨true,1,[.nilp],[(0,1,false)],none⟩),
 (21,⟨false,1,[.int .i32 0],[],none⟩),
 (22,⟨true,2,[.bool false,.str0],[(0,1,false),(1,1,false)],none⟩),
 (23,⟨true,2,[.bool false,.str0],[(0,1,false),(1,1,false)],none⟩),
 (24,⟨true,4,[.bool false,.str0,.bool false,.str0],[(0,2,true),(2,2,true)],none⟩),
 (25,⟨true,4,[.bool false,.str0,.bool false,.str0],[(0,2,true),(2,2,true)],none⟩),
 (26,⟨false,1,[.nilf],[],none⟩),
 (27,⟨false,1,[.nilf],[],none⟩),
 (28,⟨false,1,[.flt 0],[],none⟩),
 (29,⟨false,1,[.int .i64 0],[],none⟩),
 (31,⟨false,1,[.nilf],[],none⟩),
 (32,⟨false,1,[.nilf],[],none⟩),
 (34,⟨false,1,[.nilf],[],none⟩),
 (35,⟨false,1,[.nilf],[],none⟩),
 (36,⟨false,1,[.nils],[],some (0,1,28)⟩),
 (37,⟨false,1,[.nilf],[],none⟩),
 (38,⟨false,1,[.nilf],[],none⟩),
 (39,⟨false,1,[.nilf],[],none⟩),
 (40,⟨false,1,[.nilf],[],none⟩),
 (41,⟨false,1,[.int .u64 0],[],none⟩),
 (42,⟨false,1,[.nilf],[],none⟩),
 (43,⟨false,1,[.nilf],[],none⟩),
 (45,⟨false,1,[.nilf],[],none⟩),
 (47,⟨false,1,[.nilf],[],none⟩),
 (48,⟨false,1,[.nilf],[],none⟩),
 (49,⟨true,8,[.bool false,.str0,.bool false,.str0,.bool false,.str0,.bool false,.str0],[(0,4,true),(4,4,true)],none⟩),
 (50,⟨true,8,[.bool false,.str0,.bool false,.str0,.bool false,.str0,.bool false,.str0],[(0,4,true),(4,4,true)],none⟩),
 (51,⟨true,33,[.bool false,.str0,.bool false,.str0,.bool false,.str0,.bool false,.str0,.bool false,.str0,.bool false,.str0,.bool false,.str0,.bool false,.str0,.bool false,.str0,.bool false,.str0,.bool false,.str0,.bool false,.str0,.bool false,.str0,.bool false,.str0,.bool false,.str0,.bool false,.str0,.bool false],[(0,8,true),(8,8,true),(16,8,true),(24,8,true),(32,1,false)],none⟩),
 (52,⟨true,33,[.bool false,.str0,.bool false,.str0,.bool false,.str0,.bool false,.str0,.bool false,.str0,.bool false,.str0,.bool false,.str0,.bool false,.str0,.bool false,.str0,.bool false,.str0,.bool false,.str0,.bool false,.str0,.bool false,.str0,.bool false,.str0,.bool false,.str0,.bool false,.str0,.bool false],[(0,8,true),(8,8,true),(16,8,true),(24,8,true),(32,1,false)],none⟩),
 (53,⟨true,32,[.bool false,.str0,.bool false,.str0,.bool false,.str0,.bool false,.str0,.bool false,.str0,.bool false,.str0,.bool false,.str0,.bool false,.str0,.bool false,.str0,.bool false,.str0,.bool false,.str0,.bool false,.str0,.bool false,.str0,.bool false,.str0,.bool false,.str0,.bool false,.str0],[],some (4,8,50)⟩),
 (54,⟨false,1,[.cpl 0 0],[],none⟩),
 (55,⟨true,5,[.cpl 0 0,.cpl 0 0,.cpl 0 0,.cpl 0 0,.bool false],[(0,1,false),(1,1,false),(2,1,false),(3,1,false),(4,1,false)],none⟩),
 (56,⟨true,5,[.cpl 0 0,.cpl 0 0,.cpl 0 0,.cpl 0 0,.bool false],[(0,1,false),(1,1,false),(2,1,false),(3,1,false),(4,1,false)],none⟩),
 (58,⟨false,1,[.nilf],[],none⟩),
 (59,⟨true,2,[.flt 0,.flt 0],[(0,1,false),(1,1,false)],none⟩),
 (60,⟨true,2,[.flt 0,.flt 0],[(0,1,false),(1,1,false)],none⟩),
 (61,⟨true,9,[.flt 0,.flt 0,.flt 0,.flt 0,.flt 0,.flt 0,.flt 0,.flt 0,.bool false],[(0,2,true),(2,2,true),(4,2,true),(6,2,true),(8,1,false)],none⟩),
 (62,⟨true,9,[.flt 0,.flt 0,.flt 0,.flt 0,.flt 0,.flt 0,.flt 0,.flt 0,.bool false],[(0,2,true),(2,2,true),(4,2,true),(6,2,true),(8,1,false)],none⟩),
 (64,⟨false,1,[.nilf],[],none⟩),
 (65,⟨false,1,[.nilf],[],none⟩),
 (66,⟨false,1,[.nilf],[],none⟩),
 (67,⟨false,1,[.nilf],[],none⟩),
 (68,⟨true,16,[.bool false,.str0,.bool false,.str0,.bool false,.str0,.bool false,.str0,.bool false,.str0,.bool false,.str0,.bool false,.str0,.bool false,.str0],[(0,4,true),(4,8,true),(12,4,true)],none⟩),
 (69,⟨true,16,[.bool false,.str0,.bool false,.str0,.bool false,.str0,.bool false,.str0,.bool false,.str0,.bool false,.str0,.bool false,.str0,.bool false,.str0],[(0,4,true),(4,8,true),(12,4,true)],none⟩),
 (70,⟨true,16,[.bool false,.str0,.bool false,.str0,.bool false,.str0,.bool false,.str0,.bool false,.str0,.bool false,.str0,.bool false,.str0,.bool false,.str0],[],some (4,4,25)⟩),
 (71,⟨true,3,[.flt 0,.cpl 0 0,.flt 0],[(0,1,false),(1,1,false),(2,1,false)],none⟩),
 (72,⟨true,3,[.flt 0,.cpl 0 0,.flt 0],[(0,1,false),(1,1,false),(2,1,false)],none⟩),
 (74,⟨false,1,[.nilf],[],none⟩),
 (75,⟨true,4,[.flt 0,.flt 0,.flt 0,.flt 0],[(0,1,false),(1,2,true),(3,1,false)],none⟩),
 (76,⟨true,4,[.flt 0,.flt 0,.flt 0,.flt 0],[(0,1,false),(1,2,true),(3,1,false)],none⟩),
 (78,⟨false,1,[.nilf],[],none⟩),
 (79,⟨false,1,[.nilf],[],none⟩),
 (80,⟨false,1,[.nilf],[],none⟩),
 (81,⟨false,1,[.nilf],[],none⟩),
 (82,⟨false,1,[.nilf],[],none⟩),
 (83,⟨false,1,[.nilp],[],none⟩),
 (84,⟨false,1,[.nilf],[],none⟩),
 (85,⟨false,1,[.nilf],[],none⟩),
 (86,⟨false,1,[.nilf],[],none⟩),
 (87,⟨false,1,[.nilf],[],none⟩),
 (88,⟨false,1,[.nilf],[],none⟩),
 (89,⟨false,1,[.nilf],[],none⟩),
 (90,⟨false,1,[.nilf],[],none⟩),
 (91,⟨false,1,[.nilf],[],none⟩),
 (92,⟨false,1,[.nilf],[],none⟩),
 (93,⟨false,1,[.nilf],[],none⟩),
 (94,⟨false,1,[.nilf],[],none⟩),
 (95,⟨false,1,[.nilf],[],none⟩),
 (96,⟨false,1,[.nilf],[],none⟩),
 (97,⟨false,1,[.nilf],[],none⟩),
 (98,⟨false,1,[.nilf],[],none⟩),
 (99,⟨false,1,[.nilf],[],none⟩),
 (100,⟨false,1,[.nilf],[],none⟩),
 (101,⟨false,1,[.nilf],[],none⟩),
 (102,⟨false,1,[.nilf],[],none⟩),
 (103,⟨false,1,[.nilf],[],none⟩),
 (104,⟨false,1,[.nilf],[],none⟩),
 (105,⟨true,2,[.bool false,.cpl 0 0],[(0,1,false),(1,1,false)],none⟩),
 (106,⟨true,2,[.bool false,.cpl 0 0],[(0,1,false),(1,1,false)],none⟩),
 (107,⟨false,1,[.nilf],[],none⟩),
 (108,⟨false,1,[.nilf],[],none⟩),
 (109,⟨false,1,[.nilf],[],none⟩),
 (110,⟨false,1,[.nils],[],some (0,8,50)⟩),
 (112,⟨false,1,[.nilf],[],none⟩),
 (113,⟨false,1,[.nilp],[],none⟩),
 (114,⟨true,4,[.nilp,.nilp,.nilp,.nilp],[],some (4,1,113)⟩),
 (115,⟨false,1,[.nilf],[],none⟩),
 (117,⟨false,1,[.nilf],[],none⟩),
 (118,⟨false,1,[.nilf],[],none⟩),
 (119,⟨false,1,[.nilf],[],none⟩),
 (120,⟨false,1,[.nilf],[],none⟩),
 (121,⟨false,1,[.nilf],[],none⟩),
 (122,⟨false,1,[.nilf],[],none⟩),
 (123,⟨false,1,[.nilf],[],none⟩),
 (124,⟨false,1,[.nilf],[],none⟩),
 (125,⟨false,1,[.nilf],[],none⟩),
 (126,⟨false,1,[.nilf],[],none⟩),
 (127,⟨false,1,[.nilf],[],none⟩),
 (128,⟨false,1,[.nilf],[],none⟩),
 (129,⟨false,1,[.nils],[],some (0,1,192)⟩),
 (130,⟨true,2,[.bool false,.nils],[(0,1,false),(1,1,false)],none⟩),
 (131,⟨true,2,[.bool false,.nils],[(0,1,false),(1,1,false)],none⟩),
 (132,⟨true,4,[.bool false,.nils,.bool false,.nils],[(0,2,true),(2,2,true)],none⟩),
 (133,⟨true,4,[.bool false,.nils,.bool false,.nils],[(0,2,true),(2,2,true)],none⟩),
 (134,⟨false,1,[.nilf],[],none⟩),
 (135,⟨false,1,[.nilp],[],none⟩),
 (136,⟨false,1,[.nilf],[],none⟩),
 (137,⟨false,1,[.nilf],[],none⟩),
 (138,⟨false,1,[.nilf],[],none⟩),
 (139,⟨false,1,[.nilf],[],none⟩),
 (140,⟨false,1,[.nilf],[],none⟩),
 (141,⟨false,1,[.int .u64 0],[],none⟩),
 (143,⟨false,1,[.nilf],[],none⟩),
 (144,⟨false,1,[.nilf],[],none⟩),
 (145,⟨false,1,[.nilf],[],none⟩),
 (146,⟨false,1,[.nilf],[],none⟩),
 (147,⟨false,1,[.nilf],[],none⟩),
 (148,⟨false,1,[.nilf],[],none⟩),
 (149,⟨false,1,[.nilf],[],none⟩),
 (150,⟨false,1,[.nilf],[],none⟩),
 (151,⟨false,1,[.nilf],[],none⟩),
 (152,⟨false,1,[.nilf],[],none⟩),
 (153,⟨false,1,[.nilf],[],none⟩),
 (154,⟨false,1,[.nilf],[],none⟩),
 (155,⟨false,1,[.nilf],[],none⟩),
 (156,⟨false,1,[.nilf],[],none⟩),
 (157,⟨false,1,[.nilf],[],none⟩),
 (158,⟨false,1,[.nilf],[],none⟩),
 (159,⟨false,1,[.nils],[],some (0,1,5)⟩),
 (160,⟨false,1,[.nilf],[],none⟩),
 (161,⟨false,1,[.nilf],[],none⟩),
 (163,⟨false,1,[.nilf],[],none⟩),
 (164,⟨false,1,[.nilf],[],none⟩),
 (165,⟨false,1,[.nilf],[],none⟩),
 (166,⟨true,2,[.nilp,.nilp],[(0,1,false),(1,1,false)],none⟩),
 (167,⟨true,2,[.nilp,.nilp],[(0,1,false),(1,1,false)],none⟩),
 (168,⟨true,9,[.nilp,.nilp,.nilp,.nilp,.nilp,.nilp,.nilp,.nilp,.bool false],[(0,2,true),(2,2,true),(4,2,true),(6,2,true),(8,1,false)],none⟩),
 (169,⟨true,9,[.nilp,.nilp,.nilp,.nilp,.nilp,.nilp,.nilp,.nilp,.bool false],[(0,2,true),(2,2,true),(4,2,true),(6,2,true),(8,1,false)],none⟩),
 (171,⟨false,1,[.nilf],[],none⟩),
 (172,⟨false,1,[.nilf],[],none⟩),
 (173,⟨true,2,[.flt 0,.flt 0],[],some (2,1,28)⟩),
 (174,⟨false,1,[.nilf],[],none⟩),
 (175,⟨false,1,[.nilf],[],none⟩),
 (176,⟨false,1,[.nilf],[],none⟩),
 (177,⟨false,1,[.nils],[],some (0,4,25)⟩),
 (178,⟨false,1,[.nilf],[],none⟩),
 (179,⟨false,1,[.nilf],[],none⟩),
 (180,⟨false,1,[.nilf],[],none⟩),
 (181,⟨false,1,[.nilf],[],none⟩),
 (182,⟨false,1,[.nilf],[],none⟩),
 (183,⟨true,4,[.nilp,.nilp,.nilp,.nilp],[(0,1,false),(1,2,true),(3,1,false)],none⟩),
 (184,⟨true,4,[.nilp,.nilp,.nilp,.nilp],[(0,1,false),(1,2,true),(3,1,false)],none⟩),
 (186,⟨false,1,[.nilf],[],none⟩),
 (187,⟨false,1,[.nilf],[],none⟩),
 (188,⟨false,1,[.nilf],[],none⟩),
 (190,⟨false,1,[.nilf],[],none⟩),
 (191,⟨false,1,[.nilf],[],none⟩),
 (192,⟨false,1,[.int .u32 0],[],none⟩),
 (193,⟨false,1,[.nilf],[],none⟩),
 (194,⟨false,1,[.nilf],[],none⟩),
 (195,⟨false,1,[.nilf],[],none⟩),
 (196,⟨false,1,[.nilf],[],none⟩),
 (198,⟨false,1,[.nilf],[],none⟩),
 (199,⟨false,1,[.nilf],[],none⟩),
 (200,⟨false,1,[.nilf],[],none⟩),
 (201,⟨false,1,[.nilf],[],none⟩),
 (203,⟨false,1,[.nilf],[],none⟩),
 (204,⟨false,1,[.nilf],[],none⟩),
 (205,⟨false,1,[.nilf],[],none⟩),
 (206,⟨false,1,[.nilf],[],none⟩),
 (207,⟨false,1,[.nilf],[],none⟩),
 (208,⟨false,1,[.nilf],[],none⟩),
 (209,⟨false,1,[.nilf],[],none⟩),
 (210,⟨false,1,[.nilf],[],none⟩),
 (211,⟨false,1,[.nilf],[],none⟩),
 (213,⟨false,1,[.nilf],[],none⟩),
 (214,⟨false,1,[.nilp],[],none⟩),
 (215,⟨true,9,[.nilp,.bool false,.str0,.bool false,.str0,.bool false,.str0,.bool false,.str0],[(0,1,false),(1,8,true)],none⟩),
 (216,⟨false,1,[.nils],[],some (0,9,215)⟩),
 (218,⟨false,1,[.nilf],[],none⟩),
 (219,⟨false,1,[.nilf],[],none⟩),
 (220,⟨false,1,[.nilf],[],none⟩),
 (221,⟨false,1,[.nilf],[],none⟩),
 (222,⟨false,1,[.nilf],[],none⟩),
 (223,⟨false,1,[.nilf],[],none⟩),
 (224,⟨false,1,[.nilf],[],none⟩),
 (225,⟨false,1,[.nilf],[],none⟩),
 (226,⟨false,1,[.nilf],[],none⟩),
 (227,⟨false,1,[.nilf],[],none⟩),
 (228,⟨false,1,[.nilf],[],none⟩),
 (229,⟨false,1,[.nilf],[],none⟩),
 (230,⟨false,1,[.nilf],[],none⟩),
 (232,⟨false,1,[.nilf],[],none⟩),
 (233,⟨false,1,[.nilf],[],none⟩),
 (234,⟨false,1,[.nilf],[],none⟩),
 (236,⟨false,1,[.nilf],[],none⟩),
 (237,⟨false,1,[.nilf],[],none⟩),
 (238,⟨false,1,[.nilf],[],none⟩),
 (239,⟨false,1,[.nilf],[],none⟩),
 (240,⟨false,1,[.nilf],[],none⟩),
 (241,⟨false,1,[.nilf],[],none⟩),
 (242,⟨false,1,[.nilf],[],none⟩),
 (243,⟨false,1,[.nilf],[],none⟩),
 (245,⟨false,1,[.nilf],[],none⟩),
 (246,⟨false,1,[.nils],[],some (0,1,83)⟩),
 (247,⟨false,1,[.nilf],[],none⟩),
 (248,⟨false,1,[.nilf],[],none⟩),
 (249,⟨false,1,[.nilf],[],none⟩),
 (250,⟨true,4,[.nilp,.nilp,.nilp,.str0],[(0,1,false),(1,1,false),(2,1,false),(3,1,false)],none⟩),
 (251,⟨true,4,[.nilp,.nilp,.nilp,.str0],[(0,1,false),(1,1,false),(2,1,false),(3,1,false)],none⟩),
 (252,⟨true,0,[],[],some (0,1,16)⟩),
 (253,⟨true,0,[],[(0,0,true)],none⟩),
 (254,⟨true,0,[],[(0,0,true)],none⟩),
 (255,⟨false,1,[.int .u8 0],[],none⟩),
 (256,⟨false,1,[.int .u8 0],[],none⟩),
 (257,⟨false,1,[.nilf],[],none⟩),
 (258,⟨false,1,[.nilp],[],none⟩),
 (259,⟨false,1,[.int .i32 0],[],none⟩),
 (260,⟨false,1,[.int .i32 0],[],none⟩),
 (261,⟨true,11,[.int .u64 0,.int .u64 0,.int .u32 0,.int .u8 0,.int .u8 0,.int .u8 0,.int .u8 0,.nilf,.nilp,.int .i32 0,.int .i32 0],[(0,1,false),(1,1,false),(2,1,false),(3,1,false),(4,1,false),(5,1,false),(6,1,false),(7,1,false),(8,1,false),(9,1,false),(10,1,false)],none⟩),
 (262,⟨true,11,[.int .u64 0,.int .u64 0,.int .u32 0,.int .u8 0,.int .u8 0,.int .u8 0,.int .u8 0,.nilf,.nilp,.int .i32 0,.int .i32 0],[(0,1,false),(1,1,false),(2,1,false),(3,1,false),(4,1,false),(5,1,false),(6,1,false),(7,1,false),(8,1,false),(9,1,false),(10,1,false)],none⟩),
 (263,⟨false,1,[.nilp],[],none⟩)]
theorem tys_ok:∀ p∈tys,p.2.good Tryz.prog p.1=true:=List.all_eq_true.1 (by kernel_rfl)
theorem mixed:Tryz.prog.follows .mixedOrders=true:=by kernel_rfl
end Go.Proofs.YthklnbaddobieaaGreat
namespace Go.Proofs.YthklnbaddobieaaGreat
open Go Go.RowKit Tr
theorem eo5:Enters Tryz.prog 5:=Tr.enters_of Tryz.func5 (by kernel_rfl)
theorem eo8:Enters Tryz.prog 8:=Tr.enters_of Tryz.func8 (by kernel_rfl)
theorem eo9:Enters Tryz.prog 9:=Tr.enters_of Tryz.func9 (by kernel_rfl)
theorem eo10:Enters Tryz.prog 10:=Tr.enters_of Tryz.func10 (by kernel_rfl)
theorem eo11:Enters Tryz.prog 11:=Tr.enters_of Tryz.func11 (by kernel_rfl)
theorem eo12:Enters Tryz.prog 12:=Tr.enters_of Tryz.func12 (by kernel_rfl)
theorem eo19:Enters Tryz.prog 19:=Tr.enters_of Tryz.func19 (by kernel_rfl)
theorem eo21:Enters Tryz.prog 21:=Tr.enters_of Tryz.func21 (by kernel_rfl)
theorem eo22:Enters Tryz.prog 22:=Tr.enters_of Tryz.func22 (by kernel_rfl)
theorem eo23:Enters Tryz.prog 23:=Tr.enters_of Tryz.func23 (by kernel_rfl)
theorem eo34:Enters Tryz.prog 34:=Tr.enters_of Tryz.func34 (by kernel_rfl)
theorem eo35:Enters Tryz.prog 35:=Tr.enters_of Tryz.func35 (by kernel_rfl)
theorem eo36:Enters Tryz.prog 36:=Tr.enters_of Tryz.func36 (by kernel_rfl)
theorem eo37:Enters Tryz.prog 37:=Tr.enters_of Tryz.func37 (by kernel_rfl)
theorem eo38:Enters Tryz.prog 38:=Tr.enters_of Tryz.func38 (by kernel_rfl)
theorem eo39:Enters Tryz.prog 39:=Tr.enters_of Tryz.func39 (by kernel_rfl)
theorem eo40:Enters Tryz.prog 40:=Tr.enters_of Tryz.func40 (by kernel_rfl)
theorem eo41:Enters Tryz.prog 41:=Tr.enters_of Tryz.func41 (by kernel_rfl)
theorem eo42:Enters Tryz.prog 42:=Tr.enters_of Tryz.func42 (by kernel_rfl)
theorem eo56:Enters Tryz.prog 56:=Tr.enters_of Tryz.func56 (by kernel_rfl)
theorem eo58:Enters Tryz.prog 58:=Tr.enters_of Tryz.func58 (by kernel_rfl)
theorem eo60:Enters Tryz.prog 60:=Tr.enters_of Tryz.func60 (by kernel_rfl)
theorem eo61:Enters Tryz.prog 61:=Tr.enters_of Tryz.func61 (by kernel_rfl)
theorem eo78:Enters Tryz.prog 78:=Tr.enters_of Tryz.func78 (by kernel_rfl)
theorem eo79:Enters Tryz.prog 79:=Tr.enters_of Tryz.func79 (by kernel_rfl)
theorem eo103:Enters Tryz.prog 103:=Tr.enters_of Tryz.func103 (by kernel_rfl)
theorem eo104:Enters Tryz.prog 104:=Tr.enters_of Tryz.func104 (by kernel_rfl)
theorem eo106:Enters Tryz.prog 106:=Tr.enters_of Tryz.func106 (by kernel_rfl)
theorem eo107:Enters Tryz.prog 107:=Tr.enters_of Tryz.func107 (by kernel_rfl)
theorem eo108:Enters Tryz.prog 108:=Tr.enters_of Tryz.func108 (by kernel_rfl)
theorem eo116:Enters Tryz.prog 116:=Tr.enters_of Tryz.func116 (by kernel_rfl)
theorem eo143:Enters Tryz.prog 143:=Tr.enters_of Tryz.func143 (by kernel_rfl)
theorem eo144:Enters Tryz.prog 144:=Tr.enters_of Tryz.func144 (by kernel_rfl)
theorem eo166:Enters Tryz.prog 166:=Tr.enters_of Tryz.func166 (by kernel_rfl)
theorem eo167:Enters Tryz.prog 167:=Tr.enters_of Tryz.func167 (by kernel_rfl)
theorem eo169:Enters Tryz.prog 169:=Tr.enters_of Tryz.func169 (by kernel_rfl)
theorem eo170:Enters Tryz.prog 170:=Tr.enters_of Tryz.func170 (by kernel_rfl)
theorem eo171:Enters Tryz.prog 171:=Tr.enters_of Tryz.func171 (by kernel_rfl)
theorem eo173:Enters Tryz.prog 173:=Tr.enters_of Tryz.func173 (by kernel_rfl)
theorem eo176:Enters Tryz.prog 176:=Tr.enters_of Tryz.func176 (by kernel_rfl)
theorem eo199:Enters Tryz.prog 199:=Tr.enters_of Tryz.func199 (by kernel_rfl)
theorem eo209:Enters Tryz.prog 209:=Tr.enters_of Tryz.func209 (by kernel_rfl)
theorem eo214:Enters Tryz.prog 214:=Tr.enters_of Tryz.func214 (by kernel_rfl)
end Go.Proofs.YthklnbaddobieaaGreat
namespace Tr
theorem sdown_step{l out:List Nat}{k s:Nat}(hl:WOk l)(hs:s<32)(hk:k<l.length)(ho:out.length=k)(h:wv out=wv l / 2 ^ s % 4294967296 ^ k) :
  wv (out++[(wat l (k+1)*4294967296+wat l k) / 2 ^ s % 4294967296])=wv l / 2 ^ s % 4294967296 ^ (k+1):=by
 rw[wv_snoc,ho,h,Nat.mod_pow_succ]
 congr 2
 rw[Nat.div_div_eq_div_mul,Nat.mul_comm (2 ^ s),←Nat.div_div_eq_div_mul,wv_div hl k (by omega),wv_drop_wat,wv_drop_wat,right_word hs,Nat.add_comm]
end Tr
namespace Go.Proofs.YthklnbaddobieaaGreat
open Go.RowKit Tr
def OwnV(w:World)(B:Nat)(v:Value)(l:List Nat):Prop:=w.ownsRow B 192 1 v l.length (l.map fun x:Nat=>Value.int .u32 (x:Int))
theorem OwnV.wsl{w:World}{B:Nat}{v:Value}{l:List Nat}(h:OwnV w B v l):WSl w v l:=by
 obtain⟨h1,⟨h2,h2'⟩|⟨g,cap',cur,h2,h3,h4,h5,h6,h7,h8⟩⟩:=h
 ·have:=List.eq_nil_of_length_eq_zero h2'
  subst this; subst h2
  exact WSl.nil _
 ·refine⟨some ⟨g,0,none⟩,cap',h2,h5,fun _=>⟨g,0,rfl,(Array.getElem?_eq_some_iff.1 h4).1,fun j hj=>?_⟩⟩
  have h9:(cur.toList.take (l.length*1))[j]?=some (.int .u32 (l[j]?.getD 0:Nat)):=by rw[h8]; simp[hj]
  rw[List.getElem?_take_of_lt (by omega)] at h9
  simp at h9
  simp[World.cell?,h4,h9]
set_option maxRecDepth 100000 in
theorem sdown_walk(la:List Nat)(n N q s:Nat)(hna:la.length=n)(oa:WOk la)(hq:N / 32=q)(hs:N % 32=s)(pa:Option Addr)(ca:Nat)(w:World)(ha:WSl w (.slice pa n ca) la)(hn:n<549755813888)(hN:N<1099511627776) :
  Calls Tryz.prog 175 #[.slice pa n ca,.int .i64 N] w fun e w'=>∃ v,e=.returned v∧WSl w' v (words (wv la / 2 ^ N))∧Below w.heap.size w w':=by
 have H:=Lib.hid hna
 have HW:=Lib.hid ha
 have HA:Hid (Row w pa la):=Lib.hid (fun hne=>by
  obtain⟨p,c,e,_,h⟩:=ha
  cases e
  exact h hne)
 obtain⟨l,hl⟩:∃ l:List Nat,l=la.drop q:=⟨_,rfl⟩
 have ol:WOk l:=by rw[hl]; exact wok_drop oa q
 have HL:Hid (l.length=n - q∧(∀ k,wat la (q+k)=wat l k)):=Lib.hid ⟨by rw[hl]; simp; omega,fun k=>by unfold wat; rw[hl,List.getElem?_drop]⟩
 have HF:Hid (wv l / 2 ^ s=wv la / 2 ^ N):=Lib.hid (by
  rcases Nat.lt_or_ge la.length q with h|h
  ·rw[right_none oa hq (by omega),hl,List.drop_eq_nil_of_le (by omega),wv_nil,Nat.zero_div]
  ·rw[hl]; exact right_all oa hq hs h)
 have e1:(N:Int).tdiv 32=(q:Int):=by rw[Int.tdiv_eq_ediv_of_nonneg (by omega)]; omega
 have e2:(N:Int).tmod 32=(s:Int):=by rw[Int.tmod_eq_emod_of_nonneg (by omega)]; omega
 have HS:=Lib.hid hs
 have HQ:=Lib.hid hq
 have hqb:q<549755813888:=by omega
 clear ha hna hl hs hq
 go_enter Tryz.func175,Tryz.ntmps175
 go_wp2_with fail
 go_loopw [5,6,7] (fun v i _ wr=>∃(k:Nat) (out:List Nat),q+k≤max q n∧i=.int .i64 (q+k:Nat)∧Hid (out.length=k)∧WOk out∧Hid (wv out=wv l / 2 ^ s % 4294967296 ^ k)∧OwnV wr w.heap.size v out∧Below w.heap.size w wr)
  (fun _ i _ _=>n - (intOf i).toNat)
 case atStart =>
  exact⟨0,[],by omega,rfl,Lib.hid rfl,wok_nil,Lib.hid (by simp[wv,Nat.mod_one]),World.ownsRow_nil _ _ _ _,Below.refl _ _⟩
 case round =>
  obtain⟨k,out,hk,rfl,hlo,oo,hinv,hown,hB⟩:=hrel
  obtain⟨j,hj⟩:∃ j,j=q+k:=⟨_,rfl⟩
  rw[←hj]
  by_cases hlt2:j<n
  ·obtain⟨b,off,rfl,hbs,hcl⟩:=HA.out (by intro h; have:=H.out; rw[h] at this; simp at this; omega)
   have c0:=(hB.cell (p:=⟨b,off+j,none⟩) hbs).trans (hcl j (by have:=H.out; omega))
   obtain⟨x,hx⟩:∃ x:Nat,x=la[j]?.getD 0:=⟨_,rfl⟩
   rw[←hx] at c0
   have hx':x=wat l k:=by rw[hx,←HL.out.2,←hj]; rfl
   have bx:x<4294967296:=by rw[hx']; exact wat_lt ol k
   obtain⟨y,hy⟩:∃ y:Nat,y=wat l (k+1):=⟨_,rfl⟩
   have by_:y<4294967296:=by rw[hy]; exact wat_lt ol _
   have hat:=Lib.hid (fun m=>by have:=sat_any la _ (j+1) (wr.drewN m) oa (HW.out.below (below_drewN hB m)); rwa[show wat la (j+1)=y by rw[hy,←HL.out.2]; congr 1; omega] at this)
   have ej:((j+1:Nat):Int)=(j:Int)+1:=by omega
   rw[ej] at hat
   have hs32:s<32:=by have:=HS.out; omega
   have hst:=Lib.hid (sdown_step (s:=s) (k:=k) ol hs32 (by have:=HL.out.1; omega) hlo.out hinv.out)
   rw[←hx',←hy] at hst
   obtain⟨t,ht⟩:∃ t:Nat,t=y*4294967296+x:=⟨_,rfl⟩
   have ht1:(y:Int)*4294967296+(x:Int)=(t:Int):=by omega
   have ht2:t<18446744073709551616:=by omega
   rw[←ht] at hst
   obtain⟨u,hu⟩:∃ u:Nat,u=t / 2 ^ s:=⟨_,rfl⟩
   have hu1:(t:Int) / 2 ^ s=(u:Int):=by rw[hu]; simp
   have hu2:u<18446744073709551616:=by rw[hu]; exact Nat.lt_of_le_of_lt (Nat.div_le_self _ _) ht2
   rw[←hu] at hst
   have hol:=hlo.out
   obtain⟨i0,hi,hz0,hz1,hz2⟩:=info_parts info_u32
   have HE:Hid ((u:Int) % 4294967296=((u % 4294967296:Nat):Int)):=Lib.hid (by omega)
   have HJ:=Lib.hid hj
   clear hcl hx hx' hy ht hu ej hj
   go_wp2_with fail
   go_quiet ((go_at_call 213; exact quiet_eq (hat.out _)))
   go_wp2_with (first|(at_builtin; rw[HE.out]; refine wpList_append_own _ rfl (.tmp 30) (.tmp 34) 129 rfl w.heap.size 192 i0 (.int .u32 0) 1 4 Tryz.underlying129 hi hz0 hz1 hz2 rfl (by decide) _ _ _ rfl (World.ownsRow.alloc hown _) ⟨wr.heap.size,0,none⟩ 1 1 [.int .u32 ((u % 4294967296:Nat):Int)] rfl rfl (cell_one_new _ _ _) (ints_oneCell .u32 [((u % 4294967296:Nat):Int)]) (by unfold maxLen; omega) (by omega) (by have:=hB.size; simp; omega) ?_; intro v4 w4 hown4 hgrow4 _))
   have hB4:Below w.heap.size w w4:=((below_drewN hB _).alloc hB.size _).grown hgrow4 (by have:=hB.size; simp; omega) (fun k e=>(World.ownsRow.lt hown k e).1)
   refine⟨⟨k+1,out++[u % 4294967296],by have:=HJ.out; omega,by have:=HJ.out; go_num,Lib.hid (by simp; exact hol),?_,hst,by unfold OwnV; simpa using hown4,hB4⟩,by simp[intOf]; omega⟩
   rw[wok_append]; exact⟨oo,by rw[wok_cons]; exact⟨Nat.mod_lt _ (by decide),wok_nil⟩⟩
  ·have hfin:Hid (wv out=wv la / 2 ^ N):=Lib.hid (by
    rw[←HF.out]
    refine right_end (n:=n - q) ol HL.out.1 (by have:=hlo.out; omega) ?_
    have:=hinv.out
    rw[List.take_of_length_le (by have:=hlo.out; omega)]
    rwa[show n - q=k by omega])
   have HJ:=Lib.hid hj
   have hcut:=Lib.hid (scut_any out _ wr oo hown.wsl (by have:=hlo.out; omega))
   clear hj
   go_wp2_with (refine hcut.out.mono ?_; rintro e w' ⟨v,rfl,hv,rfl⟩)
   go_ret
   exact⟨v,rfl,by rw[←hfin.out]; exact hv,hB⟩
theorem sdown_any(la:List Nat)(N:Nat)(va:Value)(w:World)(oa:WOk la)(ha:WSl w va la)(hn:la.length<549755813888)(hN:N<1099511627776) :
  Calls Tryz.prog 175 #[va,.int .i64 N] w fun e w'=>∃ v,e=.returned v∧WSl w' v (words (wv la / 2 ^ N))∧Below w.heap.size w w':=by
 obtain⟨pa,ca,rfl,hca,ha'⟩:=ha
 exact sdown_walk la _ N _ _ rfl oa rfl rfl pa ca w ⟨pa,ca,rfl,hca,ha'⟩ hn hN
set_option maxRecDepth 100000 in
theorem ssmall_walk(la:List Nat)(n d:Nat)(hna:la.length=n)(oa:WOk la)(hd:0<d)(hd2:d<4294967296)(pa:Option Addr)(ca:Nat)(w:World)(ha:Row w pa la)(hn:n<1099511627776) :
  Calls Tryz.prog 210 #[.slice pa n ca,.int .u64 d] w fun e w'=>∃ v,e=.returned (.tuple #[v,.int .u64 (wv la % d:Nat)])∧WSl w' v (words (wv la / d))∧Below w.heap.size w w':=by
 have H:=Lib.hid hna
 have HA:=Lib.hid ha
 have hmk:=run_mk n (by omega)
 clear ha hna
 go_enter Tryz.func210,Tryz.ntmps210
 go_wp2
 go_loopw [7,8] (fun r i wr=>∃(k s:Nat) (out:List Nat),k≤n∧i=.int .i64 ((k:Int) - 1)∧r=.int .u64 s∧s<d∧Hid (out.length=n)∧WOk out∧Hid (wv (out.drop k)*d+s=wv (la.drop k))∧Blk wr w.heap.size out∧Below w.heap.size w wr)
  (fun _ i _=>(intOf i+1).toNat)
 case atStart =>
  exact⟨n,0,List.replicate n 0,Nat.le_refl _,rfl,rfl,hd,Lib.hid (by simp),wok_replicate _,Lib.hid (by rw[List.drop_eq_nil_of_le (by simp),List.drop_eq_nil_of_le (by have:=H.out; omega)]; simp[wv]),Blk.new _ _,br.alloc (Nat.le_refl _) _⟩
 case round =>
  obtain⟨k,s,out,hk,rfl,rfl,hs,hlo,oo,hinv,hblk,hB⟩:=hrel
  cases k with
  | zero =>
   have h1:=hinv.out
   simp only[List.drop_zero] at h1
   have hq:wv out=wv la / d:=by
    rw[←h1]
    rw[Nat.add_comm,Nat.add_mul_div_right _ _ hd,Nat.div_eq_of_lt hs]; omega
   have hr:s=wv la % d:=by
    rw[←h1,Nat.add_comm,Nat.add_mul_mod_self_right,Nat.mod_eq_of_lt hs]
   have hcut:=Lib.hid (scut_any out _ wr oo (hblk.wsl (k:=n) (cap:=n) (by have:=hlo.out; omega) (Nat.le_refl _) |> fun x=>by rwa[List.take_of_length_le (by have:=hlo.out; omega)] at x) (by have:=hlo.out; omega))
   rw[hq] at hcut
   have HR:=Lib.hid hr
   clear h1 hq hr
   go_wp2_with (refine hcut.out.mono ?_; rintro e w' ⟨v,rfl,hv,rfl⟩)
   go_ret2
   refine⟨v,?_,hv,hB⟩
   rw[←HR.out]; rfl
  | succ m =>
   have e:((m+1:Nat):Int) - 1=(m:Int):=by omega
   rw[e]
   clear e
   obtain⟨b,off,rfl,hbs,hcl⟩:=HA.out (by intro h; have:=H.out; rw[h] at this; simp at this; omega)
   have c0:=(hB.cell (p:=⟨b,off+m,none⟩) hbs).trans (hcl m (by have:=H.out; omega))
   have c1:=hblk.cell (i:=m) (by have:=hlo.out; omega)
   have c2:=hblk.frozen m
   have bx:la[m]?.getD 0<4294967296:=wat_lt oa m
   have hst:=Lib.hid (short_step (d:=d) (by have:=H.out; omega) (by have:=hlo.out; omega) hinv.out)
   have e1:((s:Int)*4294967296+(la[m]?.getD 0:Nat)) % (d:Int)=((s*4294967296+wat la m) % d:Nat):=by simp[wat]
   have e2:((s:Int)*4294967296+(la[m]?.getD 0:Nat)) / (d:Int)=((s*4294967296+wat la m) / d:Nat):=by simp[wat]
   have hq:(s*4294967296+wat la m) / d<4294967296:=short_lt hs bx
   have e3:(((s*4294967296+wat la m) / d:Nat):Int) % 4294967296=((s*4294967296+wat la m) / d:Nat):=by
    generalize (s*4294967296+wat la m) / d=q at *
    omega
   have E:=Lib.hid (And.intro e1 (And.intro e2 e3))
   clear hcl e1 e2 e3
   go_wp2
   go_roundw
   case rel =>
    rw[E.out.1,E.out.2.1,E.out.2.2]
    exact⟨m,_,_,by omega,rfl,rfl,Nat.mod_lt _ hd,Lib.hid (by have:=hlo.out; simpa using this),wok_set oo _ _ hq,hst,hblk.set _ _,hB.setCell (p:=⟨w.heap.size,m,none⟩) (Nat.le_refl _) _⟩
   case measure=>simp[intOf]
theorem ssmall_any(la:List Nat)(d:Nat)(va:Value)(w:World)(oa:WOk la)(hd:0<d)(hd2:d<4294967296)(ha:WSl w va la)(hn:la.length<1099511627776) :
  Calls Tryz.prog 210 #[va,.int .u64 d] w fun e w'=>∃ v,e=.returned (.tuple #[v,.int .u64 (wv la % d:Nat)])∧WSl w' v (words (wv la / d))∧Below w.heap.size w w':=by
 obtain⟨pa,ca,rfl,hca,ha⟩:=ha
 exact ssmall_walk la _ d rfl oa hd hd2 pa ca w ha hn
end Go.Proofs.YthklnbaddobieaaGreat
namespace Tr
end Tr
namespace Go.Proofs.YthklnbaddobieaaGreat
open Go.RowKit Tr
theorem top_word{b m:Nat}(hm:(words b).length=m)(hm0:0<m):0<(words b)[m - 1]?.getD 0∧(words b)[m - 1]?.getD 0<4294967296:=by
 have hne:words b≠[]:=by intro h; rw[h] at hm; simp at hm; omega
 have h1:=wnorm_words b _ _ (List.dropLast_concat_getLast hne).symm
 have h2:(words b)[m - 1]?.getD 0=(words b).getLast hne:=by
  rw[List.getLast_eq_getElem,List.getElem?_eq_getElem (by omega)]; simp[hm]
 rw[h2]
 exact⟨by omega,wok_words b _ (List.getLast_mem hne)⟩
set_option maxRecDepth 100000 in
theorem sbits_row(a m:Nat)(hm:(words a).length=m)(hm0:0<m)(va:Value)(w:World)(ha:WSl w va (words a))(hn:m<549755813888) :
  Calls Tryz.prog 211 #[va] w fun e w'=>(∃ k,0<k∧k≤32∧2 ^ (k - 1)≤(words a)[m - 1]?.getD 0∧(words a)[m - 1]?.getD 0<2 ^ k∧e=.returned (.int .i64 (32*(m - 1)+k:Nat)))∧w=w':=by
 obtain⟨p,c,rfl,hc,hr⟩:=ha
 obtain⟨b,off,rfl,hbs,hcl⟩:=hr (by intro h; rw[h] at hm; simp at hm; omega)
 have ht:=top_word hm hm0
 have c0:=hcl (m - 1) (by omega)
 obtain⟨bt,hbt⟩:∃ bt,bt=(words a)[m - 1]?.getD 0:=⟨_,rfl⟩
 rw[←hbt] at c0 ht ⊢
 rw[hm] at hc ⊢
 have e0:((m:Int) == 0)=false:=by simp; omega
 have e1:((m:Int) - 1).toNat=m - 1:=by omega
 have i0:(0:Int)≤(m:Int) - 1:=by omega
 clear hcl hr hbt hm
 go_enter Tryz.func211,Tryz.ntmps211
 go_wp2
 go_loop [3,4] (fun n x=>∃ k:Nat,n=.int .i64 (32*(m - 1)+k:Nat)∧x=.int .u32 (bt / 2 ^ k:Nat)∧Hid (k=0∨2 ^ (k - 1)≤bt)∧k≤32) (fun n x=>(intOf x).toNat)
 case atStart=>exact⟨0,by go_num,by simp,Lib.hid (.inl rfl),by omega⟩
 case round =>
  obtain⟨k,rfl,rfl,hk,hk32⟩:=hrel
  obtain⟨x,hx⟩:∃ x,x=bt / 2 ^ k:=⟨_,rfl⟩
  rw[←hx]
  have hx2:x<4294967296:=by rw[hx]; exact Nat.lt_of_le_of_lt (Nat.div_le_self _ _) ht.2
  have HX:=Lib.hid hx
  clear hx
  by_cases h0:0<x
  ·have hle:2 ^ k≤bt:=by
    rcases Nat.lt_or_ge bt (2 ^ k) with h|h
    ·have:=HX.out; rw[Nat.div_eq_of_lt h] at this; omega
    ·exact h
   have hk31:k<32:=by
    rcases Nat.lt_or_ge k 32 with h|h
    ·exact h
    ·have:2 ^ 32≤2 ^ k:=Nat.pow_le_pow_right (by decide) h
     omega
   have HL:Hid (k+1=0∨2 ^ (k+1 - 1)≤bt):=Lib.hid (.inr (by simpa using hle))
   have HD:Hid (x / 2=bt / 2 ^ (k+1)):=Lib.hid (by rw[HX.out,Nat.pow_succ,Nat.div_div_eq_div_mul])
   clear hle
   go_wp2
   go_round
   case rel=>exact⟨k+1,by go_num,by rw[←HD.out]; go_num,HL,by omega⟩
   case measure=>simp[intOf]; omega
  ·obtain rfl:x=0:=by omega
   have hlt:bt<2 ^ k:=by
    rcases Nat.lt_or_ge bt (2 ^ k) with h|h
    ·exact h
    ·have:=Nat.div_pos h (Nat.two_pow_pos k)
     have:=HX.out; omega
   have hk0:0<k:=by
    rcases Nat.eq_zero_or_pos k with h|h
    ·subst h; simp at hlt; omega
    ·exact h
   have HR:Hid (2 ^ (k - 1)≤bt∧bt<2 ^ k):=Lib.hid ⟨hk.out.resolve_left (by omega),hlt⟩
   clear hlt
   go_wp2
   go_ret
   exact⟨⟨k,hk0,hk32,HR.out.1,HR.out.2,rfl⟩,rfl⟩
set_option maxRecDepth 100000 in
theorem sfits_row(cur:List Nat)(bu L j n g V W:Nat)(hL:cur.length=L)(oc:WOk cur)(hV:(words V).length=n)(hj:j+n+1≤L)(hg:g<4294967296)(hW:wv ((cur.drop j).take (n+1))=W)(pv:Option Addr)(cv:Nat)(w:World)(hu:Blk w bu cur)(hv:WSl w (.slice pv n cv) (words V))(hn:L<549755813888) :
  Calls Tryz.prog 212 #[.slice (some ⟨bu,0,none⟩) L L,.slice pv n cv,.int .i64 j,.int .u64 g] w fun e w'=>e=.returned (.bool (decide (g*V≤W)))∧Below w.heap.size w w':=by
 have H:=Lib.hid (And.intro hL (And.intro hV hW))
 have HV:=Lib.hid hv
 have ow:WOk [g]:=by rw[wok_cons]; exact⟨hg,wok_nil⟩
 have hp:=fun(w1:World) (h1:Below w.heap.size w w1)=>sproduct_any [g] (words V) (.slice (some ⟨w1.heap.size,0,none⟩) 1 1) (.slice pv n cv) (w1.alloc (.cells #[.int .u32 (g:Int)] 192)) ow (wok_words V) ((wsl_lit w1 g).wsl (k:=1) (cap:=1) (by simp) (by omega)) ((hv.below h1).below (br.alloc (Nat.le_refl _) _)) (by simp) (by omega)
 have ew:wv [g]=g:=by simp[wv]
 rw[wv_words,ew] at hp
 have HP:=Lib.hid (hp w br)
 have gm:(g:Int) % 4294967296=(g:Int):=by omega
 have hx:=fun(w1:World) (hb:Blk w1 bu cur)=>scut_any ((cur.drop j).take (n+1)) (.slice (some ⟨bu,j,none⟩) (n+1) (L - j)) w1 (wok_take (wok_drop oc j) _) (by
  have hl:((cur.drop j).take (n+1)).length=n+1:=by simp; omega
  refine⟨some ⟨bu,j,none⟩,L - j,by rw[hl],by omega,fun _=>⟨bu,j,rfl,hb.lt,fun t ht=>?_⟩⟩
  rw[hl] at ht
  rw[hb.cell (by omega),List.getElem?_take_of_lt ht,List.getElem?_drop]) (by simp; omega)
 rw[hW] at hx
 have HX:=Lib.hid hx
 have HU:=Lib.hid hu
 clear hL hV hW hv hp hx hu ow
 go_enter Tryz.func212,Tryz.ntmps212
 go_wp2_with (refine HP.out.mono ?_; rintro e w1 ⟨v,rfl,hv1,hb1⟩)
 rw[show j+n+1 - j=n+1 by omega]
 have hbW:Below w.heap.size w w1:=(br.alloc (Nat.le_refl _) _).trans (hb1.mono (by simp))
 refine(HX.out w1 (HU.out.below hbW)).mono ?_
 rintro e w2 ⟨v2,rfl,hv2,rfl⟩
 have hun:=Lib.hid (sunder_any (g*V) W v v2 w1 hv1 hv2 (by
  have h1:=words_length_le (n:=g*V) (k:=1+n) (by
   have h2:=lt_words V
   rw[H.out.2.1] at h2
   rw[Nat.pow_add,Nat.pow_one]
   exact Nat.mul_lt_mul'' hg h2)
  omega))
 have HC:Hid (decide (cmpZ (g*V) W≤0)=decide (g*V≤W)):=Lib.hid (by
  unfold cmpZ
  rcases Nat.lt_trichotomy (g*V) W with h|h|h
  ·rw[if_pos h]; simp; omega
  ·rw[if_neg (by omega),if_neg (by omega)]; simp; omega
  ·rw[if_neg (by omega),if_pos h]; simp; omega)
 obtain⟨z,hz⟩:∃ z,z=cmpZ (g*V) W:=⟨_,rfl⟩
 rw[←hz] at hun HC
 clear hz
 go_wp2_with (refine hun.out.mono ?_; rintro e w' ⟨rfl,d,rfl⟩)
 go_ret
 rw[←HC.out]
 exact⟨rfl,below_drewN hbW d⟩
end Go.Proofs.YthklnbaddobieaaGreat
