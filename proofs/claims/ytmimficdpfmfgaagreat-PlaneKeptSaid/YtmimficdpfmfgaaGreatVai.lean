/- Laws for the walk. -/
import Derived.Test.YtmimficdpfmfgaaGreatVah
import Derived.Test.YtmimficdpfmfgaaGreatChecked
import Derived.Test.YtmimficdpfmfgaaGreatRows
import Derived.WalkSpells
import Derived.Lib.Hide
set_option linter.unusedVariables false
set_option maxHeartbeats 4000000
set_option maxRecDepth 100000
namespace Tr
open Go Go.RowKit
def PureC(P:Program)(f:FuncId)(vs:List Value)(v:Value):Prop:=∀ w,Calls P f vs.toArray w fun e w'=>e=.returned v∧Below w.heap.size w w'
theorem enters_of {P : Program} {f : FuncId} {fn : Func} (hf : P.funcs[f]? = some fn) (h : (!(fn.name == "runtime.NumGoroutine") && fn.body.isSome) = true) : Enters P f := by
 intro args w
 simp only[Bool.and_eq_true,Bool.not_eq_true'] at h
 obtain⟨h1,h2⟩:=h
 have h3:fn.body.isNone=false:=by cases hb:fn.body<;>simp[hb] at h2 ⊢
 simp only[callFunc,Sem.run_bind,run_program,Result.andThen_ok,hf,h1,h3,Bool.false_eq_true,if_false,Sem.run_pure]
structure GF where
 R:Qcl
 int:Bool
 keeps:R.Keeps
 cell:∀ v w A,R v w A→v.oneCell'=true
 noint:int=false→∀ v w A,R v w A→∀(k:Unit) (x:Int),v≠.int .u32 x
 ex:Option Value
 exact:∀ u,ex=some u→∀ v w A,R v w A↔v=u
def isIntV:Value→Bool|.int .u32 _=>true|_=>false
def gx(u:Value)(h:u.oneCell'=true:=by rfl):GF where
 R:=fun v _ _=>v=u
 int:=isIntV u
 keeps:=fun _ _ _ _ _ _ _ h=>h
 cell:=fun v _ _ e=>by rw[show v=u from e]; exact h
 noint:=fun hi v _ _ e k x e2=>by rw[show v=u from e] at e2; rw[e2] at hi; cases hi
 ex:=some u
 exact:=fun u' e v w A=>by cases e; exact Iff.rfl
def g0:GF:=gx (.bool false)
def gT(L:List GF)(i:Nat):Qcl:=(L.getD i g0).R
def gI(L:List GF)(i:Nat):Bool:=(L.getD i g0).int
def AC.gv(L:List GF):AC→Option Value
 | .sym i=>(L.getD i g0).ex
 | .lit l=>some l.val
 | _=>none
def acsV(L:List GF):List AC→Option (List Value)
 | []=>some []
 | x :: l=>match x.gv L,acsV L l with|some v,some vs=>some (v :: vs)|_,_=>none
def AR.gv(L:List GF):AR→Option Value
 | .c x=>x.gv L
 | .row l=>match acsV L l with|some vs=>some (.agg vs.toArray)|none=>none
def arsV(L:List GF):List AR→Option (List Value)
 | []=>some []
 | x :: l=>match x.gv L,arsV L l with|some v,some vs=>some (v :: vs)|_,_=>none
def AV.gv(L:List GF):AV→Option Value
 | .r x=>x.gv L
 | .tup l=>match arsV L l with|some vs=>some (.tuple vs.toArray)|none=>none
 | .undf=>some undef
 | .junk=>none
section
variable{P:Program}{L:List GF}{hp:Bool}{σ:Sg}{w:World}{A:Nat→Prop}
theorem AC.gv_ok{x:AC}{u v:Value}(h:x.gv L=some u):x.ok (gT L) σ v w A↔v=u:=by
 cases x with
 | sym i=>exact(L.getD i g0).exact u h v w A
 | lit l=>cases h; exact Iff.rfl
 | own b o=>cases h
 | sl b o n c=>cases h
 | sg b o n=>cases h
 | fn f a b=>cases h
theorem acsV_ok:∀{l:List AC} {us vs:List Value},acsV L l=some us→(oks (gT L) σ l vs w A↔vs=us)
 | [],us,vs,h=>by cases h; cases vs<;>simp[oks]
 | x :: l,us,vs,h=>by
  unfold acsV at h
  split at h
  ·rename_i u r h1 h2
   cases h
   cases vs with
   | nil=>simp[oks]
   | cons v vs=>simp only[oks,AC.gv_ok h1,acsV_ok h2,List.cons.injEq]
  ·cases h
theorem AR.gv_ok{x:AR}{u v:Value}(h:x.gv L=some u):x.ok (gT L) σ v w A↔v=u:=by
 cases x with
 | c x=>exact AC.gv_ok (x:=x) h
 | row l =>
  unfold AR.gv at h
  simp only at h
  split at h
  ·rename_i vs h1
   cases h
   constructor
   ·rintro⟨us,rfl,h2⟩; rw[(acsV_ok h1).1 h2]
   ·rintro rfl; exact⟨_,rfl,(acsV_ok h1).2 rfl⟩
  ·cases h
theorem arsV_ok:∀{l:List AR} {us vs:List Value},arsV L l=some us→(okr (gT L) σ l vs w A↔vs=us)
 | [],us,vs,h=>by cases h; cases vs<;>simp[okr]
 | x :: l,us,vs,h=>by
  unfold arsV at h
  split at h
  ·rename_i u r h1 h2
   cases h
   cases vs with
   | nil=>simp[okr]
   | cons v vs=>simp only[okr,AR.gv_ok h1,arsV_ok h2,List.cons.injEq]
  ·cases h
theorem AV.gv_ok{x:AV}{u v:Value}(h:x.gv L=some u):x.ok (gT L) σ v w A↔v=u:=by
 cases x with
 | r x=>exact AR.gv_ok (x:=x) h
 | tup l =>
  unfold AV.gv at h
  simp only at h
  split at h
  ·rename_i vs h1
   cases h
   constructor
   ·rintro⟨us,rfl,h2⟩; rw[(arsV_ok h1).1 h2]
   ·rintro rfl; exact⟨_,rfl,(arsV_ok h1).2 rfl⟩
  ·cases h
 | undf=>cases h; exact Iff.rfl
 | junk=>cases h
end
structure GC(P:Program)(L:List GF)(hp:Bool) where
 cs:CS
 ent:Enters P cs.f
 ok:cs.Ok P (gT L) hp
structure GB(P:Program)(L:List GF) where
 bs:BS
 ok:bs.Ok P (gT L)
structure GO(P:Program)(L:List GF) where
 os:OS
 ok:os.Ok P (gT L)
section
variable{P:Program}{L:List GF}{hp:Bool}
def gp(f:FuncId)(args:List AR)(res:AV)(ent:Enters P f){vs:List Value}{v:Value}(h:PureC P f vs v)(ha:arsV L args=some vs:=by rfl)(hr:res.gv L=some v:=by rfl):GC P L hp :=
 ⟨{ f,args,res },ent,fun σ w A us _ _ hu _=>by
  have e:us=vs:=(arsV_ok ha).1 hu
  subst e
  exact(h w).mono fun r w' h=>⟨v,h.1,(AV.gv_ok hr).2 rfl,h.2⟩⟩
def gb(op:BinOp)(t:TypeId)(x y:AR)(res:AC){vx vy v:Value}(h:∀ xo yo w,(do eqGuard op t xo yo vx vy; binOp op t vx vy:Sem Value).run P w=.ok v w)(hx:x.gv L=some vx:=by rfl)(hy:y.gv L=some vy:=by rfl)(hr:res.gv L=some v:=by rfl):GB P L :=
 ⟨{ op,t,x,y,res },fun σ w A ux uy xo yo h1 h2=>by
  have e1:ux=vx:=(AR.gv_ok hx).1 h1
  have e2:uy=vy:=(AR.gv_ok hy).1 h2
  subst e1; subst e2
  exact⟨v,h xo yo w,(AC.gv_ok hr).2 rfl⟩⟩
def gm1(f:FuncId)(x:AR)(res:AV)(ent:Enters P f)(h:∀(w:World) (A:Nat→Prop) (u:Value),(hp=true→Rcv A w)→x.ok (gT L) σ0 u w A→Calls P f #[u] w fun r w'=>∃ v,r=.returned v∧res.ok (gT L) σ0 v w' A∧Below w.heap.size w w')(hx:(x.noown && res.noown)=true:=by rfl):GC P L hp :=
 ⟨{ f,args:=[x],res },ent,fun σ w A us hR _ hu _=>by
  simp only[Bool.and_eq_true] at hx
  match us,hu with
  | [u],hu=>exact(h w A u hR (AR.ok_noown hx.1 hu.1)).mono fun r w' ⟨v,h1,h2,h3⟩=>⟨v,h1,AV.ok_noown hx.2 h2,h3⟩⟩
def gm2(f:FuncId)(x y:AR)(res:AV)(ent:Enters P f)(h:∀(w:World) (A:Nat→Prop) (u v:Value),(hp=true→Rcv A w)→x.ok (gT L) σ0 u w A→y.ok (gT L) σ0 v w A→Calls P f #[u,v] w fun r w'=>∃ v,r=.returned v∧res.ok (gT L) σ0 v w' A∧Below w.heap.size w w')(hx:(x.noown && y.noown && res.noown)=true:=by rfl):GC P L hp :=
 ⟨{ f,args:=[x,y],res },ent,fun σ w A us hR _ hu _=>by
  simp only[Bool.and_eq_true] at hx
  match us,hu with
  | [u,v],hu=>exact(h w A u v hR (AR.ok_noown hx.1.1 hu.1) (AR.ok_noown hx.1.2 hu.2.1)).mono fun r w' ⟨v,h1,h2,h3⟩=>⟨v,h1,AV.ok_noown hx.2 h2,h3⟩⟩
def gm2x(f:FuncId)(x y:AR)(res:AV)(ent:Enters P f){v:Value}(h:∀(w:World) (A:Nat→Prop) (u v':Value),(hp=true→Rcv A w)→x.ok (gT L) σ0 u w A→y.ok (gT L) σ0 v' w A→Calls P f #[u,v'] w fun r w'=>r=.returned v∧Below w.heap.size w w')(hx:(x.noown && y.noown)=true:=by rfl)(hr:res.gv L=some v:=by rfl):GC P L hp :=
 ⟨{ f,args:=[x,y],res },ent,fun σ w A us hR _ hu _=>by
  simp only[Bool.and_eq_true] at hx
  match us,hu with
  | [u,v'],hu=>exact(h w A u v' hR (AR.ok_noown hx.1 hu.1) (AR.ok_noown hx.2 hu.2.1)).mono fun r w' ⟨h1,h3⟩=>⟨v,h1,(AV.gv_ok hr).2 rfl,h3⟩⟩
theorem no_inl{T:Nat→Qcl}(cx:Cx)(h:cx.inl=fun _ _ _ _ _=>none):InlOk P T cx:=by
 intro A0 M w0 σs σ s a w R f args vs bl new r ws rd h1 h2 h3
 rw[h] at h3; cases h3
def gcx(tys:List (TypeId×TyI))(hp:Bool)(L:List GF)(C:List (GC P L hp))(B:List (GB P L))(O:List (GO P L)):Cx:={ tys,calls:=C.map GC.cs,bins:=B.map GB.bs,others:=O.map GO.os,hp,ints:=gI L }
theorem gcx_ok{tys:List (TypeId×TyI)}(ht:∀ p∈tys,p.2.good P p.1=true)(C:List (GC P L hp))(B:List (GB P L))(O:List (GO P L)):CxOk P (gT L) (gcx tys hp L C B O):=by
 refine⟨⟨fun i=>(L.getD i g0).keeps,fun i=>(L.getD i g0).cell,fun i=>(L.getD i g0).noint⟩,ht,fun e he=>?_,fun e he=>?_,fun e he=>?_,fun e he=>?_,no_inl _ rfl⟩
 ·obtain⟨p,_,rfl⟩:=List.mem_map.1 he; exact p.ok
 ·obtain⟨p,_,rfl⟩:=List.mem_map.1 he; exact p.ent
 ·obtain⟨p,_,rfl⟩:=List.mem_map.1 he; exact p.ok
 ·obtain⟨p,_,rfl⟩:=List.mem_map.1 he; exact p.ok
theorem ev_gen{tys:List (TypeId×TyI)}(ht:∀ p∈tys,p.2.good P p.1=true)(hm:P.follows .mixedOrders=true)(C:List (GC P L hp))(B:List (GB P L))(O:List (GO P L)){f:FuncId}{fn:Func}(hf:P.funcs[f]?=some fn)(fuel:Nat)(args:List AR)(res:AV)
  (hev:evF (gcx tys hp L C B O) fn fuel args res=true) (w:World) (A:Nat→Prop) (vs:List Value) (hR:hp=true→Rcv A w) (hA:∀ n,A n→n<w.heap.size) (hargs:okr (gT L) σ0 args vs w A) :
  Calls P f vs.toArray w fun r w'=>∃ v,r=.returned v∧res.ok (gT L) σ0 v w' A∧Below w.heap.size w w' :=
 ev_spec (gcx_ok ht C B O) hm hf fuel hev (fun k hk=>by cases hk) (fun c _ x _ k hk=>by cases hk) σ0 w A vs hR hA hargs
theorem rcv_none(w:World):Rcv NoA w:=fun _ h=>h.elim
theorem Qbi{tys:List (TypeId×TyI)}(ht:∀ p∈tys,p.2.good P p.1=true)(hm:P.follows .mixedOrders=true)(C:List (GC P L hp))(B:List (GB P L))(O:List (GO P L)){f:FuncId}{fn:Func}(hf:P.funcs[f]?=some fn)(fuel:Nat)(args:List AR)(res:AV)
  (hev:evF (gcx tys hp L C B O) fn fuel args res=true) {vs:List Value} {v:Value} (ha:arsV L args=some vs:=by rfl) (hr:res.gv L=some v:=by rfl):PureC P f vs v:=fun w =>
 (ev_gen ht hm C B O hf fuel args res hev w NoA vs (fun _=>rcv_none w) (fun _ h=>h.elim) ((arsV_ok ha).2 rfl)).mono fun r w' ⟨u,h1,h2,h3⟩=>⟨by rw[h1,(AV.gv_ok hr).1 h2],h3⟩
def AC.gn(L:List GF)(b n:Nat):AC→Option Value
 | .own c o=>if c == b then some (.pointer (some ⟨n,o,none⟩)) else none
 | .sl c o k cap=>if c == b then some (.slice (some ⟨n,o,none⟩) k cap) else none
 | x=>x.gv L
def AR.gn(L:List GF)(b n:Nat):AR→Option Value
 | .c x=>x.gn L b n
 | .row l=>AR.gv L (.row l)
end
end Tr
namespace Go.Proofs.YtmimficdpfmfgaaGreat
open Go.RowKit Tr
def tys:List (TypeId×TyI):=[
 (1,⟨false,1,[.nilf],[],none⟩),
 (2,⟨false,1,[.int .i64 0],[],none⟩),
 (3,⟨false,1,[.int .i64 0],[],none⟩),
 (4,⟨false,1,[.bool false],[],none⟩),
 (5,⟨false,1,[.int .u8 0],[],none⟩),
 (6,⟨false,1,[.int .u8 0],[],none⟩),
 (7,⟨true,4,[.int .i64 0,.int .i64 0,.bool false,.int .u8 0],[(0,1,false),(1,1,false),(2,1,false),(3,1,false)],none⟩),
 (8,⟨true,4,[.int .i64 0,.int .i64 0,.bool false,.int .u8 0],[(0,1,false),(1,1,false),(2,1,false),(3,1,false)],none⟩),
 (9,⟨false,1,[.str0],[],none⟩),
 (10,⟨false,1,[.str0],[],none⟩),
 (11,⟨false,1,[.str0],[],none⟩),
 (12,⟨false,1,[.int .u64 0],[],none⟩),
 (13,⟨true,2,[.str0,.int .u64 0],[(0,1,false),(1,1,false)],none⟩),
 (14,⟨true,2,[.str0,.int .u64 0],[(0,1,false),(1,1,false)],none⟩),
 (15,⟨false,1,[.nilp],[],none⟩),
 (16,⟨false,1,[.nilp],[],none⟩),
 (17,⟨false,1,[.nilp],[],none⟩),
 (18,⟨true,1,[.nilp],[(0,1,false)],none⟩),
 (19,⟨true,1,[.nilp],[(0,1,false)],none⟩),
 (21,⟨false,1,[.int .i32 0],[],none⟩),
 (22,⟨false,1,[.int .i64 0],[],none⟩),
 (23,⟨true,2,[.bool false,.str0],[(0,1,false),(1,1,false)],none⟩),
 (24,⟨true,2,[.bool false,.str0],[(0,1,false),(1,1,false)],none⟩),
 (25,⟨true,4,[.bool false,.str0,.bool false,.str0],[(0,2,true),(2,2,true)],none⟩),
 (26,⟨true,4,[.bool false,.str0,.bool false,.str0],[(0,2,true),(2,2,true)],none⟩),
 (27,⟨true,8,[.bool false,.str0,.bool false,.str0,.bool false,.str0,.bool false,.str0],[(0,4,true),(4,4,true)],none⟩),
 (28,⟨true,8,[.bool false,.str0,.bool false,.str0,.bool false,.str0,.bool false,.str0],[(0,4,true),(4,4,true)],none⟩),
 (29,⟨true,33,[.bool false,.str0,.bool false,.str0,.bool false,.str0,.bool false,.str0,.bool false,.str0,.bool false,.str0,.bool false,.str0,.bool false,.str0,.bool false,.str0,.bool false,.str0,.bool false,.str0,.bool false,.str0,.bool false,.str0,.bool false,.str0,.bool false,.str0,.bool false,.str0,.bool false],[(0,8,true),(8,8,true),(16,8,true),(24,8,true),(32,1,false)],none⟩),
 (30,⟨true,33,[.bool false,.str0,.bool false,.str0,.bool false,.str0,.bool false,.str0,.bool false,.str0,.bool false,.str0,.bool false,.str0,.bool false,.str0,.bool false,.str0,.bool false,.str0,.bool false,.str0,.bool false,.str0,.bool false,.str0,.bool false,.str0,.bool false,.str0,.bool false,.str0,.bool false],[(0,8,true),(8,8,true),(16,8,true),(24,8,true),(32,1,false)],none⟩),
 (31,⟨false,1,[.nilf],[],none⟩),
 (32,⟨false,1,[.nilf],[],none⟩),
 (33,⟨false,1,[.int .i64 0],[],none⟩),
 (35,⟨false,1,[.nilf],[],none⟩),
 (37,⟨false,1,[.nilf],[],none⟩),
 (38,⟨false,1,[.nilf],[],none⟩),
 (39,⟨false,1,[.nilf],[],none⟩),
 (40,⟨false,1,[.nilf],[],none⟩),
 (41,⟨false,1,[.nilf],[],none⟩),
 (42,⟨false,1,[.nilf],[],none⟩),
 (43,⟨false,1,[.nilf],[],none⟩),
 (44,⟨false,1,[.nilf],[],none⟩),
 (45,⟨false,1,[.nilf],[],none⟩),
 (46,⟨true,16,[.bool false,.str0,.bool false,.str0,.bool false,.str0,.bool false,.str0,.bool false,.str0,.bool false,.str0,.bool false,.str0,.bool false,.str0],[(0,4,true),(4,8,true),(12,4,true)],none⟩),
 (47,⟨true,16,[.bool false,.str0,.bool false,.str0,.bool false,.str0,.bool false,.str0,.bool false,.str0,.bool false,.str0,.bool false,.str0,.bool false,.str0],[(0,4,true),(4,8,true),(12,4,true)],none⟩),
 (48,⟨false,1,[.nilf],[],none⟩),
 (49,⟨false,1,[.nilf],[],none⟩),
 (51,⟨false,1,[.nilf],[],none⟩),
 (53,⟨false,1,[.nilf],[],none⟩),
 (54,⟨false,1,[.nilf],[],none⟩),
 (55,⟨false,1,[.nilf],[],none⟩),
 (56,⟨false,1,[.nilf],[],none⟩),
 (57,⟨false,1,[.nilf],[],none⟩),
 (59,⟨false,1,[.nilf],[],none⟩),
 (60,⟨false,1,[.nilf],[],none⟩),
 (61,⟨false,1,[.nilf],[],none⟩),
 (62,⟨false,1,[.nilf],[],none⟩),
 (63,⟨false,1,[.nilf],[],none⟩),
 (64,⟨false,1,[.nilf],[],none⟩),
 (66,⟨false,1,[.nilf],[],none⟩),
 (67,⟨false,1,[.nilf],[],none⟩),
 (68,⟨false,1,[.nilf],[],none⟩),
 (69,⟨false,1,[.nilf],[],none⟩),
 (70,⟨false,1,[.nilf],[],none⟩),
 (71,⟨false,1,[.nilf],[],none⟩),
 (72,⟨false,1,[.nilf],[],none⟩),
 (73,⟨false,1,[.nilf],[],none⟩),
 (74,⟨false,1,[.nilf],[],none⟩),
 (75,⟨false,1,[.nilf],[],none⟩),
 (76,⟨true,32,[.bool false,.str0,.bool false,.str0,.bool false,.str0,.bool false,.str0,.bool false,.str0,.bool false,.str0,.bool false,.str0,.bool false,.str0,.bool false,.str0,.bool false,.str0,.bool false,.str0,.bool false,.str0,.bool false,.str0,.bool false,.str0,.bool false,.str0,.bool false,.str0],[],some (4,8,28)⟩),
 (77,⟨false,1,[.nilf],[],none⟩),
 (78,⟨false,1,[.nilf],[],none⟩),
 (79,⟨false,1,[.nilf],[],none⟩),
 (80,⟨true,9,[.bool false,.bool false,.str0,.bool false,.str0,.bool false,.str0,.bool false,.str0],[(0,1,false),(1,8,true)],none⟩),
 (81,⟨true,9,[.bool false,.bool false,.str0,.bool false,.str0,.bool false,.str0,.bool false,.str0],[(0,1,false),(1,8,true)],none⟩),
 (83,⟨false,1,[.nilf],[],none⟩),
 (84,⟨false,1,[.nilf],[],none⟩),
 (85,⟨true,24,[.bool false,.str0,.bool false,.str0,.bool false,.str0,.bool false,.str0,.bool false,.str0,.bool false,.str0,.bool false,.str0,.bool false,.str0,.bool false,.str0,.bool false,.str0,.bool false,.str0,.bool false,.str0],[],some (3,8,28)⟩),
 (86,⟨false,1,[.nilf],[],none⟩),
 (87,⟨false,1,[.nilf],[],none⟩),
 (89,⟨false,1,[.nilf],[],none⟩),
 (90,⟨false,1,[.nilf],[],none⟩),
 (91,⟨false,1,[.nilf],[],none⟩),
 (92,⟨false,1,[.nilf],[],none⟩),
 (93,⟨false,1,[.nilf],[],none⟩),
 (95,⟨false,1,[.nilf],[],none⟩),
 (96,⟨false,1,[.nilf],[],none⟩),
 (97,⟨false,1,[.nilf],[],none⟩),
 (98,⟨false,1,[.nilf],[],none⟩),
 (99,⟨false,1,[.nilf],[],none⟩),
 (100,⟨false,1,[.nils],[],some (0,8,28)⟩),
 (101,⟨false,1,[.nilf],[],none⟩),
 (102,⟨false,1,[.nilf],[],none⟩),
 (104,⟨false,1,[.nilf],[],none⟩),
 (105,⟨false,1,[.nilf],[],none⟩),
 (106,⟨false,1,[.nilf],[],none⟩),
 (107,⟨true,4,[.int .i64 0,.int .i64 0,.int .i64 0,.int .i64 0],[],some (4,1,2)⟩),
 (108,⟨true,14,[.nilf,.int .i64 0,.int .i64 0,.int .i64 0,.int .i64 0,.int .i64 0,.bool false,.str0,.bool false,.str0,.bool false,.str0,.bool false,.str0],[(0,1,false),(1,4,true),(5,1,false),(6,8,true)],none⟩),
 (109,⟨true,14,[.nilf,.int .i64 0,.int .i64 0,.int .i64 0,.int .i64 0,.int .i64 0,.bool false,.str0,.bool false,.str0,.bool false,.str0,.bool false,.str0],[(0,1,false),(1,4,true),(5,1,false),(6,8,true)],none⟩),
 (111,⟨false,1,[.nilf],[],none⟩),
 (112,⟨false,1,[.nilf],[],none⟩),
 (113,⟨false,1,[.nilf],[],none⟩),
 (114,⟨false,1,[.nilp],[],none⟩),
 (115,⟨true,2,[.nilp,.nilp],[(0,1,false),(1,1,false)],none⟩),
 (116,⟨true,2,[.nilp,.nilp],[(0,1,false),(1,1,false)],none⟩),
 (117,⟨true,9,[.nilp,.nilp,.nilp,.nilp,.nilp,.nilp,.nilp,.nilp,.bool false],[(0,2,true),(2,2,true),(4,2,true),(6,2,true),(8,1,false)],none⟩),
 (118,⟨true,9,[.nilp,.nilp,.nilp,.nilp,.nilp,.nilp,.nilp,.nilp,.bool false],[(0,2,true),(2,2,true),(4,2,true),(6,2,true),(8,1,false)],none⟩),
 (120,⟨false,1,[.nilf],[],none⟩),
 (122,⟨false,1,[.nilf],[],none⟩),
 (123,⟨true,3,[.bool false,.nilp,.nilp],[(0,1,false),(1,2,true)],none⟩),
 (124,⟨true,3,[.bool false,.nilp,.nilp],[(0,1,false),(1,2,true)],none⟩),
 (125,⟨false,1,[.nilf],[],none⟩),
 (126,⟨false,1,[.nilf],[],none⟩),
 (127,⟨false,1,[.nilf],[],none⟩),
 (128,⟨false,1,[.nilf],[],none⟩),
 (129,⟨false,1,[.nilf],[],none⟩),
 (130,⟨true,6,[.nilp,.nilp,.nilp,.nilp,.nilp,.nilp],[],some (3,2,116)⟩),
 (132,⟨false,1,[.nilf],[],none⟩),
 (133,⟨false,1,[.nilf],[],none⟩),
 (134,⟨false,1,[.nilf],[],none⟩),
 (135,⟨false,1,[.nilf],[],none⟩),
 (136,⟨false,1,[.nilf],[],none⟩),
 (137,⟨false,1,[.nilf],[],none⟩),
 (138,⟨false,1,[.nilf],[],none⟩),
 (139,⟨false,1,[.nilf],[],none⟩),
 (140,⟨false,1,[.nilf],[],none⟩),
 (141,⟨false,1,[.nilf],[],none⟩),
 (142,⟨true,4,[.nilp,.nilp,.nilp,.nilp],[],some (4,1,114)⟩),
 (143,⟨true,4,[.nilp,.nilp,.nilp,.nilp],[],some (4,1,114)⟩),
 (145,⟨false,1,[.nilf],[],none⟩),
 (146,⟨false,1,[.nilf],[],none⟩),
 (147,⟨false,1,[.nilf],[],none⟩),
 (149,⟨false,1,[.nilf],[],none⟩),
 (150,⟨false,1,[.nilf],[],none⟩),
 (151,⟨false,1,[.nilf],[],none⟩),
 (152,⟨false,1,[.nilf],[],none⟩),
 (153,⟨false,1,[.nilf],[],none⟩),
 (154,⟨false,1,[.nilf],[],none⟩),
 (155,⟨false,1,[.nilf],[],none⟩),
 (156,⟨false,1,[.nilf],[],none⟩),
 (157,⟨false,1,[.nilf],[],none⟩),
 (158,⟨false,1,[.nilf],[],none⟩),
 (159,⟨false,1,[.nilf],[],none⟩),
 (161,⟨false,1,[.nilf],[],none⟩),
 (162,⟨false,1,[.nilf],[],none⟩),
 (163,⟨true,16,[.bool false,.str0,.bool false,.str0,.bool false,.str0,.bool false,.str0,.bool false,.str0,.bool false,.str0,.bool false,.str0,.bool false,.str0],[],some (4,4,26)⟩),
 (164,⟨true,16,[.bool false,.str0,.bool false,.str0,.bool false,.str0,.bool false,.str0,.bool false,.str0,.bool false,.str0,.bool false,.str0,.bool false,.str0],[],some (4,4,26)⟩),
 (165,⟨false,1,[.nilf],[],none⟩),
 (166,⟨false,1,[.nils],[],some (0,9,81)⟩),
 (168,⟨false,1,[.nilf],[],none⟩),
 (170,⟨false,1,[.nilf],[],none⟩),
 (171,⟨false,1,[.nilf],[],none⟩),
 (172,⟨false,1,[.nilf],[],none⟩),
 (173,⟨true,48,[.bool false,.str0,.bool false,.str0,.bool false,.str0,.bool false,.str0,.bool false,.str0,.bool false,.str0,.bool false,.str0,.bool false,.str0,.bool false,.str0,.bool false,.str0,.bool false,.str0,.bool false,.str0,.bool false,.str0,.bool false,.str0,.bool false,.str0,.bool false,.str0,.bool false,.str0,.bool false,.str0,.bool false,.str0,.bool false,.str0,.bool false,.str0,.bool false,.str0,.bool false,.str0,.bool false,.str0],[],some (3,16,164)⟩),
 (174,⟨false,1,[.nilf],[],none⟩),
 (175,⟨false,1,[.nils],[],some (0,2,116)⟩),
 (177,⟨false,1,[.nilf],[],none⟩),
 (178,⟨false,1,[.nilf],[],none⟩),
 (179,⟨false,1,[.nilf],[],none⟩),
 (180,⟨false,1,[.nilf],[],none⟩),
 (181,⟨false,1,[.nilf],[],none⟩),
 (182,⟨false,1,[.nilf],[],none⟩),
 (183,⟨false,1,[.nilf],[],none⟩),
 (184,⟨false,1,[.nilf],[],none⟩),
 (185,⟨false,1,[.nilf],[],none⟩),
 (186,⟨false,1,[.nilf],[],none⟩),
 (187,⟨false,1,[.nilf],[],none⟩),
 (188,⟨false,1,[.nilf],[],none⟩),
 (189,⟨false,1,[.nilf],[],none⟩),
 (190,⟨false,1,[.nilf],[],none⟩),
 (191,⟨false,1,[.nilf],[],none⟩),
 (192,⟨false,1,[.nilf],[],none⟩),
 (193,⟨false,1,[.nilf],[],none⟩),
 (194,⟨false,1,[.nilf],[],none⟩),
 (196,⟨false,1,[.nilf],[],none⟩),
 (197,⟨false,1,[.nilf],[],none⟩),
 (198,⟨false,1,[.nilf],[],none⟩),
 (199,⟨false,1,[.nilf],[],none⟩),
 (201,⟨false,1,[.nilf],[],none⟩),
 (203,⟨false,1,[.nilf],[],none⟩),
 (204,⟨false,1,[.nilf],[],none⟩),
 (205,⟨false,1,[.nilf],[],none⟩),
 (207,⟨false,1,[.nilf],[],none⟩),
 (208,⟨true,4,[.nilp,.nilp,.nilp,.nilp],[(0,1,false),(1,2,true),(3,1,false)],none⟩),
 (209,⟨true,4,[.nilp,.nilp,.nilp,.nilp],[(0,1,false),(1,2,true),(3,1,false)],none⟩),
 (211,⟨false,1,[.nilf],[],none⟩),
 (212,⟨false,1,[.nils],[],some (0,3,124)⟩),
 (214,⟨false,1,[.nilf],[],none⟩),
 (215,⟨false,1,[.nilf],[],none⟩),
 (216,⟨false,1,[.nilf],[],none⟩),
 (217,⟨false,1,[.nilf],[],none⟩),
 (218,⟨false,1,[.nilf],[],none⟩),
 (219,⟨false,1,[.nilf],[],none⟩),
 (220,⟨false,1,[.nilf],[],none⟩),
 (221,⟨true,28,[.nilf,.int .i64 0,.int .i64 0,.int .i64 0,.int .i64 0,.int .i64 0,.bool false,.str0,.bool false,.str0,.bool false,.str0,.bool false,.str0,.nilf,.int .i64 0,.int .i64 0,.int .i64 0,.int .i64 0,.int .i64 0,.bool false,.str0,.bool false,.str0,.bool false,.str0,.bool false,.str0],[],some (2,14,109)⟩),
 (222,⟨false,1,[.nilf],[],none⟩),
 (223,⟨false,1,[.nilf],[],none⟩),
 (224,⟨false,1,[.nilp],[],none⟩),
 (225,⟨true,9,[.nilp,.bool false,.str0,.bool false,.str0,.bool false,.str0,.bool false,.str0],[(0,1,false),(1,8,true)],none⟩),
 (226,⟨false,1,[.nils],[],some (0,9,225)⟩),
 (227,⟨false,1,[.nilf],[],none⟩),
 (228,⟨false,1,[.nils],[],some (0,1,268)⟩),
 (229,⟨true,2,[.bool false,.nils],[(0,1,false),(1,1,false)],none⟩),
 (230,⟨true,2,[.bool false,.nils],[(0,1,false),(1,1,false)],none⟩),
 (231,⟨true,4,[.bool false,.nils,.bool false,.nils],[(0,2,true),(2,2,true)],none⟩),
 (232,⟨true,4,[.bool false,.nils,.bool false,.nils],[(0,2,true),(2,2,true)],none⟩),
 (233,⟨false,1,[.nilf],[],none⟩),
 (234,⟨false,1,[.nilf],[],none⟩),
 (235,⟨false,1,[.nilf],[],none⟩),
 (236,⟨false,1,[.nilf],[],none⟩),
 (237,⟨false,1,[.nils],[],some (0,4,143)⟩),
 (238,⟨true,3,[.int .i64 0,.int .i64 0,.int .i64 0],[],some (3,1,3)⟩),
 (239,⟨false,1,[.nilf],[],none⟩),
 (240,⟨false,1,[.nilf],[],none⟩),
 (241,⟨false,1,[.nilf],[],none⟩),
 (243,⟨false,1,[.nilf],[],none⟩),
 (244,⟨false,1,[.nilf],[],none⟩),
 (245,⟨false,1,[.nilf],[],none⟩),
 (246,⟨false,1,[.nilf],[],none⟩),
 (247,⟨false,1,[.nilf],[],none⟩),
 (248,⟨false,1,[.nilf],[],none⟩),
 (249,⟨false,1,[.nilf],[],none⟩),
 (250,⟨false,1,[.nilf],[],none⟩),
 (251,⟨false,1,[.nilf],[],none⟩),
 (252,⟨false,1,[.nilf],[],none⟩),
 (254,⟨false,1,[.nilf],[],none⟩),
 (255,⟨false,1,[.nilf],[],none⟩),
 (256,⟨false,1,[.nilf],[],none⟩),
 (257,⟨false,1,[.nils],[],some (0,1,5)⟩),
 (258,⟨false,1,[.nilp],[],none⟩),
 (259,⟨false,1,[.nilf],[],none⟩),
 (260,⟨false,1,[.nilf],[],none⟩),
 (261,⟨false,1,[.nilp],[],none⟩),
 (262,⟨true,3,[.nilp,.nilp,.nilp],[(0,1,false),(1,2,true)],none⟩),
 (263,⟨false,1,[.nils],[],some (0,3,262)⟩),
 (264,⟨false,1,[.nilf],[],none⟩),
 (265,⟨false,1,[.nilf],[],none⟩),
 (266,⟨false,1,[.int .u64 0],[],none⟩),
 (267,⟨false,1,[.nilf],[],none⟩),
 (268,⟨false,1,[.int .u32 0],[],none⟩),
 (269,⟨false,1,[.nilf],[],none⟩),
 (270,⟨false,1,[.nilf],[],none⟩),
 (271,⟨false,1,[.nilf],[],none⟩),
 (272,⟨false,1,[.nilf],[],none⟩),
 (273,⟨false,1,[.nilf],[],none⟩),
 (274,⟨false,1,[.nilf],[],none⟩),
 (275,⟨false,1,[.nilf],[],none⟩),
 (276,⟨false,1,[.nilf],[],none⟩),
 (279,⟨false,1,[.nilf],[],none⟩),
 (280,⟨false,1,[.nilf],[],none⟩),
 (281,⟨false,1,[.nilf],[],none⟩),
 (282,⟨false,1,[.nilf],[],none⟩),
 (283,⟨false,1,[.nilf],[],none⟩),
 (284,⟨false,1,[.nilf],[],none⟩),
 (286,⟨false,1,[.nilf],[],none⟩),
 (287,⟨false,1,[.nilf],[],none⟩),
 (288,⟨false,1,[.nilf],[],none⟩),
 (289,⟨false,1,[.nilf],[],none⟩),
 (290,⟨false,1,[.nilf],[],none⟩),
 (291,⟨false,1,[.nilf],[],none⟩),
 (292,⟨false,1,[.nilf],[],none⟩),
 (293,⟨false,1,[.nilf],[],none⟩),
 (294,⟨false,1,[.nilf],[],none⟩),
 (295,⟨false,1,[.nilf],[],none⟩),
 (296,⟨false,1,[.nilf],[],none⟩),
 (297,⟨false,1,[.nilf],[],none⟩),
 (298,⟨false,1,[.nilf],[],none⟩),
 (300,⟨false,1,[.nilf],[],none⟩),
 (301,⟨false,1,[.nils],[],some (0,1,114)⟩),
 (302,⟨false,1,[.nilf],[],none⟩),
 (303,⟨false,1,[.nilf],[],none⟩),
 (304,⟨false,1,[.nilf],[],none⟩),
 (305,⟨false,1,[.nilf],[],none⟩),
 (306,⟨false,1,[.int .u64 0],[],none⟩),
 (307,⟨false,1,[.nilf],[],none⟩),
 (308,⟨false,1,[.nilf],[],none⟩),
 (309,⟨false,1,[.nilf],[],none⟩),
 (311,⟨false,1,[.nilf],[],none⟩),
 (312,⟨false,1,[.nilf],[],none⟩),
 (314,⟨false,1,[.nilf],[],none⟩),
 (315,⟨false,1,[.nilf],[],none⟩),
 (316,⟨false,1,[.nilf],[],none⟩),
 (318,⟨false,1,[.nilf],[],none⟩),
 (319,⟨false,1,[.nilf],[],none⟩),
 (320,⟨false,1,[.nilf],[],none⟩),
 (321,⟨true,4,[.nilp,.nilp,.nilp,.str0],[(0,1,false),(1,1,false),(2,1,false),(3,1,false)],none⟩),
 (322,⟨true,4,[.nilp,.nilp,.nilp,.str0],[(0,1,false),(1,1,false),(2,1,false),(3,1,false)],none⟩),
 (323,⟨true,0,[],[],some (0,1,16)⟩),
 (324,⟨true,0,[],[(0,0,true)],none⟩),
 (325,⟨true,0,[],[(0,0,true)],none⟩),
 (326,⟨false,1,[.int .u8 0],[],none⟩),
 (327,⟨false,1,[.int .u8 0],[],none⟩),
 (328,⟨false,1,[.nilf],[],none⟩),
 (329,⟨false,1,[.nilp],[],none⟩),
 (330,⟨false,1,[.int .i32 0],[],none⟩),
 (331,⟨false,1,[.int .i32 0],[],none⟩),
 (332,⟨true,11,[.int .u64 0,.int .u64 0,.int .u32 0,.int .u8 0,.int .u8 0,.int .u8 0,.int .u8 0,.nilf,.nilp,.int .i32 0,.int .i32 0],[(0,1,false),(1,1,false),(2,1,false),(3,1,false),(4,1,false),(5,1,false),(6,1,false),(7,1,false),(8,1,false),(9,1,false),(10,1,false)],none⟩),
 (333,⟨true,11,[.int .u64 0,.int .u64 0,.int .u32 0,.int .u8 0,.int .u8 0,.int .u8 0,.int .u8 0,.nilf,.nilp,.int .i32 0,.int .i32 0],[(0,1,false),(1,1,false),(2,1,false),(3,1,false),(4,1,false),(5,1,false),(6,1,false),(7,1,false),(8,1,false),(9,1,false),(10,1,false)],none⟩),
 (334,⟨false,1,[.nilf],[],none⟩),
 (335,⟨false,1,[.nilp],[],none⟩)]
theorem Qae:∀ p∈tys,p.2.good Tryz.prog p.1=true:=List.all_eq_true.1 (by kernel_rfl)
theorem Qai:Tryz.prog.follows .mixedOrders=true:=by kernel_rfl
end Go.Proofs.YtmimficdpfmfgaaGreat
namespace Go.Proofs.YtmimficdpfmfgaaGreat
open Go Go.RowKit Tr
theorem eo6:Enters Tryz.prog 6:=Tr.enters_of Tryz.func6 (by kernel_rfl)
theorem eo9:Enters Tryz.prog 9:=Tr.enters_of Tryz.func9 (by kernel_rfl)
theorem eo10:Enters Tryz.prog 10:=Tr.enters_of Tryz.func10 (by kernel_rfl)
theorem eo11:Enters Tryz.prog 11:=Tr.enters_of Tryz.func11 (by kernel_rfl)
theorem eo12:Enters Tryz.prog 12:=Tr.enters_of Tryz.func12 (by kernel_rfl)
theorem eo13:Enters Tryz.prog 13:=Tr.enters_of Tryz.func13 (by kernel_rfl)
theorem eo18:Enters Tryz.prog 18:=Tr.enters_of Tryz.func18 (by kernel_rfl)
theorem eo23:Enters Tryz.prog 23:=Tr.enters_of Tryz.func23 (by kernel_rfl)
theorem eo24:Enters Tryz.prog 24:=Tr.enters_of Tryz.func24 (by kernel_rfl)
theorem eo29:Enters Tryz.prog 29:=Tr.enters_of Tryz.func29 (by kernel_rfl)
theorem eo36:Enters Tryz.prog 36:=Tr.enters_of Tryz.func36 (by kernel_rfl)
theorem eo37:Enters Tryz.prog 37:=Tr.enters_of Tryz.func37 (by kernel_rfl)
theorem eo38:Enters Tryz.prog 38:=Tr.enters_of Tryz.func38 (by kernel_rfl)
theorem eo39:Enters Tryz.prog 39:=Tr.enters_of Tryz.func39 (by kernel_rfl)
theorem eo40:Enters Tryz.prog 40:=Tr.enters_of Tryz.func40 (by kernel_rfl)
theorem eo47:Enters Tryz.prog 47:=Tr.enters_of Tryz.func47 (by kernel_rfl)
theorem eo50:Enters Tryz.prog 50:=Tr.enters_of Tryz.func50 (by kernel_rfl)
theorem eo51:Enters Tryz.prog 51:=Tr.enters_of Tryz.func51 (by kernel_rfl)
theorem eo52:Enters Tryz.prog 52:=Tr.enters_of Tryz.func52 (by kernel_rfl)
theorem eo53:Enters Tryz.prog 53:=Tr.enters_of Tryz.func53 (by kernel_rfl)
theorem eo56:Enters Tryz.prog 56:=Tr.enters_of Tryz.func56 (by kernel_rfl)
theorem eo57:Enters Tryz.prog 57:=Tr.enters_of Tryz.func57 (by kernel_rfl)
theorem eo66:Enters Tryz.prog 66:=Tr.enters_of Tryz.func66 (by kernel_rfl)
theorem eo67:Enters Tryz.prog 67:=Tr.enters_of Tryz.func67 (by kernel_rfl)
theorem eo68:Enters Tryz.prog 68:=Tr.enters_of Tryz.func68 (by kernel_rfl)
theorem eo69:Enters Tryz.prog 69:=Tr.enters_of Tryz.func69 (by kernel_rfl)
theorem eo70:Enters Tryz.prog 70:=Tr.enters_of Tryz.func70 (by kernel_rfl)
theorem eo72:Enters Tryz.prog 72:=Tr.enters_of Tryz.func72 (by kernel_rfl)
theorem eo73:Enters Tryz.prog 73:=Tr.enters_of Tryz.func73 (by kernel_rfl)
theorem eo74:Enters Tryz.prog 74:=Tr.enters_of Tryz.func74 (by kernel_rfl)
theorem eo75:Enters Tryz.prog 75:=Tr.enters_of Tryz.func75 (by kernel_rfl)
theorem eo76:Enters Tryz.prog 76:=Tr.enters_of Tryz.func76 (by kernel_rfl)
theorem eo77:Enters Tryz.prog 77:=Tr.enters_of Tryz.func77 (by kernel_rfl)
theorem eo78:Enters Tryz.prog 78:=Tr.enters_of Tryz.func78 (by kernel_rfl)
theorem eo79:Enters Tryz.prog 79:=Tr.enters_of Tryz.func79 (by kernel_rfl)
theorem eo80:Enters Tryz.prog 80:=Tr.enters_of Tryz.func80 (by kernel_rfl)
theorem eo81:Enters Tryz.prog 81:=Tr.enters_of Tryz.func81 (by kernel_rfl)
theorem eo84:Enters Tryz.prog 84:=Tr.enters_of Tryz.func84 (by kernel_rfl)
theorem eo87:Enters Tryz.prog 87:=Tr.enters_of Tryz.func87 (by kernel_rfl)
theorem eo93:Enters Tryz.prog 93:=Tr.enters_of Tryz.func93 (by kernel_rfl)
theorem eo95:Enters Tryz.prog 95:=Tr.enters_of Tryz.func95 (by kernel_rfl)
theorem eo96:Enters Tryz.prog 96:=Tr.enters_of Tryz.func96 (by kernel_rfl)
theorem eo97:Enters Tryz.prog 97:=Tr.enters_of Tryz.func97 (by kernel_rfl)
theorem eo98:Enters Tryz.prog 98:=Tr.enters_of Tryz.func98 (by kernel_rfl)
theorem eo99:Enters Tryz.prog 99:=Tr.enters_of Tryz.func99 (by kernel_rfl)
theorem eo100:Enters Tryz.prog 100:=Tr.enters_of Tryz.func100 (by kernel_rfl)
theorem eo101:Enters Tryz.prog 101:=Tr.enters_of Tryz.func101 (by kernel_rfl)
theorem eo102:Enters Tryz.prog 102:=Tr.enters_of Tryz.func102 (by kernel_rfl)
theorem eo103:Enters Tryz.prog 103:=Tr.enters_of Tryz.func103 (by kernel_rfl)
theorem eo104:Enters Tryz.prog 104:=Tr.enters_of Tryz.func104 (by kernel_rfl)
theorem eo105:Enters Tryz.prog 105:=Tr.enters_of Tryz.func105 (by kernel_rfl)
theorem eo106:Enters Tryz.prog 106:=Tr.enters_of Tryz.func106 (by kernel_rfl)
theorem eo107:Enters Tryz.prog 107:=Tr.enters_of Tryz.func107 (by kernel_rfl)
theorem eo108:Enters Tryz.prog 108:=Tr.enters_of Tryz.func108 (by kernel_rfl)
theorem eo109:Enters Tryz.prog 109:=Tr.enters_of Tryz.func109 (by kernel_rfl)
theorem eo112:Enters Tryz.prog 112:=Tr.enters_of Tryz.func112 (by kernel_rfl)
theorem eo113:Enters Tryz.prog 113:=Tr.enters_of Tryz.func113 (by kernel_rfl)
theorem eo115:Enters Tryz.prog 115:=Tr.enters_of Tryz.func115 (by kernel_rfl)
theorem eo116:Enters Tryz.prog 116:=Tr.enters_of Tryz.func116 (by kernel_rfl)
theorem eo117:Enters Tryz.prog 117:=Tr.enters_of Tryz.func117 (by kernel_rfl)
theorem eo119:Enters Tryz.prog 119:=Tr.enters_of Tryz.func119 (by kernel_rfl)
theorem eo120:Enters Tryz.prog 120:=Tr.enters_of Tryz.func120 (by kernel_rfl)
theorem eo121:Enters Tryz.prog 121:=Tr.enters_of Tryz.func121 (by kernel_rfl)
theorem eo122:Enters Tryz.prog 122:=Tr.enters_of Tryz.func122 (by kernel_rfl)
theorem eo123:Enters Tryz.prog 123:=Tr.enters_of Tryz.func123 (by kernel_rfl)
theorem eo124:Enters Tryz.prog 124:=Tr.enters_of Tryz.func124 (by kernel_rfl)
theorem eo125:Enters Tryz.prog 125:=Tr.enters_of Tryz.func125 (by kernel_rfl)
theorem eo126:Enters Tryz.prog 126:=Tr.enters_of Tryz.func126 (by kernel_rfl)
theorem eo127:Enters Tryz.prog 127:=Tr.enters_of Tryz.func127 (by kernel_rfl)
theorem eo128:Enters Tryz.prog 128:=Tr.enters_of Tryz.func128 (by kernel_rfl)
theorem eo129:Enters Tryz.prog 129:=Tr.enters_of Tryz.func129 (by kernel_rfl)
theorem eo130:Enters Tryz.prog 130:=Tr.enters_of Tryz.func130 (by kernel_rfl)
theorem eo131:Enters Tryz.prog 131:=Tr.enters_of Tryz.func131 (by kernel_rfl)
theorem eo132:Enters Tryz.prog 132:=Tr.enters_of Tryz.func132 (by kernel_rfl)
theorem eo133:Enters Tryz.prog 133:=Tr.enters_of Tryz.func133 (by kernel_rfl)
theorem eo135:Enters Tryz.prog 135:=Tr.enters_of Tryz.func135 (by kernel_rfl)
theorem eo136:Enters Tryz.prog 136:=Tr.enters_of Tryz.func136 (by kernel_rfl)
theorem eo137:Enters Tryz.prog 137:=Tr.enters_of Tryz.func137 (by kernel_rfl)
theorem eo138:Enters Tryz.prog 138:=Tr.enters_of Tryz.func138 (by kernel_rfl)
theorem eo139:Enters Tryz.prog 139:=Tr.enters_of Tryz.func139 (by kernel_rfl)
theorem eo140:Enters Tryz.prog 140:=Tr.enters_of Tryz.func140 (by kernel_rfl)
theorem eo144:Enters Tryz.prog 144:=Tr.enters_of Tryz.func144 (by kernel_rfl)
theorem eo145:Enters Tryz.prog 145:=Tr.enters_of Tryz.func145 (by kernel_rfl)
theorem eo146:Enters Tryz.prog 146:=Tr.enters_of Tryz.func146 (by kernel_rfl)
theorem eo147:Enters Tryz.prog 147:=Tr.enters_of Tryz.func147 (by kernel_rfl)
theorem eo148:Enters Tryz.prog 148:=Tr.enters_of Tryz.func148 (by kernel_rfl)
theorem eo149:Enters Tryz.prog 149:=Tr.enters_of Tryz.func149 (by kernel_rfl)
theorem eo151:Enters Tryz.prog 151:=Tr.enters_of Tryz.func151 (by kernel_rfl)
theorem eo153:Enters Tryz.prog 153:=Tr.enters_of Tryz.func153 (by kernel_rfl)
theorem eo154:Enters Tryz.prog 154:=Tr.enters_of Tryz.func154 (by kernel_rfl)
theorem eo156:Enters Tryz.prog 156:=Tr.enters_of Tryz.func156 (by kernel_rfl)
theorem eo158:Enters Tryz.prog 158:=Tr.enters_of Tryz.func158 (by kernel_rfl)
theorem eo163:Enters Tryz.prog 163:=Tr.enters_of Tryz.func163 (by kernel_rfl)
theorem eo164:Enters Tryz.prog 164:=Tr.enters_of Tryz.func164 (by kernel_rfl)
theorem eo165:Enters Tryz.prog 165:=Tr.enters_of Tryz.func165 (by kernel_rfl)
theorem eo166:Enters Tryz.prog 166:=Tr.enters_of Tryz.func166 (by kernel_rfl)
theorem eo167:Enters Tryz.prog 167:=Tr.enters_of Tryz.func167 (by kernel_rfl)
theorem eo169:Enters Tryz.prog 169:=Tr.enters_of Tryz.func169 (by kernel_rfl)
theorem eo170:Enters Tryz.prog 170:=Tr.enters_of Tryz.func170 (by kernel_rfl)
theorem eo172:Enters Tryz.prog 172:=Tr.enters_of Tryz.func172 (by kernel_rfl)
theorem eo173:Enters Tryz.prog 173:=Tr.enters_of Tryz.func173 (by kernel_rfl)
theorem eo174:Enters Tryz.prog 174:=Tr.enters_of Tryz.func174 (by kernel_rfl)
theorem eo175:Enters Tryz.prog 175:=Tr.enters_of Tryz.func175 (by kernel_rfl)
theorem eo177:Enters Tryz.prog 177:=Tr.enters_of Tryz.func177 (by kernel_rfl)
theorem eo178:Enters Tryz.prog 178:=Tr.enters_of Tryz.func178 (by kernel_rfl)
theorem eo185:Enters Tryz.prog 185:=Tr.enters_of Tryz.func185 (by kernel_rfl)
theorem eo186:Enters Tryz.prog 186:=Tr.enters_of Tryz.func186 (by kernel_rfl)
theorem eo187:Enters Tryz.prog 187:=Tr.enters_of Tryz.func187 (by kernel_rfl)
theorem eo188:Enters Tryz.prog 188:=Tr.enters_of Tryz.func188 (by kernel_rfl)
theorem eo189:Enters Tryz.prog 189:=Tr.enters_of Tryz.func189 (by kernel_rfl)
theorem eo190:Enters Tryz.prog 190:=Tr.enters_of Tryz.func190 (by kernel_rfl)
theorem eo191:Enters Tryz.prog 191:=Tr.enters_of Tryz.func191 (by kernel_rfl)
theorem eo192:Enters Tryz.prog 192:=Tr.enters_of Tryz.func192 (by kernel_rfl)
theorem eo193:Enters Tryz.prog 193:=Tr.enters_of Tryz.func193 (by kernel_rfl)
theorem eo194:Enters Tryz.prog 194:=Tr.enters_of Tryz.func194 (by kernel_rfl)
theorem eo197:Enters Tryz.prog 197:=Tr.enters_of Tryz.func197 (by kernel_rfl)
theorem eo208:Enters Tryz.prog 208:=Tr.enters_of Tryz.func208 (by kernel_rfl)
theorem eo209:Enters Tryz.prog 209:=Tr.enters_of Tryz.func209 (by kernel_rfl)
theorem eo213:Enters Tryz.prog 213:=Tr.enters_of Tryz.func213 (by kernel_rfl)
theorem eo214:Enters Tryz.prog 214:=Tr.enters_of Tryz.func214 (by kernel_rfl)
theorem eo215:Enters Tryz.prog 215:=Tr.enters_of Tryz.func215 (by kernel_rfl)
theorem eo216:Enters Tryz.prog 216:=Tr.enters_of Tryz.func216 (by kernel_rfl)
theorem eo217:Enters Tryz.prog 217:=Tr.enters_of Tryz.func217 (by kernel_rfl)
theorem eo218:Enters Tryz.prog 218:=Tr.enters_of Tryz.func218 (by kernel_rfl)
theorem eo219:Enters Tryz.prog 219:=Tr.enters_of Tryz.func219 (by kernel_rfl)
theorem eo220:Enters Tryz.prog 220:=Tr.enters_of Tryz.func220 (by kernel_rfl)
theorem eo233:Enters Tryz.prog 233:=Tr.enters_of Tryz.func233 (by kernel_rfl)
theorem eo234:Enters Tryz.prog 234:=Tr.enters_of Tryz.func234 (by kernel_rfl)
theorem eo235:Enters Tryz.prog 235:=Tr.enters_of Tryz.func235 (by kernel_rfl)
theorem eo236:Enters Tryz.prog 236:=Tr.enters_of Tryz.func236 (by kernel_rfl)
theorem eo237:Enters Tryz.prog 237:=Tr.enters_of Tryz.func237 (by kernel_rfl)
theorem eo238:Enters Tryz.prog 238:=Tr.enters_of Tryz.func238 (by kernel_rfl)
theorem eo239:Enters Tryz.prog 239:=Tr.enters_of Tryz.func239 (by kernel_rfl)
theorem eo240:Enters Tryz.prog 240:=Tr.enters_of Tryz.func240 (by kernel_rfl)
theorem eo243:Enters Tryz.prog 243:=Tr.enters_of Tryz.func243 (by kernel_rfl)
theorem eo244:Enters Tryz.prog 244:=Tr.enters_of Tryz.func244 (by kernel_rfl)
theorem eo245:Enters Tryz.prog 245:=Tr.enters_of Tryz.func245 (by kernel_rfl)
theorem eo258:Enters Tryz.prog 258:=Tr.enters_of Tryz.func258 (by kernel_rfl)
theorem eo259:Enters Tryz.prog 259:=Tr.enters_of Tryz.func259 (by kernel_rfl)
theorem eo272:Enters Tryz.prog 272:=Tr.enters_of Tryz.func272 (by kernel_rfl)
theorem eo275:Enters Tryz.prog 275:=Tr.enters_of Tryz.func275 (by kernel_rfl)
theorem eo276:Enters Tryz.prog 276:=Tr.enters_of Tryz.func276 (by kernel_rfl)
end Go.Proofs.YtmimficdpfmfgaaGreat
namespace Tr
def wv:List Nat→Nat
 | []=>0
 | x :: l=>x+4294967296*wv l
def WOk(l:List Nat):Prop:=∀ x∈l,x<4294967296
def WNorm(l:List Nat):Prop:=∀ l' x,l=l'++[x]→x≠0
def Qac(n:Nat):List Nat:=if h:n=0 then[] else n % 4294967296 :: Qac (n / 4294967296)
termination_by n
decreasing_by omega
theorem Qaq:Qac 0=[]:=by unfold Qac; rfl
theorem Qhj{n:Nat}(h:n≠0):Qac n=n % 4294967296 :: Qac (n / 4294967296):=by
 rw[Qac,dif_neg h]
theorem wv_nil:wv []=0:=rfl
theorem Qhl(x:Nat)(l:List Nat):wv (x :: l)=x+4294967296*wv l:=rfl
theorem Qam(n:Nat):wv (Qac n)=n:=by
 induction n using Nat.strongRecOn with
 | ind n ih =>
  by_cases h:n=0
  ·subst h; rw[Qaq]; rfl
  ·rw[Qhj h,Qhl,ih (n / 4294967296) (by omega)]; omega
theorem Qfw:WOk []:=fun _ h=>by cases h
theorem Qdv{x:Nat}{l:List Nat}:WOk (x :: l)↔x<4294967296∧WOk l:=by
 unfold WOk; simp
theorem Qfv{a b:List Nat}:WOk (a++b)↔WOk a∧WOk b:=by
 unfold WOk; simp only[List.mem_append]
 exact⟨fun h=>⟨fun x hx=>h x (.inl hx),fun x hx=>h x (.inr hx)⟩,fun h x hx=>hx.elim (h.1 x) (h.2 x)⟩
theorem Qan(n:Nat):WOk (Qac n):=by
 induction n using Nat.strongRecOn with
 | ind n ih =>
  by_cases h:n=0
  ·subst h; rw[Qaq]; exact Qfw
  ·rw[Qhj h,Qdv]; exact⟨Nat.mod_lt _ (by decide),ih (n / 4294967296) (by omega)⟩
theorem Qbw{n:Nat}:Qac n=[]↔n=0:=by
 constructor
 ·intro h
  by_cases h0:n=0
  ·exact h0
  ·rw[Qhj h0] at h; cases h
 ·rintro rfl; exact Qaq
theorem wnorm_nil:WNorm []:=fun l' x h=>by simp at h
theorem Qjo(n:Nat):WNorm (Qac n):=by
 induction n using Nat.strongRecOn with
 | ind n ih =>
  by_cases h:n=0
  ·subst h; rw[Qaq]; exact wnorm_nil
  ·rw[Qhj h]
   intro l' x hl
   cases l' with
   | nil =>
    simp at hl
    have:=Qbw.1 hl.2
    omega
   | cons y l' =>
    simp at hl
    exact ih (n / 4294967296) (by omega) l' x hl.2
theorem Qjb(a b:List Nat):wv (a++b)=wv a+4294967296 ^ a.length*wv b:=by
 induction a with
 | nil=>simp[wv]
 | cons x a ih =>
  rw[List.cons_append,Qhl,Qhl,ih,List.length_cons,Nat.pow_succ,Nat.mul_add,←Nat.mul_assoc,Nat.mul_comm (4294967296 ^ a.length)]
  omega
theorem Qhm{l:List Nat}(h:WOk l):wv l<4294967296 ^ l.length:=by
 induction l with
 | nil=>simp[wv]
 | cons x l ih =>
  obtain⟨hx,hl⟩:=Qdv.1 h
  have:=ih hl
  rw[Qhl,List.length_cons,Nat.pow_succ]
  omega
theorem wv_snoc(l:List Nat)(x:Nat):wv (l++[x])=wv l+4294967296 ^ l.length*x:=by
 rw[Qjb]; simp[wv]
theorem words_of{l:List Nat}(h:WOk l)(hn:WNorm l):Qac (wv l)=l:=by
 induction l with
 | nil=>exact Qaq
 | cons x l ih =>
  obtain⟨hx,hl⟩:=Qdv.1 h
  have hn':WNorm l:=fun l' y e=>hn (x :: l') y (by rw[e]; rfl)
  have ih':=ih hl hn'
  by_cases h0:wv (x :: l)=0
  ·exfalso
   rw[Qhl] at h0
   have h1:x=0:=by omega
   have h2:wv l=0:=by omega
   rw[h2,Qaq] at ih'
   subst ih'
   exact hn [] x rfl h1
  ·rw[Qhj h0,Qhl]
   have e1:(x+4294967296*wv l) % 4294967296=x:=by omega
   have e2:(x+4294967296*wv l) / 4294967296=wv l:=by omega
   rw[e1,e2,ih']
theorem words_ext{l:List Nat}{n:Nat}(h:WOk l)(hn:WNorm l)(hv:wv l=n):l=Qac n:=by rw[←hv,words_of h hn]
theorem wv_zeros{l:List Nat}(h:∀ x∈l,x=0):wv l=0:=by
 induction l with
 | nil=>rfl
 | cons x l ih =>
  rw[Qhl,h x (by simp),ih (fun y hy=>h y (by simp[hy]))]
theorem take_words{l:List Nat}{k:Nat}(hk:k≤l.length)(h:WOk l)(hz:∀ j,k≤j→j<l.length→l[j]?.getD 0=0)(hl:k=0∨l[k - 1]?.getD 0≠0) :
  l.take k=Qac (wv l):=by
 have hsplit:=(List.take_append_drop k l).symm
 have hd:wv (l.drop k)=0:=by
  refine wv_zeros fun x hx=>?_
  obtain⟨i,hi,rfl⟩:=List.getElem_of_mem hx
  simp at hi
  have:=hz (k+i) (by omega) (by omega)
  rw[List.getElem?_eq_getElem (by omega)] at this
  simpa using this
 have hv:wv (l.take k)=wv l:=by
  rw[hsplit,Qjb,hd]; simp
 refine words_ext (fun x hx=>h x (List.mem_of_mem_take hx)) ?_ hv
 intro l' x e
 rcases hl with rfl|hl
 ·simp at e
 ·have hlen:(l.take k).length=k:=by simp; omega
  have h2:l'.length+1=k:=by rw[←hlen,e]; simp
  have h3:(l.take k)[k - 1]?=some x:=by rw[e,show k - 1=l'.length by omega]; simp
  rw[List.getElem?_take_of_lt (by omega)] at h3
  rw[h3] at hl
  simpa using hl
theorem Qak{n k:Nat}(h:n<4294967296 ^ k):(Qac n).length≤k:=by
 induction k generalizing n with
 | zero=>simp at h; subst h; rw[Qaq]; simp
 | succ k ih =>
  by_cases h0:n=0
  ·subst h0; rw[Qaq]; simp
  ·rw[Qhj h0,List.length_cons]
   have:=ih (n:=n / 4294967296) (by rw[Nat.pow_succ] at h; exact Nat.div_lt_of_lt_mul (by rw[Nat.mul_comm]; exact h))
   omega
theorem words_length_gt{n k:Nat}(h:4294967296 ^ k≤n):k<(Qac n).length:=by
 rcases Nat.lt_or_ge k (Qac n).length with h1|h1
 ·exact h1
 ·have:=Qhm (Qan n)
  rw[Qam] at this
  have:=Nat.pow_le_pow_right (show 0<4294967296 by decide) h1
  omega
theorem Qbu(n:Nat):n<4294967296 ^ (Qac n).length:=by
 have:=Qhm (Qan n); rwa[Qam] at this
def Qgk(a b:Nat):Int:=if a<b then -1 else if b<a then 1 else 0
theorem Qdk{a b:Nat}(h:(Qac a).length<(Qac b).length):a<b:=by
 rcases Nat.lt_or_ge a b with h1|h1
 ·exact h1
 ·have:=Qak (n:=b) (k:=(Qac a).length) (Nat.lt_of_le_of_lt h1 (Qbu a))
  omega
theorem wv_split{l:List Nat}{i:Nat}(h:i<l.length):wv l=wv (l.take i)+4294967296 ^ i*(l[i]+4294967296*wv (l.drop (i+1))):=by
 have h1:l=l.take i++(l[i] :: l.drop (i+1)):=by
  rw[←List.drop_eq_getElem_cons h,List.take_append_drop]
 have h2:(l.take i).length=i:=by simp; omega
 conv=>lhs; rw[h1]
 rw[Qjb,Qhl,h2]
theorem lt_of_word{a b:List Nat}{i:Nat}(ha:WOk a)(hi:i<a.length)(hj:i<b.length)(hd:a.drop (i+1)=b.drop (i+1))(h:a[i]<b[i]):wv a<wv b:=by
 rw[wv_split hi,wv_split hj,hd]
 have h1:=Qhm (l:=a.take i) (fun x hx=>ha x (List.mem_of_mem_take hx))
 have h2:(a.take i).length=i:=by simp; omega
 rw[h2] at h1
 generalize 4294967296 ^ i=P at *
 have h3:P*(a[i]+4294967296*wv (b.drop (i+1)))+P≤P*(b[i]+4294967296*wv (b.drop (i+1))):=by
  rw[←Nat.mul_succ]
  exact Nat.mul_le_mul_left _ (by omega)
 omega
theorem wv_set{l:List Nat}{i:Nat}(h:i<l.length)(x:Nat):wv (l.set i x)+4294967296 ^ i*l[i]=wv l+4294967296 ^ i*x:=by
 have h1:=wv_split (l:=l.set i x) (i:=i) (by simpa using h)
 have h2:=wv_split h
 rw[List.take_set_of_le (Nat.le_refl i),List.drop_set_of_lt (by omega),List.getElem_set_self] at h1
 rw[h1,h2,Nat.mul_add,Nat.mul_add]
 omega
theorem Qcs{l:List Nat}(h:WOk l)(i x:Nat)(hx:x<4294967296):WOk (l.set i x):=by
 intro y hy
 rcases List.mem_or_eq_of_mem_set hy with h1|rfl
 ·exact h y h1
 ·exact hx
theorem wok_get{l:List Nat}(h:WOk l){i:Nat}(hi:i<l.length):l[i]<4294967296:=h _ (List.getElem_mem hi)
theorem Qem{l:List Nat}(h:WOk l)(k:Nat):WOk (l.take k):=fun x hx=>h x (List.mem_of_mem_take hx)
theorem Qjp{l:List Nat}(h:WOk l)(k:Nat):WOk (l.drop k):=fun x hx=>h x (List.mem_of_mem_drop hx)
theorem Qbf(n:Nat):WOk (List.replicate n 0):=fun x hx=>by simp at hx; omega
theorem Qeb(n:Nat):wv (List.replicate n 0)=0:=wv_zeros fun x hx=>by simp at hx; exact hx.2
theorem wv_take_succ{l:List Nat}{i:Nat}(h:i<l.length):wv (l.take (i+1))=wv (l.take i)+4294967296 ^ i*l[i]:=by
 rw[List.take_succ_eq_append_getElem h,wv_snoc]
 have h2:(l.take i).length=i:=by simp; omega
 rw[h2]
theorem wv_drop{l:List Nat}{i:Nat}(h:i<l.length):wv (l.drop i)=l[i]+4294967296*wv (l.drop (i+1)):=by
 rw[List.drop_eq_getElem_cons h,Qhl]
def wat(l:List Nat)(i:Nat):Nat:=l[i]?.getD 0
theorem Qce{l:List Nat}(h:WOk l)(i:Nat):wat l i<4294967296:=by
 unfold wat
 by_cases hi:i<l.length
 ·rw[List.getElem?_eq_getElem hi]; exact wok_get h hi
 ·rw[List.getElem?_eq_none (by omega)]; decide
theorem wat_of{l:List Nat}{i:Nat}(h:i<l.length):wat l i=l[i]:=by unfold wat; rw[List.getElem?_eq_getElem h]; rfl
theorem Qhi{l:List Nat}{i:Nat}(h:l.length≤i):wat l i=0:=by unfold wat; rw[List.getElem?_eq_none h]; rfl
theorem Qee(l:List Nat)(i:Nat):wv (l.take (i+1))=wv (l.take i)+4294967296 ^ i*wat l i:=by
 by_cases h:i<l.length
 ·rw[wv_take_succ h,wat_of h]
 ·rw[Qhi (by omega),List.take_of_length_le (by omega),List.take_of_length_le (by omega)]; simp
theorem take_set_succ{l:List Nat}{i:Nat}(h:i<l.length)(x:Nat):(l.set i x).take (i+1)=l.take i++[x]:=by
 rw[List.take_succ_eq_append_getElem (by simpa using h),List.take_set_of_le (Nat.le_refl i),List.getElem_set_self]
theorem Qhn{l:List Nat}{i:Nat}(h:i<l.length)(x:Nat):wv ((l.set i x).take (i+1))=wv (l.take i)+4294967296 ^ i*x:=by
 rw[take_set_succ h,wv_snoc]
 have h2:(l.take i).length=i:=by simp; omega
 rw[h2]
theorem mul_split(P s:Nat):P*(s % 4294967296)+P*4294967296*(s / 4294967296)=P*s:=by
 have:P*s=P*(s % 4294967296+4294967296*(s / 4294967296)):=by rw[Nat.mod_add_div]
 rw[this,Nat.mul_add,Nat.mul_assoc]
theorem Qiv{out la lb:List Nat}{i c:Nat}(ho:i<out.length)(h:wv (out.take i)+4294967296 ^ i*c=wv (la.take i)+wv (lb.take i)) :
  wv ((out.set i ((c+wat la i+wat lb i) % 4294967296)).take (i+1))+4294967296 ^ (i+1)*((c+wat la i+wat lb i) / 4294967296)=wv (la.take (i+1))+wv (lb.take (i+1)):=by
 rw[Qhn ho,Qee,Qee,Nat.pow_succ]
 have:=mul_split (4294967296 ^ i) (c+wat la i+wat lb i)
 rw[Nat.mul_add,Nat.mul_add] at this
 omega
theorem more_end{out la lb:List Nat}{n c:Nat}(ho:out.length=n+1)(ha:la.length=n)(hb:lb.length≤n)(h:wv (out.take n)+4294967296 ^ n*c=wv (la.take n)+wv (lb.take n)) :
  wv (out.set n c)=wv la+wv lb:=by
 have e:=Qhn (l:=out) (i:=n) (by omega) c
 rw[List.take_of_length_le (by simp; omega)] at e
 rw[e,h,List.take_of_length_le (by omega),List.take_of_length_le hb]
theorem less_step{out la lb:List Nat}{i c d:Nat}(ho:i<out.length){e:Nat}(he:wat la i+4294967296*e=d+wat lb i+c)(h:wv (out.take i)+wv (lb.take i)=wv (la.take i)+4294967296 ^ i*c) :
  wv ((out.set i d).take (i+1))+wv (lb.take (i+1))=wv (la.take (i+1))+4294967296 ^ (i+1)*e:=by
 rw[Qhn ho,Qee,Qee,Nat.pow_succ,Nat.mul_assoc]
 generalize 4294967296 ^ i=P at *
 have:P*(wat la i+4294967296*e)=P*(d+wat lb i+c):=by rw[he]
 rw[Nat.mul_add,Nat.mul_add,Nat.mul_add] at this
 omega
theorem less_end{out la lb:List Nat}{n c:Nat}(ho:out.length=n)(oo:WOk out)(ha:la.length=n)(hb:lb.length≤n)(hle:wv lb≤wv la)(h:wv (out.take n)+wv (lb.take n)=wv (la.take n)+4294967296 ^ n*c):wv out=wv la - wv lb:=by
 rw[List.take_of_length_le (by omega),List.take_of_length_le hb,List.take_of_length_le (by omega)] at h
 have h1:=Qhm oo
 rw[ho] at h1
 have hc:c=0:=by
  rcases Nat.eq_zero_or_pos c with h0|h0
  ·exact h0
  ·have:4294967296 ^ n*1≤4294967296 ^ n*c:=Nat.mul_le_mul_left _ h0
   omega
 subst hc
 omega
end Tr
namespace Go.Proofs.YtmimficdpfmfgaaGreat
open Go.RowKit Tr
def WSl(w:World)(v:Value)(l:List Nat):Prop :=
 ∃ p cap,v=.slice p l.length cap∧l.length≤cap∧(l≠[]→∃ b off,p=some ⟨b,off,none⟩∧b<w.heap.size∧∀ j,j<l.length→w.cell? ⟨b,off+j,none⟩=some (.int .u32 (l[j]?.getD 0:Nat)))
theorem WSl.nil(w:World):WSl w (.slice none 0 0) []:=⟨none,0,rfl,Nat.le_refl _,fun h=>absurd rfl h⟩
theorem WSl.below{w w':World}(hb:Below w.heap.size w w'){v:Value}{l:List Nat}(h:WSl w v l):WSl w' v l:=by
 obtain⟨p,cap,hv,hl,hc⟩:=h
 refine⟨p,cap,hv,hl,fun hne=>?_⟩
 obtain⟨b,off,hp,hbs,hcs⟩:=hc hne
 exact⟨b,off,hp,Nat.lt_of_lt_of_le hbs hb.size,fun j hj=>(hb.cell (p:=⟨b,off+j,none⟩) hbs).trans (hcs j hj)⟩
theorem WSl.drewN{w:World}{v:Value}{l:List Nat}(h:WSl w v l)(n:Nat):WSl (w.drewN n) v l:=h
def encW(l:List Nat):Array Value:=(l.map fun x:Nat=>Value.int .u32 (x:Int)).toArray
theorem size_encW(l:List Nat):(encW l).size=l.length:=by simp[encW]
def Blk(w:World)(B:Nat)(l:List Nat):Prop:=w.heap[B]?=some (.cells (encW l) 268 (0,0))
theorem Blk.cell{w:World}{B:Nat}{l:List Nat}(h:Blk w B l){i:Nat}(hi:i<l.length):w.cell? ⟨B,i,none⟩=some (.int .u32 (l[i]?.getD 0:Nat)):=by
 unfold Blk at h
 simp[World.cell?,h,encW,hi]
theorem Blk.frozen{w:World}{B:Nat}{l:List Nat}(h:Blk w B l)(i:Nat):w.frozen? ⟨B,i,none⟩=false:=by
 unfold Blk at h
 simp[World.frozen?,h]
theorem Blk.set{w:World}{B:Nat}{l:List Nat}(h:Blk w B l)(i x:Nat):Blk (w.setCell ⟨B,i,none⟩ (.int .u32 (x:Int))) B (l.set i x):=by
 unfold Blk at *
 simp only[World.setCell,Array.getElem?_modify,if_true,h,Option.map_some]
 simp[encW,List.map_set]
theorem Blk.lt{w:World}{B:Nat}{l:List Nat}(h:Blk w B l):B<w.heap.size:=(Array.getElem?_eq_some_iff.1 h).1
theorem Blk.drewN{w:World}{B:Nat}{l:List Nat}(h:Blk w B l)(n:Nat):Blk (w.drewN n) B l:=h
theorem Blk.new(w:World)(l:List Nat):Blk (w.alloc (.cells (encW l) 268)) w.heap.size l:=heap_alloc_new w _
theorem Blk.below{w w':World}{B:Nat}{l:List Nat}(h:Blk w B l)(hb:Below w.heap.size w w'):Blk w' B l:=(hb.block B h.lt).trans h
theorem Blk.wsl{w:World}{B:Nat}{l:List Nat}(h:Blk w B l){k cap:Nat}(hk:k≤l.length)(hc:k≤cap):WSl w (.slice (some ⟨B,0,none⟩) k cap) (l.take k):=by
 have hl:(l.take k).length=k:=by simp; omega
 refine⟨some ⟨B,0,none⟩,cap,by rw[hl],by omega,fun _=>⟨B,0,rfl,h.lt,fun j hj=>?_⟩⟩
 rw[hl] at hj
 rw[Nat.zero_add,h.cell (by omega),List.getElem?_take_of_lt hj]
theorem Qhx:((Tryz.prog).info? 268).map (fun i=>(i.zero,i.size,i.bytes))=some (some (.int .u32 0),1,4):=by kernel_rfl
theorem made_encW(n:Nat):madeCells (Value.int .u32 0).cells (n*1)=encW (List.replicate n 0):=by
 apply Array.ext
 ·simp[madeCells,encW]
 ·intro i h1 h2
  have e:i % 1=0:=Nat.mod_one i
  simp[madeCells,encW,Value.cells,e]
theorem Qgl(n:Nat)(hn:n<4398046511104)(w:World):(Instr.makeSlice 228 (.int .i64 (n:Int)) (.int .i64 (n:Int))).run Tryz.prog w
  = .ok (.slice (some ⟨w.heap.size,0,none⟩) n n) (w.alloc (.cells (encW (List.replicate n 0)) 268)):=by
 obtain⟨i,hi,hz,hs,hb⟩:=info_parts Qhx
 have:=run_make (P:=Tryz.prog) w 228 268 i (.int .u32 0) Tryz.underlying228 hi hz .i64 .i64 n n (by omega) (Int.le_refl _) (by rw[hb]; omega) (by omega)
 rw[this,hs,Int.toNat_natCast,made_encW]
end Go.Proofs.YtmimficdpfmfgaaGreat
