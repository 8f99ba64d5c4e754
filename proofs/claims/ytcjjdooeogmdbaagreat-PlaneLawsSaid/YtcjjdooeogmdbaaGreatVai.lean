/- Laws. -/
import Derived.Test.YtcjjdooeogmdbaaGreatVah
import Derived.Test.YtcjjdooeogmdbaaGreatChecked
import Derived.Test.YtcjjdooeogmdbaaGreatRows
import Derived.WalkSpells
import Derived.Lib.Hide
set_option linter.all false
set_option maxHeartbeats 4000000
set_option maxRecDepth 100000
namespace Tr
open Go Go.RowKit
def PureC(P:Program)(f:FuncId)(vs:List Value)(v:Value):Prop:=∀ w,Calls P f vs.toArray w fun e w'=>e=.returned v/\Below w.heap.size w w'
def enters_of {P : Program} {f : FuncId} {fn : Func} (hf : P.funcs[f]? = some fn) (h : (!(fn.name == "runtime.NumGoroutine") && fn.body.isSome) = true) : Enters P f := by
 intro args w;simp only[Bool.and_eq_true,Bool.not_eq_true'] at h;obtain⟨h1,h2⟩:=h;have h3:fn.body.isNone=false:=by cases hb:fn.body<;>simp[hb] at h2 ⊢
 simp only[callFunc,Sem.run_bind,run_program,Result.andThen_ok,hf,h1,h3,Bool.false_eq_true,if_false,Sem.run_pure]
structure GF where
 R:Qcp
 int:Bool
 keeps:R.Keeps
 cell:∀ v w A,R v w A->v.oneCell'=true
 noint:int=false->∀ v w A,R v w A->∀(k:Unit) (x:Int),v≠.int .u32 x
 ex:Option Value
 exact:∀ u,ex=some u->∀ v w A,R v w A↔v=u
def Ulz:Value->Bool|.int .u32 _=>true|_=>false
def gx(u:Value)(h:u.oneCell'=true:=by rfl):GF where
 R:=fun v _ _=>v=u
 int:=Ulz u
 keeps:=fun _ _ _ _ _ _ _ h=>h
 cell:=fun v _ _ e=>by rw[show v=u from e];exact h
 noint:=fun hi v _ _ e k x e2=>by rw[show v=u from e] at e2;rw[e2] at hi;cases hi
 ex:=some u
 exact:=fun u' e v w A=>by cases e;exact Iff.rfl
def g0:GF:=gx (.bool false)
def gT(L:List GF)(i:Nat):Qcp:=(L.getD i g0).R
def gI(L:List GF)(i:Nat):Bool:=(L.getD i g0).int
def AC.gv(L:List GF):AC->Option Value
 | .sym i=>(L.getD i g0).ex
 | .lit l=>some l.val
 | _=>none
def Upn(L:List GF):List AC->Option (List Value)
 | []=>some []
 | x::l=>match x.gv L,Upn L l with|some v,some vs=>some (v::vs)|_,_=>none
def AR.gv(L:List GF):AR->Option Value
 | .c x=>x.gv L
 | .row l=>match Upn L l with|some vs=>some (.agg vs.toArray)|none=>none
def Uja(L:List GF):List AR->Option (List Value)
 | []=>some []
 | x::l=>match x.gv L,Uja L l with|some v,some vs=>some (v::vs)|_,_=>none
def AV.gv(L:List GF):AV->Option Value
 | .r x=>x.gv L
 | .tup l=>match Uja L l with|some vs=>some (.tuple vs.toArray)|none=>none
 | .undf=>some undef
 | .junk=>none
section
variable{P:Program}{L:List GF}{hp:Bool}{σ:Sg}{w:World}{A:Nat->Prop}
def AC.gv_ok{x:AC}{u v:Value}(h:x.gv L=some u):x.ok (gT L) σ v w A↔v=u:=by
 cases x with
 | sym i=>exact(L.getD i g0).exact u h v w A
 | lit l=>cases h;exact Iff.rfl
 | own b o=>cases h
 | sl b o n c=>cases h
 | sg b o n=>cases h
 | fn f a b=>cases h
def Kfe:∀{l:List AC} {us vs:List Value},Upn L l=some us->(oks (gT L) σ l vs w A↔vs=us)
 | [],us,vs,h=>by cases h;cases vs<;>simp[oks]
 | x::l,us,vs,h=>by
  unfold Upn at h
  split at h
  .rename_i u r h1 h2;cases h;cases vs with
   | nil=>simp[oks]
   | cons v vs=>simp only[oks,AC.gv_ok h1,Kfe h2,List.cons.injEq]
  .cases h
def AR.gv_ok{x:AR}{u v:Value}(h:x.gv L=some u):x.ok (gT L) σ v w A↔v=u:=by
 cases x with
 | c x=>exact AC.gv_ok (x:=x) h
 | row l =>
  unfold AR.gv at h;simp only at h
  split at h
  .rename_i vs h1;cases h;constructor
   .rintro⟨us,rfl,h2⟩;rw[(Kfe h1).1 h2]
   .rintro rfl;exact⟨_,rfl,(Kfe h1).2 rfl⟩
  .cases h
def Qpk:∀{l:List AR} {us vs:List Value},Uja L l=some us->(okr (gT L) σ l vs w A↔vs=us)
 | [],us,vs,h=>by cases h;cases vs<;>simp[okr]
 | x::l,us,vs,h=>by
  unfold Uja at h
  split at h
  .rename_i u r h1 h2;cases h;cases vs with
   | nil=>simp[okr]
   | cons v vs=>simp only[okr,AR.gv_ok h1,Qpk h2,List.cons.injEq]
  .cases h
def AV.gv_ok{x:AV}{u v:Value}(h:x.gv L=some u):x.ok (gT L) σ v w A↔v=u:=by
 cases x with
 | r x=>exact AR.gv_ok (x:=x) h
 | tup l =>
  unfold AV.gv at h;simp only at h
  split at h
  .rename_i vs h1;cases h;constructor
   .rintro⟨us,rfl,h2⟩;rw[(Qpk h1).1 h2]
   .rintro rfl;exact⟨_,rfl,(Qpk h1).2 rfl⟩
  .cases h
 | undf=>cases h;exact Iff.rfl
 | junk=>cases h
end
structure GC(P:Program)(L:List GF)(hp:Bool) where
 cs:CS
 ent:Enters P cs.f
 ok:cs.Ok P (gT L) hp
structure GB(P:Program)(L:List GF) where
 bs:BS
 ok:bs.Ok P (gT L)
structure GO(P:Program)(L:List GF) where
 os:OS
 ok:os.Ok P (gT L)
section
variable{P:Program}{L:List GF}{hp:Bool}
def gp(f:FuncId)(args:List AR)(res:AV)(ent:Enters P f){vs:List Value}{v:Value}(h:PureC P f vs v)(ha:Uja L args=some vs:=by rfl)(hr:res.gv L=some v:=by rfl):GC P L hp :=
 ⟨{ f,args,res },ent,fun σ w A us _ _ hu _=>by
  have e:us=vs:=(Qpk ha).1 hu;subst e;exact(h w).mono fun r w' h=>⟨v,h.1,(AV.gv_ok hr).2 rfl,h.2⟩⟩
def gb(op:BinOp)(t:TypeId)(x y:AR)(res:AC){vx vy v:Value}(h:∀ xo yo w,(do eqGuard op t xo yo vx vy;binOp op t vx vy:Sem Value).run P w=.ok v w)(hx:x.gv L=some vx:=by rfl)(hy:y.gv L=some vy:=by rfl)(hr:res.gv L=some v:=by rfl):GB P L :=
 ⟨{ op,t,x,y,res },fun σ w A ux uy xo yo h1 h2=>by
  have e1:ux=vx:=(AR.gv_ok hx).1 h1;have e2:uy=vy:=(AR.gv_ok hy).1 h2;subst e1;subst e2;exact⟨v,h xo yo w,(AC.gv_ok hr).2 rfl⟩⟩
def gm1(f:FuncId)(x:AR)(res:AV)(ent:Enters P f)(h:∀(w:World) (A:Nat->Prop) (u:Value),(hp=true->Rcv A w)->x.ok (gT L) σ0 u w A->Calls P f #[u] w fun r w'=>∃ v,r=.returned v/\res.ok (gT L) σ0 v w' A/\Below w.heap.size w w')(hx:(x.noown&&res.noown)=true:=by rfl):GC P L hp :=
 ⟨{ f,args:=[x],res },ent,fun σ w A us hR _ hu _=>by
  simp only[Bool.and_eq_true] at hx
  match us,hu with
  | [u],hu=>exact(h w A u hR (AR.ok_noown hx.1 hu.1)).mono fun r w' ⟨v,h1,h2,h3⟩=>⟨v,h1,AV.ok_noown hx.2 h2,h3⟩⟩
def gm2(f:FuncId)(x y:AR)(res:AV)(ent:Enters P f)(h:∀(w:World) (A:Nat->Prop) (u v:Value),(hp=true->Rcv A w)->x.ok (gT L) σ0 u w A->y.ok (gT L) σ0 v w A->Calls P f #[u,v] w fun r w'=>∃ v,r=.returned v/\res.ok (gT L) σ0 v w' A/\Below w.heap.size w w')(hx:(x.noown&&y.noown&&res.noown)=true:=by rfl):GC P L hp :=
 ⟨{ f,args:=[x,y],res },ent,fun σ w A us hR _ hu _=>by
  simp only[Bool.and_eq_true] at hx
  match us,hu with
  | [u,v],hu=>exact(h w A u v hR (AR.ok_noown hx.1.1 hu.1) (AR.ok_noown hx.1.2 hu.2.1)).mono fun r w' ⟨v,h1,h2,h3⟩=>⟨v,h1,AV.ok_noown hx.2 h2,h3⟩⟩
def Qva(f:FuncId)(x y:AR)(res:AV)(ent:Enters P f){v:Value}(h:∀(w:World) (A:Nat->Prop) (u v':Value),(hp=true->Rcv A w)->x.ok (gT L) σ0 u w A->y.ok (gT L) σ0 v' w A->Calls P f #[u,v'] w fun r w'=>r=.returned v/\Below w.heap.size w w')(hx:(x.noown&&y.noown)=true:=by rfl)(hr:res.gv L=some v:=by rfl):GC P L hp :=
 ⟨{ f,args:=[x,y],res },ent,fun σ w A us hR _ hu _=>by
  simp only[Bool.and_eq_true] at hx
  match us,hu with
  | [u,v'],hu=>exact(h w A u v' hR (AR.ok_noown hx.1 hu.1) (AR.ok_noown hx.2 hu.2.1)).mono fun r w' ⟨h1,h3⟩=>⟨v,h1,(AV.gv_ok hr).2 rfl,h3⟩⟩
def Udb{T:Nat->Qcp}(cx:Cx)(h:cx.inl=fun _ _ _ _ _=>none):Ueu P T cx:=by
 intro A0 M w0 σs σ s a w R f args vs bl new r ws rd h1 h2 h3;rw[h] at h3;cases h3
def gcx(tys:List (TypeId×TyI))(hp:Bool)(L:List GF)(C:List (GC P L hp))(B:List (GB P L))(O:List (GO P L)):Cx:={ tys,calls:=C.map GC.cs,bins:=B.map GB.bs,others:=O.map GO.os,hp,ints:=gI L }
def Qqp{tys:List (TypeId×TyI)}(ht:∀ p∈tys,p.2.good P p.1=true)(C:List (GC P L hp))(B:List (GB P L))(O:List (GO P L)):Qpe P (gT L) (gcx tys hp L C B O):=by
 refine⟨⟨fun i=>(L.getD i g0).keeps,fun i=>(L.getD i g0).cell,fun i=>(L.getD i g0).noint⟩,ht,fun e he=>?_,fun e he=>?_,fun e he=>?_,fun e he=>?_,Udb _ rfl⟩
 .obtain⟨p,_,rfl⟩:=List.mem_map.1 he;exact p.ok
 .obtain⟨p,_,rfl⟩:=List.mem_map.1 he;exact p.ent
 .obtain⟨p,_,rfl⟩:=List.mem_map.1 he;exact p.ok
 .obtain⟨p,_,rfl⟩:=List.mem_map.1 he;exact p.ok
def Ucq{tys:List (TypeId×TyI)}(ht:∀ p∈tys,p.2.good P p.1=true)(hm:P.follows .mixedOrders=true)(C:List (GC P L hp))(B:List (GB P L))(O:List (GO P L)){f:FuncId}{fn:Func}(hf:P.funcs[f]?=some fn)(fuel:Nat)(args:List AR)(res:AV)
  (hev:evF (gcx tys hp L C B O) fn fuel args res=true) (w:World) (A:Nat->Prop) (vs:List Value) (hR:hp=true->Rcv A w) (hA:∀ n,A n->n<w.heap.size) (hargs:okr (gT L) σ0 args vs w A) :
  Calls P f vs.toArray w fun r w'=>∃ v,r=.returned v/\res.ok (gT L) σ0 v w' A/\Below w.heap.size w w' :=
 Kfn (Qqp ht C B O) hm hf fuel hev (fun k hk=>by cases hk) (fun c _ x _ k hk=>by cases hk) σ0 w A vs hR hA hargs
def Qzo(w:World):Rcv NoA w:=fun _ h=>h.elim
def Qay{tys:List (TypeId×TyI)}(ht:∀ p∈tys,p.2.good P p.1=true)(hm:P.follows .mixedOrders=true)(C:List (GC P L hp))(B:List (GB P L))(O:List (GO P L)){f:FuncId}{fn:Func}(hf:P.funcs[f]?=some fn)(fuel:Nat)(args:List AR)(res:AV)
  (hev:evF (gcx tys hp L C B O) fn fuel args res=true) {vs:List Value} {v:Value} (ha:Uja L args=some vs:=by rfl) (hr:res.gv L=some v:=by rfl):PureC P f vs v:=fun w =>
 (Ucq ht hm C B O hf fuel args res hev w NoA vs (fun _=>Qzo w) (fun _ h=>h.elim) ((Qpk ha).2 rfl)).mono fun r w' ⟨u,h1,h2,h3⟩=>⟨by rw[h1,(AV.gv_ok hr).1 h2],h3⟩
def AC.gn(L:List GF)(b n:Nat):AC->Option Value
 | .own c o=>if c==b then some (.pointer (some ⟨n,o,none⟩)) else none
 | .sl c o k cap=>if c==b then some (.slice (some ⟨n,o,none⟩) k cap) else none
 | x=>x.gv L
def AR.gn(L:List GF)(b n:Nat):AR->Option Value
 | .c x=>x.gn L b n
 | .row l=>AR.gv L (.row l)
end
end Tr
namespace Go.Proofs.YtcjjdooeogmdbaaGreat
open Go.RowKit Tr Proofs.Tryz
def nfT:TyI:=⟨false,1,[.nilf],[],none⟩
def tys:List (TypeId×TyI):=[
 (1,nfT),
 (2,⟨false,1,[.int .i64 0],[],none⟩),
 (3,⟨false,1,[.int .i64 0],[],none⟩),
 (4,⟨false,1,[.bool false],[],none⟩),
 (5,⟨false,1,[.int .u8 0],[],none⟩),
 (6,⟨false,1,[.int .u8 0],[],none⟩),
 (7,⟨true,4,[.int .i64 0,.int .i64 0,.bool false,.int .u8 0],[(0,1,false),(1,1,false),(2,1,false),(3,1,false)],none⟩),
 (8,⟨true,4,[.int .i64 0,.int .i64 0,.bool false,.int .u8 0],[(0,1,false),(1,1,false),(2,1,false),(3,1,false)],none⟩),
 (9,⟨false,1,[.str0],[],none⟩),
 (10,⟨false,1,[.str0],[],none⟩),
 (11,⟨false,1,[.str0],[],none⟩),
 (12,⟨false,1,[.int .u64 0],[],none⟩),
 (13,⟨true,2,[.str0,.int .u64 0],[(0,1,false),(1,1,false)],none⟩),
 (14,⟨true,2,[.str0,.int .u64 0],[(0,1,false),(1,1,false)],none⟩),
 (15,⟨false,1,[.nilp],[],none⟩),
 (16,⟨false,1,[.nilp],[],none⟩),
 (17,⟨false,1,[.nilp],[],none⟩),
 (18,⟨true,1,[.nilp],[(0,1,false)],none⟩),
 (19,⟨true,1,[.nilp],[(0,1,false)],none⟩),
 (21,⟨false,1,[.int .i32 0],[],none⟩),
 (22,⟨false,1,[.int .i64 0],[],none⟩),
 (23,⟨true,2,[.bool false,.str0],[(0,1,false),(1,1,false)],none⟩),
 (24,⟨true,2,[.bool false,.str0],[(0,1,false),(1,1,false)],none⟩),
 (25,⟨true,4,[.bool false,.str0,.bool false,.str0],[(0,2,true),(2,2,true)],none⟩),
 (26,⟨true,4,[.bool false,.str0,.bool false,.str0],[(0,2,true),(2,2,true)],none⟩),
 (27,⟨true,8,[.bool false,.str0,.bool false,.str0,.bool false,.str0,.bool false,.str0],[(0,4,true),(4,4,true)],none⟩),
 (28,⟨true,8,[.bool false,.str0,.bool false,.str0,.bool false,.str0,.bool false,.str0],[(0,4,true),(4,4,true)],none⟩),
 (29,⟨true,16,[.bool false,.str0,.bool false,.str0,.bool false,.str0,.bool false,.str0,.bool false,.str0,.bool false,.str0,.bool false,.str0,.bool false,.str0],[(0,4,true),(4,8,true),(12,4,true)],none⟩),
 (30,⟨true,16,[.bool false,.str0,.bool false,.str0,.bool false,.str0,.bool false,.str0,.bool false,.str0,.bool false,.str0,.bool false,.str0,.bool false,.str0],[(0,4,true),(4,8,true),(12,4,true)],none⟩),
 (31,nfT),
 (32,nfT),
 (33,nfT),
 (34,⟨false,1,[.int .i64 0],[],none⟩),
 (36,nfT),
 (38,nfT),
 (40,nfT),
 (41,nfT),
 (42,nfT),
 (43,nfT),
 (44,nfT),
 (45,nfT),
 (46,nfT),
 (48,nfT),
 (49,nfT),
 (50,nfT),
 (51,nfT),
 (52,nfT),
 (53,nfT),
 (54,⟨true,24,[.bool false,.str0,.bool false,.str0,.bool false,.str0,.bool false,.str0,.bool false,.str0,.bool false,.str0,.bool false,.str0,.bool false,.str0,.bool false,.str0,.bool false,.str0,.bool false,.str0,.bool false,.str0],[],some (3,8,28)⟩),
 (55,nfT),
 (56,nfT),
 (57,nfT),
 (58,⟨true,9,[.bool false,.bool false,.str0,.bool false,.str0,.bool false,.str0,.bool false,.str0],[(0,1,false),(1,8,true)],none⟩),
 (59,⟨true,9,[.bool false,.bool false,.str0,.bool false,.str0,.bool false,.str0,.bool false,.str0],[(0,1,false),(1,8,true)],none⟩),
 (60,nfT),
 (61,nfT),
 (62,nfT),
 (63,⟨false,1,[.nils],[],some (0,8,28)⟩),
 (65,nfT),
 (66,nfT),
 (67,⟨true,33,[.bool false,.str0,.bool false,.str0,.bool false,.str0,.bool false,.str0,.bool false,.str0,.bool false,.str0,.bool false,.str0,.bool false,.str0,.bool false,.str0,.bool false,.str0,.bool false,.str0,.bool false,.str0,.bool false,.str0,.bool false,.str0,.bool false,.str0,.bool false,.str0,.bool false],[(0,8,true),(8,8,true),(16,8,true),(24,8,true),(32,1,false)],none⟩),
 (68,⟨true,33,[.bool false,.str0,.bool false,.str0,.bool false,.str0,.bool false,.str0,.bool false,.str0,.bool false,.str0,.bool false,.str0,.bool false,.str0,.bool false,.str0,.bool false,.str0,.bool false,.str0,.bool false,.str0,.bool false,.str0,.bool false,.str0,.bool false,.str0,.bool false,.str0,.bool false],[(0,8,true),(8,8,true),(16,8,true),(24,8,true),(32,1,false)],none⟩),
 (70,nfT),
 (72,nfT),
 (73,nfT),
 (74,nfT),
 (76,nfT),
 (77,nfT),
 (79,nfT),
 (80,nfT),
 (81,nfT),
 (82,⟨true,4,[.int .i64 0,.int .i64 0,.int .i64 0,.int .i64 0],[],some (4,1,2)⟩),
 (83,⟨true,14,[.nilf,.int .i64 0,.int .i64 0,.int .i64 0,.int .i64 0,.int .i64 0,.bool false,.str0,.bool false,.str0,.bool false,.str0,.bool false,.str0],[(0,1,false),(1,4,true),(5,1,false),(6,8,true)],none⟩),
 (84,⟨true,14,[.nilf,.int .i64 0,.int .i64 0,.int .i64 0,.int .i64 0,.int .i64 0,.bool false,.str0,.bool false,.str0,.bool false,.str0,.bool false,.str0],[(0,1,false),(1,4,true),(5,1,false),(6,8,true)],none⟩),
 (86,nfT),
 (87,⟨false,1,[.nilp],[],none⟩),
 (88,⟨true,4,[.nilp,.nilp,.nilp,.nilp],[],some (4,1,87)⟩),
 (89,⟨true,4,[.nilp,.nilp,.nilp,.nilp],[],some (4,1,87)⟩),
 (91,nfT),
 (92,nfT),
 (93,nfT),
 (94,nfT),
 (95,⟨true,2,[.nilp,.nilp],[(0,1,false),(1,1,false)],none⟩),
 (96,⟨true,2,[.nilp,.nilp],[(0,1,false),(1,1,false)],none⟩),
 (98,nfT),
 (99,nfT),
 (100,nfT),
 (101,nfT),
 (103,nfT),
 (104,nfT),
 (105,nfT),
 (106,nfT),
 (107,nfT),
 (108,nfT),
 (109,nfT),
 (110,nfT),
 (111,nfT),
 (113,nfT),
 (114,nfT),
 (115,⟨true,16,[.bool false,.str0,.bool false,.str0,.bool false,.str0,.bool false,.str0,.bool false,.str0,.bool false,.str0,.bool false,.str0,.bool false,.str0],[],some (4,4,26)⟩),
 (116,⟨true,16,[.bool false,.str0,.bool false,.str0,.bool false,.str0,.bool false,.str0,.bool false,.str0,.bool false,.str0,.bool false,.str0,.bool false,.str0],[],some (4,4,26)⟩),
 (117,nfT),
 (118,nfT),
 (119,nfT),
 (120,⟨false,1,[.nils],[],some (0,9,59)⟩),
 (122,nfT),
 (124,nfT),
 (125,nfT),
 (126,nfT),
 (127,⟨true,48,[.bool false,.str0,.bool false,.str0,.bool false,.str0,.bool false,.str0,.bool false,.str0,.bool false,.str0,.bool false,.str0,.bool false,.str0,.bool false,.str0,.bool false,.str0,.bool false,.str0,.bool false,.str0,.bool false,.str0,.bool false,.str0,.bool false,.str0,.bool false,.str0,.bool false,.str0,.bool false,.str0,.bool false,.str0,.bool false,.str0,.bool false,.str0,.bool false,.str0,.bool false,.str0,.bool false,.str0],[],some (3,16,116)⟩),
 (128,nfT),
 (129,nfT),
 (130,nfT),
 (131,⟨false,1,[.nils],[],some (0,2,96)⟩),
 (133,nfT),
 (134,⟨true,4,[.nilp,.nilp,.nilp,.nilp],[(0,1,false),(1,2,true),(3,1,false)],none⟩),
 (135,⟨true,4,[.nilp,.nilp,.nilp,.nilp],[(0,1,false),(1,2,true),(3,1,false)],none⟩),
 (137,nfT),
 (138,⟨false,1,[.nils],[],some (0,3,143)⟩),
 (140,nfT),
 (141,nfT),
 (142,⟨true,3,[.bool false,.nilp,.nilp],[(0,1,false),(1,2,true)],none⟩),
 (143,⟨true,3,[.bool false,.nilp,.nilp],[(0,1,false),(1,2,true)],none⟩),
 (144,nfT),
 (145,nfT),
 (146,nfT),
 (147,nfT),
 (148,nfT),
 (149,nfT),
 (150,nfT),
 (151,nfT),
 (152,nfT),
 (153,nfT),
 (154,nfT),
 (155,nfT),
 (156,⟨true,9,[.nilp,.nilp,.nilp,.nilp,.nilp,.nilp,.nilp,.nilp,.bool false],[(0,2,true),(2,2,true),(4,2,true),(6,2,true),(8,1,false)],none⟩),
 (157,⟨true,9,[.nilp,.nilp,.nilp,.nilp,.nilp,.nilp,.nilp,.nilp,.bool false],[(0,2,true),(2,2,true),(4,2,true),(6,2,true),(8,1,false)],none⟩),
 (159,nfT),
 (161,nfT),
 (162,nfT),
 (163,nfT),
 (164,nfT),
 (165,nfT),
 (166,nfT),
 (167,nfT),
 (169,nfT),
 (170,nfT),
 (171,⟨true,28,[.nilf,.int .i64 0,.int .i64 0,.int .i64 0,.int .i64 0,.int .i64 0,.bool false,.str0,.bool false,.str0,.bool false,.str0,.bool false,.str0,.nilf,.int .i64 0,.int .i64 0,.int .i64 0,.int .i64 0,.int .i64 0,.bool false,.str0,.bool false,.str0,.bool false,.str0,.bool false,.str0],[],some (2,14,84)⟩),
 (172,nfT),
 (173,nfT),
 (174,nfT),
 (175,nfT),
 (176,⟨false,1,[.nils],[],some (0,1,233)⟩),
 (177,⟨true,2,[.bool false,.nils],[(0,1,false),(1,1,false)],none⟩),
 (178,⟨true,2,[.bool false,.nils],[(0,1,false),(1,1,false)],none⟩),
 (179,⟨true,4,[.bool false,.nils,.bool false,.nils],[(0,2,true),(2,2,true)],none⟩),
 (180,⟨true,4,[.bool false,.nils,.bool false,.nils],[(0,2,true),(2,2,true)],none⟩),
 (181,⟨false,1,[.nils],[],some (0,4,89)⟩),
 (182,⟨true,3,[.int .i64 0,.int .i64 0,.int .i64 0],[],some (3,1,3)⟩),
 (183,nfT),
 (184,nfT),
 (185,nfT),
 (186,nfT),
 (187,nfT),
 (188,nfT),
 (189,nfT),
 (191,nfT),
 (192,nfT),
 (193,nfT),
 (194,nfT),
 (195,nfT),
 (196,nfT),
 (197,nfT),
 (198,nfT),
 (199,nfT),
 (200,nfT),
 (201,nfT),
 (202,nfT),
 (203,nfT),
 (204,nfT),
 (205,nfT),
 (207,nfT),
 (208,nfT),
 (209,nfT),
 (210,nfT),
 (211,nfT),
 (212,nfT),
 (213,nfT),
 (214,nfT),
 (216,nfT),
 (217,nfT),
 (218,nfT),
 (219,nfT),
 (220,⟨false,1,[.nils],[],some (0,1,5)⟩),
 (221,⟨false,1,[.nilp],[],none⟩),
 (222,nfT),
 (223,nfT),
 (224,nfT),
 (225,nfT),
 (226,⟨false,1,[.nilp],[],none⟩),
 (227,⟨true,9,[.nilp,.bool false,.str0,.bool false,.str0,.bool false,.str0,.bool false,.str0],[(0,1,false),(1,8,true)],none⟩),
 (228,⟨false,1,[.nils],[],some (0,9,227)⟩),
 (229,nfT),
 (230,nfT),
 (231,⟨false,1,[.int .u64 0],[],none⟩),
 (232,nfT),
 (233,⟨false,1,[.int .u32 0],[],none⟩),
 (234,nfT),
 (236,nfT),
 (237,nfT),
 (238,nfT),
 (239,nfT),
 (240,nfT),
 (241,nfT),
 (242,nfT),
 (243,nfT),
 (244,nfT),
 (245,nfT),
 (246,nfT),
 (247,⟨false,1,[.nils],[],some (0,1,87)⟩),
 (248,nfT),
 (249,nfT),
 (252,nfT),
 (253,nfT),
 (254,nfT),
 (255,nfT),
 (256,nfT),
 (257,⟨false,1,[.nilp],[],none⟩),
 (258,⟨true,3,[.nilp,.nilp,.nilp],[(0,1,false),(1,2,true)],none⟩),
 (259,⟨false,1,[.nils],[],some (0,3,258)⟩),
 (260,nfT),
 (262,nfT),
 (263,nfT),
 (264,nfT),
 (265,nfT),
 (266,nfT),
 (267,nfT),
 (268,nfT),
 (269,⟨false,1,[.int .u64 0],[],none⟩),
 (270,nfT),
 (271,nfT),
 (272,nfT),
 (273,nfT),
 (274,nfT),
 (275,nfT),
 (277,nfT),
 (278,nfT),
 (279,nfT),
 (281,nfT),
 (282,nfT),
 (284,nfT),
 (285,nfT),
 (286,nfT),
 (287,nfT),
 (288,⟨true,4,[.nilp,.nilp,.nilp,.str0],[(0,1,false),(1,1,false),(2,1,false),(3,1,false)],none⟩),
 (289,⟨true,4,[.nilp,.nilp,.nilp,.str0],[(0,1,false),(1,1,false),(2,1,false),(3,1,false)],none⟩),
 (290,⟨true,0,[],[],some (0,1,16)⟩),
 (291,⟨true,0,[],[(0,0,true)],none⟩),
 (292,⟨true,0,[],[(0,0,true)],none⟩),
 (293,⟨false,1,[.int .u8 0],[],none⟩),
 (294,⟨false,1,[.int .u8 0],[],none⟩),
 (295,nfT),
 (296,⟨false,1,[.nilp],[],none⟩),
 (297,⟨false,1,[.int .i32 0],[],none⟩),
 (298,⟨false,1,[.int .i32 0],[],none⟩),
 (299,⟨true,11,[.int .u64 0,.int .u64 0,.int .u32 0,.int .u8 0,.int .u8 0,.int .u8 0,.int .u8 0,.nilf,.nilp,.int .i32 0,.int .i32 0],[(0,1,false),(1,1,false),(2,1,false),(3,1,false),(4,1,false),(5,1,false),(6,1,false),(7,1,false),(8,1,false),(9,1,false),(10,1,false)],none⟩),
 (300,⟨true,11,[.int .u64 0,.int .u64 0,.int .u32 0,.int .u8 0,.int .u8 0,.int .u8 0,.int .u8 0,.nilf,.nilp,.int .i32 0,.int .i32 0],[(0,1,false),(1,1,false),(2,1,false),(3,1,false),(4,1,false),(5,1,false),(6,1,false),(7,1,false),(8,1,false),(9,1,false),(10,1,false)],none⟩),
 (301,nfT),
 (302,⟨false,1,[.nilp],[],none⟩)]
def Qai:∀ p∈tys,p.2.good prog p.1=true:=List.all_eq_true.1 (by kernel_rfl)
def Qap:prog.follows .mixedOrders=true:=by kernel_rfl
end Go.Proofs.YtcjjdooeogmdbaaGreat
namespace Go.Proofs.YtcjjdooeogmdbaaGreat
open Go Go.RowKit Tr Proofs.Tryz
def eo4:=Tr.enters_of func4 (by kernel_rfl)
def eo5:=Tr.enters_of func5 (by kernel_rfl)
def eo7:=Tr.enters_of func7 (by kernel_rfl)
def eo8:=Tr.enters_of func8 (by kernel_rfl)
def eo9:=Tr.enters_of func9 (by kernel_rfl)
def eo10:=Tr.enters_of func10 (by kernel_rfl)
def eo11:=Tr.enters_of func11 (by kernel_rfl)
def eo12:=Tr.enters_of func12 (by kernel_rfl)
def eo14:=Tr.enters_of func14 (by kernel_rfl)
def eo18:=Tr.enters_of func18 (by kernel_rfl)
def eo25:=Tr.enters_of func25 (by kernel_rfl)
def eo26:=Tr.enters_of func26 (by kernel_rfl)
def eo27:=Tr.enters_of func27 (by kernel_rfl)
def eo28:=Tr.enters_of func28 (by kernel_rfl)
def eo29:=Tr.enters_of func29 (by kernel_rfl)
def eo30:=Tr.enters_of func30 (by kernel_rfl)
def eo31:=Tr.enters_of func31 (by kernel_rfl)
def eo32:=Tr.enters_of func32 (by kernel_rfl)
def eo33:=Tr.enters_of func33 (by kernel_rfl)
def eo34:=Tr.enters_of func34 (by kernel_rfl)
def eo35:=Tr.enters_of func35 (by kernel_rfl)
def eo36:=Tr.enters_of func36 (by kernel_rfl)
def eo37:=Tr.enters_of func37 (by kernel_rfl)
def eo38:=Tr.enters_of func38 (by kernel_rfl)
def eo39:=Tr.enters_of func39 (by kernel_rfl)
def eo40:=Tr.enters_of func40 (by kernel_rfl)
def eo41:=Tr.enters_of func41 (by kernel_rfl)
def eo42:=Tr.enters_of func42 (by kernel_rfl)
def eo43:=Tr.enters_of func43 (by kernel_rfl)
def eo44:=Tr.enters_of func44 (by kernel_rfl)
def eo45:=Tr.enters_of func45 (by kernel_rfl)
def eo46:=Tr.enters_of func46 (by kernel_rfl)
def eo47:=Tr.enters_of func47 (by kernel_rfl)
def eo48:=Tr.enters_of func48 (by kernel_rfl)
def eo49:=Tr.enters_of func49 (by kernel_rfl)
def eo50:=Tr.enters_of func50 (by kernel_rfl)
def eo51:=Tr.enters_of func51 (by kernel_rfl)
def eo52:=Tr.enters_of func52 (by kernel_rfl)
def eo53:=Tr.enters_of func53 (by kernel_rfl)
def eo54:=Tr.enters_of func54 (by kernel_rfl)
def eo55:=Tr.enters_of func55 (by kernel_rfl)
def eo56:=Tr.enters_of func56 (by kernel_rfl)
def eo57:=Tr.enters_of func57 (by kernel_rfl)
def eo60:=Tr.enters_of func60 (by kernel_rfl)
def eo61:=Tr.enters_of func61 (by kernel_rfl)
def eo62:=Tr.enters_of func62 (by kernel_rfl)
def eo63:=Tr.enters_of func63 (by kernel_rfl)
def eo65:=Tr.enters_of func65 (by kernel_rfl)
def eo66:=Tr.enters_of func66 (by kernel_rfl)
def eo67:=Tr.enters_of func67 (by kernel_rfl)
def eo70:=Tr.enters_of func70 (by kernel_rfl)
def eo71:=Tr.enters_of func71 (by kernel_rfl)
def eo72:=Tr.enters_of func72 (by kernel_rfl)
def eo73:=Tr.enters_of func73 (by kernel_rfl)
def eo74:=Tr.enters_of func74 (by kernel_rfl)
def eo75:=Tr.enters_of func75 (by kernel_rfl)
def eo76:=Tr.enters_of func76 (by kernel_rfl)
def eo77:=Tr.enters_of func77 (by kernel_rfl)
def eo78:=Tr.enters_of func78 (by kernel_rfl)
def eo79:=Tr.enters_of func79 (by kernel_rfl)
def eo80:=Tr.enters_of func80 (by kernel_rfl)
def eo81:=Tr.enters_of func81 (by kernel_rfl)
def eo82:=Tr.enters_of func82 (by kernel_rfl)
def eo83:=Tr.enters_of func83 (by kernel_rfl)
def eo84:=Tr.enters_of func84 (by kernel_rfl)
def eo85:=Tr.enters_of func85 (by kernel_rfl)
def eo86:=Tr.enters_of func86 (by kernel_rfl)
def eo88:=Tr.enters_of func88 (by kernel_rfl)
def eo89:=Tr.enters_of func89 (by kernel_rfl)
def eo91:=Tr.enters_of func91 (by kernel_rfl)
def eo92:=Tr.enters_of func92 (by kernel_rfl)
def eo93:=Tr.enters_of func93 (by kernel_rfl)
def eo94:=Tr.enters_of func94 (by kernel_rfl)
def eo95:=Tr.enters_of func95 (by kernel_rfl)
def eo96:=Tr.enters_of func96 (by kernel_rfl)
def eo97:=Tr.enters_of func97 (by kernel_rfl)
def eo98:=Tr.enters_of func98 (by kernel_rfl)
def eo99:=Tr.enters_of func99 (by kernel_rfl)
def eo100:=Tr.enters_of func100 (by kernel_rfl)
def eo101:=Tr.enters_of func101 (by kernel_rfl)
def eo102:=Tr.enters_of func102 (by kernel_rfl)
def eo103:=Tr.enters_of func103 (by kernel_rfl)
def eo104:=Tr.enters_of func104 (by kernel_rfl)
def eo105:=Tr.enters_of func105 (by kernel_rfl)
def eo106:=Tr.enters_of func106 (by kernel_rfl)
def eo107:=Tr.enters_of func107 (by kernel_rfl)
def eo109:=Tr.enters_of func109 (by kernel_rfl)
def eo110:=Tr.enters_of func110 (by kernel_rfl)
def eo111:=Tr.enters_of func111 (by kernel_rfl)
def eo112:=Tr.enters_of func112 (by kernel_rfl)
def eo113:=Tr.enters_of func113 (by kernel_rfl)
def eo114:=Tr.enters_of func114 (by kernel_rfl)
def eo115:=Tr.enters_of func115 (by kernel_rfl)
def eo116:=Tr.enters_of func116 (by kernel_rfl)
def eo117:=Tr.enters_of func117 (by kernel_rfl)
def eo118:=Tr.enters_of func118 (by kernel_rfl)
def eo119:=Tr.enters_of func119 (by kernel_rfl)
def eo120:=Tr.enters_of func120 (by kernel_rfl)
def eo121:=Tr.enters_of func121 (by kernel_rfl)
def eo122:=Tr.enters_of func122 (by kernel_rfl)
def eo123:=Tr.enters_of func123 (by kernel_rfl)
def eo124:=Tr.enters_of func124 (by kernel_rfl)
def eo125:=Tr.enters_of func125 (by kernel_rfl)
def eo126:=Tr.enters_of func126 (by kernel_rfl)
def eo127:=Tr.enters_of func127 (by kernel_rfl)
def eo128:=Tr.enters_of func128 (by kernel_rfl)
def eo131:=Tr.enters_of func131 (by kernel_rfl)
def eo132:=Tr.enters_of func132 (by kernel_rfl)
def eo133:=Tr.enters_of func133 (by kernel_rfl)
def eo134:=Tr.enters_of func134 (by kernel_rfl)
def eo137:=Tr.enters_of func137 (by kernel_rfl)
def eo149:=Tr.enters_of func149 (by kernel_rfl)
def eo154:=Tr.enters_of func154 (by kernel_rfl)
def eo155:=Tr.enters_of func155 (by kernel_rfl)
def eo156:=Tr.enters_of func156 (by kernel_rfl)
def eo157:=Tr.enters_of func157 (by kernel_rfl)
def eo158:=Tr.enters_of func158 (by kernel_rfl)
def eo159:=Tr.enters_of func159 (by kernel_rfl)
def eo160:=Tr.enters_of func160 (by kernel_rfl)
def eo161:=Tr.enters_of func161 (by kernel_rfl)
def eo162:=Tr.enters_of func162 (by kernel_rfl)
def eo163:=Tr.enters_of func163 (by kernel_rfl)
def eo164:=Tr.enters_of func164 (by kernel_rfl)
def eo165:=Tr.enters_of func165 (by kernel_rfl)
def eo166:=Tr.enters_of func166 (by kernel_rfl)
def eo167:=Tr.enters_of func167 (by kernel_rfl)
def eo172:=Tr.enters_of func172 (by kernel_rfl)
def eo173:=Tr.enters_of func173 (by kernel_rfl)
def eo174:=Tr.enters_of func174 (by kernel_rfl)
def eo177:=Tr.enters_of func177 (by kernel_rfl)
def eo178:=Tr.enters_of func178 (by kernel_rfl)
def eo179:=Tr.enters_of func179 (by kernel_rfl)
def eo180:=Tr.enters_of func180 (by kernel_rfl)
def eo181:=Tr.enters_of func181 (by kernel_rfl)
def eo182:=Tr.enters_of func182 (by kernel_rfl)
def eo183:=Tr.enters_of func183 (by kernel_rfl)
def eo184:=Tr.enters_of func184 (by kernel_rfl)
def eo185:=Tr.enters_of func185 (by kernel_rfl)
def eo190:=Tr.enters_of func190 (by kernel_rfl)
def eo196:=Tr.enters_of func196 (by kernel_rfl)
def eo198:=Tr.enters_of func198 (by kernel_rfl)
def eo199:=Tr.enters_of func199 (by kernel_rfl)
def eo204:=Tr.enters_of func204 (by kernel_rfl)
def eo205:=Tr.enters_of func205 (by kernel_rfl)
def eo207:=Tr.enters_of func207 (by kernel_rfl)
def eo208:=Tr.enters_of func208 (by kernel_rfl)
def eo209:=Tr.enters_of func209 (by kernel_rfl)
def eo210:=Tr.enters_of func210 (by kernel_rfl)
def eo218:=Tr.enters_of func218 (by kernel_rfl)
def eo221:=Tr.enters_of func221 (by kernel_rfl)
def eo222:=Tr.enters_of func222 (by kernel_rfl)
def eo223:=Tr.enters_of func223 (by kernel_rfl)
def eo234:=Tr.enters_of func234 (by kernel_rfl)
def eo235:=Tr.enters_of func235 (by kernel_rfl)
def eo238:=Tr.enters_of func238 (by kernel_rfl)
def eo239:=Tr.enters_of func239 (by kernel_rfl)
def eo240:=Tr.enters_of func240 (by kernel_rfl)
def eo256:=Tr.enters_of func256 (by kernel_rfl)
end Go.Proofs.YtcjjdooeogmdbaaGreat
namespace Tr
def wv:List Nat->Nat
 | []=>0
 | x::l=>x+4294967296*wv l
def WOk(l:List Nat):Prop:=∀ x∈l,x<4294967296
def Kqq(l:List Nat):Prop:=∀ l' x,l=l'++[x]->x≠0
def Qad(n:Nat):List Nat:=if h:n=0 then[] else n%4294967296::Qad (n/4294967296)
termination_by n
decreasing_by omega
def Qax:Qad 0=[]:=by unfold Qad;rfl
def Qii{n:Nat}(h:n≠0):Qad n=n%4294967296::Qad (n/4294967296):=by
 rw[Qad,dif_neg h]
def Kvr:wv []=0:=rfl
def Qik(x:Nat)(l:List Nat):wv (x::l)=x+4294967296*wv l:=rfl
def Qaq(n:Nat):wv (Qad n)=n:=by
 induction n using Nat.strongRecOn with
 | ind n ih =>
  by_cases h:n=0
  .subst h;rw[Qax];rfl
  .rw[Qii h,Qik,ih (n/4294967296) (by omega)];omega
def Qhg:WOk []:=fun _ h=>by cases h
def Qet{x:Nat}{l:List Nat}:WOk (x::l)↔x<4294967296/\WOk l:=by
 unfold WOk;simp
def Qhf{a b:List Nat}:WOk (a++b)↔WOk a/\WOk b:=by
 unfold WOk;simp only[List.mem_append];exact⟨fun h=>⟨fun x hx=>h x (.inl hx),fun x hx=>h x (.inr hx)⟩,fun h x hx=>hx.elim (h.1 x) (h.2 x)⟩
def Qas(n:Nat):WOk (Qad n):=by
 induction n using Nat.strongRecOn with
 | ind n ih =>
  by_cases h:n=0
  .subst h;rw[Qax];exact Qhg
  .rw[Qii h,Qet];exact⟨Nat.mod_lt _ (by decide),ih (n/4294967296) (by omega)⟩
def Qcd{n:Nat}:Qad n=[]↔n=0:=by
 constructor
 .intro h
  by_cases h0:n=0
  .exact h0
  .rw[Qii h0] at h;cases h
 .rintro rfl;exact Qax
def Kvd:Kqq []:=fun l' x h=>by simp at h
def Qkm(n:Nat):Kqq (Qad n):=by
 induction n using Nat.strongRecOn with
 | ind n ih =>
  by_cases h:n=0
  .subst h;rw[Qax];exact Kvd
  .rw[Qii h];intro l' x hl;cases l' with
   | nil =>
    simp at hl;have:=Qcd.1 hl.2;omega
   | cons y l' =>
    simp at hl;exact ih (n/4294967296) (by omega) l' x hl.2
def Qjv(a b:List Nat):wv (a++b)=wv a+4294967296^a.length*wv b:=by
 induction a with
 | nil=>simp[wv]
 | cons x a ih =>
  rw[List.cons_append,Qik,Qik,ih,List.length_cons,Nat.pow_succ,Nat.mul_add,<-Nat.mul_assoc,Nat.mul_comm (4294967296^a.length)];omega
def Qil{l:List Nat}(h:WOk l):wv l<4294967296^l.length:=by
 induction l with
 | nil=>simp[wv]
 | cons x l ih =>
  obtain⟨hx,hl⟩:=Qet.1 h;have:=ih hl;rw[Qik,List.length_cons,Nat.pow_succ];omega
def Qul(l:List Nat)(x:Nat):wv (l++[x])=wv l+4294967296^l.length*x:=by
 rw[Qjv];simp[wv]
def Ubo{l:List Nat}(h:WOk l)(hn:Kqq l):Qad (wv l)=l:=by
 induction l with
 | nil=>exact Qax
 | cons x l ih =>
  obtain⟨hx,hl⟩:=Qet.1 h;have hn':Kqq l:=fun l' y e=>hn (x::l') y (by rw[e];rfl)
  have ih':=ih hl hn'
  by_cases h0:wv (x::l)=0
  .exfalso;rw[Qik] at h0;have h1:x=0:=by omega
   have h2:wv l=0:=by omega
   rw[h2,Qax] at ih';subst ih';exact hn [] x rfl h1
  .rw[Qii h0,Qik];have e1:(x+4294967296*wv l)%4294967296=x:=by omega
   have e2:(x+4294967296*wv l)/4294967296=wv l:=by omega
   rw[e1,e2,ih']
def Kve{l:List Nat}{n:Nat}(h:WOk l)(hn:Kqq l)(hv:wv l=n):l=Qad n:=by rw[<-hv,Ubo h hn]
def Klt{l:List Nat}(h:∀ x∈l,x=0):wv l=0:=by
 induction l with
 | nil=>rfl
 | cons x l ih =>
  rw[Qik,h x (by simp),ih (fun y hy=>h y (by simp[hy]))]
def Qxd{l:List Nat}{k:Nat}(hk:k<=l.length)(h:WOk l)(hz:∀ j,k<=j->j<l.length->l[j]?.getD 0=0)(hl:k=0\/l[k-1]?.getD 0≠0) :
  l.take k=Qad (wv l):=by
 have hsplit:=(List.take_append_drop k l).symm;have hd:wv (l.drop k)=0:=by
  refine Klt fun x hx=>?_
  obtain⟨i,hi,rfl⟩:=List.getElem_of_mem hx;simp at hi;have:=hz (k+i) (by omega) (by omega);rw[List.getElem?_eq_getElem (by omega)] at this;simpa using this
 have hv:wv (l.take k)=wv l:=by
  rw[hsplit,Qjv,hd];simp
 refine Kve (fun x hx=>h x (List.mem_of_mem_take hx)) ?_ hv;intro l' x e;rcases hl with rfl|hl
 .simp at e
 .have hlen:(l.take k).length=k:=by simp;omega
  have h2:l'.length+1=k:=by rw[<-hlen,e];simp
  have h3:(l.take k)[k-1]?=some x:=by rw[e,show k-1=l'.length by omega];simp
  rw[List.getElem?_take_of_lt (by omega)] at h3;rw[h3] at hl;simpa using hl
def Qak{n k:Nat}(h:n<4294967296^k):(Qad n).length<=k:=by
 induction k generalizing n with
 | zero=>simp at h;subst h;rw[Qax];simp
 | succ k ih =>
  by_cases h0:n=0
  .subst h0;rw[Qax];simp
  .rw[Qii h0,List.length_cons];have:=ih (n:=n/4294967296) (by rw[Nat.pow_succ] at h;exact Nat.div_lt_of_lt_mul (by rw[Nat.mul_comm];exact h));omega
def Qtz{n k:Nat}(h:4294967296^k<=n):k<(Qad n).length:=by
 rcases Nat.lt_or_ge k (Qad n).length with h1|h1
 .exact h1
 .have:=Qil (Qas n);rw[Qaq] at this;have:=Nat.pow_le_pow_right (show 0<4294967296 by decide) h1;omega
def Qcc(n:Nat):n<4294967296^(Qad n).length:=by
 have:=Qil (Qas n);rwa[Qaq] at this
def Qgh(a b:Nat):Int:=if a<b then -1 else if b<a then 1 else 0
def Qed{a b:Nat}(h:(Qad a).length<(Qad b).length):a<b:=by
 rcases Nat.lt_or_ge a b with h1|h1
 .exact h1
 .have:=Qak (n:=b) (k:=(Qad a).length) (Nat.lt_of_le_of_lt h1 (Qcc a));omega
def Qmi{l:List Nat}{i:Nat}(h:i<l.length):wv l=wv (l.take i)+4294967296^i*(l[i]+4294967296*wv (l.drop (i+1))):=by
 have h1:l=l.take i++(l[i]::l.drop (i+1)):=by
  rw[<-List.drop_eq_getElem_cons h,List.take_append_drop]
 have h2:(l.take i).length=i:=by simp;omega
 conv=>lhs;rw[h1]
 rw[Qjv,Qik,h2]
def Qwl{a b:List Nat}{i:Nat}(ha:WOk a)(hi:i<a.length)(hj:i<b.length)(hd:a.drop (i+1)=b.drop (i+1))(h:a[i]<b[i]):wv a<wv b:=by
 rw[Qmi hi,Qmi hj,hd];have h1:=Qil (l:=a.take i) (fun x hx=>ha x (List.mem_of_mem_take hx));have h2:(a.take i).length=i:=by simp;omega
 rw[h2] at h1;generalize 4294967296^i=P at *
 have h3:P*(a[i]+4294967296*wv (b.drop (i+1)))+P<=P*(b[i]+4294967296*wv (b.drop (i+1))):=by
  rw[<-Nat.mul_succ];exact Nat.mul_le_mul_left _ (by omega)
 omega
def Uop{l:List Nat}{i:Nat}(h:i<l.length)(x:Nat):wv (l.set i x)+4294967296^i*l[i]=wv l+4294967296^i*x:=by
 have h1:=Qmi (l:=l.set i x) (i:=i) (by simpa using h);have h2:=Qmi h;rw[List.take_set_of_le (Nat.le_refl i),List.drop_set_of_lt (by omega),List.getElem_set_self] at h1;rw[h1,h2,Nat.mul_add,Nat.mul_add];omega
def Qdb{l:List Nat}(h:WOk l)(i x:Nat)(hx:x<4294967296):WOk (l.set i x):=by
 intro y hy;rcases List.mem_or_eq_of_mem_set hy with h1|rfl
 .exact h y h1
 .exact hx
def Uhn{l:List Nat}(h:WOk l){i:Nat}(hi:i<l.length):l[i]<4294967296:=h _ (List.getElem_mem hi)
def Qfs{l:List Nat}(h:WOk l)(k:Nat):WOk (l.take k):=fun x hx=>h x (List.mem_of_mem_take hx)
def Qkn{l:List Nat}(h:WOk l)(k:Nat):WOk (l.drop k):=fun x hx=>h x (List.mem_of_mem_drop hx)
def Qbr(n:Nat):WOk (List.replicate n 0):=fun x hx=>by simp at hx;omega
def Qfa(n:Nat):wv (List.replicate n 0)=0:=Klt fun x hx=>by simp at hx;exact hx.2
def Kem{l:List Nat}{i:Nat}(h:i<l.length):wv (l.take (i+1))=wv (l.take i)+4294967296^i*l[i]:=by
 rw[List.take_succ_eq_append_getElem h,Qul];have h2:(l.take i).length=i:=by simp;omega
 rw[h2]
def Khi{l:List Nat}{i:Nat}(h:i<l.length):wv (l.drop i)=l[i]+4294967296*wv (l.drop (i+1)):=by
 rw[List.drop_eq_getElem_cons h,Qik]
def wat(l:List Nat)(i:Nat):Nat:=l[i]?.getD 0
def Qci{l:List Nat}(h:WOk l)(i:Nat):wat l i<4294967296:=by
 unfold wat
 by_cases hi:i<l.length
 .rw[List.getElem?_eq_getElem hi];exact Uhn h hi
 .rw[List.getElem?_eq_none (by omega)];decide
def Qxf{l:List Nat}{i:Nat}(h:i<l.length):wat l i=l[i]:=by unfold wat;rw[List.getElem?_eq_getElem h];rfl
def Qih{l:List Nat}{i:Nat}(h:l.length<=i):wat l i=0:=by unfold wat;rw[List.getElem?_eq_none h];rfl
def Qfd(l:List Nat)(i:Nat):wv (l.take (i+1))=wv (l.take i)+4294967296^i*wat l i:=by
 by_cases h:i<l.length
 .rw[Kem h,Qxf h]
 .rw[Qih (by omega),List.take_of_length_le (by omega),List.take_of_length_le (by omega)];simp
def Qzy{l:List Nat}{i:Nat}(h:i<l.length)(x:Nat):(l.set i x).take (i+1)=l.take i++[x]:=by
 rw[List.take_succ_eq_append_getElem (by simpa using h),List.take_set_of_le (Nat.le_refl i),List.getElem_set_self]
def Qim{l:List Nat}{i:Nat}(h:i<l.length)(x:Nat):wv ((l.set i x).take (i+1))=wv (l.take i)+4294967296^i*x:=by
 rw[Qzy h,Qul];have h2:(l.take i).length=i:=by simp;omega
 rw[h2]
def Qsw(P s:Nat):P*(s%4294967296)+P*4294967296*(s/4294967296)=P*s:=by
 have:P*s=P*(s%4294967296+4294967296*(s/4294967296)):=by rw[Nat.mod_add_div]
 rw[this,Nat.mul_add,Nat.mul_assoc]
def Qjo{out la lb:List Nat}{i c:Nat}(ho:i<out.length)(h:wv (out.take i)+4294967296^i*c=wv (la.take i)+wv (lb.take i)) :
  wv ((out.set i ((c+wat la i+wat lb i)%4294967296)).take (i+1))+4294967296^(i+1)*((c+wat la i+wat lb i)/4294967296)=wv (la.take (i+1))+wv (lb.take (i+1)):=by
 rw[Qim ho,Qfd,Qfd,Nat.pow_succ];have:=Qsw (4294967296^i) (c+wat la i+wat lb i);rw[Nat.mul_add,Nat.mul_add] at this;omega
def Kjg{out la lb:List Nat}{n c:Nat}(ho:out.length=n+1)(ha:la.length=n)(hb:lb.length<=n)(h:wv (out.take n)+4294967296^n*c=wv (la.take n)+wv (lb.take n)) :
  wv (out.set n c)=wv la+wv lb:=by
 have e:=Qim (l:=out) (i:=n) (by omega) c;rw[List.take_of_length_le (by simp;omega)] at e;rw[e,h,List.take_of_length_le (by omega),List.take_of_length_le hb]
def Qsu{out la lb:List Nat}{i c d:Nat}(ho:i<out.length){e:Nat}(he:wat la i+4294967296*e=d+wat lb i+c)(h:wv (out.take i)+wv (lb.take i)=wv (la.take i)+4294967296^i*c) :
  wv ((out.set i d).take (i+1))+wv (lb.take (i+1))=wv (la.take (i+1))+4294967296^(i+1)*e:=by
 rw[Qim ho,Qfd,Qfd,Nat.pow_succ,Nat.mul_assoc];generalize 4294967296^i=P at *
 have:P*(wat la i+4294967296*e)=P*(d+wat lb i+c):=by rw[he]
 rw[Nat.mul_add,Nat.mul_add,Nat.mul_add] at this;omega
def Kjf{out la lb:List Nat}{n c:Nat}(ho:out.length=n)(oo:WOk out)(ha:la.length=n)(hb:lb.length<=n)(hle:wv lb<=wv la)(h:wv (out.take n)+wv (lb.take n)=wv (la.take n)+4294967296^n*c):wv out=wv la-wv lb:=by
 rw[List.take_of_length_le (by omega),List.take_of_length_le hb,List.take_of_length_le (by omega)] at h;have h1:=Qil oo;rw[ho] at h1;have hc:c=0:=by
  rcases Nat.eq_zero_or_pos c with h0|h0
  .exact h0
  .have:4294967296^n*1<=4294967296^n*c:=Nat.mul_le_mul_left _ h0;omega
 subst hc;omega
end Tr
namespace Go.Proofs.YtcjjdooeogmdbaaGreat
open Go.RowKit Tr Proofs.Tryz
def WSl(w:World)(v:Value)(l:List Nat):Prop :=
 ∃ p cap,v=.slice p l.length cap/\l.length<=cap/\(l≠[]->∃ b off,p=some ⟨b,off,none⟩/\b<w.heap.size/\∀ j,j<l.length->w.cell? ⟨b,off+j,none⟩=some (.int .u32 (l[j]?.getD 0:Nat)))
def WSl.nil(w:World):WSl w (.slice none 0 0) []:=⟨none,0,rfl,Nat.le_refl _,fun h=>absurd rfl h⟩
def WSl.below{w w':World}(hb:Below w.heap.size w w'){v:Value}{l:List Nat}(h:WSl w v l):WSl w' v l:=by
 obtain⟨p,cap,hv,hl,hc⟩:=h;refine⟨p,cap,hv,hl,fun hne=>?_⟩;obtain⟨b,off,hp,hbs,hcs⟩:=hc hne;exact⟨b,off,hp,Nat.lt_of_lt_of_le hbs hb.size,fun j hj=>(hb.cell (p:=⟨b,off+j,none⟩) hbs).trans (hcs j hj)⟩
def WSl.drewN{w:World}{v:Value}{l:List Nat}(h:WSl w v l)(n:Nat):WSl (w.drewN n) v l:=h
def Qmo(l:List Nat):Array Value:=(l.map fun x:Nat=>Value.int .u32 (x:Int)).toArray
def Kdt(l:List Nat):(Qmo l).size=l.length:=by simp[Qmo]
def Blk(w:World)(B:Nat)(l:List Nat):Prop:=w.heap[B]?=some (.cells (Qmo l) 233 (0,0))
def Blk.cell{w:World}{B:Nat}{l:List Nat}(h:Blk w B l){i:Nat}(hi:i<l.length):w.cell? ⟨B,i,none⟩=some (.int .u32 (l[i]?.getD 0:Nat)):=by
 unfold Blk at h;simp[World.cell?,h,Qmo,hi]
def Blk.frozen{w:World}{B:Nat}{l:List Nat}(h:Blk w B l)(i:Nat):w.frozen? ⟨B,i,none⟩=false:=by
 unfold Blk at h;simp[World.frozen?,h]
def Blk.set{w:World}{B:Nat}{l:List Nat}(h:Blk w B l)(i x:Nat):Blk (w.setCell ⟨B,i,none⟩ (.int .u32 (x:Int))) B (l.set i x):=by
 unfold Blk at *
 simp only[World.setCell,Array.getElem?_modify,if_true,h,Option.map_some];simp[Qmo,List.map_set]
def Blk.lt{w:World}{B:Nat}{l:List Nat}(h:Blk w B l):B<w.heap.size:=(Array.getElem?_eq_some_iff.1 h).1
def Blk.drewN{w:World}{B:Nat}{l:List Nat}(h:Blk w B l)(n:Nat):Blk (w.drewN n) B l:=h
def Blk.new(w:World)(l:List Nat):Blk (w.alloc (.cells (Qmo l) 233)) w.heap.size l:=heap_alloc_new w _
def Blk.below{w w':World}{B:Nat}{l:List Nat}(h:Blk w B l)(hb:Below w.heap.size w w'):Blk w' B l:=(hb.block B h.lt).trans h
def Blk.wsl{w:World}{B:Nat}{l:List Nat}(h:Blk w B l){k cap:Nat}(hk:k<=l.length)(hc:k<=cap):WSl w (.slice (some ⟨B,0,none⟩) k cap) (l.take k):=by
 have hl:(l.take k).length=k:=by simp;omega
 refine⟨some ⟨B,0,none⟩,cap,by rw[hl],by omega,fun _=>⟨B,0,rfl,h.lt,fun j hj=>?_⟩⟩;rw[hl] at hj;rw[Nat.zero_add,h.cell (by omega),List.getElem?_take_of_lt hj]
def Qiv:((prog).info? 233).map (fun i=>(i.zero,i.size,i.bytes))=some (some (.int .u32 0),1,4):=by kernel_rfl
def Kch(n:Nat):madeCells (Value.int .u32 0).cells (n*1)=Qmo (List.replicate n 0):=by
 apply Array.ext
 .simp[madeCells,Qmo]
 .intro i h1 h2;have e:i%1=0:=Nat.mod_one i;simp[madeCells,Qmo,Value.cells,e]
def Qhs(n:Nat)(hn:n<4398046511104)(w:World):(Instr.makeSlice 176 (.int .i64 (n:Int)) (.int .i64 (n:Int))).run prog w
  = .ok (.slice (some ⟨w.heap.size,0,none⟩) n n) (w.alloc (.cells (Qmo (List.replicate n 0)) 233)):=by
 obtain⟨i,hi,hz,hs,hb⟩:=info_parts Qiv;have:=run_make (P:=prog) w 176 233 i (.int .u32 0) Tryz.underlying176 hi hz .i64 .i64 n n (by omega) (Int.le_refl _) (by rw[hb];omega) (by omega);rw[this,hs,Int.toNat_natCast,Kch]
