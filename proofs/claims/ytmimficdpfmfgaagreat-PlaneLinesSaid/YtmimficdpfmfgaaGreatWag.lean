/- Laws. -/
import Derived.Test.YtmimficdpfmfgaaGreatWaf
import Derived.Test.YtmimficdpfmfgaaGreatChecked
import Derived.Test.YtmimficdpfmfgaaGreatRows
import Derived.WalkSpells
import Derived.Lib.Hide
set_option linter.all false
set_option maxHeartbeats 4000000
set_option maxRecDepth 100000
open Go.Lib (hid)
namespace Tr
open Go Go.RowKit
def PureC(P:Program)(f:FuncId)(vs:List Value)(v:Value):Prop:=∀ w,Calls P f vs.toArray w fun e w'=>e=.returned v/\Below w.heap.size w w'
def enters_of {P : Program} {f : FuncId} {fn : Func} (hf : P.funcs[f]? = some fn) (h : (!(fn.name == "runtime.NumGoroutine") && fn.body.isSome) = true) : Enters P f := by
 intro args w;simp only[Bool.and_eq_true,Bool.not_eq_true'] at h;obtain⟨h1,h2⟩:=h;have h3:fn.body.isNone=false:=by cases hb:fn.body<;>simp[hb] at h2 ⊢
 simp only[callFunc,Sem.run_bind,run_program,Result.andThen_ok,hf,h1,h3,Bool.false_eq_true,if_false,Sem.run_pure]
structure GF where
 R:Qcq
 int:Bool
 keeps:R.Keeps
 cell:∀ v w A,R v w A->v.oneCell'=true
 noint:int=false->∀ v w A,R v w A->∀(k:Unit) (x:Int),v≠.int .u32 x
 ex:Option Value
 exact:∀ u,ex=some u->∀ v w A,R v w A↔v=u
def Uou:Value->Bool|.int .u32 _=>true|_=>false
def gx(u:Value)(h:u.oneCell'=true:=by rfl):GF where
 R:=fun v _ _=>v=u
 int:=Uou u
 keeps:=fun _ _ _ _ _ _ _ h=>h
 cell:=fun v _ _ e=>by rw[show v=u from e];exact h
 noint:=fun hi v _ _ e k x e2=>by rw[show v=u from e] at e2;rw[e2] at hi;cases hi
 ex:=some u
 exact:=fun u' e v w A=>by cases e;exact Iff.rfl
def g0:GF:=gx (.bool false)
def gT(L:List GF)(i:Nat):Qcq:=(L.getD i g0).R
def gI(L:List GF)(i:Nat):Bool:=(L.getD i g0).int
def AC.gv(L:List GF):AC->Option Value
 | .sym i=>(L.getD i g0).ex
 | .lit l=>some l.val
 | _=>none
def Utj(L:List GF):List AC->Option (List Value)
 | []=>some []
 | x::l=>match x.gv L,Utj L l with|some v,some vs=>some (v::vs)|_,_=>none
def AR.gv(L:List GF):AR->Option Value
 | .c x=>x.gv L
 | .row l=>match Utj L l with|some vs=>some (.agg vs.toArray)|none=>none
def Ukt(L:List GF):List AR->Option (List Value)
 | []=>some []
 | x::l=>match x.gv L,Ukt L l with|some v,some vs=>some (v::vs)|_,_=>none
def AV.gv(L:List GF):AV->Option Value
 | .r x=>x.gv L
 | .tup l=>match Ukt L l with|some vs=>some (.tuple vs.toArray)|none=>none
 | .undf=>some undef
 | .junk=>none
section
variable{P:Program}{L:List GF}{hp:Bool}{σ:Sg}{w:World}{A:Nat->Prop}
def AC.gv_ok{x:AC}{u v:Value}(h:x.gv L=some u):x.ok (gT L) σ v w A↔v=u:=by
 cases x with
 | sym i=>exact(L.getD i g0).exact u h v w A
 | lit l=>cases h;exact Iff.rfl
 | own b o=>cases h
 | sl b o n c=>cases h
 | sg b o n=>cases h
 | fn f a b=>cases h
def Kdj:∀{l:List AC} {us vs:List Value},Utj L l=some us->(oks (gT L) σ l vs w A↔vs=us)
 | [],us,vs,h=>by cases h;cases vs<;>simp[oks]
 | x::l,us,vs,h=>by
  unfold Utj at h
  split at h
  .rename_i u r h1 h2;cases h;cases vs with
   | nil=>simp[oks]
   | cons v vs=>simp only[oks,AC.gv_ok h1,Kdj h2,List.cons.injEq]
  .cases h
def AR.gv_ok{x:AR}{u v:Value}(h:x.gv L=some u):x.ok (gT L) σ v w A↔v=u:=by
 cases x with
 | c x=>exact AC.gv_ok (x:=x) h
 | row l =>
  unfold AR.gv at h;simp only at h
  split at h
  .rename_i vs h1;cases h;constructor
   .rintro⟨us,rfl,h2⟩;rw[(Kdj h1).1 h2]
   .rintro rfl;exact⟨_,rfl,(Kdj h1).2 rfl⟩
  .cases h
def Qoh:∀{l:List AR} {us vs:List Value},Ukt L l=some us->(okr (gT L) σ l vs w A↔vs=us)
 | [],us,vs,h=>by cases h;cases vs<;>simp[okr]
 | x::l,us,vs,h=>by
  unfold Ukt at h
  split at h
  .rename_i u r h1 h2;cases h;cases vs with
   | nil=>simp[okr]
   | cons v vs=>simp only[okr,AR.gv_ok h1,Qoh h2,List.cons.injEq]
  .cases h
def AV.gv_ok{x:AV}{u v:Value}(h:x.gv L=some u):x.ok (gT L) σ v w A↔v=u:=by
 cases x with
 | r x=>exact AR.gv_ok (x:=x) h
 | tup l =>
  unfold AV.gv at h;simp only at h
  split at h
  .rename_i vs h1;cases h;constructor
   .rintro⟨us,rfl,h2⟩;rw[(Qoh h1).1 h2]
   .rintro rfl;exact⟨_,rfl,(Qoh h1).2 rfl⟩
  .cases h
 | undf=>cases h;exact Iff.rfl
 | junk=>cases h
end
structure GC(P:Program)(L:List GF)(hp:Bool) where
 cs:CS
 ent:Enters P cs.f
 ok:cs.Ok P (gT L) hp
structure GB(P:Program)(L:List GF) where
 bs:BS
 ok:bs.Ok P (gT L)
structure GO(P:Program)(L:List GF) where
 os:OS
 ok:os.Ok P (gT L)
section
variable{P:Program}{L:List GF}{hp:Bool}
def gp(f:FuncId)(args:List AR)(res:AV)(ent:Enters P f){vs:List Value}{v:Value}(h:PureC P f vs v)(ha:Ukt L args=some vs:=by rfl)(hr:res.gv L=some v:=by rfl):GC P L hp :=
 ⟨{ f,args,res },ent,fun σ w A us _ _ hu _=>by
  have e:us=vs:=(Qoh ha).1 hu;subst e;exact(h w).mono fun r w' h=>⟨v,h.1,(AV.gv_ok hr).2 rfl,h.2⟩⟩
def gb(op:BinOp)(t:TypeId)(x y:AR)(res:AC){vx vy v:Value}(h:∀ xo yo w,(do eqGuard op t xo yo vx vy;binOp op t vx vy:Sem Value).run P w=.ok v w)(hx:x.gv L=some vx:=by rfl)(hy:y.gv L=some vy:=by rfl)(hr:res.gv L=some v:=by rfl):GB P L :=
 ⟨{ op,t,x,y,res },fun σ w A ux uy xo yo h1 h2=>by
  have e1:ux=vx:=(AR.gv_ok hx).1 h1;have e2:uy=vy:=(AR.gv_ok hy).1 h2;subst e1;subst e2;exact⟨v,h xo yo w,(AC.gv_ok hr).2 rfl⟩⟩
def gm1(f:FuncId)(x:AR)(res:AV)(ent:Enters P f)(h:∀(w:World) (A:Nat->Prop) (u:Value),(hp=true->Rcv A w)->x.ok (gT L) σ0 u w A->Calls P f #[u] w fun r w'=>∃ v,r=.returned v/\res.ok (gT L) σ0 v w' A/\Below w.heap.size w w')(hx:(x.noown&&res.noown)=true:=by rfl):GC P L hp :=
 ⟨{ f,args:=[x],res },ent,fun σ w A us hR _ hu _=>by
  simp only[Bool.and_eq_true] at hx
  match us,hu with
  | [u],hu=>exact(h w A u hR (AR.ok_noown hx.1 hu.1)).mono fun r w' ⟨v,h1,h2,h3⟩=>⟨v,h1,AV.ok_noown hx.2 h2,h3⟩⟩
def gm2(f:FuncId)(x y:AR)(res:AV)(ent:Enters P f)(h:∀(w:World) (A:Nat->Prop) (u v:Value),(hp=true->Rcv A w)->x.ok (gT L) σ0 u w A->y.ok (gT L) σ0 v w A->Calls P f #[u,v] w fun r w'=>∃ v,r=.returned v/\res.ok (gT L) σ0 v w' A/\Below w.heap.size w w')(hx:(x.noown&&y.noown&&res.noown)=true:=by rfl):GC P L hp :=
 ⟨{ f,args:=[x,y],res },ent,fun σ w A us hR _ hu _=>by
  simp only[Bool.and_eq_true] at hx
  match us,hu with
  | [u,v],hu=>exact(h w A u v hR (AR.ok_noown hx.1.1 hu.1) (AR.ok_noown hx.1.2 hu.2.1)).mono fun r w' ⟨v,h1,h2,h3⟩=>⟨v,h1,AV.ok_noown hx.2 h2,h3⟩⟩
def Qum(f:FuncId)(x y:AR)(res:AV)(ent:Enters P f){v:Value}(h:∀(w:World) (A:Nat->Prop) (u v':Value),(hp=true->Rcv A w)->x.ok (gT L) σ0 u w A->y.ok (gT L) σ0 v' w A->Calls P f #[u,v'] w fun r w'=>r=.returned v/\Below w.heap.size w w')(hx:(x.noown&&y.noown)=true:=by rfl)(hr:res.gv L=some v:=by rfl):GC P L hp :=
 ⟨{ f,args:=[x,y],res },ent,fun σ w A us hR _ hu _=>by
  simp only[Bool.and_eq_true] at hx
  match us,hu with
  | [u,v'],hu=>exact(h w A u v' hR (AR.ok_noown hx.1 hu.1) (AR.ok_noown hx.2 hu.2.1)).mono fun r w' ⟨h1,h3⟩=>⟨v,h1,(AV.gv_ok hr).2 rfl,h3⟩⟩
def Udg{T:Nat->Qcq}(cx:Cx)(h:cx.inl=fun _ _ _ _ _=>none):Ufh P T cx:=by
 intro A0 M w0 σs σ s a w R f args vs bl new r ws rd h1 h2 h3;rw[h] at h3;cases h3
def gcx(tys:List (TypeId×TyI))(hp:Bool)(L:List GF)(C:List (GC P L hp))(B:List (GB P L))(O:List (GO P L)):Cx:={ tys,calls:=C.map GC.cs,bins:=B.map GB.bs,others:=O.map GO.os,hp,ints:=gI L }
def Qps{tys:List (TypeId×TyI)}(ht:∀ p∈tys,p.2.good P p.1=true)(C:List (GC P L hp))(B:List (GB P L))(O:List (GO P L)):Qoa P (gT L) (gcx tys hp L C B O):=by
 refine⟨⟨fun i=>(L.getD i g0).keeps,fun i=>(L.getD i g0).cell,fun i=>(L.getD i g0).noint⟩,ht,fun e he=>?_,fun e he=>?_,fun e he=>?_,fun e he=>?_,Udg _ rfl⟩
 .obtain⟨p,_,rfl⟩:=List.mem_map.1 he;exact p.ok
 .obtain⟨p,_,rfl⟩:=List.mem_map.1 he;exact p.ent
 .obtain⟨p,_,rfl⟩:=List.mem_map.1 he;exact p.ok
 .obtain⟨p,_,rfl⟩:=List.mem_map.1 he;exact p.ok
def Uct{tys:List (TypeId×TyI)}(ht:∀ p∈tys,p.2.good P p.1=true)(hm:P.follows .mixedOrders=true)(C:List (GC P L hp))(B:List (GB P L))(O:List (GO P L)){f:FuncId}{fn:Func}(hf:P.funcs[f]?=some fn)(fuel:Nat)(args:List AR)(res:AV)
  (hev:evF (gcx tys hp L C B O) fn fuel args res=true) (w:World) (A:Nat->Prop) (vs:List Value) (hR:hp=true->Rcv A w) (hA:∀ n,A n->n<w.heap.size) (hargs:okr (gT L) σ0 args vs w A) :
  Calls P f vs.toArray w fun r w'=>∃ v,r=.returned v/\res.ok (gT L) σ0 v w' A/\Below w.heap.size w w' :=
 Kdv (Qps ht C B O) hm hf fuel hev (fun k hk=>by cases hk) (fun c _ x _ k hk=>by cases hk) σ0 w A vs hR hA hargs
def Qyh(w:World):Rcv NoA w:=fun _ h=>h.elim
def Qaw{tys:List (TypeId×TyI)}(ht:∀ p∈tys,p.2.good P p.1=true)(hm:P.follows .mixedOrders=true)(C:List (GC P L hp))(B:List (GB P L))(O:List (GO P L)){f:FuncId}{fn:Func}(hf:P.funcs[f]?=some fn)(fuel:Nat)(args:List AR)(res:AV)
  (hev:evF (gcx tys hp L C B O) fn fuel args res=true) {vs:List Value} {v:Value} (ha:Ukt L args=some vs:=by rfl) (hr:res.gv L=some v:=by rfl):PureC P f vs v:=fun w =>
 (Uct ht hm C B O hf fuel args res hev w NoA vs (fun _=>Qyh w) (fun _ h=>h.elim) ((Qoh ha).2 rfl)).mono fun r w' ⟨u,h1,h2,h3⟩=>⟨by rw[h1,(AV.gv_ok hr).1 h2],h3⟩
def AC.gn(L:List GF)(b n:Nat):AC->Option Value
 | .own c o=>if c==b then some (.pointer (some ⟨n,o,none⟩)) else none
 | .sl c o k cap=>if c==b then some (.slice (some ⟨n,o,none⟩) k cap) else none
 | x=>x.gv L
def AR.gn(L:List GF)(b n:Nat):AR->Option Value
 | .c x=>x.gn L b n
 | .row l=>AR.gv L (.row l)
end
end Tr
namespace Go.Proofs.YtmimficdpfmfgaaGreat
open Go.RowKit Tr Proofs.Tryz
def nfT:TyI:=⟨false,1,[.nilf],[],none⟩
def tys:List (TypeId×TyI):=[
 (1,nfT),
 (2,⟨false,1,[.int .i64 0],[],none⟩),
 (3,⟨false,1,[.int .i64 0],[],none⟩),
 (4,⟨false,1,[.bool false],[],none⟩),
 (5,⟨false,1,[.int .u8 0],[],none⟩),
 (6,⟨false,1,[.int .u8 0],[],none⟩),
 (7,⟨true,4,[.int .i64 0,.int .i64 0,.bool false,.int .u8 0],[(0,1,false),(1,1,false),(2,1,false),(3,1,false)],none⟩),
 (8,⟨true,4,[.int .i64 0,.int .i64 0,.bool false,.int .u8 0],[(0,1,false),(1,1,false),(2,1,false),(3,1,false)],none⟩),
 (9,⟨false,1,[.str0],[],none⟩),
 (10,⟨false,1,[.str0],[],none⟩),
 (11,⟨false,1,[.str0],[],none⟩),
 (12,⟨false,1,[.int .u64 0],[],none⟩),
 (13,⟨true,2,[.str0,.int .u64 0],[(0,1,false),(1,1,false)],none⟩),
 (14,⟨true,2,[.str0,.int .u64 0],[(0,1,false),(1,1,false)],none⟩),
 (15,⟨false,1,[.nilp],[],none⟩),
 (16,⟨false,1,[.nilp],[],none⟩),
 (17,⟨false,1,[.nilp],[],none⟩),
 (18,⟨true,1,[.nilp],[(0,1,false)],none⟩),
 (19,⟨true,1,[.nilp],[(0,1,false)],none⟩),
 (21,⟨false,1,[.int .i32 0],[],none⟩),
 (22,⟨false,1,[.int .i64 0],[],none⟩),
 (23,⟨true,2,[.bool false,.str0],[(0,1,false),(1,1,false)],none⟩),
 (24,⟨true,2,[.bool false,.str0],[(0,1,false),(1,1,false)],none⟩),
 (25,⟨true,4,[.bool false,.str0,.bool false,.str0],[(0,2,true),(2,2,true)],none⟩),
 (26,⟨true,4,[.bool false,.str0,.bool false,.str0],[(0,2,true),(2,2,true)],none⟩),
 (27,⟨true,8,[.bool false,.str0,.bool false,.str0,.bool false,.str0,.bool false,.str0],[(0,4,true),(4,4,true)],none⟩),
 (28,⟨true,8,[.bool false,.str0,.bool false,.str0,.bool false,.str0,.bool false,.str0],[(0,4,true),(4,4,true)],none⟩),
 (29,⟨true,33,[.bool false,.str0,.bool false,.str0,.bool false,.str0,.bool false,.str0,.bool false,.str0,.bool false,.str0,.bool false,.str0,.bool false,.str0,.bool false,.str0,.bool false,.str0,.bool false,.str0,.bool false,.str0,.bool false,.str0,.bool false,.str0,.bool false,.str0,.bool false,.str0,.bool false],[(0,8,true),(8,8,true),(16,8,true),(24,8,true),(32,1,false)],none⟩),
 (30,⟨true,33,[.bool false,.str0,.bool false,.str0,.bool false,.str0,.bool false,.str0,.bool false,.str0,.bool false,.str0,.bool false,.str0,.bool false,.str0,.bool false,.str0,.bool false,.str0,.bool false,.str0,.bool false,.str0,.bool false,.str0,.bool false,.str0,.bool false,.str0,.bool false,.str0,.bool false],[(0,8,true),(8,8,true),(16,8,true),(24,8,true),(32,1,false)],none⟩),
 (31,nfT),
 (32,nfT),
 (33,⟨false,1,[.int .i64 0],[],none⟩),
 (35,nfT),
 (37,nfT),
 (38,nfT),
 (39,nfT),
 (40,nfT),
 (41,nfT),
 (42,nfT),
 (43,nfT),
 (44,nfT),
 (45,nfT),
 (46,⟨true,16,[.bool false,.str0,.bool false,.str0,.bool false,.str0,.bool false,.str0,.bool false,.str0,.bool false,.str0,.bool false,.str0,.bool false,.str0],[(0,4,true),(4,8,true),(12,4,true)],none⟩),
 (47,⟨true,16,[.bool false,.str0,.bool false,.str0,.bool false,.str0,.bool false,.str0,.bool false,.str0,.bool false,.str0,.bool false,.str0,.bool false,.str0],[(0,4,true),(4,8,true),(12,4,true)],none⟩),
 (48,nfT),
 (49,nfT),
 (51,nfT),
 (53,nfT),
 (54,nfT),
 (55,nfT),
 (56,nfT),
 (57,nfT),
 (59,nfT),
 (60,nfT),
 (61,nfT),
 (62,nfT),
 (63,nfT),
 (64,nfT),
 (66,nfT),
 (67,nfT),
 (68,nfT),
 (69,nfT),
 (70,nfT),
 (71,nfT),
 (72,nfT),
 (73,nfT),
 (74,nfT),
 (75,nfT),
 (76,⟨true,32,[.bool false,.str0,.bool false,.str0,.bool false,.str0,.bool false,.str0,.bool false,.str0,.bool false,.str0,.bool false,.str0,.bool false,.str0,.bool false,.str0,.bool false,.str0,.bool false,.str0,.bool false,.str0,.bool false,.str0,.bool false,.str0,.bool false,.str0,.bool false,.str0],[],some (4,8,28)⟩),
 (77,nfT),
 (78,nfT),
 (79,nfT),
 (80,⟨true,9,[.bool false,.bool false,.str0,.bool false,.str0,.bool false,.str0,.bool false,.str0],[(0,1,false),(1,8,true)],none⟩),
 (81,⟨true,9,[.bool false,.bool false,.str0,.bool false,.str0,.bool false,.str0,.bool false,.str0],[(0,1,false),(1,8,true)],none⟩),
 (83,nfT),
 (84,nfT),
 (85,⟨true,24,[.bool false,.str0,.bool false,.str0,.bool false,.str0,.bool false,.str0,.bool false,.str0,.bool false,.str0,.bool false,.str0,.bool false,.str0,.bool false,.str0,.bool false,.str0,.bool false,.str0,.bool false,.str0],[],some (3,8,28)⟩),
 (86,nfT),
 (87,nfT),
 (89,nfT),
 (90,nfT),
 (91,nfT),
 (92,nfT),
 (93,nfT),
 (95,nfT),
 (96,nfT),
 (97,nfT),
 (98,nfT),
 (99,nfT),
 (100,⟨false,1,[.nils],[],some (0,8,28)⟩),
 (101,nfT),
 (102,nfT),
 (104,nfT),
 (105,nfT),
 (106,nfT),
 (107,⟨true,4,[.int .i64 0,.int .i64 0,.int .i64 0,.int .i64 0],[],some (4,1,2)⟩),
 (108,⟨true,14,[.nilf,.int .i64 0,.int .i64 0,.int .i64 0,.int .i64 0,.int .i64 0,.bool false,.str0,.bool false,.str0,.bool false,.str0,.bool false,.str0],[(0,1,false),(1,4,true),(5,1,false),(6,8,true)],none⟩),
 (109,⟨true,14,[.nilf,.int .i64 0,.int .i64 0,.int .i64 0,.int .i64 0,.int .i64 0,.bool false,.str0,.bool false,.str0,.bool false,.str0,.bool false,.str0],[(0,1,false),(1,4,true),(5,1,false),(6,8,true)],none⟩),
 (111,nfT),
 (112,nfT),
 (113,nfT),
 (114,⟨false,1,[.nilp],[],none⟩),
 (115,⟨true,2,[.nilp,.nilp],[(0,1,false),(1,1,false)],none⟩),
 (116,⟨true,2,[.nilp,.nilp],[(0,1,false),(1,1,false)],none⟩),
 (117,⟨true,9,[.nilp,.nilp,.nilp,.nilp,.nilp,.nilp,.nilp,.nilp,.bool false],[(0,2,true),(2,2,true),(4,2,true),(6,2,true),(8,1,false)],none⟩),
 (118,⟨true,9,[.nilp,.nilp,.nilp,.nilp,.nilp,.nilp,.nilp,.nilp,.bool false],[(0,2,true),(2,2,true),(4,2,true),(6,2,true),(8,1,false)],none⟩),
 (120,nfT),
 (122,nfT),
 (123,⟨true,3,[.bool false,.nilp,.nilp],[(0,1,false),(1,2,true)],none⟩),
 (124,⟨true,3,[.bool false,.nilp,.nilp],[(0,1,false),(1,2,true)],none⟩),
 (125,nfT),
 (126,nfT),
 (127,nfT),
 (128,nfT),
 (129,nfT),
 (130,⟨true,6,[.nilp,.nilp,.nilp,.nilp,.nilp,.nilp],[],some (3,2,116)⟩),
 (132,nfT),
 (133,nfT),
 (134,nfT),
 (135,nfT),
 (136,nfT),
 (137,nfT),
 (138,nfT),
 (139,nfT),
 (140,nfT),
 (141,nfT),
 (142,⟨true,4,[.nilp,.nilp,.nilp,.nilp],[],some (4,1,114)⟩),
 (143,⟨true,4,[.nilp,.nilp,.nilp,.nilp],[],some (4,1,114)⟩),
 (145,nfT),
 (146,nfT),
 (147,nfT),
 (149,nfT),
 (150,nfT),
 (151,nfT),
 (152,nfT),
 (153,nfT),
 (154,nfT),
 (155,nfT),
 (156,nfT),
 (157,nfT),
 (158,nfT),
 (159,nfT),
 (161,nfT),
 (162,nfT),
 (163,⟨true,16,[.bool false,.str0,.bool false,.str0,.bool false,.str0,.bool false,.str0,.bool false,.str0,.bool false,.str0,.bool false,.str0,.bool false,.str0],[],some (4,4,26)⟩),
 (164,⟨true,16,[.bool false,.str0,.bool false,.str0,.bool false,.str0,.bool false,.str0,.bool false,.str0,.bool false,.str0,.bool false,.str0,.bool false,.str0],[],some (4,4,26)⟩),
 (165,nfT),
 (166,⟨false,1,[.nils],[],some (0,9,81)⟩),
 (168,nfT),
 (170,nfT),
 (171,nfT),
 (172,nfT),
 (173,⟨true,48,[.bool false,.str0,.bool false,.str0,.bool false,.str0,.bool false,.str0,.bool false,.str0,.bool false,.str0,.bool false,.str0,.bool false,.str0,.bool false,.str0,.bool false,.str0,.bool false,.str0,.bool false,.str0,.bool false,.str0,.bool false,.str0,.bool false,.str0,.bool false,.str0,.bool false,.str0,.bool false,.str0,.bool false,.str0,.bool false,.str0,.bool false,.str0,.bool false,.str0,.bool false,.str0,.bool false,.str0],[],some (3,16,164)⟩),
 (174,nfT),
 (175,⟨false,1,[.nils],[],some (0,2,116)⟩),
 (177,nfT),
 (178,nfT),
 (179,nfT),
 (180,nfT),
 (181,nfT),
 (182,nfT),
 (183,nfT),
 (184,nfT),
 (185,nfT),
 (186,nfT),
 (187,nfT),
 (188,nfT),
 (189,nfT),
 (190,nfT),
 (191,nfT),
 (192,nfT),
 (193,nfT),
 (194,nfT),
 (196,nfT),
 (197,nfT),
 (198,nfT),
 (199,nfT),
 (201,nfT),
 (203,nfT),
 (204,nfT),
 (205,nfT),
 (207,nfT),
 (208,⟨true,4,[.nilp,.nilp,.nilp,.nilp],[(0,1,false),(1,2,true),(3,1,false)],none⟩),
 (209,⟨true,4,[.nilp,.nilp,.nilp,.nilp],[(0,1,false),(1,2,true),(3,1,false)],none⟩),
 (211,nfT),
 (212,⟨false,1,[.nils],[],some (0,3,124)⟩),
 (214,nfT),
 (215,nfT),
 (216,nfT),
 (217,nfT),
 (218,nfT),
 (219,nfT),
 (220,nfT),
 (221,⟨true,28,[.nilf,.int .i64 0,.int .i64 0,.int .i64 0,.int .i64 0,.int .i64 0,.bool false,.str0,.bool false,.str0,.bool false,.str0,.bool false,.str0,.nilf,.int .i64 0,.int .i64 0,.int .i64 0,.int .i64 0,.int .i64 0,.bool false,.str0,.bool false,.str0,.bool false,.str0,.bool false,.str0],[],some (2,14,109)⟩),
 (222,nfT),
 (223,nfT),
 (224,⟨false,1,[.nilp],[],none⟩),
 (225,⟨true,9,[.nilp,.bool false,.str0,.bool false,.str0,.bool false,.str0,.bool false,.str0],[(0,1,false),(1,8,true)],none⟩),
 (226,⟨false,1,[.nils],[],some (0,9,225)⟩),
 (227,nfT),
 (228,⟨false,1,[.nils],[],some (0,1,268)⟩),
 (229,⟨true,2,[.bool false,.nils],[(0,1,false),(1,1,false)],none⟩),
 (230,⟨true,2,[.bool false,.nils],[(0,1,false),(1,1,false)],none⟩),
 (231,⟨true,4,[.bool false,.nils,.bool false,.nils],[(0,2,true),(2,2,true)],none⟩),
 (232,⟨true,4,[.bool false,.nils,.bool false,.nils],[(0,2,true),(2,2,true)],none⟩),
 (233,nfT),
 (234,nfT),
 (235,nfT),
 (236,nfT),
 (237,⟨false,1,[.nils],[],some (0,4,143)⟩),
 (238,⟨true,3,[.int .i64 0,.int .i64 0,.int .i64 0],[],some (3,1,3)⟩),
 (239,nfT),
 (240,nfT),
 (241,nfT),
 (243,nfT),
 (244,nfT),
 (245,nfT),
 (246,nfT),
 (247,nfT),
 (248,nfT),
 (249,nfT),
 (250,nfT),
 (251,nfT),
 (252,nfT),
 (254,nfT),
 (255,nfT),
 (256,nfT),
 (257,⟨false,1,[.nils],[],some (0,1,5)⟩),
 (258,⟨false,1,[.nilp],[],none⟩),
 (259,nfT),
 (260,nfT),
 (261,⟨false,1,[.nilp],[],none⟩),
 (262,⟨true,3,[.nilp,.nilp,.nilp],[(0,1,false),(1,2,true)],none⟩),
 (263,⟨false,1,[.nils],[],some (0,3,262)⟩),
 (264,nfT),
 (265,nfT),
 (266,⟨false,1,[.int .u64 0],[],none⟩),
 (267,nfT),
 (268,⟨false,1,[.int .u32 0],[],none⟩),
 (269,nfT),
 (270,nfT),
 (271,nfT),
 (272,nfT),
 (273,nfT),
 (274,nfT),
 (275,nfT),
 (276,nfT),
 (279,nfT),
 (280,nfT),
 (281,nfT),
 (282,nfT),
 (283,nfT),
 (284,nfT),
 (286,nfT),
 (287,nfT),
 (288,nfT),
 (289,nfT),
 (290,nfT),
 (291,nfT),
 (292,nfT),
 (293,nfT),
 (294,nfT),
 (295,nfT),
 (296,nfT),
 (297,nfT),
 (298,nfT),
 (300,nfT),
 (301,⟨false,1,[.nils],[],some (0,1,114)⟩),
 (302,nfT),
 (303,nfT),
 (304,nfT),
 (305,nfT),
 (306,⟨false,1,[.int .u64 0],[],none⟩),
 (307,nfT),
 (308,nfT),
 (309,nfT),
 (311,nfT),
 (312,nfT),
 (314,nfT),
 (315,nfT),
 (316,nfT),
 (318,nfT),
 (319,nfT),
 (320,nfT),
 (321,⟨true,4,[.nilp,.nilp,.nilp,.str0],[(0,1,false),(1,1,false),(2,1,false),(3,1,false)],none⟩),
 (322,⟨true,4,[.nilp,.nilp,.nilp,.str0],[(0,1,false),(1,1,false),(2,1,false),(3,1,false)],none⟩),
 (323,⟨true,0,[],[],some (0,1,16)⟩),
 (324,⟨true,0,[],[(0,0,true)],none⟩),
 (325,⟨true,0,[],[(0,0,true)],none⟩),
 (326,⟨false,1,[.int .u8 0],[],none⟩),
 (327,⟨false,1,[.int .u8 0],[],none⟩),
 (328,nfT),
 (329,⟨false,1,[.nilp],[],none⟩),
 (330,⟨false,1,[.int .i32 0],[],none⟩),
 (331,⟨false,1,[.int .i32 0],[],none⟩),
 (332,⟨true,11,[.int .u64 0,.int .u64 0,.int .u32 0,.int .u8 0,.int .u8 0,.int .u8 0,.int .u8 0,.nilf,.nilp,.int .i32 0,.int .i32 0],[(0,1,false),(1,1,false),(2,1,false),(3,1,false),(4,1,false),(5,1,false),(6,1,false),(7,1,false),(8,1,false),(9,1,false),(10,1,false)],none⟩),
 (333,⟨true,11,[.int .u64 0,.int .u64 0,.int .u32 0,.int .u8 0,.int .u8 0,.int .u8 0,.int .u8 0,.nilf,.nilp,.int .i32 0,.int .i32 0],[(0,1,false),(1,1,false),(2,1,false),(3,1,false),(4,1,false),(5,1,false),(6,1,false),(7,1,false),(8,1,false),(9,1,false),(10,1,false)],none⟩),
 (334,nfT),
 (335,⟨false,1,[.nilp],[],none⟩)]
def Qae:∀ p∈tys,p.2.good prog p.1=true:=axu.1 kR
def Qai:prog.follows .mixedOrders=true:=by kernel_rfl
end Go.Proofs.YtmimficdpfmfgaaGreat
namespace Go.Proofs.YtmimficdpfmfgaaGreat
open Go Go.RowKit Tr Proofs.Tryz
def eo4:=Tr.enters_of func4 kR
def eo9:=Tr.enters_of func9 kR
def eo10:=Tr.enters_of func10 kR
def eo11:=Tr.enters_of func11 kR
def eo13:=Tr.enters_of func13 kR
def eo18:=Tr.enters_of func18 kR
def eo20:=Tr.enters_of func20 kR
def eo21:=Tr.enters_of func21 kR
def eo22:=Tr.enters_of func22 kR
def eo23:=Tr.enters_of func23 kR
def eo24:=Tr.enters_of func24 kR
def eo25:=Tr.enters_of func25 kR
def eo26:=Tr.enters_of func26 kR
def eo27:=Tr.enters_of func27 kR
def eo28:=Tr.enters_of func28 kR
def eo29:=Tr.enters_of func29 kR
def eo30:=Tr.enters_of func30 kR
def eo31:=Tr.enters_of func31 kR
def eo32:=Tr.enters_of func32 kR
def eo33:=Tr.enters_of func33 kR
def eo34:=Tr.enters_of func34 kR
def eo35:=Tr.enters_of func35 kR
def eo36:=Tr.enters_of func36 kR
def eo39:=Tr.enters_of func39 kR
def eo40:=Tr.enters_of func40 kR
def eo47:=Tr.enters_of func47 kR
def eo51:=Tr.enters_of func51 kR
def eo53:=Tr.enters_of func53 kR
def eo56:=Tr.enters_of func56 kR
def eo57:=Tr.enters_of func57 kR
def eo58:=Tr.enters_of func58 kR
def eo66:=Tr.enters_of func66 kR
def eo67:=Tr.enters_of func67 kR
def eo68:=Tr.enters_of func68 kR
def eo69:=Tr.enters_of func69 kR
def eo70:=Tr.enters_of func70 kR
def eo72:=Tr.enters_of func72 kR
def eo73:=Tr.enters_of func73 kR
def eo75:=Tr.enters_of func75 kR
def eo76:=Tr.enters_of func76 kR
def eo77:=Tr.enters_of func77 kR
def eo78:=Tr.enters_of func78 kR
def eo79:=Tr.enters_of func79 kR
def eo80:=Tr.enters_of func80 kR
def eo81:=Tr.enters_of func81 kR
def eo83:=Tr.enters_of func83 kR
def eo84:=Tr.enters_of func84 kR
def eo87:=Tr.enters_of func87 kR
def eo90:=Tr.enters_of func90 kR
def eo92:=Tr.enters_of func92 kR
def eo93:=Tr.enters_of func93 kR
def eo95:=Tr.enters_of func95 kR
def eo96:=Tr.enters_of func96 kR
def eo97:=Tr.enters_of func97 kR
def eo98:=Tr.enters_of func98 kR
def eo99:=Tr.enters_of func99 kR
def eo100:=Tr.enters_of func100 kR
def eo101:=Tr.enters_of func101 kR
def eo102:=Tr.enters_of func102 kR
def eo103:=Tr.enters_of func103 kR
def eo104:=Tr.enters_of func104 kR
def eo105:=Tr.enters_of func105 kR
def eo106:=Tr.enters_of func106 kR
def eo107:=Tr.enters_of func107 kR
def eo108:=Tr.enters_of func108 kR
def eo109:=Tr.enters_of func109 kR
def eo110:=Tr.enters_of func110 kR
def eo111:=Tr.enters_of func111 kR
def eo112:=Tr.enters_of func112 kR
def eo113:=Tr.enters_of func113 kR
def eo114:=Tr.enters_of func114 kR
def eo115:=Tr.enters_of func115 kR
def eo116:=Tr.enters_of func116 kR
def eo117:=Tr.enters_of func117 kR
def eo118:=Tr.enters_of func118 kR
def eo119:=Tr.enters_of func119 kR
def eo120:=Tr.enters_of func120 kR
def eo121:=Tr.enters_of func121 kR
def eo125:=Tr.enters_of func125 kR
def eo126:=Tr.enters_of func126 kR
def eo127:=Tr.enters_of func127 kR
def eo128:=Tr.enters_of func128 kR
def eo129:=Tr.enters_of func129 kR
def eo130:=Tr.enters_of func130 kR
def eo131:=Tr.enters_of func131 kR
def eo132:=Tr.enters_of func132 kR
def eo133:=Tr.enters_of func133 kR
def eo134:=Tr.enters_of func134 kR
def eo135:=Tr.enters_of func135 kR
def eo136:=Tr.enters_of func136 kR
def eo137:=Tr.enters_of func137 kR
def eo138:=Tr.enters_of func138 kR
def eo139:=Tr.enters_of func139 kR
def eo140:=Tr.enters_of func140 kR
def eo143:=Tr.enters_of func143 kR
def eo144:=Tr.enters_of func144 kR
def eo145:=Tr.enters_of func145 kR
def eo146:=Tr.enters_of func146 kR
def eo147:=Tr.enters_of func147 kR
def eo148:=Tr.enters_of func148 kR
def eo149:=Tr.enters_of func149 kR
def eo151:=Tr.enters_of func151 kR
def eo153:=Tr.enters_of func153 kR
def eo154:=Tr.enters_of func154 kR
def eo155:=Tr.enters_of func155 kR
def eo156:=Tr.enters_of func156 kR
def eo158:=Tr.enters_of func158 kR
def eo163:=Tr.enters_of func163 kR
def eo164:=Tr.enters_of func164 kR
def eo165:=Tr.enters_of func165 kR
def eo166:=Tr.enters_of func166 kR
def eo167:=Tr.enters_of func167 kR
def eo169:=Tr.enters_of func169 kR
def eo170:=Tr.enters_of func170 kR
def eo172:=Tr.enters_of func172 kR
def eo173:=Tr.enters_of func173 kR
def eo174:=Tr.enters_of func174 kR
def eo175:=Tr.enters_of func175 kR
def eo177:=Tr.enters_of func177 kR
def eo178:=Tr.enters_of func178 kR
def eo180:=Tr.enters_of func180 kR
def eo182:=Tr.enters_of func182 kR
def eo183:=Tr.enters_of func183 kR
def eo184:=Tr.enters_of func184 kR
def eo185:=Tr.enters_of func185 kR
def eo186:=Tr.enters_of func186 kR
def eo187:=Tr.enters_of func187 kR
def eo188:=Tr.enters_of func188 kR
def eo189:=Tr.enters_of func189 kR
def eo190:=Tr.enters_of func190 kR
def eo191:=Tr.enters_of func191 kR
def eo192:=Tr.enters_of func192 kR
def eo193:=Tr.enters_of func193 kR
def eo194:=Tr.enters_of func194 kR
def eo195:=Tr.enters_of func195 kR
def eo196:=Tr.enters_of func196 kR
def eo197:=Tr.enters_of func197 kR
def eo198:=Tr.enters_of func198 kR
def eo199:=Tr.enters_of func199 kR
def eo200:=Tr.enters_of func200 kR
def eo201:=Tr.enters_of func201 kR
def eo202:=Tr.enters_of func202 kR
def eo203:=Tr.enters_of func203 kR
def eo204:=Tr.enters_of func204 kR
def eo205:=Tr.enters_of func205 kR
def eo206:=Tr.enters_of func206 kR
def eo207:=Tr.enters_of func207 kR
def eo208:=Tr.enters_of func208 kR
def eo209:=Tr.enters_of func209 kR
def eo213:=Tr.enters_of func213 kR
def eo214:=Tr.enters_of func214 kR
def eo215:=Tr.enters_of func215 kR
def eo216:=Tr.enters_of func216 kR
def eo217:=Tr.enters_of func217 kR
def eo218:=Tr.enters_of func218 kR
def eo219:=Tr.enters_of func219 kR
def eo220:=Tr.enters_of func220 kR
def eo233:=Tr.enters_of func233 kR
def eo234:=Tr.enters_of func234 kR
def eo235:=Tr.enters_of func235 kR
def eo236:=Tr.enters_of func236 kR
def eo237:=Tr.enters_of func237 kR
def eo238:=Tr.enters_of func238 kR
def eo239:=Tr.enters_of func239 kR
def eo240:=Tr.enters_of func240 kR
def eo243:=Tr.enters_of func243 kR
def eo244:=Tr.enters_of func244 kR
def eo245:=Tr.enters_of func245 kR
def eo252:=Tr.enters_of func252 kR
def eo253:=Tr.enters_of func253 kR
def eo254:=Tr.enters_of func254 kR
def eo258:=Tr.enters_of func258 kR
def eo259:=Tr.enters_of func259 kR
def eo272:=Tr.enters_of func272 kR
def eo275:=Tr.enters_of func275 kR
def eo276:=Tr.enters_of func276 kR
end Go.Proofs.YtmimficdpfmfgaaGreat
namespace Tr
def wv:List Nat->Nat
 | []=>0
 | x::l=>x+4294967296*wv l
def WOk(l:List Nat):Prop:=∀ x∈l,x<4294967296
def Kon(l:List Nat):Prop:=∀ l' x,l=l'++[x]->x≠0
def Qac(n:Nat):List Nat:=if h:n=0 then[] else n%4294967296::Qac (n/4294967296)
termination_by n
decreasing_by omega
def Qay:Qac 0=[]:=by unfold Qac;rfl
def Qhl{n:Nat}(h:n≠0):Qac n=n%4294967296::Qac (n/4294967296):=by
 rw[Qac,dif_neg h]
def Kjp:wv []=0:=rfl
def Qhn(x:Nat)(l:List Nat):wv (x::l)=x+4294967296*wv l:=rfl
def Qaq(n:Nat):wv (Qac n)=n:=by
 induction n using Nat.strongRecOn with
 | ind n ih =>
  by_cases h:n=0
  .subst h;rw[Qay];rfl
  .rw[Qhl h,Qhn,ih (n/4294967296) (by omega)];omega
def Qfz:WOk []:=fun _ h=>by cases h
def Qdz{x:Nat}{l:List Nat}:WOk (x::l)↔x<4294967296/\WOk l:=by
 unfold WOk;simp
def Qgf{a b:List Nat}:WOk (a++b)↔WOk a/\WOk b:=by
 unfold WOk;simp only[List.mem_append];exact⟨fun h=>⟨fun x hx=>h x (.inl hx),fun x hx=>h x (.inr hx)⟩,fun h x hx=>hx.elim (h.1 x) (h.2 x)⟩
def Qap(n:Nat):WOk (Qac n):=by
 induction n using Nat.strongRecOn with
 | ind n ih =>
  by_cases h:n=0
  .subst h;rw[Qay];exact Qfz
  .rw[Qhl h,Qdz];exact⟨Nat.mod_lt _ (by decide),ih (n/4294967296) (by omega)⟩
def Qbz{n:Nat}:Qac n=[]↔n=0:=by
 constructor
 .intro h
  by_cases h0:n=0
  .exact h0
  .rw[Qhl h0] at h;cases h
 .rintro rfl;exact Qay
def Ktw:Kon []:=fun l' x h=>by simp at h
def Qjm(n:Nat):Kon (Qac n):=by
 induction n using Nat.strongRecOn with
 | ind n ih =>
  by_cases h:n=0
  .subst h;rw[Qay];exact Ktw
  .rw[Qhl h];intro l' x hl;cases l' with
   | nil =>
    simp at hl;have:=Qbz.1 hl.2;omega
   | cons y l' =>
    simp at hl;exact ih (n/4294967296) (by omega) l' x hl.2
def Qix(a b:List Nat):wv (a++b)=wv a+4294967296^a.length*wv b:=by
 induction a with
 | nil=>simp[wv]
 | cons x a ih =>
  rw[List.cons_append,Qhn,Qhn,ih,List.length_cons,Nat.pow_succ,Nat.mul_add,<-Nat.mul_assoc,Nat.mul_comm (4294967296^a.length)];omega
def Qgu{l:List Nat}(h:WOk l):wv l<4294967296^l.length:=by
 induction l with
 | nil=>simp[wv]
 | cons x l ih =>
  obtain⟨hx,hl⟩:=Qdz.1 h;have:=ih hl;rw[Qhn,List.length_cons,Nat.pow_succ];omega
def Qtx(l:List Nat)(x:Nat):wv (l++[x])=wv l+4294967296^l.length*x:=by
 rw[Qix];simp[wv]
def Ubr{l:List Nat}(h:WOk l)(hn:Kon l):Qac (wv l)=l:=by
 induction l with
 | nil=>exact Qay
 | cons x l ih =>
  obtain⟨hx,hl⟩:=Qdz.1 h;have hn':Kon l:=fun l' y e=>hn (x::l') y (by rw[e];rfl)
  have ih':=ih hl hn'
  by_cases h0:wv (x::l)=0
  .exfalso;rw[Qhn] at h0;have h1:x=0:=by omega
   have h2:wv l=0:=by omega
   rw[h2,Qay] at ih';subst ih';exact hn [] x rfl h1
  .rw[Qhl h0,Qhn];have e1:(x+4294967296*wv l)%4294967296=x:=by omega
   have e2:(x+4294967296*wv l)/4294967296=wv l:=by omega
   rw[e1,e2,ih']
def Ktx{l:List Nat}{n:Nat}(h:WOk l)(hn:Kon l)(hv:wv l=n):l=Qac n:=by rw[<-hv,Ubr h hn]
def Kjq{l:List Nat}(h:∀ x∈l,x=0):wv l=0:=by
 induction l with
 | nil=>rfl
 | cons x l ih =>
  rw[Qhn,h x (by simp),ih (fun y hy=>h y (by simp[hy]))]
def Qwo{l:List Nat}{k:Nat}(hk:k<=l.length)(h:WOk l)(hz:∀ j,k<=j->j<l.length->l[j]?.getD 0=0)(hl:k=0\/l[k-1]?.getD 0≠0) :
  l.take k=Qac (wv l):=by
 have hsplit:=(List.take_append_drop k l).symm;have hd:wv (l.drop k)=0:=by
  refine Kjq fun x hx=>?_
  obtain⟨i,hi,rfl⟩:=List.getElem_of_mem hx;simp at hi;have:=hz (k+i) (by omega) (by omega);rw[axi (by omega)] at this;simpa using this
 have hv:wv (l.take k)=wv l:=by
  rw[hsplit,Qix,hd];simp
 refine Ktx (fun x hx=>h x (List.mem_of_mem_take hx)) ?_ hv;intro l' x e;rcases hl with rfl|hl
 .simp at e
 .have hlen:(l.take k).length=k:=by simp;omega
  have h2:l'.length+1=k:=by rw[<-hlen,e];simp
  have h3:(l.take k)[k-1]?=some x:=by rw[e,show k-1=l'.length by omega];simp
  rw[List.getElem?_take_of_lt (by omega)] at h3;rw[h3] at hl;simpa using hl
def Qal{n k:Nat}(h:n<4294967296^k):(Qac n).length<=k:=by
 induction k generalizing n with
 | zero=>simp at h;subst h;rw[Qay];simp
 | succ k ih =>
  by_cases h0:n=0
  .subst h0;rw[Qay];simp
  .rw[Qhl h0,List.length_cons];have:=ih (n:=n/4294967296) (by rw[Nat.pow_succ] at h;exact Nat.div_lt_of_lt_mul (by rw[Nat.mul_comm];exact h));omega
def Qtt{n k:Nat}(h:4294967296^k<=n):k<(Qac n).length:=by
 rcases Nat.lt_or_ge k (Qac n).length with h1|h1
 .exact h1
 .have:=Qgu (Qap n);rw[Qaq] at this;have:=axg (show 0<4294967296 by decide) h1;omega
def Qbr(n:Nat):n<4294967296^(Qac n).length:=by
 have:=Qgu (Qap n);rwa[Qaq] at this
def Qdw(a b:Nat):Int:=if a<b then -1 else if b<a then 1 else 0
def Qdt{a b:Nat}(h:(Qac a).length<(Qac b).length):a<b:=by
 rcases Nat.lt_or_ge a b with h1|h1
 .exact h1
 .have:=Qal (n:=b) (k:=(Qac a).length) (axd h1 (Qbr a));omega
def Qlb{l:List Nat}{i:Nat}(h:i<l.length):wv l=wv (l.take i)+4294967296^i*(l[i]+4294967296*wv (l.drop (i+1))):=by
 have h1:l=l.take i++(l[i]::l.drop (i+1)):=by
  rw[<-List.drop_eq_getElem_cons h,List.take_append_drop]
 have h2:(l.take i).length=i:=by simp;omega
 conv=>lhs;rw[h1]
 rw[Qix,Qhn,h2]
def Qvx{a b:List Nat}{i:Nat}(ha:WOk a)(hi:i<a.length)(hj:i<b.length)(hd:a.drop (i+1)=b.drop (i+1))(h:a[i]<b[i]):wv a<wv b:=by
 rw[Qlb hi,Qlb hj,hd];have h1:=Qgu (l:=a.take i) (fun x hx=>ha x (List.mem_of_mem_take hx));have h2:(a.take i).length=i:=by simp;omega
 rw[h2] at h1;generalize 4294967296^i=P at *
 have h3:P*(a[i]+4294967296*wv (b.drop (i+1)))+P<=P*(b[i]+4294967296*wv (b.drop (i+1))):=by
  rw[<-Nat.mul_succ];exact axl _ (by omega)
 omega
def Usa{l:List Nat}{i:Nat}(h:i<l.length)(x:Nat):wv (l.set i x)+4294967296^i*l[i]=wv l+4294967296^i*x:=by
 have h1:=Qlb (l:=l.set i x) (i:=i) (by simpa using h);have h2:=Qlb h;rw[List.take_set_of_le (Nat.le_refl i),List.drop_set_of_lt (by omega),List.getElem_set_self] at h1;rw[h1,h2,Nat.mul_add,Nat.mul_add];omega
def Qcv{l:List Nat}(h:WOk l)(i x:Nat)(hx:x<4294967296):WOk (l.set i x):=by
 intro y hy;rcases List.mem_or_eq_of_mem_set hy with h1|rfl
 .exact h y h1
 .exact hx
def Ujd{l:List Nat}(h:WOk l){i:Nat}(hi:i<l.length):l[i]<4294967296:=h _ (List.getElem_mem hi)
def Qen{l:List Nat}(h:WOk l)(k:Nat):WOk (l.take k):=fun x hx=>h x (List.mem_of_mem_take hx)
def Qjn{l:List Nat}(h:WOk l)(k:Nat):WOk (l.drop k):=fun x hx=>h x (List.mem_of_mem_drop hx)
def Qbn(n:Nat):WOk (List.replicate n 0):=fun x hx=>by simp at hx;omega
def Qel(n:Nat):wv (List.replicate n 0)=0:=Kjq fun x hx=>by simp at hx;exact hx.2
def Kcs{l:List Nat}{i:Nat}(h:i<l.length):wv (l.take (i+1))=wv (l.take i)+4294967296^i*l[i]:=by
 rw[List.take_succ_eq_append_getElem h,Qtx];have h2:(l.take i).length=i:=by simp;omega
 rw[h2]
def Kfj{l:List Nat}{i:Nat}(h:i<l.length):wv (l.drop i)=l[i]+4294967296*wv (l.drop (i+1)):=by
 rw[List.drop_eq_getElem_cons h,Qhn]
def wat(l:List Nat)(i:Nat):Nat:=l[i]?.getD 0
def Qci{l:List Nat}(h:WOk l)(i:Nat):wat l i<4294967296:=by
 unfold wat
 by_cases hi:i<l.length
 .rw[axi hi];exact Ujd h hi
 .rw[List.getElem?_eq_none (by omega)];decide
def Qwt{l:List Nat}{i:Nat}(h:i<l.length):wat l i=l[i]:=by unfold wat;rw[axi h];rfl
def Qhk{l:List Nat}{i:Nat}(h:l.length<=i):wat l i=0:=by unfold wat;rw[List.getElem?_eq_none h];rfl
def Qeo(l:List Nat)(i:Nat):wv (l.take (i+1))=wv (l.take i)+4294967296^i*wat l i:=by
 by_cases h:i<l.length
 .rw[Kcs h,Qwt h]
 .rw[Qhk (by omega),axe (by omega),axe (by omega)];simp
def Qyq{l:List Nat}{i:Nat}(h:i<l.length)(x:Nat):(l.set i x).take (i+1)=l.take i++[x]:=by
 rw[List.take_succ_eq_append_getElem (by simpa using h),List.take_set_of_le (Nat.le_refl i),List.getElem_set_self]
def Qho{l:List Nat}{i:Nat}(h:i<l.length)(x:Nat):wv ((l.set i x).take (i+1))=wv (l.take i)+4294967296^i*x:=by
 rw[Qyq h,Qtx];have h2:(l.take i).length=i:=by simp;omega
 rw[h2]
def Qsi(P s:Nat):P*(s%4294967296)+P*4294967296*(s/4294967296)=P*s:=by
 have:P*s=P*(s%4294967296+4294967296*(s/4294967296)):=by rw[Nat.mod_add_div]
 rw[this,Nat.mul_add,Nat.mul_assoc]
def Qit{out la lb:List Nat}{i c:Nat}(ho:i<out.length)(h:wv (out.take i)+4294967296^i*c=wv (la.take i)+wv (lb.take i)) :
  wv ((out.set i ((c+wat la i+wat lb i)%4294967296)).take (i+1))+4294967296^(i+1)*((c+wat la i+wat lb i)/4294967296)=wv (la.take (i+1))+wv (lb.take (i+1)):=by
 rw[Qho ho,Qeo,Qeo,Nat.pow_succ];have:=Qsi (4294967296^i) (c+wat la i+wat lb i);rw[Nat.mul_add,Nat.mul_add] at this;omega
def Khr{out la lb:List Nat}{n c:Nat}(ho:out.length=n+1)(ha:la.length=n)(hb:lb.length<=n)(h:wv (out.take n)+4294967296^n*c=wv (la.take n)+wv (lb.take n)) :
  wv (out.set n c)=wv la+wv lb:=by
 have e:=Qho (l:=out) (i:=n) (by omega) c;rw[axe (by simp;omega)] at e;rw[e,h,axe (by omega),axe hb]
def Qsg{out la lb:List Nat}{i c d:Nat}(ho:i<out.length){e:Nat}(he:wat la i+4294967296*e=d+wat lb i+c)(h:wv (out.take i)+wv (lb.take i)=wv (la.take i)+4294967296^i*c) :
  wv ((out.set i d).take (i+1))+wv (lb.take (i+1))=wv (la.take (i+1))+4294967296^(i+1)*e:=by
 rw[Qho ho,Qeo,Qeo,Nat.pow_succ,Nat.mul_assoc];generalize 4294967296^i=P at *
 have:P*(wat la i+4294967296*e)=P*(d+wat lb i+c):=by rw[he]
 rw[Nat.mul_add,Nat.mul_add,Nat.mul_add] at this;omega
def Khq{out la lb:List Nat}{n c:Nat}(ho:out.length=n)(oo:WOk out)(ha:la.length=n)(hb:lb.length<=n)(hle:wv lb<=wv la)(h:wv (out.take n)+wv (lb.take n)=wv (la.take n)+4294967296^n*c):wv out=wv la-wv lb:=by
 rw[axe (by omega),axe hb,axe (by omega)] at h;have h1:=Qgu oo;rw[ho] at h1;have hc:c=0:=by
  rcases axh c with h0|h0
  .exact h0
  .have:4294967296^n*1<=4294967296^n*c:=axl _ h0;omega
 subst hc;omega
end Tr
namespace Go.Proofs.YtmimficdpfmfgaaGreat
open Go.RowKit Tr Proofs.Tryz
def WSl(w:World)(v:Value)(l:List Nat):Prop :=
 ∃ p cap,v=.slice p l.length cap/\l.length<=cap/\(l≠[]->∃ b off,p=some ⟨b,off,none⟩/\b<w.heap.size/\∀ j,j<l.length->w.cell? ⟨b,off+j,none⟩=some (.int .u32 (l[j]?.getD 0:Nat)))
def WSl.nil(w:World):WSl w (.slice none 0 0) []:=⟨none,0,rfl,Nat.le_refl _,fun h=>absurd rfl h⟩
def WSl.below{w w':World}(hb:Below w.heap.size w w'){v:Value}{l:List Nat}(h:WSl w v l):WSl w' v l:=by
 obtain⟨p,cap,hv,hl,hc⟩:=h;refine⟨p,cap,hv,hl,fun hne=>?_⟩;obtain⟨b,off,hp,hbs,hcs⟩:=hc hne;exact⟨b,off,hp,axc hbs hb.size,fun j hj=>(hb.cell (p:=⟨b,off+j,none⟩) hbs).trans (hcs j hj)⟩
def WSl.drewN{w:World}{v:Value}{l:List Nat}(h:WSl w v l)(n:Nat):WSl (w.drewN n) v l:=h
def Qlf(l:List Nat):Array Value:=(l.map fun x:Nat=>Value.int .u32 (x:Int)).toArray
def Kcc(l:List Nat):(Qlf l).size=l.length:=by simp[Qlf]
def Blk(w:World)(B:Nat)(l:List Nat):Prop:=w.heap[B]?=some (.cells (Qlf l) 268 (0,0))
def Blk.cell{w:World}{B:Nat}{l:List Nat}(h:Blk w B l){i:Nat}(hi:i<l.length):w.cell? ⟨B,i,none⟩=some (.int .u32 (l[i]?.getD 0:Nat)):=by
 unfold Blk at h;simp[World.cell?,h,Qlf,hi]
def Blk.frozen{w:World}{B:Nat}{l:List Nat}(h:Blk w B l)(i:Nat):w.frozen? ⟨B,i,none⟩=false:=by
 unfold Blk at h;simp[World.frozen?,h]
def Blk.set{w:World}{B:Nat}{l:List Nat}(h:Blk w B l)(i x:Nat):Blk (w.setCell ⟨B,i,none⟩ (.int .u32 (x:Int))) B (l.set i x):=by
 unfold Blk at *
 simp only[World.setCell,Array.getElem?_modify,if_true,h,Option.map_some];simp[Qlf,List.map_set]
def Blk.lt{w:World}{B:Nat}{l:List Nat}(h:Blk w B l):B<w.heap.size:=(axa.1 h).1
def Blk.drewN{w:World}{B:Nat}{l:List Nat}(h:Blk w B l)(n:Nat):Blk (w.drewN n) B l:=h
def Blk.new(w:World)(l:List Nat):Blk (w.alloc (.cells (Qlf l) 268)) w.heap.size l:=heap_alloc_new w _
def Blk.below{w w':World}{B:Nat}{l:List Nat}(h:Blk w B l)(hb:Below w.heap.size w w'):Blk w' B l:=(hb.block B h.lt).trans h
def Blk.wsl{w:World}{B:Nat}{l:List Nat}(h:Blk w B l){k cap:Nat}(hk:k<=l.length)(hc:k<=cap):WSl w (.slice (some ⟨B,0,none⟩) k cap) (l.take k):=by
 have hl:(l.take k).length=k:=by simp;omega
 refine⟨some ⟨B,0,none⟩,cap,by rw[hl],by omega,fun _=>⟨B,0,rfl,h.lt,fun j hj=>?_⟩⟩;rw[hl] at hj;rw[Nat.zero_add,h.cell (by omega),List.getElem?_take_of_lt hj]
def Qhx:((prog).info? 268).map (fun i=>(i.zero,i.size,i.bytes))=some (some (.int .u32 0),1,4):=by kernel_rfl
def Kax(n:Nat):madeCells (Value.int .u32 0).cells (n*1)=Qlf (List.replicate n 0):=by
 apply Array.ext
 .simp[madeCells,Qlf]
 .intro i h1 h2;have e:i%1=0:=Nat.mod_one i;simp[madeCells,Qlf,Value.cells,e]
def Qgr(n:Nat)(hn:n<4398046511104)(w:World):(Instr.makeSlice 228 (.int .i64 (n:Int)) (.int .i64 (n:Int))).run prog w
  = .ok (.slice (some ⟨w.heap.size,0,none⟩) n n) (w.alloc (.cells (Qlf (List.replicate n 0)) 268)):=by
 obtain⟨i,hi,hz,hs,hb⟩:=info_parts Qhx;have:=run_make (P:=prog) w 228 268 i (.int .u32 0) Tryz.underlying228 hi hz .i64 .i64 n n (by omega) (Int.le_refl _) (by rw[hb];omega) (by omega);rw[this,hs,Int.toNat_natCast,Kax]
def Qfb{k:IntKind}{a b:Int}(h:a=b):Ending.returned (.int k a)=.returned (.int k b):=by rw[h]
def Row(w:World)(p:Option Addr)(l:List Nat):Prop:=l≠[]->∃ b off,p=some ⟨b,off,none⟩/\b<w.heap.size/\∀ j,j<l.length->w.cell? ⟨b,off+j,none⟩=some (.int .u32 (l[j]?.getD 0:Nat))
def Khj{la lb:List Nat}(h:la.drop 0=lb.drop 0):la=lb:=h
def Kai{la lb:List Nat}{m:Nat}(ha:m<la.length)(hb:m<lb.length)(h:la.drop (m+1)=lb.drop (m+1))(he:la[m]?.getD 0=lb[m]?.getD 0):la.drop m=lb.drop m:=by
 rw[List.drop_eq_getElem_cons ha,List.drop_eq_getElem_cons hb,h];rw[axi ha,axi hb] at he;simp at he;rw[he]
def Kgy{la lb:List Nat}{m:Nat}(ha:m<la.length)(hb:m<lb.length)(oa:WOk la)(h:la.drop (m+1)=lb.drop (m+1))(he:la[m]?.getD 0<lb[m]?.getD 0):Qdw (wv la) (wv lb)=-1:=by
 rw[axi ha,axi hb] at he;unfold Qdw;rw[if_pos (Qvx oa ha hb h he)]
def Kha{la lb:List Nat}{m:Nat}(ha:m<la.length)(hb:m<lb.length)(ob:WOk lb)(h:la.drop (m+1)=lb.drop (m+1))(he:lb[m]?.getD 0<la[m]?.getD 0):Qdw (wv la) (wv lb)=1:=by
 rw[axi ha,axi hb] at he;have:=Qvx ob hb ha h.symm he;unfold Qdw;rw[if_neg (by omega),if_pos this]
def Khb(a:Nat):Qdw a a=0:=by unfold Qdw;simp
def Ubn(la lb:List Nat)(n:Nat)(hna:la.length=n)(hnb:lb.length=n)(oa:WOk la)(ob:WOk lb)(pa pb:Option Addr)(ca cb:Nat)(w:World)(ha:Row w pa la)(hb:Row w pb lb)(hn:n<1099511627776) :
  Calls prog 264 #[.slice pa n ca,.slice pb n cb] w fun e w'=>e=.returned (.int .i64 (Qdw (wv la) (wv lb)))/\∃ n,w'=w.drewN n:=by
 have H:=hid (And.intro hna hnb);have HA:=hid ha;have HB:=hid hb;clear ha hb hna hnb
 go_enter func264,Tryz.ntmps264
 go_wp2
 go_loopw [5] (fun i wr=>∃ k:Nat,k<=n/\i=.int .i64 ((k:Int)-1)/\Hid (la.drop k=lb.drop k)/\∃ d,wr=w.drewN d) (fun i _=>(intOf i+1).toNat)
 case atStart =>
  refine⟨n,Nat.le_refl _,rfl,hid ?_,0,rfl⟩;obtain⟨h1,h2⟩:=H.out;rw[axj (by omega),axj (by omega)]
 case round =>
  obtain⟨k,hk,rfl,hd,d,rfl⟩:=hrel;cases k with
  | zero =>
   have hz:Hid (Qdw (wv la) (wv lb)=0):=hid (by rw[Khj hd.out];exact Khb _)
   go_wp2
   go_ret
   exact⟨Qfb hz.out.symm,d,rfl⟩
  | succ m =>
   have e:((m+1:Nat):Int)-1=(m:Int):=by omega
   rw[e];clear e;obtain⟨h1,h2⟩:=H.out;obtain⟨ba,oa',rfl,_,hca⟩:=HA.out (by intro h;rw[h] at h1;simp at h1;omega);obtain⟨bb,ob',rfl,_,hcb⟩:=HB.out (by intro h;rw[h] at h2;simp at h2;omega);have ca0:=hca m (by omega);have cb0:=hcb m (by omega);have HD:=hid (And.intro h1 h2);clear hca hcb h1 h2;have i0:(0:Int)<=(m:Int):=by omega
   have i1:(m:Int)<(n:Int):=by omega
   have hx:∀ x y:Nat,x<y->((x:Int)<(y:Int)):=fun x y h=>by omega
   rcases Nat.lt_trichotomy (la[m]?.getD 0) (lb[m]?.getD 0) with h|h|h
   .have h':=hx _ _ h;have hz:Hid (Qdw (wv la) (wv lb)=-1):=hid (Kgy (by have:=HD.out;omega) (by have:=HD.out;omega) oa hd.out h);clear h hx
    go_wp2
    go_quiet (fail)
    go_wp2
    go_ret
    exact⟨Qfb hz.out.symm,by first|exact⟨_,rfl⟩|(simp only[World.drewN_drewN];exact⟨_,rfl⟩)⟩
   .have hz:Hid (la.drop m=lb.drop m):=hid (Kai (by have:=HD.out;omega) (by have:=HD.out;omega) hd.out h);have h1:¬((la[m]?.getD 0:Nat):Int)<((lb[m]?.getD 0:Nat):Int):=by omega
    have h2:¬((lb[m]?.getD 0:Nat):Int)<((la[m]?.getD 0:Nat):Int):=by omega
    clear h hx
    go_wp2
    go_quiet (fail)
    go_wp2
    go_quiet (fail)
    go_wp2
    go_roundw
    case rel=>exact⟨m,by omega,rfl,hz,by first|exact⟨_,rfl⟩|(simp only[World.drewN_drewN];exact⟨_,rfl⟩)⟩
    case measure=>simp[intOf]
   .have h':=hx _ _ h;have h1:¬((la[m]?.getD 0:Nat):Int)<((lb[m]?.getD 0:Nat):Int):=by omega
    have hz:Hid (Qdw (wv la) (wv lb)=1):=hid (Kha (by have:=HD.out;omega) (by have:=HD.out;omega) ob hd.out h);clear h hx
    go_wp2
    go_quiet (fail)
    go_wp2
    go_quiet (fail)
    go_wp2
    go_ret
    exact⟨Qfb hz.out.symm,by first|exact⟨_,rfl⟩|(simp only[World.drewN_drewN];exact⟨_,rfl⟩)⟩
def Kpg(l:List Nat)(n:Nat)(hn:l.length=n)(ol:WOk l)(p:Option Addr)(c:Nat)(w:World)(hl:Row w p l)(hc:n<=c)(hm:n<1099511627776) :
  Calls prog 287 #[.slice p n c] w fun e w'=>∃ k,k<=n/\l.take k=Qac (wv l)/\e=.returned (.slice p k c)/\w=w':=by
 have H:=hid hn;have HL:=hid hl;have hs:∀ k:Nat,k<=n->Hid (∀ j,k<=j->j<l.length->l[j]?.getD 0=0)->(k=0\/l[k-1]?.getD 0≠0)->l.take k=Qac (wv l):=fun k hk hz hl=>Qwo (by omega) ol hz.out hl
 have HS:=hid hs;clear hl hn hs
 go_enter func287,Tryz.ntmps287
 go_wp2
 go_loop [0] (fun v=>∃ k:Nat,k<=n/\v=.slice p k c/\Hid (∀ j,k<=j->j<l.length->l[j]?.getD 0=0)) (fun v=>match v with|.slice _ k _=>k|_=>0)
 case atStart =>
  exact⟨n,Nat.le_refl _,rfl,hid (fun j h1 h2=>by have:=H.out;omega)⟩
 case round =>
  obtain⟨k,hk,rfl,hz⟩:=hrel;cases k with
  | zero =>
   go_wp2
   go_ret
   exact⟨0,Nat.zero_le _,HS.out 0 (Nat.zero_le _) hz (.inl rfl),rfl,rfl⟩
  | succ m =>
   obtain⟨b,off,rfl,_,hcl⟩:=HL.out (by intro h;have:=H.out;rw[h] at this;simp at this;omega);have hc0:=hcl m (by have:=H.out;omega);clear hcl
   by_cases h0:l[m]?.getD 0=0
   .have hz':Hid (∀ j,m<=j->j<l.length->l[j]?.getD 0=0):=hid (fun j h1 h2=>by
     by_cases h:j=m
     .rw[h];exact h0
     .exact hz.out j (by omega) h2)
    have hb:(((l[m]?.getD 0:Nat):Int)==0)=true:=by rw[h0];rfl
    clear h0
    go_wp2
    go_round
    case rel=>exact⟨m,by omega,rfl,hz'⟩
    case measure=>simp
   .have hb:(((l[m]?.getD 0:Nat):Int)==0)=false:=by simp;exact h0
    have ht:=HS.out (m+1) hk hz (.inr (by simpa using h0));have HT:=hid ht;clear h0 ht
    go_wp2
    go_ret
    exact⟨m+1,hk,HT.out,rfl,rfl⟩
def Qhj(a b:Nat)(va vb:Value)(w:World)(ha:WSl w va (Qac a))(hb:WSl w vb (Qac b))(hla:(Qac a).length<1099511627776) :
  Calls prog 264 #[va,vb] w fun e w'=>e=.returned (.int .i64 (Qdw a b))/\∃ n,w'=w.drewN n:=by
 obtain⟨pa,ca,rfl,hca,ha⟩:=ha;obtain⟨pb,cb,rfl,hcb,hb⟩:=hb;rcases Nat.lt_trichotomy (Qac a).length (Qac b).length with h|h|h
 .have hz:Qdw a b=-1:=by unfold Qdw;rw[if_pos (Qdt h)]
  go_enter func264,Tryz.ntmps264
  go_wp2
  go_ret
  exact⟨Qfb hz.symm,0,rfl⟩
 .rw[<-h] at hb ⊢;have:=Ubn (Qac a) (Qac b) _ rfl h.symm (Qap a) (Qap b) pa pb ca cb w ha (fun hne=>by obtain⟨b,off,h1,h2,h3⟩:=hb hne;exact⟨b,off,h1,h2,fun j hj=>h3 j (by omega)⟩) hla;rwa[Qaq,Qaq] at this
 .have hz:Qdw a b=1:=by unfold Qdw;rw[if_neg (by have:=Qdt h;omega),if_pos (Qdt h)]
  go_enter func264,Tryz.ntmps264
  go_wp2
  go_ret
  exact⟨Qfb hz.symm,0,rfl⟩
def Kzi(la lb:List Nat)(n m:Nat)(hna:la.length=n)(hnb:lb.length=m)(hmn:m<=n)(oa:WOk la)(ob:WOk lb)(pa pb:Option Addr)(ca cb:Nat)(w:World)(ha:Row w pa la)(hb:Row w pb lb)(hn:n<1099511627776) :
  Calls prog 295 #[.slice pa n ca,.slice pb m cb] w fun e w'=>∃ out,out.length=n+1/\WOk out/\wv out=wv la+wv lb/\e=.returned (.slice (some ⟨w.heap.size,0,none⟩) (n+1) (n+1))/\Blk w' w.heap.size out/\Below w.heap.size w w':=by
 have H:=hid (And.intro hna hnb);have HA:=hid ha;have HB:=hid hb;have hmk:=Qgr (n+1) (by omega);have en:((n+1:Nat):Int)=(n:Int)+1:=by omega
 rw[en] at hmk;have hlt:¬(n:Int)<(m:Int):=by omega
 clear ha hb hna hnb en
 go_enter func295,Tryz.ntmps295
 go_wp2
 go_loopw [6,7,8,22] (fun c _ _ i wr=>∃(k cr:Nat) (out:List Nat),k<=n/\i=.int .i64 k/\c=.int .u64 cr/\cr<=1/\Hid (out.length=n+1)/\WOk out/\Hid (wv (out.take k)+4294967296^k*cr=wv (la.take k)+wv (lb.take k))/\Blk wr w.heap.size out/\Below w.heap.size w wr)
  (fun _ _ _ i _=>n-(intOf i).toNat)
 case atStart =>
  exact⟨0,0,List.replicate (n+1) 0,Nat.zero_le _,rfl,rfl,by omega,hid (by simp),Qbn _,hid (by simp[wv]),Blk.new _ _,br.alloc lr _⟩
 case round =>
  obtain⟨k,cr,out,hk,rfl,rfl,hcr,hlo,oo,hinv,hblk,hB⟩:=hrel
  by_cases hlt2:k<n
  .obtain⟨b,off,rfl,hbs,hcl⟩:=HA.out (by intro h;have:=H.out.1;rw[h] at this;simp at this;omega);have c0:=(hB.cell (p:=⟨b,off+k,none⟩) hbs).trans (hcl k (by have:=H.out.1;omega));have c1:=hblk.cell (i:=k) (by have:=hlo.out;omega);have c2:=hblk.frozen k;have bx:la[k]?.getD 0<4294967296:=Qci oa k;clear hcl
   by_cases hkm:k<m
   .obtain⟨b2,off2,rfl,hbs2,hcl2⟩:=HB.out (by intro h;have:=H.out.2;rw[h] at this;simp at this;omega);have c3:=(hB.cell (p:=⟨b2,off2+k,none⟩) hbs2).trans (hcl2 k (by have:=H.out.2;omega));have by_:lb[k]?.getD 0<4294967296:=Qci ob k;clear hcl2;have e1:((cr:Int)+(la[k]?.getD 0:Nat)+(lb[k]?.getD 0:Nat))%4294967296=((cr+wat la k+wat lb k)%4294967296:Nat):=by unfold wat;omega
    have e2:((cr:Int)+(la[k]?.getD 0:Nat)+(lb[k]?.getD 0:Nat))/4294967296=((cr+wat la k+wat lb k)/4294967296:Nat):=by unfold wat;omega
    have E:=hid (And.intro e1 e2);have hst:=hid (Qit (by have:=hlo.out;omega) hinv.out);have hcr':(cr+wat la k+wat lb k)/4294967296<=1:=by unfold wat;omega
    clear e1 e2
    go_wp2
    go_roundw
    case rel =>
     rw[E.out.1,E.out.2];exact⟨k+1,_,_,by omega,by go_num,rfl,hcr',hid (by have:=hlo.out;simpa using this),Qcv oo k _ (Nat.mod_lt _ (by decide)),hst,hblk.set k _,hB.setCell (p:=⟨w.heap.size,k,none⟩) lr _⟩
    case measure=>simp[intOf];omega
   .have hw0:wat lb k=0:=Qhk (by have:=H.out.2;omega);have e1:((cr:Int)+(la[k]?.getD 0:Nat))%4294967296=((cr+wat la k+wat lb k)%4294967296:Nat):=by rw[hw0];unfold wat;omega
    have e2:((cr:Int)+(la[k]?.getD 0:Nat))/4294967296=((cr+wat la k+wat lb k)/4294967296:Nat):=by rw[hw0];unfold wat;omega
    have E:=hid (And.intro e1 e2);have hst:=hid (Qit (by have:=hlo.out;omega) hinv.out);have hcr':(cr+wat la k+wat lb k)/4294967296<=1:=by rw[hw0];unfold wat;omega
    clear e1 e2 hw0
    go_wp2
    go_roundw
    case rel =>
     rw[E.out.1,E.out.2];exact⟨k+1,_,_,by omega,by go_num,rfl,hcr',hid (by have:=hlo.out;simpa using this),Qcv oo k _ (Nat.mod_lt _ (by decide)),hst,hblk.set k _,hB.setCell (p:=⟨w.heap.size,k,none⟩) lr _⟩
    case measure=>simp[intOf];omega
  .obtain rfl:n=k:=by omega
   have c1:=hblk.cell (i:=n) (by have:=hlo.out;omega);have c2:=hblk.frozen n;have hfin:=hid (Khr hlo.out H.out.1 (by have:=H.out.2;omega) hinv.out)
   go_wp2
   go_ret
   refine⟨out.set n cr,by have:=hlo.out;simpa using this,Qcv oo _ _ (by omega),hfin.out,rfl,hblk.set n cr,hB.setCell (p:=⟨w.heap.size,n,none⟩) lr _⟩
def Kra(la lb:List Nat)(n m:Nat)(hna:la.length=n)(hnb:lb.length=m)(hmn:m<n)(oa:WOk la)(ob:WOk lb)(pa pb:Option Addr)(ca cb:Nat)(w:World)(ha:Row w pa la)(hb:Row w pb lb)(hn:n<1099511627776) :
  Calls prog 295 #[.slice pb m cb,.slice pa n ca] w fun e w'=>∃ out,out.length=n+1/\WOk out/\wv out=wv la+wv lb/\e=.returned (.slice (some ⟨w.heap.size,0,none⟩) (n+1) (n+1))/\Blk w' w.heap.size out/\Below w.heap.size w w':=by
 have H:=hid (And.intro hna hnb);have HA:=hid ha;have HB:=hid hb;have hmk:=Qgr (n+1) (by omega);have en:((n+1:Nat):Int)=(n:Int)+1:=by omega
 rw[en] at hmk;have hlt:(m:Int)<(n:Int):=by omega
 clear ha hb hna hnb en
 go_enter func295,Tryz.ntmps295
 go_wp2
 go_loopw [6,7,8,22] (fun c _ _ i wr=>∃(k cr:Nat) (out:List Nat),k<=n/\i=.int .i64 k/\c=.int .u64 cr/\cr<=1/\Hid (out.length=n+1)/\WOk out/\Hid (wv (out.take k)+4294967296^k*cr=wv (la.take k)+wv (lb.take k))/\Blk wr w.heap.size out/\Below w.heap.size w wr)
  (fun _ _ _ i _=>n-(intOf i).toNat)
 case atStart =>
  exact⟨0,0,List.replicate (n+1) 0,Nat.zero_le _,rfl,rfl,by omega,hid (by simp),Qbn _,hid (by simp[wv]),Blk.new _ _,br.alloc lr _⟩
 case round =>
  obtain⟨k,cr,out,hk,rfl,rfl,hcr,hlo,oo,hinv,hblk,hB⟩:=hrel
  by_cases hlt2:k<n
  .obtain⟨b,off,rfl,hbs,hcl⟩:=HA.out (by intro h;have:=H.out.1;rw[h] at this;simp at this;omega);have c0:=(hB.cell (p:=⟨b,off+k,none⟩) hbs).trans (hcl k (by have:=H.out.1;omega));have c1:=hblk.cell (i:=k) (by have:=hlo.out;omega);have c2:=hblk.frozen k;have bx:la[k]?.getD 0<4294967296:=Qci oa k;clear hcl
   by_cases hkm:k<m
   .obtain⟨b2,off2,rfl,hbs2,hcl2⟩:=HB.out (by intro h;have:=H.out.2;rw[h] at this;simp at this;omega);have c3:=(hB.cell (p:=⟨b2,off2+k,none⟩) hbs2).trans (hcl2 k (by have:=H.out.2;omega));have by_:lb[k]?.getD 0<4294967296:=Qci ob k;clear hcl2;have e1:((cr:Int)+(la[k]?.getD 0:Nat)+(lb[k]?.getD 0:Nat))%4294967296=((cr+wat la k+wat lb k)%4294967296:Nat):=by unfold wat;omega
    have e2:((cr:Int)+(la[k]?.getD 0:Nat)+(lb[k]?.getD 0:Nat))/4294967296=((cr+wat la k+wat lb k)/4294967296:Nat):=by unfold wat;omega
    have E:=hid (And.intro e1 e2);have hst:=hid (Qit (by have:=hlo.out;omega) hinv.out);have hcr':(cr+wat la k+wat lb k)/4294967296<=1:=by unfold wat;omega
    clear e1 e2
    go_wp2
    go_roundw
    case rel =>
     rw[E.out.1,E.out.2];exact⟨k+1,_,_,by omega,by go_num,rfl,hcr',hid (by have:=hlo.out;simpa using this),Qcv oo k _ (Nat.mod_lt _ (by decide)),hst,hblk.set k _,hB.setCell (p:=⟨w.heap.size,k,none⟩) lr _⟩
    case measure=>simp[intOf];omega
   .have hw0:wat lb k=0:=Qhk (by have:=H.out.2;omega);have e1:((cr:Int)+(la[k]?.getD 0:Nat))%4294967296=((cr+wat la k+wat lb k)%4294967296:Nat):=by rw[hw0];unfold wat;omega
    have e2:((cr:Int)+(la[k]?.getD 0:Nat))/4294967296=((cr+wat la k+wat lb k)/4294967296:Nat):=by rw[hw0];unfold wat;omega
    have E:=hid (And.intro e1 e2);have hst:=hid (Qit (by have:=hlo.out;omega) hinv.out);have hcr':(cr+wat la k+wat lb k)/4294967296<=1:=by rw[hw0];unfold wat;omega
    clear e1 e2 hw0
    go_wp2
    go_roundw
    case rel =>
     rw[E.out.1,E.out.2];exact⟨k+1,_,_,by omega,by go_num,rfl,hcr',hid (by have:=hlo.out;simpa using this),Qcv oo k _ (Nat.mod_lt _ (by decide)),hst,hblk.set k _,hB.setCell (p:=⟨w.heap.size,k,none⟩) lr _⟩
    case measure=>simp[intOf];omega
  .obtain rfl:n=k:=by omega
   have c1:=hblk.cell (i:=n) (by have:=hlo.out;omega);have c2:=hblk.frozen n;have hfin:=hid (Khr hlo.out H.out.1 (by have:=H.out.2;omega) hinv.out)
   go_wp2
   go_ret
   refine⟨out.set n cr,by have:=hlo.out;simpa using this,Qcv oo _ _ (by omega),hfin.out,rfl,hblk.set n cr,hB.setCell (p:=⟨w.heap.size,n,none⟩) lr _⟩
def Kzh(la lb:List Nat)(va vb:Value)(w:World)(oa:WOk la)(ob:WOk lb)(ha:WSl w va la)(hb:WSl w vb lb)(hn:la.length<1099511627776)(hm:lb.length<1099511627776) :
  Calls prog 295 #[va,vb] w fun e w'=>∃ out,out.length=max la.length lb.length+1/\WOk out/\wv out=wv la+wv lb/\e=.returned (.slice (some ⟨w.heap.size,0,none⟩) out.length out.length)/\Blk w' w.heap.size out/\Below w.heap.size w w':=by
 obtain⟨pa,ca,rfl,hca,ha⟩:=ha;obtain⟨pb,cb,rfl,hcb,hb⟩:=hb
 by_cases h:lb.length<=la.length
 .refine(Kzi la lb _ _ rfl rfl h oa ob pa pb ca cb w ha hb hn).mono ?_;rintro e w' ⟨out,h1,h2,h3,h4,h5,h6⟩;exact⟨out,by omega,h2,h3,by rw[h1];exact h4,h5,h6⟩
 .refine(Kra lb la _ _ rfl rfl (by omega) ob oa pb pa cb ca w hb ha hm).mono ?_;rintro e w' ⟨out,h1,h2,h3,h4,h5,h6⟩;exact⟨out,by omega,h2,by omega,by rw[h1];exact h4,h5,h6⟩
def Qsh(x s:Nat)(hx:x<4294967296)(hs:s<=4294967296):∃ d e:Nat,d<4294967296/\e<=1/\x+4294967296*e=d+s/\(IntKind.u64.wrap ((x:Int)-(s:Int))%4294967296=(d:Int))/\bits BinOp.and IntKind.u64 (IntKind.u64.wrap ((x:Int)-(s:Int))/4294967296) 1=(e:Int):=by
 have hw:IntKind.u64.wrap ((x:Int)-(s:Int))=((x:Int)-(s:Int))%18446744073709551616:=rfl
 by_cases h:s<=x
 .have h1:IntKind.u64.wrap ((x:Int)-(s:Int))=((x-s:Nat):Int):=by rw[hw];omega
  have h2:((x-s:Nat):Int)/4294967296=0:=by omega
  refine⟨x-s,0,by omega,by omega,by omega,by rw[h1];omega,?_⟩;rw[h1,h2];decide
 .have h1:IntKind.u64.wrap ((x:Int)-(s:Int))/4294967296=4294967295:=by rw[hw];omega
  refine⟨4294967296+x-s,1,by omega,by omega,by omega,by rw[hw];omega,?_⟩;rw[h1];decide
def Kzd(la lb:List Nat)(n m:Nat)(hna:la.length=n)(hnb:lb.length=m)(hmn:m<=n)(oa:WOk la)(ob:WOk lb)(hle:wv lb<=wv la)(pa pb:Option Addr)(ca cb:Nat)(w:World)(ha:Row w pa la)(hb:Row w pb lb)(hn:n<1099511627776) :
  Calls prog 296 #[.slice pa n ca,.slice pb m cb] w fun e w'=>∃ out,out.length=n/\WOk out/\wv out=wv la-wv lb/\e=.returned (.slice (some ⟨w.heap.size,0,none⟩) n n)/\Blk w' w.heap.size out/\Below w.heap.size w w':=by
 have H:=hid (And.intro hna hnb);have HA:=hid ha;have HB:=hid hb;have HL:=hid hle;have hmk:=Qgr n (by omega);clear ha hb hna hnb hle
 go_enter func296,Tryz.ntmps296
 go_wp2
 go_loopw [6,7,8,9,10,16] (fun c _ _ _ _ i wr=>∃(k cr:Nat) (out:List Nat),k<=n/\i=.int .i64 k/\c=.int .u64 cr/\cr<=1/\Hid (out.length=n)/\WOk out/\Hid (wv (out.take k)+wv (lb.take k)=wv (la.take k)+4294967296^k*cr)/\Blk wr w.heap.size out/\Below w.heap.size w wr)
  (fun _ _ _ _ _ i _=>n-(intOf i).toNat)
 case atStart =>
  exact⟨0,0,List.replicate n 0,Nat.zero_le _,rfl,rfl,by omega,hid (by simp),Qbn _,hid (by simp[wv]),Blk.new _ _,br.alloc lr _⟩
 case round =>
  obtain⟨k,cr,out,hk,rfl,rfl,hcr,hlo,oo,hinv,hblk,hB⟩:=hrel
  by_cases hlt2:k<n
  .obtain⟨b,off,rfl,hbs,hcl⟩:=HA.out (by intro h;have:=H.out.1;rw[h] at this;simp at this;omega);have c0:=(hB.cell (p:=⟨b,off+k,none⟩) hbs).trans (hcl k (by have:=H.out.1;omega));have c1:=hblk.cell (i:=k) (by have:=hlo.out;omega);have c2:=hblk.frozen k;have bx:la[k]?.getD 0<4294967296:=Qci oa k;clear hcl
   by_cases hkm:k<m
   .obtain⟨b2,off2,rfl,hbs2,hcl2⟩:=HB.out (by intro h;have:=H.out.2;rw[h] at this;simp at this;omega);have c3:=(hB.cell (p:=⟨b2,off2+k,none⟩) hbs2).trans (hcl2 k (by have:=H.out.2;omega));have by_:lb[k]?.getD 0<4294967296:=Qci ob k;clear hcl2;obtain⟨d,e,hd,he,hde,e1,e2⟩:=Qsh (la[k]?.getD 0) (cr+lb[k]?.getD 0) bx (by omega);rw[Int.natCast_add] at e1 e2;have hst:=hid (Qsg (d:=d) (e:=e) (by have:=hlo.out;omega) (by unfold wat;omega) hinv.out);have E:=hid (And.intro e1 e2);clear e1 e2 hde
    go_wp2
    go_roundw
    case rel =>
     rw[E.out.1,E.out.2];exact⟨k+1,_,_,by omega,by go_num,rfl,he,hid (by have:=hlo.out;simpa using this),Qcv oo k _ hd,hst,hblk.set k _,hB.setCell (p:=⟨w.heap.size,k,none⟩) lr _⟩
    case measure=>simp[intOf];omega
   .have hw0:wat lb k=0:=Qhk (by have:=H.out.2;omega);obtain⟨d,e,hd,he,hde,e1,e2⟩:=Qsh (la[k]?.getD 0) cr bx (by omega);have hst:=hid (Qsg (d:=d) (e:=e) (by have:=hlo.out;omega) (by rw[hw0];unfold wat;omega) hinv.out);have E:=hid (And.intro e1 e2);clear e1 e2 hde hw0
    go_wp2
    go_roundw
    case rel =>
     rw[E.out.1,E.out.2];exact⟨k+1,_,_,by omega,by go_num,rfl,he,hid (by have:=hlo.out;simpa using this),Qcv oo k _ hd,hst,hblk.set k _,hB.setCell (p:=⟨w.heap.size,k,none⟩) lr _⟩
    case measure=>simp[intOf];omega
  .obtain rfl:n=k:=by omega
   have hfin:=hid (Khq hlo.out oo H.out.1 (by have:=H.out.2;omega) HL.out hinv.out)
   go_wp2
   go_ret
   exact⟨out,hlo.out,oo,hfin.out,rfl,hblk,hB⟩
def Khp(la lb:List Nat)(va vb:Value)(w:World)(oa:WOk la)(ob:WOk lb)(hle:wv lb<=wv la)(hll:lb.length<=la.length)(ha:WSl w va la)(hb:WSl w vb lb)(hn:la.length<1099511627776) :
  Calls prog 296 #[va,vb] w fun e w'=>∃ out,out.length=la.length/\WOk out/\wv out=wv la-wv lb/\e=.returned (.slice (some ⟨w.heap.size,0,none⟩) out.length out.length)/\Blk w' w.heap.size out/\Below w.heap.size w w':=by
 obtain⟨pa,ca,rfl,hca,ha⟩:=ha;obtain⟨pb,cb,rfl,hcb,hb⟩:=hb;refine(Kzd la lb _ _ rfl rfl hll oa ob hle pa pb ca cb w ha hb hn).mono ?_;rintro e w' ⟨out,h1,h2,h3,h4,h5,h6⟩;exact⟨out,h1,h2,h3,by rw[h1];exact h4,h5,h6⟩
