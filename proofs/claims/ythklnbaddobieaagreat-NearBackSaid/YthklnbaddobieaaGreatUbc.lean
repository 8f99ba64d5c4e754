/- Laws for the walk. -/
import Derived.Test.YthklnbaddobieaaGreatUbb
import Derived.ChangeKeysEq
set_option linter.unusedVariables false
set_option maxHeartbeats 4000000
namespace Tr
open Go Go.RowKit
inductive FR where
 | c (g:GF)|row (l:List GF)
inductive FV where
 | r (x:FR)|tup (l:List FR)
def gl(l:LV):GF:=gx l.val (by cases l<;>rfl)
def okg:List GF→List Value→World→(Nat→Prop)→Prop
 | [],[],_,_=>True
 | g :: l,v :: vs,w,A=>g.R v w A∧okg l vs w A
 | _,_,_,_=>False
def FR.R:FR→Fact
 | .c g=>g.R
 | .row l=>fun v w A=>∃ vs,v=.agg vs.toArray∧okg l vs w A
def okf:List FR→List Value→World→(Nat→Prop)→Prop
 | [],[],_,_=>True
 | x :: l,v :: vs,w,A=>x.R v w A∧okf l vs w A
 | _,_,_,_=>False
def FV.R:FV→Fact
 | .r x=>x.R
 | .tup l=>fun v w A=>∃ vs,v=.tuple vs.toArray∧okf l vs w A
structure SpecC(P:Program)(hp:Bool)(f:FuncId)(args:List FR)(res:FV):Prop where
 ent:Enters P f
 ok:∀(w:World) (A:Nat→Prop) (vs:List Value),(hp=true→Rcv A w)→(∀ n,A n→n<w.heap.size)→okf args vs w A →
  Calls P f vs.toArray w fun r w'=>∃ v,r=.returned v∧res.R v w' A∧Below w.heap.size w w'
section
variable{P:Program}{hp:Bool}{fi:FuncId}{a:List FR}{r s:FV}{c:Prop}[Decidable c]
theorem SpecC.it(h:c)(k:SpecC P hp fi a r):SpecC P hp fi a (if c then r else s):=by rw[if_pos h]; exact k
theorem SpecC.ie(h:¬c)(k:SpecC P hp fi a s):SpecC P hp fi a (if c then r else s):=by rw[if_neg h]; exact k
theorem SpecC.t(k:SpecC P hp fi a (if c then r else s))(h:c):SpecC P hp fi a r:=by rw[if_pos h] at k; exact k
theorem SpecC.f(k:SpecC P hp fi a (if c then r else s))(h:¬c):SpecC P hp fi a s:=by rw[if_neg h] at k; exact k
end
def gfn(f:FuncId):GF:=gx (.func (.func f) #[] #[])
def AC.lk(L:List GF):AC→Option GF
 | .sym i=>some (L.getD i g0)
 | .lit l=>some (gl l)
 | .fn f [] []=>some (gfn f)
 | _=>none
def acsK(L:List GF):List AC→Option (List GF)
 | []=>some []
 | x :: l=>match x.lk L,acsK L l with|some v,some vs=>some (v :: vs)|_,_=>none
def AR.lk(L:List GF):AR→Option FR
 | .c x=>match x.lk L with|some g=>some (.c g)|none=>none
 | .row l=>match acsK L l with|some vs=>some (.row vs)|none=>none
def arsK(L:List GF):List AR→Option (List FR)
 | []=>some []
 | x :: l=>match x.lk L,arsK L l with|some v,some vs=>some (v :: vs)|_,_=>none
def AV.lk(L:List GF):AV→Option FV
 | .r x=>match x.lk L with|some g=>some (.r g)|none=>none
 | .tup l=>match arsK L l with|some vs=>some (.tup vs)|none=>none
 | _=>none
section
variable{P:Program}{L:List GF}{hp:Bool}{σ:Sg}{w:World}{A:Nat→Prop}
theorem AC.lk_ok{x:AC}{g:GF}{v:Value}(h:x.lk L=some g):x.ok (gT L) σ v w A↔g.R v w A:=by
 cases x with
 | sym i=>cases h; exact Iff.rfl
 | lit l=>cases h; exact Iff.rfl
 | fn f a b =>
  cases a with
  | cons _ _=>cases h
  | nil =>
   cases b with
   | cons _ _=>cases h
   | nil =>
    cases h
    constructor
    ·rintro⟨us,vs,e,h1,h2⟩
     cases us with
     | cons _ _=>exact h1.elim
     | nil =>
      cases vs with
      | cons _ _=>exact h2.elim
      | nil=>exact e
    ·intro e; exact⟨[],[],e,trivial,trivial⟩
 | _=>cases h
theorem acsK_ok:∀{l:List AC} {gs:List GF} {vs:List Value},acsK L l=some gs→(oks (gT L) σ l vs w A↔okg gs vs w A)
 | [],gs,vs,h=>by cases h; cases vs<;>exact Iff.rfl
 | x :: l,gs,vs,h=>by
  unfold acsK at h
  split at h
  ·rename_i u r h1 h2
   cases h
   cases vs with
   | nil=>exact Iff.rfl
   | cons v vs=>exact and_congr (AC.lk_ok h1) (acsK_ok h2)
  ·cases h
theorem AR.lk_ok{x:AR}{g:FR}{v:Value}(h:x.lk L=some g):x.ok (gT L) σ v w A↔g.R v w A:=by
 cases x with
 | c x =>
  unfold AR.lk at h
  simp only at h
  split at h
  ·rename_i g' h1; cases h; exact AC.lk_ok (x:=x) h1
  ·cases h
 | row l =>
  unfold AR.lk at h
  simp only at h
  split at h
  ·rename_i gs h1; cases h
   exact exists_congr fun vs=>and_congr Iff.rfl (acsK_ok h1)
  ·cases h
theorem arsK_ok:∀{l:List AR} {gs:List FR} {vs:List Value},arsK L l=some gs→(okr (gT L) σ l vs w A↔okf gs vs w A)
 | [],gs,vs,h=>by cases h; cases vs<;>exact Iff.rfl
 | x :: l,gs,vs,h=>by
  unfold arsK at h
  split at h
  ·rename_i u r h1 h2
   cases h
   cases vs with
   | nil=>exact Iff.rfl
   | cons v vs=>exact and_congr (AR.lk_ok h1) (arsK_ok h2)
  ·cases h
theorem AV.lk_ok{x:AV}{g:FV}{v:Value}(h:x.lk L=some g):x.ok (gT L) σ v w A↔g.R v w A:=by
 cases x with
 | r x =>
  unfold AV.lk at h
  simp only at h
  split at h
  ·rename_i g' h1; cases h; exact AR.lk_ok (x:=x) h1
  ·cases h
 | tup l =>
  unfold AV.lk at h
  simp only at h
  split at h
  ·rename_i gs h1; cases h
   exact exists_congr fun vs=>and_congr Iff.rfl (arsK_ok h1)
  ·cases h
 | _=>cases h
end
section
variable{P:Program}{L:List GF}
def gs{hp' hp:Bool}{f:FuncId}{fa:List FR}{fr:FV}(h:SpecC P hp' f fa fr)(args:List AR)(res:AV)(ha:arsK L args=some fa:=by kernel_rfl)(hr:res.lk L=some fr:=by kernel_rfl)(hh:(!hp' || hp)=true:=by rfl):GC P L hp :=
 ⟨{ f,args,res },h.ent,fun σ w A us hR hA hu _=>by
  have hR':hp'=true→Rcv A w:=fun e=>hR (by subst e; simpa using hh)
  exact(h.ok w A us hR' hA ((arsK_ok ha).1 hu)).mono fun r w' ⟨v,h1,h2,h3⟩=>⟨v,h1,(AV.lk_ok hr).2 h2,h3⟩⟩
theorem ev_sp{hp:Bool}{tys:List (TypeId×TyI)}(ht:∀ p∈tys,p.2.good P p.1=true)(hm:P.follows .mixedOrders=true)(C:List (GC P L hp))(B:List (GB P L))(O:List (GO P L)){f:FuncId}{fn:Func}(hf:P.funcs[f]?=some fn)(ent:Enters P f)(fuel:Nat)(args:List AR)(res:AV)
  {fa:List FR} {fr:FV} (hev:evF (gcx tys hp L C B O) fn fuel args res=true:=by kernel_rfl) (ha:arsK L args=some fa:=by kernel_rfl) (hr:res.lk L=some fr:=by kernel_rfl):SpecC P hp f fa fr :=
 ⟨ent,fun w A vs hR hA hu=>(ev_gen ht hm C B O hf fuel args res hev w A vs hR hA ((arsK_ok ha).2 hu)).mono fun r w' ⟨v,h1,h2,h3⟩=>⟨v,h1,(AV.lk_ok hr).1 h2,h3⟩⟩
def gfV:List GF→Option (List Value)
 | []=>some []
 | g :: l=>match g.ex,gfV l with|some v,some vs=>some (v :: vs)|_,_=>none
def FR.val:FR→Option Value
 | .c g=>g.ex
 | .row l=>match gfV l with|some vs=>some (.agg vs.toArray)|none=>none
def frsV:List FR→Option (List Value)
 | []=>some []
 | x :: l=>match x.val,frsV l with|some v,some vs=>some (v :: vs)|_,_=>none
def FV.val:FV→Option Value
 | .r x=>x.val
 | .tup l=>match frsV l with|some vs=>some (.tuple vs.toArray)|none=>none
variable{w:World}{A:Nat→Prop}
theorem gfV_ok:∀{l:List GF} {us vs:List Value},gfV l=some us→(okg l vs w A↔vs=us)
 | [],us,vs,h=>by cases h; cases vs<;>simp[okg]
 | g :: l,us,vs,h=>by
  unfold gfV at h
  split at h
  ·rename_i u r h1 h2
   cases h
   cases vs with
   | nil=>simp[okg]
   | cons v vs=>simp only[okg,g.exact u h1,gfV_ok h2,List.cons.injEq]
  ·cases h
theorem FR.val_ok{x:FR}{u v:Value}(h:x.val=some u):x.R v w A↔v=u:=by
 cases x with
 | c g=>exact g.exact u h v w A
 | row l =>
  unfold FR.val at h
  simp only at h
  split at h
  ·rename_i vs h1
   cases h
   constructor
   ·rintro⟨us,rfl,h2⟩; rw[(gfV_ok h1).1 h2]
   ·rintro rfl; exact⟨_,rfl,(gfV_ok h1).2 rfl⟩
  ·cases h
theorem frsV_ok:∀{l:List FR} {us vs:List Value},frsV l=some us→(okf l vs w A↔vs=us)
 | [],us,vs,h=>by cases h; cases vs<;>simp[okf]
 | x :: l,us,vs,h=>by
  unfold frsV at h
  split at h
  ·rename_i u r h1 h2
   cases h
   cases vs with
   | nil=>simp[okf]
   | cons v vs=>simp only[okf,FR.val_ok h1,frsV_ok h2,List.cons.injEq]
  ·cases h
theorem FV.val_ok{x:FV}{u v:Value}(h:x.val=some u):x.R v w A↔v=u:=by
 cases x with
 | r x=>exact FR.val_ok (x:=x) h
 | tup l =>
  unfold FV.val at h
  simp only at h
  split at h
  ·rename_i vs h1
   cases h
   constructor
   ·rintro⟨us,rfl,h2⟩; rw[(frsV_ok h1).1 h2]
   ·rintro rfl; exact⟨_,rfl,(frsV_ok h1).2 rfl⟩
  ·cases h
theorem spec_pure{f:FuncId}{vs:List Value}{v:Value}{fa:List FR}{fr:FV}(ent:Enters P f)(h:PureC P f vs v)(ha:frsV fa=some vs)(hr:fr.val=some v):SpecC P false f fa fr :=
 ⟨ent,fun w A us _ _ hu=>by
  have e:us=vs:=(frsV_ok ha).1 hu
  subst e
  exact(h w).mono fun r w' h=>⟨v,h.1,(FV.val_ok hr).2 rfl,h.2⟩⟩
theorem SpecC.pure{hp:Bool}{f:FuncId}{vs:List Value}{v:Value}{fa:List FR}{fr:FV}(h:SpecC P hp f fa fr)(ha:frsV fa=some vs)(hr:fr.val=some v):PureC P f vs v:=fun w =>
 (h.ok w NoA vs (fun _=>rcv_none w) (fun _ h=>h.elim) ((frsV_ok ha).2 rfl)).mono fun r w' ⟨u,h1,h2,h3⟩=>⟨by rw[h1,(FV.val_ok hr).1 h2],h3⟩
theorem spec1{hp:Bool}{f:FuncId}{x:FR}{res:FV}(ent:Enters P f)(h:∀(w:World) (A:Nat→Prop) (u:Value),(hp=true→Rcv A w)→(∀ n,A n→n<w.heap.size)→x.R u w A→Calls P f #[u] w fun r w'=>∃ v,r=.returned v∧res.R v w' A∧Below w.heap.size w w'):SpecC P hp f [x] res :=
 ⟨ent,fun w A us hR hA hu=>by
  match us,hu with
  | [u],hu=>exact h w A u hR hA hu.1⟩
theorem spec2{hp:Bool}{f:FuncId}{x y:FR}{res:FV}(ent:Enters P f)(h:∀(w:World) (A:Nat→Prop) (u v:Value),(hp=true→Rcv A w)→(∀ n,A n→n<w.heap.size)→x.R u w A→y.R v w A→Calls P f #[u,v] w fun r w'=>∃ v,r=.returned v∧res.R v w' A∧Below w.heap.size w w'):SpecC P hp f [x,y] res :=
 ⟨ent,fun w A us hR hA hu=>by
  match us,hu with
  | [u,v],hu=>exact h w A u v hR hA hu.1 hu.2.1⟩
end
def ga:GF where
 R:=fun v _ _=>v.oneCell'=true∧∀(k:Unit) (x:Int),v≠.int .u32 x
 int:=false
 keeps:=fun _ _ _ _ _ _ _ h=>h
 cell:=fun v w A h=>h.1
 noint:=fun _ v w A h=>h.2
 ex:=none
 exact:=fun u e=>by cases e
def gai:GF where
 R:=fun v _ _=>v.oneCell'=true
 int:=true
 keeps:=fun _ _ _ _ _ _ _ h=>h
 cell:=fun v w A h=>h
 noint:=fun e=>by cases e
 ex:=none
 exact:=fun u e=>by cases e
def GF.any(g:GF):GF:=if g.int then gai else ga
def FR.any:FR→FR|.c g=>.c g.any|.row l=>.row (l.map GF.any)
def FV.any:FV→FV|.r x=>.r x.any|.tup l=>.tup (l.map FR.any)
section
variable{w:World}{A:Nat→Prop}
end
inductive FA where
 | f (x:FR)|sl (b off len cap:Nat)|own (b off:Nat)|fn (f:FuncId) (a b:List Nat)
def FA.R(σ:Sg):FA→Fact
 | .f x=>x.R
 | .sl b o n c=>fun v _ _=>∃ m,σ b=some m∧v=.slice (some ⟨m,o,none⟩) n c
 | .own b o=>fun v _ _=>∃ n,σ b=some n∧v=.pointer (some ⟨n,o,none⟩)
 | .fn g a b=>fun v _ _=>∃ us vs:List Value,v=.func (.func g) us.toArray vs.toArray∧ptrs σ a us∧ptrs σ b vs
def oka(σ:Sg):List FA→List Value→World→(Nat→Prop)→Prop
 | [],[],_,_=>True
 | x :: l,v :: vs,w,A=>x.R σ v w A∧oka σ l vs w A
 | _,_,_,_=>False
structure SpecM(P:Program)(hp:Bool)(f:FuncId)(bl:List (List GF×TypeId))(args:List FA)(res:FV):Prop where
 ent:Enters P f
 ok:∀(σ:Sg) (w:World) (A:Nat→Prop) (vs:List Value),(hp=true→Rcv A w)→(∀ n,A n→n<w.heap.size) →
  (∀ b gs ty,bl[b]?=some (gs,ty)→∃ n us,σ b=some n∧A n∧w.heap[n]?=some (.cells us.toArray ty (0,0))∧okg gs us w A)→(∀ b,bl.length≤b→σ b=none)→oka σ args vs w A →
  Calls P f vs.toArray w fun r w'=>∃ v,r=.returned v∧res.R v w' A∧Below w.heap.size w w'
section
variable{P:Program}{hp:Bool}{fi:FuncId}{bl:List (List GF×TypeId)}{a:List FA}{r s:FV}{c:Prop}[Decidable c]
theorem SpecM.it(h:c)(k:SpecM P hp fi bl a r):SpecM P hp fi bl a (if c then r else s):=by rw[if_pos h]; exact k
theorem SpecM.ie(h:¬c)(k:SpecM P hp fi bl a s):SpecM P hp fi bl a (if c then r else s):=by rw[if_neg h]; exact k
theorem SpecM.t(k:SpecM P hp fi bl a (if c then r else s))(h:c):SpecM P hp fi bl a r:=by rw[if_pos h] at k; exact k
theorem SpecM.f(k:SpecM P hp fi bl a (if c then r else s))(h:¬c):SpecM P hp fi bl a s:=by rw[if_neg h] at k; exact k
end
def AR.la(L:List GF):AR→Option FA
 | .c (.own b o)=>some (.own b o)
 | .c (.sl b o n k)=>some (.sl b o n k)
 | .c (.fn f a b)=>some (.fn f a b)
 | x=>match x.lk L with|some g=>some (.f g)|none=>none
section
variable{L:List GF}{σ:Sg}{w:World}{A:Nat→Prop}
end
section
variable{P:Program}{L:List GF}
end
end Tr
namespace Go.Proofs.YthklnbaddobieaaGreat
open Go.RowKit Tr
def gr(q:Rat):GF where
 R:=RatP q
 int:=false
 keeps:=RatP.keeps q
 cell:=fun v w A h=>by obtain⟨b,rfl,_⟩:=h; rfl
 noint:=fun _ v w A h k x=>by obtain⟨b,rfl,_⟩:=h; simp
 ex:=none
 exact:=fun u e=>by cases e
def rF(q:Rat):List GF:=[gx (.bool (decide (q.num<0))),gx (.string (strN q.num.natAbs)),gx (.bool false),gx (.string (strN q.den))]
def cq(z:QC):List GF:=[gr z.re,gr z.im]
section
variable{w:World}{A:Nat→Prop}{v:Value}
end
def zFA:List AC:=[.lit (.bool false),.lit .str0,.lit (.bool false),.lit .str0]
def zFG:List GF:=[gl (.bool false),gl .str0,gl (.bool false),gl .str0]
def B1(b:Bool):FV:=.r (.c (gx (.bool b)))
section
variable{L:List GF}
end
theorem shortF_lt{q:Rat}(h1:q.num.natAbs<256 ^ 1024)(h2:q.den<256 ^ 1024):ShortF q:=⟨by rw[size_strN]; exact byteLE_le h1,by rw[size_strN]; exact byteLE_le h2⟩
end Go.Proofs.YthklnbaddobieaaGreat
namespace Go.Proofs.YthklnbaddobieaaGreat
open Go.RowKit Tr
end Go.Proofs.YthklnbaddobieaaGreat
namespace Go.Proofs.YthklnbaddobieaaGreat
open Go.RowKit Tr
end Go.Proofs.YthklnbaddobieaaGreat
namespace Go.Proofs.YthklnbaddobieaaGreat
open Go.RowKit Tr
theorem RatO.shape{q:Rat}{v:Value}{w:World}{A:Nat→Prop}(h:RatO q v w A):∃ p,v=.pointer p:=by
 rcases h with⟨rfl,_⟩|h
 ·exact⟨none,rfl⟩
 ·obtain⟨m,rfl⟩:=h.shape
  exact⟨_,rfl⟩
def MayF(v:Value):Fact:=fun u w A=>(¬FracOk v∧u=.pointer none)∨∃ q,v=encF q∧FracOk v∧RatP q u w A
theorem MayF.keeps(v:Value):(MayF v).Keeps:=fun u w w' A A' hs hk h=>h.imp id (fun⟨q,e,f,h⟩=>⟨q,e,f,RatP.keeps q u w w' A A' hs hk h⟩)
def NQ(z:QC):Fact:=NumO z.re z.im
theorem NQ.keeps(z:QC):(NQ z).Keeps:=NumO.keeps _ _
def GaussOk(v:Value):Prop:=∃ z:QC,v=encG z.re z.im∧ShortF z.re∧ShortF z.im
end Go.Proofs.YthklnbaddobieaaGreat
namespace Go.Proofs.YthklnbaddobieaaGreat
open Go.RowKit Tr
def OfF(v0:Value):Fact:=fun u w A=>∃ z,NQ z u w A∧(GaussOk v0→v0=encG z.re z.im)
theorem OfF.keeps(v0:Value):(OfF v0).Keeps:=fun u w w' A A' hs hk ⟨z,h,e⟩=>⟨z,NQ.keeps z u w w' A A' hs hk h,e⟩
end Go.Proofs.YthklnbaddobieaaGreat
namespace Go.Proofs.YthklnbaddobieaaGreat
open Go.RowKit Tr
def cmpR(x y:Rat):Int:=if x<y then -1 else if x=y then 0 else 1
theorem cmpR_int(x y:Rat):cmpI (x.num*(y.den:Int)) (y.num*(x.den:Int))=cmpR x y:=by
 unfold cmpI cmpR
 have h1:x<y↔x.num*(y.den:Int)<y.num*(x.den:Int):=Rat.lt_iff x y
 have h2:y<x↔y.num*(x.den:Int)<x.num*(y.den:Int):=Rat.lt_iff y x
 by_cases hxy:x<y
 ·rw[if_pos (h1.1 hxy),if_pos hxy]
 ·rw[if_neg (fun h=>hxy (h1.2 h)),if_neg hxy]
  by_cases hyx:y<x
  ·rw[if_pos (h2.1 hyx),if_neg (fun e=>by subst e; exact hxy hyx)]
  ·rw[if_neg (fun h=>hyx (h2.2 h)),if_pos (Rat.le_antisymm (Rat.not_lt.1 hyx) (Rat.not_lt.1 hxy))]
set_option maxRecDepth 100000 in
theorem RCmp_any(x y:Rat)(vx vy:Value)(A:Nat→Prop)(w:World)(hx:RatP x vx w A)(hy:RatP y vy w A)(k l:Nat)(hlx:RL x k)(hly:RL y l)(hkl:k+l<137438953472) :
  Calls Tryz.prog 40 #[vx,vy] w fun e w'=>e=.returned (.int .i64 (cmpR x y))∧Below w.heap.size w w':=by
 have hx:=hx.noA
 have hy:=hy.noA
 obtain⟨b,rfl⟩:=hx.shape
 obtain⟨b2,rfl⟩:=hy.shape
 obtain⟨_,eb,hxn,_⟩:=id hx
 cases eb
 obtain⟨_,eb,hyn,_⟩:=id hy
 cases eb
 have l1:(words (x.num*(y.den:Int)).natAbs).length≤k+l:=by rw[Int.natAbs_mul]; exact wl_mul hlx.1 (by simpa using hly.2)
 have l2:(words (y.num*(x.den:Int)).natAbs).length≤k+l:=by rw[Int.natAbs_mul,Nat.add_comm]; exact wl_mul hly.1 (by simpa using hlx.2)
 obtain⟨cz,hcz⟩:∃ cz,cz=cmpR x y:=⟨_,rfl⟩
 rw[←hcz]
 have HZ:=Lib.hid hcz
 clear hcz
 go_enter Tryz.func40,Tryz.ntmps40
 go_wp2_with fail
 refine wp_region_inv [(.new zI,[]),(.lit,[]),(.lit,[]),(.lit,[]),(.lit,[]),(.val,[]),(.on 0 zI,[5]),(.new zI,[]),(.lit,[]),(.lit,[]),(.lit,[]),(.lit,[]),(.val,[]),(.on 7 zI,[12]),(.val,[6,13])]
  (pickF [(5,IntP y.den),(6,IntP (x.num*(y.den:Int))),(12,IntP x.den),(13,IntP (y.num*(x.den:Int))),(14,fun v _ _=>v=.int .i64 cz)]) (by kernel_rfl) ?_ ?_ (by simp[noW_zInt]) (by simp) (by kernel_rfl)
 ·exact keeps_pick (by simp[IntP.keeps,keeps_pure])
 ·refine⟨fun f w1=>by go_simp,?_⟩
  refine⟨_,fun f w1 h1=>by go_simp; rfl,?_⟩
  refine⟨_,fun f w1 h1=>by go_simp; rfl,?_⟩
  refine⟨_,fun f w1 h1=>by go_simp; rfl,?_⟩
  refine⟨_,fun f w1 h1=>by go_simp; rfl,?_⟩
  simp only[Act.put,nrA,nrB,nrC,Nat.reduceAdd]
  refine⟨fun f w1 A1 h1 hA hN hd K hK=>by
   go_simp
   refine(den_any y _ A1 w1 (later (RatP.keeps _) hy h1 hN) hA).mono ?_
   rintro e w' ⟨v,rfl,hb,hi⟩
   exact hK _ _ hb hi,?_⟩
  simp only[Act.put,nrA,nrB,nrC,Nat.reduceAdd]
  refine⟨fun f w1 A1 m1 h1 hA hN hAm hm0 e hz hd K hK=>by
   simp only[e] at hK ⊢
   have i1:IntP y.den (f 5) w1 A1:=hd 5 (by simp)
   go_simp
   refine(mul_any m1 0 _ _ x.num y.den _ _ A1 w1 hz (by decide) noW_zInt (later (IntP.keeps _) hxn h1 hN) i1 (by have:=hlx.1; omega) (by have:=hly.2; simp; omega)).mono ?_
   rintro e w' ⟨rfl,hp⟩
   exact hK _ w' hp.1 (hp.intP (by decide) hA),?_⟩
  refine⟨fun f w1=>by go_simp,?_⟩
  refine⟨_,fun f w1 h1=>by go_simp; rfl,?_⟩
  refine⟨_,fun f w1 h1=>by go_simp; rfl,?_⟩
  refine⟨_,fun f w1 h1=>by go_simp; rfl,?_⟩
  refine⟨_,fun f w1 h1=>by go_simp; rfl,?_⟩
  simp only[Act.put,nrA,nrB,nrC,Nat.reduceAdd]
  refine⟨fun f w1 A1 h1 hA hN hd K hK=>by
   go_simp
   refine(den_any x _ A1 w1 (later (RatP.keeps _) hx h1 hN) hA).mono ?_
   rintro e w' ⟨v,rfl,hb,hi⟩
   exact hK _ _ hb hi,?_⟩
  simp only[Act.put,nrA,nrB,nrC,Nat.reduceAdd]
  refine⟨fun f w1 A1 m1 h1 hA hN hAm hm0 e hz hd K hK=>by
   simp only[e] at hK ⊢
   have i1:IntP x.den (f 12) w1 A1:=hd 12 (by simp)
   go_simp
   refine(mul_any m1 0 _ _ y.num x.den _ _ A1 w1 hz (by decide) noW_zInt (later (IntP.keeps _) hyn h1 hN) i1 (by have:=hly.1; omega) (by have:=hlx.2; simp; omega)).mono ?_
   rintro e w' ⟨rfl,hp⟩
   exact hK _ w' hp.1 (hp.intP (by decide) hA),?_⟩
  simp only[Act.put,nrA,nrB,nrC,Nat.reduceAdd]
  refine⟨fun f w1 A1 h1 hA hN hd K hK=>by
   have i1:IntP (x.num*(y.den:Int)) (f 6) w1 A1:=hd 6 (by simp)
   have i2:IntP (y.num*(x.den:Int)) (f 13) w1 A1:=hd 13 (by simp)
   go_simp
   refine(Cmp_any _ _ _ _ A1 w1 i1 i2 (by omega) (by omega)).mono ?_
   rintro e w' ⟨rfl,hb⟩
   rw[cmpR_int,←HZ.out]
   exact hK _ _ hb rfl,?_⟩
  intro f w1 h1 hF
  have hv:f 14=.int .i64 cz:=hF.2
  clear hF
  simp only[Act.put,nrA,nrB,nrC]
  rw[hv]
  generalize f 5=v5
  generalize f 6=v6
  generalize f 12=v12
  generalize f 13=v13
  clear hv hx hy hxn hyn
  go_wp2
  go_ret
  exact⟨rfl,br.drew.trans h1⟩
end Go.Proofs.YthklnbaddobieaaGreat
set_option linter.unusedSimpArgs false
namespace Go.Proofs.YthklnbaddobieaaGreat
open Go.RowKit Tr
def frm8(cs:List Int)(a b n:BitVec 3):BitVec 3×BitVec 3×BitVec 3:=cs.foldl (fun s c=>(s.1*a - s.2.1*b+BitVec.ofInt 3 c*s.2.2,s.1*b+s.2.1*a,s.2.2*n)) (0,0,1)
def NoRoot(cs:List Int):Prop:=∀ a b n:BitVec 3,(frm8 cs a b n).1=0→(frm8 cs a b n).2.1=0→a.toNat % 2=0∧b.toNat % 2=0∧n.toNat % 2=0
instance (cs:List Int):Decidable (NoRoot cs):=by unfold NoRoot; infer_instance
def fg(s:QC):Nat→QC×QC
 | 0=>(⟨1,0⟩,⟨0,0⟩)
 | k+1=>(s*((fg s k).1 - (fg s k).2) - (fg s k).1,(fg s k).1 - (fg s k).2)
end Go.Proofs.YthklnbaddobieaaGreat
namespace Tr
end Tr
namespace Go.Proofs.YthklnbaddobieaaGreat
open Go.RowKit Tr
end Go.Proofs.YthklnbaddobieaaGreat
namespace Go.Proofs.YthklnbaddobieaaGreat
open Go.RowKit Tr
end Go.Proofs.YthklnbaddobieaaGreat
namespace Go.Proofs.YthklnbaddobieaaGreat
open Go.RowKit Tr
end Go.Proofs.YthklnbaddobieaaGreat
namespace Go.Proofs.YthklnbaddobieaaGreat
open Go.RowKit Tr
theorem fsmall(n d:Int)(h1:-9223372036854775808≤n)(h2:n<9223372036854775808)(h3:-9223372036854775808≤d)(h4:d<9223372036854775808)(h0:d≠0):PureC Tryz.prog 34 [.int .i64 n,.int .i64 d] (encF (Rat.divInt n d)):=by
  have ho:=fof n d h0 (Nat.le_trans (words_length_le (k:=2) (by omega)) (by decide)) (Nat.le_trans (words_length_le (k:=2) (by omega)) (by decide))
  exact ev_pure (hp:=false) (L:=[gx (.int .i64 n),gx (.int .i64 d)]++cz n++cz d++cF (Rat.divInt n d)) tys_ok mixed
    [gp 79 [.c (.sym 0)] (.r (.row [.sym 2,.sym 3])) eo79 (sof n h1 h2) rfl rfl,gp 79 [.c (.sym 1)] (.r (.row [.sym 4,.sym 5])) eo79 (sof d h3 h4) rfl rfl,gp 78 [.row [.sym 2,.sym 3],.row [.sym 4,.sym 5]] (.r (.row [.sym 6,.sym 7,.lit (.bool false),.sym 8])) eo78 ho rfl rfl]
    [] []
    Tryz.func34 100 [.c (.sym 0),.c (.sym 1)] (.r (.row [.sym 6,.sym 7,.lit (.bool false),.sym 8])) (by kernel_rfl) rfl rfl
end Go.Proofs.YthklnbaddobieaaGreat
namespace Go.Proofs.YthklnbaddobieaaGreat
open Go.RowKit Tr
def R1(q:Rat):FR:=.c (gr q)
theorem pRCmp(x y:Rat){m l:Nat}(hx:RL x m)(hy:RL y l)(hb:m+l<137438953472):SpecC Tryz.prog true 40 [R1 x,R1 y] (.r (.c (gx (.int .i64 (cmpR x y))))) :=
 spec2 eo40 fun w A u v hR _ hu hv=>(RCmp_any x y u v A w hu hv m l hx hy hb).mono fun e w' ⟨h1,h2⟩=>⟨_,h1,rfl,h2⟩
def F1(q:Rat):FR:=.row (rF q)
end Go.Proofs.YthklnbaddobieaaGreat
namespace Go.Proofs.YthklnbaddobieaaGreat
open Go.RowKit Tr
def zRA:List AC:=[.lit (.bool false),.lit .nils,.lit (.bool false),.lit .nils]
def giveR{L:List GF}{f:FuncId}(ent:Tr.Enters Tryz.prog f)(b:Nat)(args:List AR)(res:AC)(q:Rat)(fa:List FR)
  (h:∀(m:Nat) (C:Array Value) (w:World) (A:Nat→Prop) (vs:List Value),Rcv A w→w.heap[m]?=some (.cells C 133 (0,0))→C.size=4→NoW (.cells C 133 (0,0))→okf fa vs w A →
   Calls Tryz.prog f (.pointer (some ⟨m,0,none⟩) :: vs).toArray w fun e w'=>e=.returned (.pointer (some ⟨m,0,none⟩))∧PutR m q w w')
  (ha:arsK L args=some fa:=by kernel_rfl) (hr:res.lk L=some (gr q):=by kernel_rfl):GC Tryz.prog L true :=
 ⟨{ f,args:=.c (.own b 0) :: args,res:=.r (.c res),needs:=[(b,⟨zRA,133,none⟩)],give:=some b },ent,fun σ w A us hR hA hu hn n hσ hAn=>by
  match us,hu with
  | u :: us,hu =>
   obtain⟨⟨n0,h0,rfl⟩,hu⟩:=hu
   have e0:n0=n:=by
    have:some n0=some n:=h0.symm.trans hσ
    cases this; rfl
   subst e0
   obtain⟨⟨n1,vs,h1,_,h2,h3⟩,_⟩:=hn
   have e1:n1=n0:=by
    have:some n1=some n0:=h1.symm.trans hσ
    cases this; rfl
   subst e1
   have e2:vs=[.bool false,.slice none 0 0,.bool false,.slice none 0 0]:=by
    match vs,h3 with
    | [a,b,c,d],⟨k1,k2,k3,k4,_⟩=>cases k1; cases k2; cases k3; cases k4; rfl
   subst e2
   refine(h n1 _ w A us (hR rfl) h2 rfl noW_zRat ((arsK_ok ha).1 hu)).mono ?_
   rintro e w' ⟨rfl,hp⟩
   exact⟨_,rfl,(AC.lk_ok hr).2 (hp.ratP (hR rfl)),hp.1⟩⟩
section
variable{L:List GF}
def gvSub(x y:Rat){k l:Nat}(hx:RL x k)(hy:RL y l)(hb:k+l<137438953472)(b:Nat)(ax ay:AR)(res:AC)(ha:arsK L [ax,ay]=some [.c (gr x),.c (gr y)]:=by kernel_rfl)(hr:res.lk L=some (gr (x - y)):=by kernel_rfl):GC Tryz.prog L true :=
 giveR eo167 b [ax,ay] res (x - y) [.c (gr x),.c (gr y)] (fun m C w A vs hA hm h4 hC hu=>by
  match vs,hu with
  | [v,v'],hu=>exact RSub_any m C x y v v' A w hm h4 hC hu.1 hu.2.1 k l hx hy hb) ha hr
end
def ng(z:QC):QC:=⟨-z.re,-z.im⟩
end Go.Proofs.YthklnbaddobieaaGreat
namespace Tr
open Go Go.RowKit
structure Fn where
 f:FuncId
 fn:Func
 fuel:Nat
def visB(bl:Nat→Option BK)(len:Nat):List BK:=(List.range len).map fun b=>visK (bl b)
def idx(b:Nat):List Nat→Option Nat
 | []=>none
 | c :: l=>if c == b then some 0 else(idx b l).map (·+1)
def renOf(bl:Nat→Option BK)(len new:Nat)(ids:List Nat)(b:Nat):Option Nat :=
 if b<len then(match bl b with|some (.live _)|some (.lent _)=>some b|_=>none) else(idx b ids).map (new+·)
def natsR(ρ:Nat→Option Nat):List Nat→Option (List Nat)
 | []=>some []
 | b :: l=>match ρ b,natsR ρ l with|some c,some m=>some (c :: m)|_,_=>none
def AC.ren(ρ:Nat→Option Nat):AC→Option AC
 | .sym i=>some (.sym i)
 | .lit l=>some (.lit l)
 | .own b o=>match ρ b with|some c=>some (.own c o)|none=>none
 | .sl b o n k=>match ρ b with|some c=>some (.sl c o n k)|none=>none
 | .sg b o n=>match ρ b with|some c=>some (.sg c o n)|none=>none
 | .fn f a b=>match natsR ρ a,natsR ρ b with|some c,some d=>some (.fn f c d)|_,_=>none
def acsR(ρ:Nat→Option Nat):List AC→Option (List AC)
 | []=>some []
 | x :: l=>match x.ren ρ,acsR ρ l with|some y,some m=>some (y :: m)|_,_=>none
def AR.ren(ρ:Nat→Option Nat):AR→Option AR
 | .c x=>match x.ren ρ with|some y=>some (.c y)|none=>none
 | .row l=>match acsR ρ l with|some m=>some (.row m)|none=>none
def arsR(ρ:Nat→Option Nat):List AR→Option (List AR)
 | []=>some []
 | x :: l=>match x.ren ρ,arsR ρ l with|some y,some m=>some (y :: m)|_,_=>none
def AV.ren(ρ:Nat→Option Nat):AV→Option AV
 | .r x=>match x.ren ρ with|some y=>some (.r y)|none=>none
 | .tup l=>match arsR ρ l with|some m=>some (.tup m)|none=>none
 | .undf=>some .undf
 | .junk=>some .junk
def AB.ren(ρ:Nat→Option Nat)(ab:AB):Option AB:=match acsR ρ ab.cells with|some cs=>some { ab with cells:=cs }|none=>none
def wvis(ρ:Nat→Option Nat)(bl:Nat→Option BK)(bs:List BK):List Nat→Option (List (Nat×BK))
 | []=>some []
 | b :: l=>match bl b with
  | some (.live ab)=>(match bs[b]?,wvis ρ bl bs l with
   | some (.live ab1),some r=>(match ab1.ren ρ with|some ab2=>some (if ab2.beq ab then r else(b,.live ab2) :: r)|none=>none)
   | some .dead,some r=>some ((b,.dead) :: r)
   | _,_=>none)
  | _=>wvis ρ bl bs l
def births(ρ:Nat→Option Nat)(bs:List BK):List Nat→Nat→Option (List (Nat×BK))
 | [],_=>some []
 | b :: l,new=>match bs[b]?,births ρ bs l (new+1) with
  | some (.live ab1),some r=>(match ab1.ren ρ with|some ab2=>some ((new,.live ab2) :: r)|none=>none)
  | _,_=>none
def nodupB:List Nat→Bool
 | []=>true
 | a :: l=>!l.contains a && nodupB l
def freeB(bl:Nat→Option BK)(new:Nat):Nat→Bool
 | 0=>true
 | n+1=>(match bl (new+n) with|some .unborn=>true|_=>false) && freeB bl new n
def findF(f:FuncId):List Fn→Option Fn
 | []=>none
 | q :: l=>if q.f == f then some q else findF f l
def inlEnd(cx:Cx)(q:Fn)(args:List AR)(bl:Nat→Option BK)(len new:Nat)(s1:AS):Option (AV×List (Nat×BK)×List Nat) :=
 match resA cx q.fn s1 with
 | none=>none
 | some r =>
  let seen:=reachN (fun b=>decide (b<len)) (fun b=>visK (bl b)) 12 [] (args.flatMap AR.ments)
  let ids:=reachN (fun b=>decide (len≤b)) (fun b=>s1.blocks.getD b .dead) 12 [] (r.ments++seen.flatMap fun b=>(match bl b with|some (.live _)=>(s1.blocks.getD b .dead).ments|_=>[]))
  let ρ:=renOf bl len new ids
  match r.ren ρ,wvis ρ bl s1.blocks (List.range len),births ρ s1.blocks ids new with
  | some r',some wv,some bs =>
   if ids.all (fun b=>decide (len≤b)) && nodupB ids && freeB bl new ids.length && nodupB ((wv++bs).map (·.1)) then some (r',wv++bs,seen) else none
  | _,_,_=>none
def inlOf(cx:Cx)(fs:List Fn):Inl:=fun f args bl len new =>
 match findF f fs with
 | none=>none
 | some q=>match q.fn.body with
  | none=>none
  | some c=>match evC cx q.fuel c { tmps:=args.map AV.r++List.replicate (q.fn.ntmps - args.length) .undf,blocks:=visB bl len } with
   | some (.normal,s1)|some (.ret,s1)=>inlEnd cx q args bl len new s1
   | _=>none
section
variable{T:Nat→Fact}{cx cx':Cx}{A0 M:Nat→Prop}{w0:World}{σs σ σ1 σ2:Sg}{s:AS}{a:Act}{w w':World}{P:Program}{bl:Nat→Option BK}{ρ:Nat→Option Nat}{A:Nat→Prop}
def Rn(ρ:Nat→Option Nat)(σ1 σ2:Sg):Prop:=∀ b c n,ρ b=some c→σ1 b=some n→σ2 c=some n∧σ2.room c=σ1.room b
theorem ptrs_ren(h:Rn ρ σ1 σ2):∀{l m:List Nat} {vs:List Value},natsR ρ l=some m→ptrs σ1 l vs→ptrs σ2 m vs
 | [],m,vs,hr,hx=>by cases hr; cases vs<;>exact hx
 | b :: l,m,vs,hr,hx=>by
  unfold natsR at hr
  split at hr
  ·rename_i c r h1 h2
   cases hr
   cases vs with
   | nil=>exact hx.elim
   | cons v vs =>
    obtain⟨⟨n,e1,e2⟩,h3⟩:=hx
    exact⟨⟨n,(h _ _ _ h1 e1).1,e2⟩,ptrs_ren h h2 h3⟩
  ·cases hr
theorem AC.ren_ok(h:Rn ρ σ1 σ2){x y:AC}(hr:x.ren ρ=some y){v:Value}(hx:x.ok T σ1 v w A):y.ok T σ2 v w A:=by
 cases x with
 | sym i=>cases hr; exact hx
 | lit l=>cases hr; exact hx
 | own b o =>
  unfold AC.ren at hr; simp only at hr
  split at hr
  ·rename_i c h1; cases hr
   obtain⟨n,e1,e2⟩:=hx
   exact⟨n,(h _ _ _ h1 e1).1,e2⟩
  ·cases hr
 | sl b o k c =>
  unfold AC.ren at hr; simp only at hr
  split at hr
  ·rename_i c h1; cases hr
   obtain⟨n,e1,e2⟩:=hx
   exact⟨n,(h _ _ _ h1 e1).1,e2⟩
  ·cases hr
 | sg b o k =>
  unfold AC.ren at hr; simp only at hr
  split at hr
  ·rename_i c h1; cases hr
   obtain⟨n,e1,e2,e3⟩:=hx
   obtain⟨g1,g2⟩:=h _ _ _ h1 e1
   exact⟨n,g1,by rw[g2]; exact e2,by rw[g2]; exact e3⟩
  ·cases hr
 | fn f p q =>
  unfold AC.ren at hr; simp only at hr
  split at hr
  ·rename_i c d h1 h2; cases hr
   obtain⟨us,vs,e1,e2,e3⟩:=hx
   exact⟨us,vs,e1,ptrs_ren h h1 e2,ptrs_ren h h2 e3⟩
  ·cases hr
theorem acsR_ok(h:Rn ρ σ1 σ2):∀{l m:List AC} {vs:List Value},acsR ρ l=some m→oks T σ1 l vs w A→oks T σ2 m vs w A
 | [],m,vs,hr,hx=>by cases hr; cases vs<;>exact hx
 | x :: l,m,vs,hr,hx=>by
  unfold acsR at hr
  split at hr
  ·rename_i c r h1 h2
   cases hr
   cases vs with
   | nil=>exact hx.elim
   | cons v vs=>exact⟨AC.ren_ok h h1 hx.1,acsR_ok h h2 hx.2⟩
  ·cases hr
theorem AR.ren_ok(h:Rn ρ σ1 σ2){x y:AR}(hr:x.ren ρ=some y){v:Value}(hx:x.ok T σ1 v w A):y.ok T σ2 v w A:=by
 cases x with
 | c x =>
  unfold AR.ren at hr; simp only at hr
  split at hr
  ·rename_i c h1; cases hr; exact AC.ren_ok (x:=x) h h1 hx
  ·cases hr
 | row l =>
  unfold AR.ren at hr; simp only at hr
  split at hr
  ·rename_i c h1; cases hr
   obtain⟨vs,e,h2⟩:=hx
   exact⟨vs,e,acsR_ok h h1 h2⟩
  ·cases hr
theorem arsR_ok(h:Rn ρ σ1 σ2):∀{l m:List AR} {vs:List Value},arsR ρ l=some m→okr T σ1 l vs w A→okr T σ2 m vs w A
 | [],m,vs,hr,hx=>by cases hr; cases vs<;>exact hx
 | x :: l,m,vs,hr,hx=>by
  unfold arsR at hr
  split at hr
  ·rename_i c r h1 h2
   cases hr
   cases vs with
   | nil=>exact hx.elim
   | cons v vs=>exact⟨AR.ren_ok h h1 hx.1,arsR_ok h h2 hx.2⟩
  ·cases hr
theorem AV.ren_ok(h:Rn ρ σ1 σ2){x y:AV}(hr:x.ren ρ=some y){v:Value}(hx:x.ok T σ1 v w A):y.ok T σ2 v w A:=by
 cases x with
 | r x =>
  unfold AV.ren at hr; simp only at hr
  split at hr
  ·rename_i c h1; cases hr; exact AR.ren_ok (x:=x) h h1 hx
  ·cases hr
 | tup l =>
  unfold AV.ren at hr; simp only at hr
  split at hr
  ·rename_i c h1; cases hr
   obtain⟨vs,e,h2⟩:=hx
   exact⟨vs,e,arsR_ok h h1 h2⟩
  ·cases hr
 | undf=>cases hr; exact hx
 | junk=>cases hr; trivial
theorem AC.ren_noint{x y:AC}(hr:x.ren ρ=some y)(i:Nat→Bool):y.noint i=x.noint i:=by
 cases x with
 | sym j=>cases hr; rfl
 | lit l=>cases hr; rfl
 | own b o=>unfold AC.ren at hr; simp only at hr; split at hr<;>cases hr; rfl
 | sl b o k c=>unfold AC.ren at hr; simp only at hr; split at hr<;>cases hr; rfl
 | sg b o k=>unfold AC.ren at hr; simp only at hr; split at hr<;>cases hr; rfl
 | fn f p q=>unfold AC.ren at hr; simp only at hr; split at hr<;>cases hr; rfl
theorem acsR_noint(i:Nat→Bool):∀{l m:List AC},acsR ρ l=some m→m.all (AC.noint i)=l.all (AC.noint i)
 | [],m,hr=>by cases hr; rfl
 | x :: l,m,hr=>by
  unfold acsR at hr
  split at hr
  ·rename_i c r h1 h2
   cases hr
   rw[List.all_cons,List.all_cons,AC.ren_noint h1,acsR_noint i h2]
  ·cases hr
theorem AB.ren_spec{ab ab2:AB}(h:ab.ren ρ=some ab2):acsR ρ ab.cells=some ab2.cells∧ab2.ty=ab.ty∧ab2.more=ab.more:=by
 unfold AB.ren at h
 split at h
 ·rename_i cs h1; cases h; exact⟨h1,rfl,rfl⟩
 ·cases h
theorem live_ren(ht:TOk T cx.ints)(h:Rn ρ σ1 σ2){b c n:Nat}{ab ab2:AB}(hr:ab.ren ρ=some ab2)(hρ:ρ b=some c)(hn:σ1 b=some n){A':Nat→Prop}(hk:Kp w w A A')(hl:LiveOk T cx σ1 A w b ab n):LiveOk T cx σ2 A' w c ab2 n:=by
 obtain⟨e1,e2,e3⟩:=AB.ren_spec hr
 obtain⟨vs,rest,g1,g2,g3,g4,g5,g6⟩:=hl
 refine⟨vs,rest,by rw[e2]; exact g1,(acsR_ok h e1 g2).keep ht (Sub.refl _) hk,?_,g4,g5,?_⟩
 ·unfold okCells at g3 ⊢
  rw[acsR_noint _ e1]; exact g3
 ·rw[e3,(h _ _ _ hρ hn).2]; exact g6
theorem visB_get{len b:Nat}{k:BK}(h:(visB bl len)[b]?=some k):b<len∧k=visK (bl b):=by
 unfold visB at h
 rw[List.getElem?_map] at h
 obtain⟨x,h1,h2⟩:=Option.map_eq_some_iff.1 h
 have hlt:b<len:=by have:=(List.getElem?_eq_some_iff.1 h1).1; simpa using this
 rw[List.getElem?_range hlt] at h1
 cases h1; exact⟨hlt,h2.symm⟩
theorem visK_live{k:Option BK}{ab:AB}(h:BK.live ab=visK k):k=some (.live ab):=by
 unfold visK at h; split at h<;>cases h; rfl
theorem visK_lent{k:Option BK}{ab:AB}(h:BK.lent ab=visK k):k=some (.lent ab):=by
 unfold visK at h; split at h<;>cases h; rfl
theorem visK_unborn{k:Option BK}(h:BK.unborn=visK k):False:=by
 unfold visK at h; split at h<;>cases h
theorem visB_set{len b:Nat}(h:b<len):(visB bl len)[b]?=some (visK (bl b)):=by
 unfold visB
 rw[List.getElem?_map,List.getElem?_range h]; rfl
theorem setL_mem:∀{ws:List (Nat×BK)} {l:List BK} {b:Nat} {k:BK},nodupB (ws.map (·.1))=true→(b,k)∈ws→b<l.length→(setL l ws)[b]?=some k
 | [],l,b,k,_,h,_=>by cases h
 | (c,j) :: ws,l,b,k,hn,h,hl=>by
  simp only[List.map_cons,nodupB,Bool.and_eq_true,Bool.not_eq_true'] at hn
  rcases List.mem_cons.1 h with h|h
  ·obtain⟨rfl,rfl⟩:=Prod.mk.inj h
   have hno:∀ k',(b,k') ∉ ws:=fun k' hk=>by
    have:b∈ws.map (·.1):=List.mem_map.2 ⟨_,hk,rfl⟩
    have h2:=hn.1
    simp only[List.contains_eq_mem,decide_eq_false_iff_not] at h2
    exact h2 this
   rw[setL,setL_get ws _ b hno]
   simp[hl]
  ·exact setL_mem (l:=l.set c j) hn.2 h (by simpa using hl)
theorem idx_spec{b:Nat}:∀{l:List Nat} {k:Nat},idx b l=some k→l[k]?=some b
 | [],k,h=>by cases h
 | c :: l,k,h=>by
  unfold idx at h
  split at h
  ·rename_i e; cases h; simpa using e
  ·obtain⟨j,h1,rfl⟩:=Option.map_eq_some_iff.1 h
   simpa using idx_spec h1
theorem idx_get{b:Nat}:∀{l:List Nat} {k:Nat},nodupB l=true→l[k]?=some b→idx b l=some k
 | [],k,_,h=>by simp at h
 | c :: l,k,hn,h=>by
  simp only[nodupB,Bool.and_eq_true,Bool.not_eq_true',List.contains_eq_mem,decide_eq_false_iff_not] at hn
  unfold idx
  cases k with
  | zero=>simp at h; subst h; simp
  | succ k =>
   simp at h
   have:¬(c == b)=true:=fun e=>by
    have e:c=b:=by simpa using e
    subst e
    exact hn.1 (List.mem_of_getElem? h)
   rw[if_neg this,idx_get hn.2 h]; rfl
theorem freeB_spec{new:Nat}:∀{n:Nat},freeB bl new n=true→∀ k,k<n→bl (new+k)=some .unborn
 | 0,_,k,h=>by omega
 | n+1,h,k,hk=>by
  simp only[freeB,Bool.and_eq_true] at h
  by_cases e:k=n
  ·subst e
   have:=h.1
   split at this
   ·assumption
   ·cases this
  ·exact freeB_spec h.2 k (by omega)
theorem births_spec{bs:List BK}:∀{l:List Nat} {new:Nat} {r:List (Nat×BK)},births ρ bs l new=some r →
  (∀(k b:Nat),l[k]?=some b→∃ ab1 ab2,bs[b]?=some (.live ab1)∧ab1.ren ρ=some ab2∧(new+k,BK.live ab2)∈r)∧∀ x kk,(x,kk)∈r→∃ k,k<l.length∧x=new+k∧∃ ab,kk=BK.live ab
 | [],new,r,h=>by cases h; exact⟨fun k b h=>by simp at h,fun x kk h=>by cases h⟩
 | b :: l,new,r,h=>by
  unfold births at h
  split at h
  ·rename_i ab1 r1 h1 h2
   split at h
   ·rename_i ab2 h3
    cases h
    obtain⟨g1,g2⟩:=births_spec h2
    refine⟨fun k c hk=>?_,fun x kk hx=>?_⟩
    ·cases k with
     | zero=>simp at hk; subst hk; exact⟨ab1,ab2,h1,h3,by simp⟩
     | succ k =>
      simp at hk
      obtain⟨p,q,e1,e2,e3⟩:=g1 k c hk
      exact⟨p,q,e1,e2,List.mem_cons_of_mem _ (by rw[show new+(k+1)=new+1+k by omega]; exact e3)⟩
    ·rcases List.mem_cons.1 hx with hx|hx
     ·cases hx; exact⟨0,by simp,rfl,_,rfl⟩
     ·obtain⟨k,e1,e2,e3⟩:=g2 x kk hx
      exact⟨k+1,by simp; omega,by omega,e3⟩
   ·cases h
  ·cases h
theorem wvis_spec{bs:List BK}:∀{l:List Nat} {r:List (Nat×BK)},l.Nodup→wvis ρ bl bs l=some r →
  (∀ b,b∈l→∀ ab,bl b=some (.live ab)→(bs[b]?=some .dead∧(b,BK.dead)∈r)∨∃ ab1 ab2,bs[b]?=some (.live ab1)∧ab1.ren ρ=some ab2∧((ab2=ab∧∀ k,(b,k) ∉ r)∨(b,BK.live ab2)∈r)) ∧
  ∀ x kk,(x,kk)∈r→x∈l∧(∃ ab,bl x=some (.live ab))∧(kk=.dead∨∃ ab,kk=BK.live ab)
 | [],r,_,h=>by cases h; exact⟨fun b h=>(List.not_mem_nil h).elim,fun x kk h=>(List.not_mem_nil h).elim⟩
 | b :: l,r,hnd,h=>by
  rw[List.nodup_cons] at hnd
  unfold wvis at h
  split at h
  ·rename_i ab hb
   split at h
   ·rename_i ab1 r1 h1 h2
    obtain⟨g1,g2⟩:=wvis_spec hnd.2 h2
    split at h
    ·rename_i ab2 h3
     cases h
     have hno:∀ k,(b,k) ∉ r1:=fun k hk=>hnd.1 (g2 _ _ hk).1
     split
     ·rename_i he
      have he:=AB.eq_of he
      refine⟨fun c hc ab' hc'=>?_,fun x kk hx=>?_⟩
      ·rcases List.mem_cons.1 hc with e|e
       ·subst e
        rw[hb] at hc'; cases hc'
        exact .inr ⟨ab1,ab2,h1,h3,.inl ⟨he,hno⟩⟩
       ·exact g1 c e ab' hc'
      ·obtain⟨e1,e2,e3⟩:=g2 x kk hx
       exact⟨List.mem_cons_of_mem _ e1,e2,e3⟩
     ·refine⟨fun c hc ab' hc'=>?_,fun x kk hx=>?_⟩
      ·rcases List.mem_cons.1 hc with e|e
       ·subst e
        exact .inr ⟨ab1,ab2,h1,h3,.inr (by simp)⟩
       ·have hne:c≠b:=fun e2=>by subst e2; exact hnd.1 e
        rcases g1 c e ab' hc' with⟨p,q⟩|⟨p,q,e1,e2,e3⟩
        ·exact .inl ⟨p,List.mem_cons_of_mem _ q⟩
        ·refine .inr ⟨p,q,e1,e2,e3.imp (fun⟨i,j⟩=>⟨i,fun k hk=>?_⟩) (List.mem_cons_of_mem _)⟩
         rcases List.mem_cons.1 hk with e4|e4
         ·cases e4; exact hne rfl
         ·exact j k e4
      ·rcases List.mem_cons.1 hx with e|e
       ·cases e; exact⟨by simp,⟨ab,hb⟩,.inr ⟨_,rfl⟩⟩
       ·obtain⟨e1,e2,e3⟩:=g2 x kk e
        exact⟨List.mem_cons_of_mem _ e1,e2,e3⟩
    ·cases h
   ·rename_i r1 h1 h2
    cases h
    obtain⟨g1,g2⟩:=wvis_spec hnd.2 h2
    refine⟨fun c hc ab' hc'=>?_,fun x kk hx=>?_⟩
    ·rcases List.mem_cons.1 hc with e|e
     ·subst e; exact .inl ⟨h1,by simp⟩
     ·have hne:c≠b:=fun e2=>by subst e2; exact hnd.1 e
      rcases g1 c e ab' hc' with⟨p,q⟩|⟨p,q,e1,e2,e3⟩
      ·exact .inl ⟨p,List.mem_cons_of_mem _ q⟩
      ·refine .inr ⟨p,q,e1,e2,e3.imp (fun⟨i,j⟩=>⟨i,fun k hk=>?_⟩) (List.mem_cons_of_mem _)⟩
       rcases List.mem_cons.1 hk with e4|e4
       ·cases e4; exact hne rfl
       ·exact j k e4
    ·rcases List.mem_cons.1 hx with e|e
     ·cases e; exact⟨by simp,⟨ab,hb⟩,.inl rfl⟩
     ·obtain⟨e1,e2,e3⟩:=g2 x kk e
      exact⟨List.mem_cons_of_mem _ e1,e2,e3⟩
   ·cases h
  ·rename_i hb
   obtain⟨g1,g2⟩:=wvis_spec hnd.2 h
   refine⟨fun c hc ab' hc'=>?_,fun x kk hx=>?_⟩
   ·rcases List.mem_cons.1 hc with e|e
    ·subst e; exact absurd hc' (hb ab')
    ·exact g1 c e ab' hc'
   ·obtain⟨e1,e2,e3⟩:=g2 x kk hx
    exact⟨List.mem_cons_of_mem _ e1,e2,e3⟩
end
end Tr
