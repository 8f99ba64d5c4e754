/- Laws for the walk. -/
import Derived.Test.YthklnbaddobieaaGreatUav
set_option linter.unusedVariables false
set_option maxHeartbeats 4000000
namespace Tr
open Go Go.RowKit
def AC.ments:AC→List Nat|.own b _|.sl b _ _ _|.sg b _ _=>[b]|.fn _ a b=>a++b|_=>[]
def AR.ments(x:AR):List Nat:=x.cells.flatMap AC.ments
def AV.ments:AV→List Nat|.r x=>x.ments|.tup l=>l.flatMap AR.ments|_=>[]
def BK.ments:BK→List Nat|.live ab|.lent ab=>ab.cells.flatMap AC.ments|_=>[]
def visK:Option BK→BK
 | some (.live ab)=>.live ab
 | some (.lent ab)=>.lent ab
 | _=>.dead
def addN(p:Nat→Bool)(acc:List Nat):List Nat→List Nat
 | []=>acc
 | b :: l=>if p b && !acc.contains b then addN p (acc++[b]) l else addN p acc l
def reachN(p:Nat→Bool)(look:Nat→BK):Nat→List Nat→List Nat→List Nat
 | 0,acc,_=>acc
 | n+1,acc,todo =>
  let acc':=addN p acc todo
  match acc'.drop acc.length with
  | []=>acc'
  | new=>reachN p look n acc' (new.flatMap fun b=>(look b).ments)
def foot(cx:Cx)(len:Nat)(o:Oper)(sl:Nat→AV)(bl:Nat→Option BK)(e:Eff):List Nat×List Nat :=
 let w:=e.wr.map (·.1)
 match o.op with
 | .load _ x=>match (opv sl x).own with|some (b,_)=>([b],[])|none=>([],[])
 | .call c=>match calleeA sl c.callee,arsA sl c.args.toList with
  | some (f,a,b),some az=>match findC bl f (ownR a++az++ownR b) cx.calls with
   | some k=>(k.needs.map (·.1)++w,w)
   | none=>(reachN (fun b=>decide (b<len)) (fun b=>visK (bl b)) 12 [] ((ownR a++az++ownR b).flatMap AR.ments)++w,w)
  | _,_=>((match c.callee with|.builtin .append=>c.args.toList.flatMap fun x=>(opv sl x).ments|_=>[])++w,w)
 | _=>(w,w)
def fpAll:Nat→Fp:=fun _=>⟨fun _=>true,fun _=>true⟩
def feet(cx:Cx)(ops:Array Oper)(base len:Nat):List Nat→AS→List (List Nat×List Nat)
 | [],_=>[]
 | i :: l,s =>
  match ops[i]? with
  | none=>[]
  | some o =>
   let sl:=viewT ops i s
   match wantedA ops o sl with
   | some true =>
    let bl:=viewB fpAll i s
    match compute cx (base+i*cx.width) len o sl bl with
    | some e=>foot cx len o sl bl e :: feet cx ops base len l (s.put o.dst e)
    | none=>[]
   | some false=>([],[]) :: feet cx ops base len l (s.put o.dst ⟨.undf,[]⟩)
   | none=>[]
def ancGo:List Oper→List Nat→List Nat
 | [],acc=>acc
 | o :: l,acc=>ancGo l (acc++[o.after.toList.foldl (fun s e=>if Region.binds .any e then s ||| 2 ^ e.on ||| acc.getD e.on 0 else s) 0])
def AS.ext(s:AS)(n:Nat):AS:={ s with blocks:=s.blocks++List.replicate n .unborn }
theorem ext_len(s:AS)(n:Nat):s.blocks.length+n=(s.ext n).blocks.length:=by simp[AS.ext]
def regA(cx:Cx)(ops:Array Oper)(draw:Bool)(s:AS):Option AS :=
 let base:=s.blocks.length
 let len:=base+ops.size*cx.width
 let s':=s.ext (ops.size*cx.width)
 if draw then
  let F:=feet cx ops base len (List.range ops.size) s'
  if drawOk ops (ancGo ops.toList []) F then runL cx ops base len (fpOf F) (List.range ops.size) s' else none
 else runL cx ops base len fpAll (List.range ops.size) s'
def tlC(rel:AC→AC→Bool):List AC→List AC→Bool:=beqL rel
def tlR(rel:AC→AC→Bool):AR→AR→Bool
 | .c x,.c y=>rel x y
 | .row l,.row m=>tlC rel l m
 | _,_=>false
def tlV(rel:AC→AC→Bool):AV→AV→Bool
 | _,.junk=>true
 | .r x,.r y=>tlR rel x y
 | .tup l,.tup m=>beqL (tlR rel) l m
 | .undf,.undf=>true
 | _,_=>false
def tlB(rel:AC→AC→Bool):BK→BK→Bool
 | .unborn,.unborn=>true
 | .unborn,_=>false
 | _,.dead=>true
 | .live a,.live b|.lent a,.lent b=>tlC rel a.cells b.cells && a.ty == b.ty && a.more == b.more
 | _,_=>false
def tlBs(rel:AC→AC→Bool):List BK→List BK→Bool
 | _,[]=>true
 | a :: l,b :: m=>tlB rel a b && tlBs rel l m
 | [],_ :: _=>false
def tlS(rel:AC→AC→Bool)(s s':AS):Bool:=beqL (tlV rel) s.tmps s'.tmps && tlBs rel s.blocks s'.blocks
def relBy(pairs:List (Nat×Nat))(lits:List (LV×Nat)):AC→AC→Bool
 | .sym i,.sym j=>pairs.any fun p=>p.1 == i && p.2 == j
 | .lit l,.sym j=>lits.any fun p=>p.1.beq l && p.2 == j
 | .lit l,.lit m=>l.beq m
 | .own b o,.own c p=>b == c && o == p
 | .sl b o n c,.sl b' o' n' c'=>b == b' && o == o' && n == n' && c == c'
 | .sg b o n,.sg b' o' n'=>b == b' && o == o' && n == n'
 | .fn f a b,.fn g c d=>f == g && a == c && b == d
 | _,_=>false
def keyOf:Code→Option Nat
 | .region id _ _=>some id
 | .seq a b=>match keyOf a with|some k=>some k|none=>keyOf b
 | .block _ a|.loop a|.scope a=>keyOf a
 | .cond _ a b=>match keyOf a with|some k=>some k|none=>keyOf b
 | _=>none
def loopsOf:Code→List Code
 | .seq a b|.cond _ a b=>loopsOf a++loopsOf b
 | .block _ a|.scope a=>loopsOf a
 | .loop a=>a :: loopsOf a
 | _=>[]
def findK(k:Option Nat):List LC→Option LC
 | []=>none
 | c :: l=>if k == some c.key then some c else findK k l
def Ex.exit':Ex→Exit|.normal=>.normal|.exit id=>.exit id|.ret=>.ret
def evC(cx:Cx):Nat→Code→AS→Option (Ex×AS)
 | 0,_,_=>none
 | n+1,c,s=>match c with
  | .skip|.label _=>some (.normal,s)
  | .ret=>some (.ret,s)
  | .exit id=>some (.exit id,s)
  | .seq x y=>match evC cx n x s with|some (.normal,s1)=>evC cx n y s1|r=>r
  | .cond c x y=>match (opv (fun t=>s.tmps.getD t .undf) c).bool with|some t=>evC cx n (if t then x else y) s|none=>none
  | .block id x=>match evC cx n x s with|some (.exit k,s1)=>if k == id then some (.normal,s1) else some (.exit k,s1)|r=>r
  | .loop x=>match findK (keyOf x) cx.cuts with
   | some k=>if tlS AC.beq s k.pre then some (k.ex,k.post) else none
   | none=>match evC cx n x s with|some (.normal,s1)=>evC cx n (.loop x) s1|r=>r
  | .scope x=>evC cx n x s
  | .region id ops draw=>match regA cx ops draw (aheadA cx id s) with|some s1=>some (.normal,s1)|none=>none
  | _=>none
section
variable{T:Nat→Fact}{cx:Cx}{A0 M:Nat→Prop}{w0:World}{σs:Sg}{P:Program}
theorem Rel.ext{σ:Sg}{s:AS}{a:Act}{w:World}(R:Rel T cx A0 M w0 σs σ s a w)(n:Nat):Rel T cx A0 M w0 σs σ (s.ext n) a w:=by
 have hlive:∀ x (c:AB),(s.blocks++List.replicate n BK.unborn)[x]?=some (BK.live c)↔s.blocks[x]?=some (BK.live c):=fun x c=>by
  rw[List.getElem?_append]
  split
  ·exact Iff.rfl
  ·rename_i h
   rw[List.getElem?_replicate,List.getElem?_eq_none (by omega)]
   split<;>simp
 have hAl:Al A0 σ (s.blocks++List.replicate n BK.unborn)=Al A0 σ s.blocks:=by
  funext x
  unfold Al
  simp only[hlive]
 have hlent:∀ x (c:AB),(s.blocks++List.replicate n BK.unborn)[x]?=some (BK.lent c)↔s.blocks[x]?=some (BK.lent c):=fun x c=>by
  rw[List.getElem?_append]
  split
  ·exact Iff.rfl
  ·rename_i h
   rw[List.getElem?_replicate,List.getElem?_eq_none (by omega)]
   split<;>simp
 refine⟨R.size,?_,R.defers,?_,?_,fun b c m ab ac h1 h2=>R.inj b c m ab ac ((hlive b ab).1 h1) ((hlive c ac).1 h2),fun b h=>?_,fun b h=>?_,R.below,R.rcv,R.low,R.apart,R.mine,R.start⟩
 ·show ∀ i (av:AV),s.tmps[i]?=some av→av.ok T σ _ w (Al A0 σ (s.blocks++List.replicate n BK.unborn))
  rw[hAl]; exact R.slots
 ·show ∀ b (ab:AB),(s.blocks++List.replicate n BK.unborn)[b]?=some (.live ab)→∃ n',σ b=some n'∧_∧LiveOk T cx σ (Al A0 σ (s.blocks++List.replicate n BK.unborn)) w b ab n'
  rw[hAl]
  exact fun b ab h=>R.blocks b ab ((hlive b ab).1 h)
 ·show ∀ b (ab:AB),(s.blocks++List.replicate n BK.unborn)[b]?=some (.lent ab)→∃ n',σ b=some n'∧_∧LiveOk T cx σ (Al A0 σ (s.blocks++List.replicate n BK.unborn)) w b ab n'
  rw[hAl]
  exact fun b ab h=>R.lent b ab ((hlent b ab).1 h)
 ·have h':(s.blocks++List.replicate n BK.unborn)[b]?=some .unborn:=h
  rw[List.getElem?_append] at h'
  split at h'
  ·exact R.unborn b h'
  ·exact R.beyond b (by omega)
 ·have h':(s.blocks++List.replicate n BK.unborn).length≤b:=h
  rw[List.length_append] at h'
  exact R.beyond b (by omega)
theorem Rel.drew{σ:Sg}{s:AS}{a:Act}{w:World}(ht:TOk T cx.ints)(R:Rel T cx A0 M w0 σs σ s a w):Rel T cx A0 M w0 σs σ s a { w with drawn:=w.drawn+1 } :=
 R.world ht ⟨rfl,rfl,rfl,Nat.le_refl _,fun _ _=>rfl⟩
theorem reg_sound(C:CxOk P T cx)(hm:P.follows .mixedOrders=true){id:Nat}{ops:Array Oper}{draw:Bool}{σ:Sg}{s s1:AS}{a:Act}{w:World}{Q:Exit→Act→World→Prop}(R:Rel T cx A0 M w0 σs σ s a w)(h:regA cx ops draw s=some s1)
  (hK:∀ σ' a' w',Rel T cx A0 M w0 σs σ' s1 a' w'→Q .normal a' w'):(Code.region id ops draw).wp P Q a w:=by
 unfold regA at h
 cases draw
 ·simp only[Bool.false_eq_true,if_false] at h
  exact wp_region (ops_sound C (R.ext _) (ext_len _ _) h hK)
 ·simp only[if_true] at h
  split at h
  ·rename_i hd
   refine wp_region_any hm ?_
   have he:(List.range ops.size).filter (fun k=>!(Array.replicate ops.size false).getD k true)=List.range ops.size:=by
    rw[List.filter_eq_self]
    intro k hk
    have:k<ops.size:=by simpa using hk
    simp[this]
   refine any_sound C hd ops.size (by simp) (fun j o ho hj=>?_) (by rw[he]; simp) ((R.ext _).drew C.table) (ext_len _ _) (by rw[he]; exact h) hK
   exfalso
   have hlt:j<ops.size:=(Array.getElem?_eq_some_iff.1 ho).1
   simp[hlt] at hj
  ·cases h
def LC.Ok(P:Program)(T:Nat→Fact)(cx:Cx)(k:LC)(x:Code):Prop :=
 cx.dfs=[]→∀(A0 M:Nat→Prop) (w0:World) (σ:Sg) (a:Act) (w:World) (Q:Exit→Act→World→Prop),Rel T cx A0 M w0 σ0 σ k.pre a w→(∀ σ' a' w',Rel T cx A0 M w0 σ0 σ' k.post a' w'→Q k.ex.exit' a' w')→(Code.loop x).wp P Q a w
def Gives(T T':Nat→Fact)(rel:AC→AC→Bool):Prop:=∀ x y,rel x y=true→∀(σ:Sg) v w A,x.ok T σ v w A→y.ok T' σ v w A
section le
variable{T T':Nat→Fact}{rel:AC→AC→Bool}{σ:Sg}{w:World}{A:Nat→Prop}
theorem tlC_ok(h:Gives T T' rel):∀{l m:List AC} {vs:List Value},tlC rel l m=true→oks T σ l vs w A→oks T' σ m vs w A
 | [],[],vs,_,hx=>by cases vs<;>exact hx
 | x :: l,y :: m,v :: vs,hl,hx=>by
  simp only[tlC,beqL,Bool.and_eq_true] at hl
  exact⟨h x y hl.1 σ v w A hx.1,tlC_ok h hl.2 hx.2⟩
 | [],_ :: _,_,hl,_=>by simp[tlC,beqL] at hl
 | _ :: _,[],_,hl,_=>by simp[tlC,beqL] at hl
 | _ :: _,_ :: _,[],_,hx=>hx.elim
theorem tlR_ok(h:Gives T T' rel){x y:AR}{v:Value}(hl:tlR rel x y=true)(hx:x.ok T σ v w A):y.ok T' σ v w A:=by
 unfold tlR at hl
 split at hl
 ·exact h _ _ hl σ v w A hx
 ·obtain⟨vs,e,h2⟩:=hx; exact⟨vs,e,tlC_ok h hl h2⟩
 ·cases hl
theorem tlRs_ok(h:Gives T T' rel):∀{l m:List AR} {vs:List Value},beqL (tlR rel) l m=true→okr T σ l vs w A→okr T' σ m vs w A
 | [],[],vs,_,hx=>by cases vs<;>exact hx
 | x :: l,y :: m,v :: vs,hl,hx=>by
  simp only[beqL,Bool.and_eq_true] at hl
  exact⟨tlR_ok h hl.1 hx.1,tlRs_ok h hl.2 hx.2⟩
 | [],_ :: _,_,hl,_=>by simp[beqL] at hl
 | _ :: _,[],_,hl,_=>by simp[beqL] at hl
 | _ :: _,_ :: _,[],_,hx=>hx.elim
theorem tlV_ok(h:Gives T T' rel){x y:AV}{v:Value}(hl:tlV rel x y=true)(hx:x.ok T σ v w A):y.ok T' σ v w A:=by
 unfold tlV at hl
 split at hl
 ·trivial
 ·exact tlR_ok h hl hx
 ·obtain⟨vs,e,h2⟩:=hx; exact⟨vs,e,tlRs_ok h hl h2⟩
 ·exact hx
 ·cases hl
theorem beqL_get{α:Type}{p:α→α→Bool}:∀{l m:List α},beqL p l m=true→l.length=m.length∧∀(i:Nat) (y:α),m[i]?=some y→∃ x,l[i]?=some x∧p x y=true
 | [],[],_=>⟨rfl,fun i y h=>by simp at h⟩
 | a :: l,b :: m,h=>by
  simp only[beqL,Bool.and_eq_true] at h
  obtain⟨h1,h2⟩:=beqL_get h.2
  refine⟨by simp[h1],fun i y hy=>?_⟩
  cases i with
  | zero=>simp at hy; subst hy; exact⟨a,rfl,h.1⟩
  | succ i=>simp at hy ⊢; exact h2 i y hy
 | [],_ :: _,h=>by cases h
 | _ :: _,[],h=>by cases h
theorem tlBs_get:∀{l m:List BK},tlBs rel l m=true→m.length≤l.length∧∀(i:Nat) (y:BK),m[i]?=some y→∃ x,l[i]?=some x∧tlB rel x y=true
 | l,[],_=>⟨by simp,fun i y h=>by simp at h⟩
 | a :: l,b :: m,h=>by
  simp only[tlBs,Bool.and_eq_true] at h
  obtain⟨h1,h2⟩:=tlBs_get h.2
  refine⟨by simp[h1],fun i y hy=>?_⟩
  cases i with
  | zero=>simp at hy; subst hy; exact⟨a,rfl,h.1⟩
  | succ i=>simp at hy ⊢; exact h2 i y hy
 | [],_ :: _,h=>by cases h
end le
def restr(σ:Sg)(n:Nat):Sg:=⟨fun b=>if b<n then σ b else none,σ.room⟩
theorem restr_lt{σ:Sg}{n b:Nat}(h:b<n):restr σ n b=σ b:=if_pos h
theorem restr_ge{σ:Sg}{n b:Nat}(h:¬b<n):restr σ n b=none:=if_neg h
theorem restr_some{σ:Sg}{n b m:Nat}(h:restr σ n b=some m):b<n∧σ b=some m:=by
 by_cases hb:b<n
 ·rw[restr_lt hb] at h; exact⟨hb,h⟩
 ·rw[restr_ge hb] at h; cases h
def AC.low(n:Nat):AC→Bool|.own b _|.sl b _ _ _|.sg b _ _=>decide (b<n)|.fn _ a b=>a.all (fun k=>decide (k<n)) && b.all (fun k=>decide (k<n))|_=>true
def AR.low(n:Nat)(x:AR):Bool:=x.cells.all (AC.low n)
def AV.low(n:Nat):AV→Bool|.r x=>x.low n|.tup l=>l.all (AR.low n)|_=>true
def AS.low(s:AS):Bool:=s.tmps.all (AV.low s.blocks.length) && s.blocks.all fun b=>match b with|.live ab|.lent ab=>ab.cells.all (AC.low s.blocks.length)|_=>true
section low
variable{T:Nat→Fact}{σ:Sg}{w:World}{A:Nat→Prop}{n:Nat}
theorem ptrs_low:∀{l:List Nat} {vs:List Value},l.all (fun k=>decide (k<n))=true→ptrs σ l vs→ptrs (restr σ n) l vs
 | [],[],_,_=>trivial
 | b :: l,v :: vs,h,hx=>by
  simp only[List.all_cons,Bool.and_eq_true,decide_eq_true_eq] at h
  obtain⟨⟨m,h1,h2⟩,h3⟩:=hx
  exact⟨⟨m,(restr_lt h.1).trans h1,h2⟩,ptrs_low h.2 h3⟩
 | [],_ :: _,_,h=>h.elim
 | _ :: _,[],_,h=>h.elim
theorem AC.ok_low{x:AC}(h:x.low n=true){v:Value}(hx:x.ok T σ v w A):x.ok T (restr σ n) v w A:=by
 cases x with
 | sym i=>exact hx
 | lit l=>exact hx
 | own b o =>
  obtain⟨m,h1,h2⟩:=hx
  exact⟨m,(restr_lt (by simpa[AC.low] using h)).trans h1,h2⟩
 | sl b o k c =>
  obtain⟨m,h1,h2⟩:=hx
  exact⟨m,(restr_lt (by simpa[AC.low] using h)).trans h1,h2⟩
 | sg b o k =>
  obtain⟨m,h1,h2⟩:=hx
  exact⟨m,(restr_lt (by simpa[AC.low] using h)).trans h1,h2⟩
 | fn f a b =>
  obtain⟨us,vs,h1,h2,h3⟩:=hx
  simp only[AC.low,Bool.and_eq_true] at h
  exact⟨us,vs,h1,ptrs_low h.1 h2,ptrs_low h.2 h3⟩
theorem oks_low:∀{l:List AC} {vs:List Value},l.all (AC.low n)=true→oks T σ l vs w A→oks T (restr σ n) l vs w A
 | [],[],_,_=>trivial
 | x :: l,v :: vs,h,hx=>by
  simp only[List.all_cons,Bool.and_eq_true] at h
  exact⟨AC.ok_low h.1 hx.1,oks_low h.2 hx.2⟩
 | [],_ :: _,_,h=>h.elim
 | _ :: _,[],_,h=>h.elim
theorem AR.ok_low{x:AR}(h:x.low n=true){v:Value}(hx:x.ok T σ v w A):x.ok T (restr σ n) v w A:=by
 cases x with
 | c x=>exact AC.ok_low (x:=x) (by simpa[AR.low,AR.cells] using h) hx
 | row l=>obtain⟨vs,e,h2⟩:=hx; exact⟨vs,e,oks_low h h2⟩
theorem okr_low:∀{l:List AR} {vs:List Value},l.all (AR.low n)=true→okr T σ l vs w A→okr T (restr σ n) l vs w A
 | [],[],_,_=>trivial
 | x :: l,v :: vs,h,hx=>by
  simp only[List.all_cons,Bool.and_eq_true] at h
  exact⟨AR.ok_low h.1 hx.1,okr_low h.2 hx.2⟩
 | [],_ :: _,_,h=>h.elim
 | _ :: _,[],_,h=>h.elim
theorem AV.ok_low{x:AV}(h:x.low n=true){v:Value}(hx:x.ok T σ v w A):x.ok T (restr σ n) v w A:=by
 cases x with
 | r x=>exact AR.ok_low (x:=x) h hx
 | tup l=>obtain⟨vs,e,h2⟩:=hx; exact⟨vs,e,okr_low h h2⟩
 | undf=>exact hx
 | junk=>trivial
end low
theorem Rel.weaken{T T':Nat→Fact}{cx cx':Cx}{rel:AC→AC→Bool}{σ:Sg}{s s':AS}{a:Act}{w:World}(ht:TOk T' cx'.ints)(hg:Gives T T' rel)(hhp:cx'.hp=cx.hp)(hok:s'.blocks.all (fun b=>match b with|.live ab|.lent ab=>okCells cx' ab.cells|_=>true)=true)(hlow:s'.low=true)(hl:tlS rel s s'=true)
  (R:Rel T cx A0 M w0 σ0 σ s a w) (hdf:cx'.dfs=cx.dfs:=by rfl):∃ σ',Rel T' cx' A0 M w0 σ0 σ' s' a w:=by
 unfold tlS at hl
 simp only[Bool.and_eq_true] at hl
 obtain⟨h1,h2⟩:=beqL_get hl.1
 obtain⟨h3,h4⟩:=tlBs_get hl.2
 unfold AS.low at hlow
 simp only[Bool.and_eq_true,List.all_eq_true] at hlow hok
 have hres:∀ b n,restr σ s'.blocks.length b=some n→σ b=some n:=fun b n h=>(restr_some h).2
 have hlive:∀(b:Nat) (ab:AB),s'.blocks[b]?=some (.live ab)→∃ ab0,s.blocks[b]?=some (.live ab0)∧tlC rel ab0.cells ab.cells=true∧ab0.ty=ab.ty∧ab0.more=ab.more:=fun b ab h=>by
  obtain⟨x,hx,hle⟩:=h4 b _ h
  cases x with
  | unborn=>simp[tlB] at hle
  | dead=>simp[tlB] at hle
  | lent ab0=>simp[tlB] at hle
  | live ab0=>simp[tlB] at hle; exact⟨ab0,hx,hle.1.1,hle.1.2,hle.2⟩
 have hAl:∀ n,Al A0 (restr σ s'.blocks.length) s'.blocks n→Al A0 σ s.blocks n:=fun n h=>by
  rcases h with h|⟨b,ab,hb,hn⟩
  ·exact .inl h
  ·obtain⟨ab0,h5,_⟩:=hlive b ab hb
   exact .inr ⟨b,ab0,h5,hres _ _ hn⟩
 have hk:Kp w w (Al A0 σ s.blocks) (Al A0 (restr σ s'.blocks.length) s'.blocks):=⟨Nat.le_refl _,fun b _ h=>⟨rfl,fun h'=>h (hAl b h')⟩⟩
 have hcells:∀(b n:Nat) (ab0 ab:AB),tlC rel ab0.cells ab.cells=true→ab0.ty=ab.ty→ab0.more=ab.more→ab.cells.all (AC.low s'.blocks.length)=true→okCells cx' ab.cells=true→LiveOk T cx σ (Al A0 σ s.blocks) w b ab0 n→LiveOk T' cx' (restr σ s'.blocks.length) (Al A0 (restr σ s'.blocks.length) s'.blocks) w b ab n:=by
  rintro b n ab0 ab e1 e2 e3 e4 e5 ⟨vs,rest,g1,g2,g3,g4,g5,g6⟩
  refine⟨vs,rest,by rw[←e2]; exact g1,oks_low e4 ((tlC_ok hg e1 g2).keep ht (Sub.refl _) hk),e5,fun h=>g4 (by rw[←hhp]; exact h),g5,?_⟩
  rw[←e3]; exact g6
 refine⟨restr σ s'.blocks.length,by rw[R.size,h1],fun i av hi=>?_,R.defers.trans hdf.symm,fun b ab hb=>?_,fun b ab hb=>?_,fun b c n ab ac hb hc hn hm=>?_,fun b hb=>?_,fun b hb=>?_,R.below,fun h=>R.rcv (by rw[←hhp]; exact h),R.low,R.apart,R.mine,Sub.zero _⟩
 ·obtain⟨x,hx,hle⟩:=h2 i av hi
  have:=tlV_ok hg hle (R.slots i x hx)
  exact AV.ok_low (hlow.1 av (List.mem_of_getElem? hi)) (this.keep ht (Sub.refl _) hk)
 ·obtain⟨ab0,h5,h6,h7,h8⟩:=hlive b ab hb
  obtain⟨n,g1,g2,g3⟩:=R.blocks b ab0 h5
  have hlt:b<s'.blocks.length:=(List.getElem?_eq_some_iff.1 hb).1
  exact⟨n,(restr_lt hlt).trans g1,g2,hcells b n ab0 ab h6 h7 h8 (hlow.2 _ (List.mem_of_getElem? hb)) (hok _ (List.mem_of_getElem? hb)) g3⟩
 ·obtain⟨x,hx,hle⟩:=h4 b _ hb
  have hlt:b<s'.blocks.length:=(List.getElem?_eq_some_iff.1 hb).1
  cases x with
  | unborn=>simp[tlB] at hle
  | dead=>simp[tlB] at hle
  | live ab0=>simp[tlB] at hle
  | lent ab0 =>
   simp[tlB] at hle
   obtain⟨n,g1,g2,g3⟩:=R.lent b ab0 hx
   exact⟨n,(restr_lt hlt).trans g1,g2,hcells b n ab0 ab hle.1.1 hle.1.2 hle.2 (hlow.2 _ (List.mem_of_getElem? hb)) (hok _ (List.mem_of_getElem? hb)) g3⟩
 ·obtain⟨ab0,h5,_⟩:=hlive b ab hb
  obtain⟨ac0,h6,_⟩:=hlive c ac hc
  exact R.inj b c n ab0 ac0 h5 h6 (hres _ _ hn) (hres _ _ hm)
 ·obtain⟨x,hx,hle⟩:=h4 b _ hb
  cases x with
  | unborn=>exact(restr_lt (List.getElem?_eq_some_iff.1 hb).1).trans (R.unborn b hx)
  | dead=>simp[tlB] at hle
  | lent ab0=>simp[tlB] at hle
  | live ab0=>simp[tlB] at hle
 ·exact restr_ge (by omega)
theorem gives_refl(T:Nat→Fact):Gives T T AC.beq:=fun x y h σ v w A hx=>by rw[←AC.eq_of h]; exact hx
theorem findK_spec{k:Option Nat}{c:LC}:∀{l:List LC},findK k l=some c→c∈l∧k=some c.key
 | [],h=>by cases h
 | d :: l,h=>by
  unfold findK at h
  split at h
  ·rename_i hk
   cases h
   exact⟨List.mem_cons_self,by simpa using hk⟩
  ·obtain⟨h1,h2⟩:=findK_spec h
   exact⟨List.mem_cons_of_mem _ h1,h2⟩
theorem Rel.frzs(C:CxOk P T cx){key:Nat}{σ:Sg}{a:Act}{w:World}:∀{l:List CS},(∀ e∈l,e∈cx.calls)→∀{s:AS},Rel T cx A0 M w0 σs σ s a w→Rel T cx A0 M w0 σs σ (frzL cx key l s) a w
 | [],_,s,R=>R
 | e :: l,hl,s,R=>by
  have step:Rel T cx A0 M w0 σs σ (s.fz cx key e) a w:=by
   unfold AS.fz
   split
   ·exact R
   ·rename_i q hq
    split
    ·rename_i i hr
     split
     ·rename_i hc
      simp only[Bool.and_eq_true] at hc
      split
      ·rename_i b hb
       obtain⟨k,rfl,hk⟩:=findZ_spec hb
       rw[Nat.zero_add]
       obtain⟨n,g1,g2,vs,rest,g3,g4,g5,g6,g7,g8⟩:=R.blocks k q.2 hk
       have hmo:q.2.more=none:=Option.isNone_iff_eq_none.1 hc.1.2
       rw[hmo] at g8
       simp only at g8
       subst g8
       rw[List.append_nil] at g3
       have h0:=C.calls e (hl e List.mem_cons_self)
       unfold CS.Ok at h0
       rw[hq] at h0
       have h1:=h0 σ w _ n vs (fun hp=>R.rcvs C.table hp) g3 g4
       rw[hr] at h1
       exact R.freeze C.table hk g1 hc.2 h1
      ·exact R
     ·exact R
    ·exact R
  exact Rel.frzs C (fun x hx=>hl x (List.mem_cons_of_mem _ hx)) step
theorem Rel.ahead(C:CxOk P T cx){key:Nat}{σ:Sg}{s:AS}{a:Act}{w:World}(R:Rel T cx A0 M w0 σs σ s a w):Rel T cx A0 M w0 σs σ (aheadA cx key s) a w:=by
 unfold aheadA
 split
 ·exact R
 ·rename_i e l h
  exact(R.frzs C (fun x hx=>(List.mem_filter.1 (by rw[←h] at hx; exact hx)).1)).trim
theorem evC_sound(C:CxOk P T cx)(hm:P.follows .mixedOrders=true)(hz:cx.cuts=[]∨(σs=σ0∧cx.dfs=[]))(hpre:∀ k∈cx.cuts,(k.pre.low && k.pre.blocks.all (fun b=>match b with|.live ab|.lent ab=>okCells cx ab.cells|_=>true))=true):∀(n:Nat) {c:Code} {σ:Sg} {s s1:AS} {e:Ex} {a:Act} {w:World} {Q:Exit→Act→World→Prop},
  (∀ x∈loopsOf c,∀ k∈cx.cuts,keyOf x=some k.key→k.Ok P T cx x)→Rel T cx A0 M w0 σs σ s a w→evC cx n c s=some (e,s1) →
  (∀ σ' a' w',Rel T cx A0 M w0 σs σ' s1 a' w'→Q e.exit' a' w')→c.wp P Q a w∧∀ x,c=.loop x→findK (keyOf x) cx.cuts=none→Code.rounds P x Q n a w
 | 0,c,σ,s,s1,e,a,w,Q,hcut,R,h,hK=>by cases h
 | n+1,c,σ,s,s1,e,a,w,Q,hcut,R,h,hK=>by
  have ih:=fun{c:Code} {σ:Sg} {s s1:AS} {e:Ex} {a:Act} {w:World} {Q:Exit→Act→World→Prop}=>evC_sound C hm hz hpre n (c:=c) (σ:=σ) (s:=s) (s1:=s1) (e:=e) (a:=a) (w:=w) (Q:=Q)
  cases c
  case loop x =>
   simp only[evC] at h
   split at h
   ·rename_i k hk
    obtain⟨hk1,hk2⟩:=findK_spec hk
    split at h
    ·rename_i hle
     cases h
     have h9:=hpre k hk1
     obtain⟨hz',hdf⟩:=hz.resolve_left fun e=>by rw[e] at hk1; cases hk1
     subst hz'
     simp only[Bool.and_eq_true] at h9
     obtain⟨σ',R'⟩:=R.weaken C.table (gives_refl T) rfl h9.2 h9.1 hle
     exact⟨hcut x (by simp[loopsOf]) k hk1 hk2 hdf A0 M w0 σ' a w Q R' hK,fun y e hno=>by cases e; rw[hk] at hno; cases hno⟩
    ·cases h
   ·rename_i hk
    have hr:Code.rounds P x Q (n+1) a w:=by
     rw[rounds_succ]
     split at h
     ·rename_i s2 h1
      exact(ih (fun y hy=>hcut y (by simp[loopsOf,hy])) R h1 fun σ' a' w' R'=>(ih hcut R' h hK).2 x rfl hk).1
     ·rename_i r h1
      have he:∀ a' w',Exit.then (Code.rounds P x Q n) Q e.exit' a' w'=Q e.exit' a' w':=fun a' w'=>by
       cases e
       ·exact absurd h (by intro h'; exact h1 _ h')
       ·rfl
       ·rfl
      exact(ih (fun y hy=>hcut y (by simp[loopsOf,hy])) R h fun σ' a' w' R'=>by rw[he]; exact hK _ _ _ R').1
    exact⟨wp_loop_rounds (n+1) hr,fun y e _=>by cases e; exact hr⟩
  all_goals refine⟨?_,fun y e=>by cases e⟩
  case skip=>simp only[evC] at h; cases h; exact wp_skip (hK _ _ _ R)
  case label=>simp only[evC] at h; cases h; exact wp_label (hK _ _ _ R)
  case ret=>simp only[evC] at h; cases h; exact wp_ret (hK _ _ _ R)
  case exit id=>simp only[evC] at h; cases h; exact wp_exit (hK _ _ _ R)
  case seq x y =>
   simp only[evC] at h
   split at h
   ·rename_i s2 h1
    exact wp_seq (ih (fun z hz=>hcut z (by simp[loopsOf,hz])) R h1 fun σ' a' w' R'=>(ih (fun z hz=>hcut z (by simp[loopsOf,hz])) R' h hK).1).1
   ·rename_i r h1
    have he:∀ a' w',Exit.then (y.wp P Q) Q e.exit' a' w'=Q e.exit' a' w':=fun a' w'=>by
     cases e
     ·exact absurd h (by intro h'; exact h1 _ h')
     ·rfl
     ·rfl
    exact wp_seq (ih (fun z hz=>hcut z (by simp[loopsOf,hz])) R h fun σ' a' w' R'=>by rw[he]; exact hK _ _ _ R').1
  case cond c x y =>
   simp only[evC] at h
   split at h
   ·rename_i t h1
    exact wp_cond (AV.bool_ok h1 (R.operand (fun t=>.inr rfl) c)) (ih (fun z hz=>hcut z (by cases t<;>simp[loopsOf] at hz ⊢<;>simp[hz])) R h hK).1
   ·cases h
  case block id x =>
   simp only[evC] at h
   split at h
   ·rename_i k s2 h1
    split at h
    ·rename_i hk
     have hk:k=id:=by simpa using hk
     subst hk
     cases h
     exact wp_block (ih (c:=x) hcut R h1 fun σ' a' w' R'=>by
      show Exit.inBlock k Q (.exit k) a' w'
      simp only[Exit.inBlock,if_true]
      exact hK _ _ _ R').1
    ·rename_i hk
     have hk:¬k=id:=by simpa using hk
     cases h
     exact wp_block (ih (c:=x) hcut R h1 fun σ' a' w' R'=>by
      show Exit.inBlock id Q (.exit k) a' w'
      simp only[Exit.inBlock,if_neg hk]
      exact hK _ _ _ R').1
   ·rename_i r h1
    exact wp_block (ih (c:=x) hcut R h fun σ' a' w' R'=>by
     cases e
     ·exact hK _ _ _ R'
     ·exact absurd h (by intro h'; exact h1 _ _ h')
     ·exact hK _ _ _ R').1
  case scope x =>
   simp only[evC] at h
   exact wp_scope_straight (ih (c:=x) hcut R h fun σ' a' w' R'=>by
    cases e
    ·exact hK _ _ _ R'
    ·exact hK _ _ _ R'
    ·exact hK _ _ _ R').1
  case region id ops draw =>
   simp only[evC] at h
   split at h
   ·rename_i s2 h1
    cases h
    exact reg_sound C hm (R.ahead C) h1 hK
   ·cases h
  all_goals (simp only[evC] at h; cases h)
end
end Tr
namespace Tr
open Go Go.RowKit
def resOne(cx:Cx)(s:AS):ResultVar→Option AR
 | .tmp t=>(s.tmps.getD t .undf).ar
 | .cell p t=>match lookT t cx.tys,(s.tmps.getD p .undf).own with
  | some i,some (b,off)=>match s.blocks[b]? with
   | some (.live ab) =>
    if i.agg then(if decide (off+i.size≤ab.cells.length) then some (.row ((ab.cells.drop off).take i.size)) else none)
    else(match ab.cells[off]? with|some c=>some (.c c)|none=>none)
   | _=>none
  | _,_=>none
def resAll(cx:Cx)(s:AS):List ResultVar→Option (List AR)
 | []=>some []
 | r :: l=>match resOne cx s r,resAll cx s l with|some x,some m=>some (x :: m)|_,_=>none
def resA(cx:Cx)(fn:Func)(s:AS):Option AV :=
 match resAll cx s fn.results.toList with
 | some [x]=>some (.r x)
 | some l=>some (.tup l)
 | none=>none
def AC.noown:AC→Bool|.own _ _|.sl _ _ _ _|.sg _ _ _=>false|.fn _ a b=>a.isEmpty && b.isEmpty|_=>true
def AR.noown(x:AR):Bool:=x.cells.all AC.noown
def AV.noown:AV→Bool|.r x=>x.noown|.tup l=>l.all AR.noown|_=>true
def enter(fn:Func)(bs:List AB)(args:List AR):AS:={ tmps:=args.map AV.r++List.replicate (fn.ntmps - args.length) .undf,blocks:=bs.map BK.lent }
def evL(cx:Cx)(fn:Func)(fuel:Nat)(bs:List AB)(args:List AR)(res:AV):Bool :=
 res.noown && bs.all (fun b=>okCells cx b.cells && b.more.isNone) &&
 match fn.body with
 | some c=>match evC cx fuel c (enter fn bs args) with
  | some (.exit _,_)=>false
  | some (_,s)=>(match resA cx fn s with|some r=>r.beq res|none=>false)
  | none=>false
 | none=>false
def evF(cx:Cx)(fn:Func)(fuel:Nat)(args:List AR)(res:AV):Bool:=args.all AR.noown && evL cx fn fuel [] args res
section
variable{T:Nat→Fact}{cx:Cx}{A0 M:Nat→Prop}{w0:World}{σs:Sg}{P:Program}{σ σ':Sg}{w:World}{A:Nat→Prop}
theorem AC.ok_noown{x:AC}(h:x.noown=true){v:Value}(hx:x.ok T σ v w A):x.ok T σ' v w A:=by
 cases x
 case fn f a b =>
  simp only[AC.noown,Bool.and_eq_true,List.isEmpty_iff] at h
  obtain⟨rfl,rfl⟩:=h
  obtain⟨us,vs,h1,h2,h3⟩:=hx
  refine⟨us,vs,h1,?_,?_⟩
  ·cases us<;>first|exact h2|exact h2.elim
  ·cases vs<;>first|exact h3|exact h3.elim
 all_goals (simp[AC.noown] at h<;>exact hx)
theorem oks_noown:∀{l:List AC} {vs:List Value},l.all AC.noown=true→oks T σ l vs w A→oks T σ' l vs w A
 | [],[],_,_=>trivial
 | x :: l,v :: vs,h,hx=>by
  simp only[List.all_cons,Bool.and_eq_true] at h
  exact⟨AC.ok_noown h.1 hx.1,oks_noown h.2 hx.2⟩
 | [],_ :: _,_,h=>h.elim
 | _ :: _,[],_,h=>h.elim
theorem AR.ok_noown{x:AR}(h:x.noown=true){v:Value}(hx:x.ok T σ v w A):x.ok T σ' v w A:=by
 cases x with
 | c x=>exact AC.ok_noown (x:=x) (by simpa[AR.noown,AR.cells] using h) hx
 | row l=>obtain⟨vs,e,h2⟩:=hx; exact⟨vs,e,oks_noown h h2⟩
theorem okr_noown:∀{l:List AR} {vs:List Value},l.all AR.noown=true→okr T σ l vs w A→okr T σ' l vs w A
 | [],[],_,_=>trivial
 | x :: l,v :: vs,h,hx=>by
  simp only[List.all_cons,Bool.and_eq_true] at h
  exact⟨AR.ok_noown h.1 hx.1,okr_noown h.2 hx.2⟩
 | [],_ :: _,_,h=>h.elim
 | _ :: _,[],_,h=>h.elim
theorem AV.ok_noown{x:AV}(h:x.noown=true){v:Value}(hx:x.ok T σ v w A):x.ok T σ' v w A:=by
 cases x with
 | r x=>exact AR.ok_noown (x:=x) h hx
 | tup l=>obtain⟨vs,e,h2⟩:=hx; exact⟨vs,e,okr_noown h h2⟩
 | undf=>exact hx
 | junk=>trivial
def resV(tmps:Array Value):ResultVar→Sem Value
 | .tmp t=>pure (tmps.getD t undef)
 | .cell p t=>do loadVar t (←asAddr (tmps.getD p undef))
theorem results_eq(fn:Func)(tmps:Array Value):results fn tmps=(do let vs ←fn.results.mapM (resV tmps); pure (if h:vs.size=1 then vs[0] else .tuple vs)):=rfl
theorem resOne_ok(C:CxOk P T cx){s:AS}{a:Act}(R:Rel T cx A0 M w0 σs σ s a w){r:ResultVar}{x:AR}(h:resOne cx s r=some x) :
  ∃ v,(resV a.tmps r).run P w=.ok v w∧x.ok T σ v w (Al A0 σ s.blocks):=by
 cases r with
 | tmp t=>exact⟨_,rfl,AV.ar_ok h (R.slot t)⟩
 | cell p t =>
  unfold resOne at h
  simp only at h
  split at h
  ·rename_i i b off h1 h2
   obtain⟨ti,z,d,g1,g2,g3,g4,g5,g6,_⟩:=good_spec (show i.good P t=true from C.tys _ (lookT_mem h1))
   obtain⟨n,e1,e2⟩:=AV.own_ok h2 (R.slot p)
   split at h
   ·rename_i ab h3
    obtain⟨n',k1,k2,vs,rest,k3,k4,_⟩:=R.blocks b ab h3
    rw[e1] at k1; cases k1
    split at h
    ·rename_i hag
     rw[hag] at g6
     split at h
     ·rename_i hle
      cases h
      have hle:=of_decide_eq_true hle
      have hl:=k4.length
      refine⟨.agg ((vs.drop off).take i.size).toArray,?_,⟨_,rfl,(k4.drop off).take i.size⟩⟩
      have hpre:(List.take i.size (List.drop off (vs++rest)))=List.take i.size (List.drop off vs):=by
       rw[List.drop_append_of_le_length (by omega),List.take_append_of_le_length (by simp; omega)]
      have:=run_loadVar_part (P:=P) w n off ab.ty t (vs++rest).toArray ((vs.drop off).take i.size).toArray (0,0) d k3 g2 (by cases d<;>first|rfl|(cases g6; done)) (by rw[g1]; simp[g3]; omega) (by
       have:(List.take i.size (List.drop off vs)).length=i.size:=by simp; omega
       simp only[List.size_toArray,this]
       exact hpre)
      simp only[resV,e2,asAddr,Sem.run_bind,Sem.run_pure,Result.andThen_ok,this]
     ·cases h
    ·rename_i hag
     split at h
     ·rename_i c h4
      cases h
      obtain⟨v,k6,k7⟩:=k4.get h4
      refine⟨v,?_,k7⟩
      have hcell:w.cell? ⟨n,off,none⟩=some v:=by
       rw[cell_of_row w n off _ _ _ k3]
       have hlt:=(List.getElem?_eq_some_iff.1 k6).1
       simp only[List.getElem?_toArray,List.getElem?_append_left hlt,k6]
      have hag':isAggD d=false:=by rw[g6]; simpa using hag
      simp[resV,e2,asAddr,loadVar,run_isAgg g2,hag',hcell]
     ·cases h
   ·cases h
  ·cases h
theorem resAll_ok(C:CxOk P T cx){s:AS}{a:Act}(R:Rel T cx A0 M w0 σs σ s a w):∀{l:List ResultVar} {xs:List AR},resAll cx s l=some xs →
  ∃ vs,(l.mapM (resV a.tmps)).run P w=.ok vs w∧okr T σ xs vs w (Al A0 σ s.blocks)
 | [],xs,h=>by cases h; exact⟨[],rfl,trivial⟩
 | r :: l,xs,h=>by
  unfold resAll at h
  split at h
  ·rename_i x m h1 h2
   cases h
   obtain⟨v,e1,e2⟩:=resOne_ok C R h1
   obtain⟨vs,e3,e4⟩:=resAll_ok C R h2
   refine⟨v :: vs,?_,e2,e4⟩
   rw[List.mapM_cons]
   simp only[Sem.run_bind,e1,Result.andThen_ok,e3,Sem.run_pure]
  ·cases h
theorem resA_ok(C:CxOk P T cx){s:AS}{a:Act}(R:Rel T cx A0 M w0 σs σ s a w){fn:Func}{x:AV}(h:resA cx fn s=some x) :
  ∃ v,(results fn a.tmps).run P w=.ok v w∧x.ok T σ v w (Al A0 σ s.blocks):=by
 unfold resA at h
 have key:∀ xs,resAll cx s fn.results.toList=some xs→∃ vs:List Value,(fn.results.mapM (resV a.tmps)).run P w=.ok vs.toArray w∧okr T σ xs vs w (Al A0 σ s.blocks):=fun xs hx=>by
  obtain⟨vs,e1,e2⟩:=resAll_ok C R hx
  refine⟨vs,?_,e2⟩
  rw[Array.mapM_eq_mapM_toList]
  simp only[map_eq_pure_bind,Sem.run_bind,e1,Result.andThen_ok,Sem.run_pure]
 split at h
 ·rename_i y hy
  cases h
  obtain⟨vs,e1,e2⟩:=key _ hy
  match vs,e2 with
  | [v],e2 =>
   refine⟨v,?_,e2.1⟩
   rw[results_eq,Sem.run_bind,e1]
   rfl
 ·rename_i l hne hl
  cases h
  obtain⟨vs,e1,e2⟩:=key _ hl
  refine⟨.tuple vs.toArray,?_,⟨vs,rfl,e2⟩⟩
  rw[results_eq,Sem.run_bind,e1]
  have hlen:=e2.length
  have h1:¬vs.toArray.size=1:=by
   intro e
   simp only[List.size_toArray] at e
   rw[hlen] at e
   cases l with
   | nil=>simp at e
   | cons x l =>
    cases l with
    | nil=>exact hne x rfl
    | cons y l=>simp at e
  simp only[Result.andThen_ok]
  rw[dif_neg h1]
  rfl
 ·cases h
theorem okr_slots:∀{l:List AR} {vs:List Value} {n:Nat},okr T σ l vs w A→∀ i (av:AV),(l.map AV.r++List.replicate n AV.undf)[i]?=some av→av.ok T σ ((vs.toArray++Array.replicate n undef).getD i undef) w A:=by
 intro l vs n h i av hi
 have hlen:=h.length
 rw[List.getElem?_append] at hi
 simp only[List.length_map] at hi
 by_cases hlt:i<l.length
 ·rw[if_pos hlt,List.getElem?_map] at hi
  obtain⟨x,hx,rfl⟩:=Option.map_eq_some_iff.1 hi
  obtain⟨v,e1,e2⟩:=h.get hx
  have:(vs.toArray++Array.replicate n undef).getD i undef=v:=by
   have h3:(vs.toArray++Array.replicate n undef)[i]?=some v:=by
    rw[Array.getElem?_append]
    simp only[List.size_toArray]
    rw[if_pos (by omega)]
    simpa using e1
   simp only[Array.getD_eq_getD_getElem?,h3,Option.getD_some]
  rw[this]; exact e2
 ·rw[if_neg hlt,List.getElem?_replicate] at hi
  split at hi
  ·cases hi
   show _=undef
   simp only[Array.getD_eq_getD_getElem?]
   rw[Array.getElem?_append]
   simp only[List.size_toArray]
   rw[if_neg (by omega),Array.getElem?_replicate]
   split<;>rfl
  ·cases hi
theorem ev_lent(C:CxOk P T cx)(hm:P.follows .mixedOrders=true){f:FuncId}{fn:Func}(hf:P.funcs[f]?=some fn){bs:List AB}{args:List AR}{res:AV}(fuel:Nat)(hev:evL cx fn fuel bs args res=true)
  (hpre:∀ k∈cx.cuts,(k.pre.low && k.pre.blocks.all (fun b=>match b with|.live ab|.lent ab=>okCells cx ab.cells|_=>true))=true) (hcut:∀ c,fn.body=some c→∀ x∈loopsOf c,∀ k∈cx.cuts,keyOf x=some k.key→k.Ok P T cx x)
  (σ:Sg) (w:World) (A:Nat→Prop) (vs:List Value) (hR:cx.hp=true→Rcv A w) (hA:∀ n,A n→n<w.heap.size) (hargs:okr T σ args vs w A)
  (hbs:∀ b ab,bs[b]?=some ab→∃ n us,σ b=some n∧A n∧w.heap[n]?=some (.cells us.toArray ab.ty (0,0))∧oks T σ ab.cells us w A) (hbey:∀ b,bs.length≤b→σ b=none) (hdf:cx.dfs=[]:=by rfl) :
  Calls P f vs.toArray w fun r w'=>∃ v,r=.returned v∧res.ok T σ v w' A∧Below w.heap.size w w':=by
 unfold evL at hev
 simp only[Bool.and_eq_true] at hev
 obtain⟨⟨hnr,hbo⟩,hev⟩:=hev
 rw[List.all_eq_true] at hbo
 cases hb:fn.body with
 | none=>simp[hb] at hev
 | some c =>
  simp only[hb] at hev
  refine calls_of_wp hf hb ?_
  have hlen:=hargs.length
  have hnl:∀(b:Nat) (ab:AB),(bs.map BK.lent)[b]?≠some (.live ab):=fun b ab h=>by
   rw[List.getElem?_map] at h
   obtain⟨x,_,e⟩:=Option.map_eq_some_iff.1 h
   cases e
  have hAl:Al A σ (bs.map BK.lent)=A:=by
   funext n; unfold Al
   refine propext ⟨?_,.inl⟩
   rintro(h|⟨b,ab,h,_⟩)
   ·exact h
   ·exact absurd h (hnl b ab)
  have R0:Rel T cx A (fun _=>False) w σ0 σ (enter fn bs args) { tmps:=vs.toArray++Array.replicate (fn.ntmps - vs.toArray.size) undef,defers:=[] } w:=by
   refine⟨?_,?_,hdf.symm,fun b ab h=>absurd h (hnl b ab),fun b ab h=>?_,fun b c n ab ac h=>absurd h (hnl b ab),fun b h=>?_,fun b h=>?_,BelowM.refl _ _ _,hR,hA,fun _ _ h=>h,fun _ h=>h.elim,Sub.zero _⟩
   ·simp[enter,hlen]
   ·show ∀ i (av:AV),(args.map AV.r++List.replicate (fn.ntmps - args.length) AV.undf)[i]?=some av→av.ok T _ _ w (Al A σ (bs.map BK.lent))
    rw[hAl]
    have:fn.ntmps - vs.toArray.size=fn.ntmps - args.length:=by simp[hlen]
    rw[this]
    exact okr_slots hargs
   ·show ∃ n,σ b=some n∧A n∧LiveOk T cx σ (Al A σ (bs.map BK.lent)) w b ab n
    rw[hAl]
    have h':(bs.map BK.lent)[b]?=some (.lent ab):=h
    rw[List.getElem?_map] at h'
    obtain⟨x,hx,e⟩:=Option.map_eq_some_iff.1 h'
    cases e
    obtain⟨n,us,g1,g2,g3,g4⟩:=hbs b ab hx
    have hok:=hbo ab (List.mem_of_getElem? hx)
    simp only[Bool.and_eq_true,Option.isNone_iff_eq_none] at hok
    exact⟨n,g1,g2,us,[],by simpa using g3,g4,hok.1,by simp,by simp,by rw[hok.2]⟩
   ·have h':(bs.map BK.lent)[b]?=some .unborn:=h
    rw[List.getElem?_map] at h'
    obtain⟨x,hx,e⟩:=Option.map_eq_some_iff.1 h'
    cases e
   ·have h':(bs.map BK.lent).length≤b:=h
    exact hbey b (by simpa using h')
  have fin:∀(σ':Sg) (s1:AS) (a':Act) (w':World),Rel T cx A (fun _=>False) w σ0 σ' s1 a' w'→(match resA cx fn s1 with|some r=>r.beq res|none=>false)=true →
    a'.defers=[]∧∃ v,(results fn a'.tmps).run P w'=.ok v w'∧∃ u,Ending.returned v=.returned u∧res.ok T σ u w' A∧Below w.heap.size w w':=fun σ' s1 a' w' R' hr=>by
   cases hx:resA cx fn s1 with
   | none=>simp[hx] at hr
   | some r =>
    simp only[hx] at hr
    have:=AV.eq_of hr
    subst this
    obtain⟨v,e1,e2⟩:=resA_ok C R' hx
    refine⟨R'.defers.trans hdf,v,e1,v,rfl,?_,R'.below.below⟩
    have h3:=AV.ok.keep (T:=T) (ints:=cx.ints) C.table (Sub.refl σ') (w:=w') (w':=w') (A:=Al A σ' s1.blocks) (A':=A) ⟨Nat.le_refl _,fun b _ h=>⟨rfl,fun h'=>h (.inl h')⟩⟩ e2
    exact AV.ok_noown hnr h3
  cases he:evC cx fuel c (enter fn bs args) with
  | none=>simp[he] at hev
  | some p =>
   obtain⟨e,s1⟩:=p
   simp only[he] at hev
   refine(evC_sound C hm (.inr ⟨rfl,hdf⟩) hpre fuel (hcut c hb) R0 he fun σ' a' w' R'=>?_).1
   cases e with
   | normal=>exact fin σ' s1 a' w' R' hev
   | ret=>exact fin σ' s1 a' w' R' hev
   | exit id=>cases hev
theorem ev_spec(C:CxOk P T cx)(hm:P.follows .mixedOrders=true){f:FuncId}{fn:Func}(hf:P.funcs[f]?=some fn){args:List AR}{res:AV}(fuel:Nat)(hev:evF cx fn fuel args res=true)
  (hpre:∀ k∈cx.cuts,(k.pre.low && k.pre.blocks.all (fun b=>match b with|.live ab|.lent ab=>okCells cx ab.cells|_=>true))=true) (hcut:∀ c,fn.body=some c→∀ x∈loopsOf c,∀ k∈cx.cuts,keyOf x=some k.key→k.Ok P T cx x)
  (σ:Sg) (w:World) (A:Nat→Prop) (vs:List Value) (hR:cx.hp=true→Rcv A w) (hA:∀ n,A n→n<w.heap.size) (hargs:okr T σ args vs w A) (hdf:cx.dfs=[]:=by rfl) :
  Calls P f vs.toArray w fun r w'=>∃ v,r=.returned v∧res.ok T σ v w' A∧Below w.heap.size w w':=by
 unfold evF at hev
 simp only[Bool.and_eq_true] at hev
 have hnr:res.noown=true:=by
  have:=hev.2
  unfold evL at this
  simp only[Bool.and_eq_true] at this
  exact this.1.1
 refine(ev_lent C hm hf (bs:=[]) fuel hev.2 hpre hcut ⟨fun _=>none,fun _=>0⟩ w A vs hR hA (okr_noown hev.1 hargs) (fun b ab h=>by simp at h) (fun b _=>rfl) hdf).mono ?_
 rintro r w' ⟨v,h1,h2,h3⟩
 exact⟨v,h1,AV.ok_noown hnr h2,h3⟩
end
end Tr
