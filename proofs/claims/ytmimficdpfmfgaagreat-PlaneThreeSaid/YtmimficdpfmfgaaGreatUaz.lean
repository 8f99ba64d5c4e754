/- Laws for the walk. -/
import Derived.Test.YtmimficdpfmfgaaGreatUay
import Derived.ChangeKeysEq
set_option linter.unusedVariables false
set_option maxHeartbeats 4000000
set_option maxRecDepth 100000
namespace Go.Proofs.YtmimficdpfmfgaaGreat
open Go.RowKit Tr
structure RawS where
 x:Qbp
 y:Qbp
def RawS.val(s:RawS):Value:=.agg #[.bool s.x.n1,.string s.x.s1,.bool s.x.n2,.string s.x.s2,.bool s.x.n3,.string s.x.s3,.bool s.x.n4,.string s.x.s4,.bool s.y.n1,.string s.y.s1,.bool s.y.n2,.string s.y.s2,.bool s.y.n3,.string s.y.s3,.bool s.y.n4,.string s.y.s4]
def RawS.cells(s:RawS):List GF:=s.x.cells++s.y.cells
def Qbp.vals(g:Qbp):List Value:=[.bool g.n1,.string g.s1,.bool g.n2,.string g.s2,.bool g.n3,.string g.s3,.bool g.n4,.string g.s4]
def RawP.vals(p:RawP):List Value:=.bool p.i :: p.g.vals
def Qav(i n:Nat):List AC:=(List.range n).map fun k=>.sym (i+k)
theorem rawG_inj{g h:Qbp}(e:g.val=h.val):g=h:=by
 obtain⟨n1,n2,n3,n4,s1,s2,s3,s4⟩:=g
 obtain⟨m1,m2,m3,m4,t1,t2,t3,t4⟩:=h
 simp only[Qbp.val,Value.agg.injEq,Array.mk.injEq,List.cons.injEq,Value.bool.injEq,Value.string.injEq,and_true] at e
 obtain⟨rfl,rfl,rfl,rfl,rfl,rfl,rfl,rfl⟩:=e
 rfl
theorem rawP_inj{p q:RawP}(e:p.val=q.val):p=q:=by
 obtain⟨i,n1,n2,n3,n4,s1,s2,s3,s4⟩:=p
 obtain⟨j,m1,m2,m3,m4,t1,t2,t3,t4⟩:=q
 simp only[RawP.val,Value.agg.injEq,Array.mk.injEq,List.cons.injEq,Value.bool.injEq,Value.string.injEq,and_true] at e
 obtain⟨rfl,rfl,rfl,rfl,rfl,rfl,rfl,rfl,rfl⟩:=e
 rfl
theorem Qfs{g:Qbp}(h:GOk g.val):∃ z,g=Qae z∧Qab z:=by
 obtain⟨z,e,hs⟩:=h
 exact⟨z,rawG_inj (by rw[e,Qik]),hs⟩
theorem Qcd{z:QC}(h:Qab z):GOk (Qae z).val:=⟨z,Qik z,h⟩
theorem rawPt_ok{p:Pt}(h:ShortP p):POk (rawPt p).val:=⟨p,rawPt_val p,h⟩
theorem SMay_num(n1 n2 n3 n4:Bool)(s1 s2 s3 s4:ByteArray)(l1:s1.size<274877906944)(l2:s2.size<274877906944)(l3:s3.size<274877906944)(l4:s4.size<274877906944)(w:World) :
  Calls Tryz.prog 271 #[.agg #[.bool false,.bool n1,.string s1,.bool n2,.string s2,.bool n3,.string s3,.bool n4,.string s4]] w fun e w'=>e=.returned (.bool (okB n1 n2 s1 s2 && okB n3 n4 s3 s4))∧Below w.heap.size w w':=by
 have H1:=Lib.hid (GMay_any n1 n2 n3 n4 s1 s2 s3 s4 l1 l2 l3 l4 (w.alloc (.cells #[.bool false,.bool n1,.string s1,.bool n2,.string s2,.bool n3,.string s3,.bool n4,.string s4] 81)))
 have HA:=Lib.hid (show Below w.heap.size w (w.alloc (.cells #[.bool false,.bool n1,.string s1,.bool n2,.string s2,.bool n3,.string s3,.bool n4,.string s4] 81)) from br.alloc (Nat.le_refl _) _)
 obtain⟨r,hr⟩:∃ r,r=(okB n1 n2 s1 s2 && okB n3 n4 s3 s4):=⟨_,rfl⟩
 rw[←hr] at H1 ⊢
 clear hr
 go_enter Tryz.func271,Tryz.ntmps271
 go_wp2_with fail
 refine H1.out.mono ?_
 rintro e w1 ⟨rfl,hb1⟩
 have HB:=Lib.hid (HA.out.trans (hb1.mono (by simp)))
 clear hb1
 go_wp2
 go_ret
 exact⟨rfl,HB.out⟩
theorem SMay_inf (n1 n2 n3 n4 : Bool) (s1 s2 s3 s4 : ByteArray) (r : Bool) (hr : r = true ↔ .agg #[.bool true,.bool n1,.string s1,.bool n2,.string s2,.bool n3,.string s3,.bool n4,.string s4] = infP) (w : World) :
    Calls Tryz.prog 271 #[.agg #[.bool true,.bool n1,.string s1,.bool n2,.string s2,.bool n3,.string s3,.bool n4,.string s4]] w fun e w'=>e=.returned (.bool r)∧Below w.heap.size w w':=by
  obtain⟨W,hW⟩:∃ W,W=w.alloc (.cells #[.bool true,.bool n1,.string s1,.bool n2,.string s2,.bool n3,.string s3,.bool n4,.string s4] 81):=⟨_,rfl⟩
  obtain⟨⟨e0,e1,e2,e3,e4,e5,e6,e7,e8⟩,_⟩:=new_nine w (.bool true) (.bool n1) (.string s1) (.bool n2) (.string s2) (.bool n3) (.string s3) (.bool n4) (.string s4) 81 br
  rw[←hW] at e0 e1 e2 e3 e4 e5 e6 e7 e8
  have hs:w.heap.size<W.heap.size:=by rw[hW]; simp
  have hb:Below w.heap.size w W:=by rw[hW]; exact br.alloc (Nat.le_refl _) _
  have HV:=Lib.hid (And.intro hW (And.intro hb hr))
  clear hW hb hr
  go_enter Tryz.func271,Tryz.ntmps271
  go_wp2_with fail
  rw[←HV.out.1]
  try go_wp2_with fail
  refine Qas [(.lit,[]),(.val,[])]
    (Qeg [(1,fun v _ _=>v=.agg #[.bool true,.bool false,.string ⟨#[]⟩,.bool false,.string ⟨#[]⟩,.bool false,.string ⟨#[]⟩,.bool false,.string ⟨#[]⟩])]) (by kernel_rfl) ?_ ?_ (by simp) (by simp) (by kernel_rfl)
  · exact Qbd (by simp only[List.mem_cons,List.not_mem_nil,or_false]; rintro p rfl; exact fun _ _ _ _ _ _ _ h=>h)
  · refine⟨_,fun f w1 h1=>by(have d0:=ct h1 hs e0; have d1:=ct h1 hs e1; have d2:=ct h1 hs e2; have d3:=ct h1 hs e3; have d4:=ct h1 hs e4; have d5:=ct h1 hs e5; have d6:=ct h1 hs e6; have d7:=ct h1 hs e7; have d8:=ct h1 hs e8; go_simp; rfl),?_⟩
    simp only[Act.put,nrA,nrB,nrC,Nat.reduceAdd]
    refine⟨fun f w1 A1 k1 hA hN hd K hK=>by
      go_simp
      refine(Infinity_any w1).mono ?_
      rintro e w' ⟨rfl,hb⟩
      exact hK _ _ hb rfl,?_⟩
    intro f w1 k1 hF
    have i2:f 1=.agg #[.bool true,.bool false,.string ⟨#[]⟩,.bool false,.string ⟨#[]⟩,.bool false,.string ⟨#[]⟩,.bool false,.string ⟨#[]⟩]:=hF.2
    clear hF
    simp only[Act.put,nrA,nrB,nrC]
    obtain⟨t0,ht0⟩:∃ t0:ByteArray,t0=⟨#[]⟩:=⟨_,rfl⟩
    rw[←ht0] at i2
    rw[i2]
    clear i2
    have HT:=Lib.hid ht0
    clear ht0
    have HB:=Lib.hid (HV.out.2.1.trans ((br.drew.trans k1).mono HV.out.2.1.size))
    clear k1 e0 e1 e2 e3 e4 e5 e6 e7 e8
    go_wp2
    all_goals (
      go_ret
      refine⟨?_,HB.out⟩
      have hre:=HV.out.2.2
      unfold infP at hre
      rw[←HT.out] at hre
      simp only[Value.agg.injEq,Array.mk.injEq,List.cons.injEq,Value.bool.injEq,Value.string.injEq,and_true,true_and] at hre
      simp only[toL_iff] at *
      first
        | (have hr : r = true := hre.2 (by simp [*])
           rw[hr]; rfl)
        | (have hr : r = false := by
             cases h:r
             · rfl
             · obtain⟨a,b,c,d,e,f,g,h⟩:=hre.1 h
               exfalso
               subst_vars
               contradiction
           rw[hr]; rfl))
end Go.Proofs.YtmimficdpfmfgaaGreat
namespace Tr
open Go Go.RowKit
inductive FR where
 | c (g:GF)|row (l:List GF)
inductive FV where
 | r (x:FR)|tup (l:List FR)
def gl(l:LV):GF:=gx l.val (by cases l<;>rfl)
def okg:List GF→List Value→World→(Nat→Prop)→Prop
 | [],[],_,_=>True
 | g :: l,v :: vs,w,A=>g.R v w A∧okg l vs w A
 | _,_,_,_=>False
def FR.R:FR→Qck
 | .c g=>g.R
 | .row l=>fun v w A=>∃ vs,v=.agg vs.toArray∧okg l vs w A
def okf:List FR→List Value→World→(Nat→Prop)→Prop
 | [],[],_,_=>True
 | x :: l,v :: vs,w,A=>x.R v w A∧okf l vs w A
 | _,_,_,_=>False
def FV.R:FV→Qck
 | .r x=>x.R
 | .tup l=>fun v w A=>∃ vs,v=.tuple vs.toArray∧okf l vs w A
structure Qbm(P:Program)(hp:Bool)(f:FuncId)(args:List FR)(res:FV):Prop where
 ent:Enters P f
 ok:∀(w:World) (A:Nat→Prop) (vs:List Value),(hp=true→Rcv A w)→(∀ n,A n→n<w.heap.size)→okf args vs w A →
  Calls P f vs.toArray w fun r w'=>∃ v,r=.returned v∧res.R v w' A∧Below w.heap.size w w'
section
variable{P:Program}{hp:Bool}{fi:FuncId}{a:List FR}{r s:FV}{c:Prop}[Decidable c]
theorem Qbm.it(h:c)(k:Qbm P hp fi a r):Qbm P hp fi a (if c then r else s):=by rw[if_pos h]; exact k
theorem Qbm.ie(h:¬c)(k:Qbm P hp fi a s):Qbm P hp fi a (if c then r else s):=by rw[if_neg h]; exact k
theorem Qbm.t(k:Qbm P hp fi a (if c then r else s))(h:c):Qbm P hp fi a r:=by rw[if_pos h] at k; exact k
theorem Qbm.f(k:Qbm P hp fi a (if c then r else s))(h:¬c):Qbm P hp fi a s:=by rw[if_neg h] at k; exact k
end
def AC.lk(L:List GF):AC→Option GF
 | .sym i=>some (L.getD i g0)
 | .lit l=>some (gl l)
 | _=>none
def acsK(L:List GF):List AC→Option (List GF)
 | []=>some []
 | x :: l=>match x.lk L,acsK L l with|some v,some vs=>some (v :: vs)|_,_=>none
def AR.lk(L:List GF):AR→Option FR
 | .c x=>match x.lk L with|some g=>some (.c g)|none=>none
 | .row l=>match acsK L l with|some vs=>some (.row vs)|none=>none
def arsK(L:List GF):List AR→Option (List FR)
 | []=>some []
 | x :: l=>match x.lk L,arsK L l with|some v,some vs=>some (v :: vs)|_,_=>none
def AV.lk(L:List GF):AV→Option FV
 | .r x=>match x.lk L with|some g=>some (.r g)|none=>none
 | .tup l=>match arsK L l with|some vs=>some (.tup vs)|none=>none
 | _=>none
section
variable{P:Program}{L:List GF}{hp:Bool}{σ:Sg}{w:World}{A:Nat→Prop}
theorem AC.lk_ok{x:AC}{g:GF}{v:Value}(h:x.lk L=some g):x.ok (gT L) σ v w A↔g.R v w A:=by
 cases x with
 | sym i=>cases h; exact Iff.rfl
 | lit l=>cases h; exact Iff.rfl
 | _=>cases h
theorem acsK_ok:∀{l:List AC} {gs:List GF} {vs:List Value},acsK L l=some gs→(oks (gT L) σ l vs w A↔okg gs vs w A)
 | [],gs,vs,h=>by cases h; cases vs<;>exact Iff.rfl
 | x :: l,gs,vs,h=>by
  unfold acsK at h
  split at h
  ·rename_i u r h1 h2
   cases h
   cases vs with
   | nil=>exact Iff.rfl
   | cons v vs=>exact and_congr (AC.lk_ok h1) (acsK_ok h2)
  ·cases h
theorem AR.lk_ok{x:AR}{g:FR}{v:Value}(h:x.lk L=some g):x.ok (gT L) σ v w A↔g.R v w A:=by
 cases x with
 | c x =>
  unfold AR.lk at h
  simp only at h
  split at h
  ·rename_i g' h1; cases h; exact AC.lk_ok (x:=x) h1
  ·cases h
 | row l =>
  unfold AR.lk at h
  simp only at h
  split at h
  ·rename_i gs h1; cases h
   exact exists_congr fun vs=>and_congr Iff.rfl (acsK_ok h1)
  ·cases h
theorem arsK_ok:∀{l:List AR} {gs:List FR} {vs:List Value},arsK L l=some gs→(okr (gT L) σ l vs w A↔okf gs vs w A)
 | [],gs,vs,h=>by cases h; cases vs<;>exact Iff.rfl
 | x :: l,gs,vs,h=>by
  unfold arsK at h
  split at h
  ·rename_i u r h1 h2
   cases h
   cases vs with
   | nil=>exact Iff.rfl
   | cons v vs=>exact and_congr (AR.lk_ok h1) (arsK_ok h2)
  ·cases h
theorem AV.lk_ok{x:AV}{g:FV}{v:Value}(h:x.lk L=some g):x.ok (gT L) σ v w A↔g.R v w A:=by
 cases x with
 | r x =>
  unfold AV.lk at h
  simp only at h
  split at h
  ·rename_i g' h1; cases h; exact AR.lk_ok (x:=x) h1
  ·cases h
 | tup l =>
  unfold AV.lk at h
  simp only at h
  split at h
  ·rename_i gs h1; cases h
   exact exists_congr fun vs=>and_congr Iff.rfl (arsK_ok h1)
  ·cases h
 | _=>cases h
end
section
variable{P:Program}{L:List GF}
def gs{hp' hp:Bool}{f:FuncId}{fa:List FR}{fr:FV}(h:Qbm P hp' f fa fr)(args:List AR)(res:AV)(ha:arsK L args=some fa:=by kernel_rfl)(hr:res.lk L=some fr:=by kernel_rfl)(hh:(!hp' || hp)=true:=by rfl):GC P L hp :=
 ⟨{ f,args,res },h.ent,fun σ w A us hR hA hu _=>by
  have hR':hp'=true→Rcv A w:=fun e=>hR (by subst e; simpa using hh)
  exact(h.ok w A us hR' hA ((arsK_ok ha).1 hu)).mono fun r w' ⟨v,h1,h2,h3⟩=>⟨v,h1,(AV.lk_ok hr).2 h2,h3⟩⟩
theorem Qdb{hp:Bool}{tys:List (TypeId×TyI)}(ht:∀ p∈tys,p.2.good P p.1=true)(hm:P.follows .mixedOrders=true)(C:List (GC P L hp))(B:List (GB P L))(O:List (GO P L)){f:FuncId}{fn:Func}(hf:P.funcs[f]?=some fn)(ent:Enters P f)(fuel:Nat)(args:List AR)(res:AV)
  {fa:List FR} {fr:FV} (hev:evF (gcx tys hp L C B O) fn fuel args res=true:=by kernel_rfl) (ha:arsK L args=some fa:=by kernel_rfl) (hr:res.lk L=some fr:=by kernel_rfl):Qbm P hp f fa fr :=
 ⟨ent,fun w A vs hR hA hu=>(ev_gen ht hm C B O hf fuel args res hev w A vs hR hA ((arsK_ok ha).2 hu)).mono fun r w' ⟨v,h1,h2,h3⟩=>⟨v,h1,(AV.lk_ok hr).1 h2,h3⟩⟩
def gfV:List GF→Option (List Value)
 | []=>some []
 | g :: l=>match g.ex,gfV l with|some v,some vs=>some (v :: vs)|_,_=>none
def FR.val:FR→Option Value
 | .c g=>g.ex
 | .row l=>match gfV l with|some vs=>some (.agg vs.toArray)|none=>none
def frsV:List FR→Option (List Value)
 | []=>some []
 | x :: l=>match x.val,frsV l with|some v,some vs=>some (v :: vs)|_,_=>none
def FV.val:FV→Option Value
 | .r x=>x.val
 | .tup l=>match frsV l with|some vs=>some (.tuple vs.toArray)|none=>none
variable{w:World}{A:Nat→Prop}
theorem gfV_ok:∀{l:List GF} {us vs:List Value},gfV l=some us→(okg l vs w A↔vs=us)
 | [],us,vs,h=>by cases h; cases vs<;>simp[okg]
 | g :: l,us,vs,h=>by
  unfold gfV at h
  split at h
  ·rename_i u r h1 h2
   cases h
   cases vs with
   | nil=>simp[okg]
   | cons v vs=>simp only[okg,g.exact u h1,gfV_ok h2,List.cons.injEq]
  ·cases h
theorem FR.val_ok{x:FR}{u v:Value}(h:x.val=some u):x.R v w A↔v=u:=by
 cases x with
 | c g=>exact g.exact u h v w A
 | row l =>
  unfold FR.val at h
  simp only at h
  split at h
  ·rename_i vs h1
   cases h
   constructor
   ·rintro⟨us,rfl,h2⟩; rw[(gfV_ok h1).1 h2]
   ·rintro rfl; exact⟨_,rfl,(gfV_ok h1).2 rfl⟩
  ·cases h
theorem frsV_ok:∀{l:List FR} {us vs:List Value},frsV l=some us→(okf l vs w A↔vs=us)
 | [],us,vs,h=>by cases h; cases vs<;>simp[okf]
 | x :: l,us,vs,h=>by
  unfold frsV at h
  split at h
  ·rename_i u r h1 h2
   cases h
   cases vs with
   | nil=>simp[okf]
   | cons v vs=>simp only[okf,FR.val_ok h1,frsV_ok h2,List.cons.injEq]
  ·cases h
theorem FV.val_ok{x:FV}{u v:Value}(h:x.val=some u):x.R v w A↔v=u:=by
 cases x with
 | r x=>exact FR.val_ok (x:=x) h
 | tup l =>
  unfold FV.val at h
  simp only at h
  split at h
  ·rename_i vs h1
   cases h
   constructor
   ·rintro⟨us,rfl,h2⟩; rw[(frsV_ok h1).1 h2]
   ·rintro rfl; exact⟨_,rfl,(frsV_ok h1).2 rfl⟩
  ·cases h
theorem Qcn{f:FuncId}{vs:List Value}{v:Value}{fa:List FR}{fr:FV}(ent:Enters P f)(h:PureC P f vs v)(ha:frsV fa=some vs)(hr:fr.val=some v):Qbm P false f fa fr :=
 ⟨ent,fun w A us _ _ hu=>by
  have e:us=vs:=(frsV_ok ha).1 hu
  subst e
  exact(h w).mono fun r w' h=>⟨v,h.1,(FV.val_ok hr).2 rfl,h.2⟩⟩
theorem Qbm.pure{hp:Bool}{f:FuncId}{vs:List Value}{v:Value}{fa:List FR}{fr:FV}(h:Qbm P hp f fa fr)(ha:frsV fa=some vs)(hr:fr.val=some v):PureC P f vs v:=fun w =>
 (h.ok w NoA vs (fun _=>rcv_none w) (fun _ h=>h.elim) ((frsV_ok ha).2 rfl)).mono fun r w' ⟨u,h1,h2,h3⟩=>⟨by rw[h1,(FV.val_ok hr).1 h2],h3⟩
theorem spec1{hp:Bool}{f:FuncId}{x:FR}{res:FV}(ent:Enters P f)(h:∀(w:World) (A:Nat→Prop) (u:Value),(hp=true→Rcv A w)→(∀ n,A n→n<w.heap.size)→x.R u w A→Calls P f #[u] w fun r w'=>∃ v,r=.returned v∧res.R v w' A∧Below w.heap.size w w'):Qbm P hp f [x] res :=
 ⟨ent,fun w A us hR hA hu=>by
  match us,hu with
  | [u],hu=>exact h w A u hR hA hu.1⟩
theorem spec2{hp:Bool}{f:FuncId}{x y:FR}{res:FV}(ent:Enters P f)(h:∀(w:World) (A:Nat→Prop) (u v:Value),(hp=true→Rcv A w)→(∀ n,A n→n<w.heap.size)→x.R u w A→y.R v w A→Calls P f #[u,v] w fun r w'=>∃ v,r=.returned v∧res.R v w' A∧Below w.heap.size w w'):Qbm P hp f [x,y] res :=
 ⟨ent,fun w A us hR hA hu=>by
  match us,hu with
  | [u,v],hu=>exact h w A u v hR hA hu.1 hu.2.1⟩
def sy(l:List Nat):AR:=.row (l.map .sym)
def rnC(bs:List Nat):AC→AC
 | .own b o=>.own (bs.getD b 0) o
 | .sl b o n c=>.sl (bs.getD b 0) o n c
 | .fn f a b=>.fn f (a.map fun k=>bs.getD k 0) (b.map fun k=>bs.getD k 0)
 | x=>x
def rnR(bs:List Nat):AR→AR
 | .c x=>.c (rnC bs x)
 | .row l=>.row (l.map (rnC bs))
def lowC(n:Nat):AC→Bool
 | .own b _|.sl b _ _ _=>decide (b<n)
 | .fn _ a b=>a.all (fun k=>decide (k<n)) && b.all (fun k=>decide (k<n))
 | .sg _ _ _=>false
 | _=>true
theorem ptrs_rn{σ σ':Sg}{bs:List Nat}(hσ:∀ k,k<bs.length→σ' k=σ (bs.getD k 0)):∀{l:List Nat} {us:List Value},l.all (fun k=>decide (k<bs.length))=true→ptrs σ (l.map fun k=>bs.getD k 0) us→ptrs σ' l us
 | [],[],_,_=>trivial
 | [],_ :: _,_,h=>h.elim
 | _ :: _,[],_,h=>h.elim
 | k :: l,u :: us,hl,h=>by
  simp only[List.all_cons,Bool.and_eq_true,decide_eq_true_eq] at hl
  obtain⟨⟨n,h1,h2⟩,h3⟩:=h
  exact⟨⟨n,(hσ k hl.1).trans h1,h2⟩,ptrs_rn hσ hl.2 h3⟩
theorem rnC_ok{T:Nat→Qck}{σ σ':Sg}{bs:List Nat}(hσ:∀ k,k<bs.length→σ' k=σ (bs.getD k 0)){x:AC}(hx:lowC bs.length x=true){v:Value}(h:(rnC bs x).ok T σ v w A):x.ok T σ' v w A:=by
 cases x with
 | sym i=>exact h
 | lit l=>exact h
 | own b o =>
  obtain⟨n,h1,h2⟩:=h
  exact⟨n,(hσ b (by simpa[lowC] using hx)).trans h1,h2⟩
 | sl b o n c =>
  obtain⟨m,h1,h2⟩:=h
  exact⟨m,(hσ b (by simpa[lowC] using hx)).trans h1,h2⟩
 | sg b o n=>cases hx
 | fn f a b =>
  simp only[lowC,Bool.and_eq_true] at hx
  obtain⟨us,vs,h1,h2,h3⟩:=h
  exact⟨us,vs,h1,ptrs_rn hσ hx.1 h2,ptrs_rn hσ hx.2 h3⟩
theorem rnCs_ok{T:Nat→Qck}{σ σ':Sg}{bs:List Nat}(hσ:∀ k,k<bs.length→σ' k=σ (bs.getD k 0)):∀{l:List AC} {vs:List Value},l.all (lowC bs.length)=true→oks T σ (l.map (rnC bs)) vs w A→oks T σ' l vs w A
 | [],[],_,_=>trivial
 | x :: l,v :: vs,hx,h=>by
  simp only[List.all_cons,Bool.and_eq_true] at hx
  exact⟨rnC_ok hσ hx.1 h.1,rnCs_ok hσ hx.2 h.2⟩
 | [],_ :: _,_,h=>h.elim
 | _ :: _,[],_,h=>h.elim
def lowR(n:Nat)(x:AR):Bool:=x.cells.all (lowC n)
theorem rnR_ok{T:Nat→Qck}{σ σ':Sg}{bs:List Nat}(hσ:∀ k,k<bs.length→σ' k=σ (bs.getD k 0)){x:AR}(hx:lowR bs.length x=true){v:Value}(h:(rnR bs x).ok T σ v w A):x.ok T σ' v w A:=by
 cases x with
 | c x=>exact rnC_ok (x:=x) hσ (by simpa[lowR,AR.cells] using hx) h
 | row l=>obtain⟨vs,e,h2⟩:=h; exact⟨vs,e,rnCs_ok hσ hx h2⟩
theorem rnRs_ok{T:Nat→Qck}{σ σ':Sg}{bs:List Nat}(hσ:∀ k,k<bs.length→σ' k=σ (bs.getD k 0)):∀{l:List AR} {vs:List Value},l.all (lowR bs.length)=true→okr T σ (l.map (rnR bs)) vs w A→okr T σ' l vs w A
 | [],[],_,_=>trivial
 | x :: l,v :: vs,hx,h=>by
  simp only[List.all_cons,Bool.and_eq_true] at hx
  exact⟨rnR_ok hσ hx.1 h.1,rnRs_ok hσ hx.2 h.2⟩
 | [],_ :: _,_,h=>h.elim
 | _ :: _,[],_,h=>h.elim
theorem needs_get{T:Nat→Qck}{σ:Sg}{f:AB→AB}:∀{abs:List AB} {bs:List Nat},bs.length=abs.length→needsP T σ w A (bs.zip (abs.map f))→∀ k ab,abs[k]?=some ab→∃ n vs,σ (bs.getD k 0)=some n∧A n∧w.heap[n]?=some (.cells vs.toArray (f ab).ty (0,0))∧oks T σ (f ab).cells vs w A
 | [],_,_,_,k,ab,h=>by simp at h
 | a :: abs,[],h,_,_,_,_=>by simp at h
 | a :: abs,b :: bs,hl,h,k,ab,hk=>by
  cases k with
  | zero =>
   simp only[List.getElem?_cons_zero,Option.some.injEq] at hk
   subst hk
   exact h.1
  | succ k=>exact needs_get (by simpa using hl) h.2 k ab (by simpa using hk)
def rnB(bs:List Nat)(ab:AB):AB:=⟨ab.cells.map (rnC bs),ab.ty,none⟩
end
def ga:GF where
 R:=fun v _ _=>v.oneCell'=true∧∀(k:Unit) (x:Int),v≠.int .u32 x
 int:=false
 keeps:=fun _ _ _ _ _ _ _ h=>h
 cell:=fun v w A h=>h.1
 noint:=fun _ v w A h=>h.2
 ex:=none
 exact:=fun u e=>by cases e
def gai:GF where
 R:=fun v _ _=>v.oneCell'=true
 int:=true
 keeps:=fun _ _ _ _ _ _ _ h=>h
 cell:=fun v w A h=>h
 noint:=fun e=>by cases e
 ex:=none
 exact:=fun u e=>by cases e
def GF.any(g:GF):GF:=if g.int then gai else ga
def FR.any:FR→FR|.c g=>.c g.any|.row l=>.row (l.map GF.any)
def FV.any:FV→FV|.r x=>.r x.any|.tup l=>.tup (l.map FR.any)
section
variable{w:World}{A:Nat→Prop}
theorem GF.any_ok{g:GF}{v:Value}(h:g.R v w A):g.any.R v w A:=by
 unfold GF.any
 cases hi:g.int
 ·exact⟨g.cell v w A h,g.noint hi v w A h⟩
 ·exact g.cell v w A h
theorem okg_any:∀{l:List GF} {vs:List Value},okg l vs w A→okg (l.map GF.any) vs w A
 | [],[],_=>trivial
 | g :: l,v :: vs,h=>⟨GF.any_ok h.1,okg_any h.2⟩
 | [],_ :: _,h=>h.elim
 | _ :: _,[],h=>h.elim
theorem FR.any_ok{x:FR}{v:Value}(h:x.R v w A):x.any.R v w A:=by
 cases x with
 | c g=>exact GF.any_ok (g:=g) h
 | row l=>obtain⟨vs,e,h⟩:=h; exact⟨vs,e,okg_any h⟩
theorem okf_any:∀{l:List FR} {vs:List Value},okf l vs w A→okf (l.map FR.any) vs w A
 | [],[],_=>trivial
 | g :: l,v :: vs,h=>⟨FR.any_ok h.1,okf_any h.2⟩
 | [],_ :: _,h=>h.elim
 | _ :: _,[],h=>h.elim
theorem FV.any_ok{x:FV}{v:Value}(h:x.R v w A):x.any.R v w A:=by
 cases x with
 | r x=>exact FR.any_ok (x:=x) h
 | tup l=>obtain⟨vs,e,h⟩:=h; exact⟨vs,e,okf_any h⟩
end
theorem Qbm.anyL{P:Program}{hp:Bool}{fi:FuncId}{a:List FR}{r s:FV}(k:Qbm P hp fi a r)(h:r.any=s):Qbm P hp fi a s :=
 ⟨k.ent,fun w A vs h1 h2 h3=>(k.ok w A vs h1 h2 h3).mono fun _ _ ⟨v,e,h4,h5⟩=>⟨v,e,h▸FV.any_ok h4,h5⟩⟩
inductive FA where
 | f (x:FR)|sl (b off len cap:Nat)|own (b off:Nat)|fn (f:FuncId) (a b:List Nat)
def FA.R(σ:Sg):FA→Qck
 | .f x=>x.R
 | .sl b o n c=>fun v _ _=>∃ m,σ b=some m∧v=.slice (some ⟨m,o,none⟩) n c
 | .own b o=>fun v _ _=>∃ n,σ b=some n∧v=.pointer (some ⟨n,o,none⟩)
 | .fn g a b=>fun v _ _=>∃ us vs:List Value,v=.func (.func g) us.toArray vs.toArray∧ptrs σ a us∧ptrs σ b vs
def oka(σ:Sg):List FA→List Value→World→(Nat→Prop)→Prop
 | [],[],_,_=>True
 | x :: l,v :: vs,w,A=>x.R σ v w A∧oka σ l vs w A
 | _,_,_,_=>False
structure SpecM(P:Program)(hp:Bool)(f:FuncId)(bl:List (List GF×TypeId))(args:List FA)(res:FV):Prop where
 ent:Enters P f
 ok:∀(σ:Sg) (w:World) (A:Nat→Prop) (vs:List Value),(hp=true→Rcv A w)→(∀ n,A n→n<w.heap.size) →
  (∀ b gs ty,bl[b]?=some (gs,ty)→∃ n us,σ b=some n∧A n∧w.heap[n]?=some (.cells us.toArray ty (0,0))∧okg gs us w A)→(∀ b,bl.length≤b→σ b=none)→oka σ args vs w A →
  Calls P f vs.toArray w fun r w'=>∃ v,r=.returned v∧res.R v w' A∧Below w.heap.size w w'
section
variable{P:Program}{hp:Bool}{fi:FuncId}{bl:List (List GF×TypeId)}{a:List FA}{r s:FV}{c:Prop}[Decidable c]
theorem SpecM.it(h:c)(k:SpecM P hp fi bl a r):SpecM P hp fi bl a (if c then r else s):=by rw[if_pos h]; exact k
theorem SpecM.ie(h:¬c)(k:SpecM P hp fi bl a s):SpecM P hp fi bl a (if c then r else s):=by rw[if_neg h]; exact k
theorem SpecM.t(k:SpecM P hp fi bl a (if c then r else s))(h:c):SpecM P hp fi bl a r:=by rw[if_pos h] at k; exact k
theorem SpecM.f(k:SpecM P hp fi bl a (if c then r else s))(h:¬c):SpecM P hp fi bl a s:=by rw[if_neg h] at k; exact k
end
def AR.la(L:List GF):AR→Option FA
 | .c (.own b o)=>some (.own b o)
 | .c (.sl b o n k)=>some (.sl b o n k)
 | .c (.fn f a b)=>some (.fn f a b)
 | x=>match x.lk L with|some g=>some (.f g)|none=>none
def arsL(L:List GF):List AR→Option (List FA)
 | []=>some []
 | x :: l=>match x.la L,arsL L l with|some v,some vs=>some (v :: vs)|_,_=>none
def absK(L:List GF):List AB→Option (List (List GF×TypeId))
 | []=>some []
 | x :: l=>match acsK L x.cells,absK L l with|some v,some vs=>some ((v,x.ty) :: vs)|_,_=>none
section
variable{L:List GF}{σ:Sg}{w:World}{A:Nat→Prop}
theorem AR.la_ok{x:AR}{g:FA}{v:Value}(h:x.la L=some g):x.ok (gT L) σ v w A↔g.R σ v w A:=by
 unfold AR.la at h
 split at h
 ·cases h; exact Iff.rfl
 ·cases h; exact Iff.rfl
 ·cases h; exact Iff.rfl
 ·split at h
  ·rename_i g' h1; cases h; exact AR.lk_ok h1
  ·cases h
theorem arsL_ok:∀{l:List AR} {gs:List FA} {vs:List Value},arsL L l=some gs→(okr (gT L) σ l vs w A↔oka σ gs vs w A)
 | [],gs,vs,h=>by cases h; cases vs<;>exact Iff.rfl
 | x :: l,gs,vs,h=>by
  unfold arsL at h
  split at h
  ·rename_i u r h1 h2
   cases h
   cases vs with
   | nil=>exact Iff.rfl
   | cons v vs=>exact and_congr (AR.la_ok h1) (arsL_ok h2)
  ·cases h
theorem absK_get:∀{l:List AB} {bl:List (List GF×TypeId)},absK L l=some bl→l.length=bl.length∧∀(b:Nat) (ab:AB),l[b]?=some ab→∃ gs,bl[b]?=some (gs,ab.ty)∧acsK L ab.cells=some gs
 | [],bl,h=>by cases h; exact⟨rfl,fun b ab h=>by simp at h⟩
 | x :: l,bl,h=>by
  unfold absK at h
  split at h
  ·rename_i u r h1 h2
   cases h
   obtain⟨e,k⟩:=absK_get h2
   refine⟨by simp[e],fun b ab hb=>?_⟩
   cases b with
   | zero=>simp only[List.getElem?_cons_zero,Option.some.injEq] at hb; subst hb; exact⟨u,by simp,h1⟩
   | succ b=>simp only[List.getElem?_cons_succ] at hb ⊢; exact k b ab hb
  ·cases h
end
section
variable{P:Program}{L:List GF}
theorem ev_sm{hp:Bool}{tys:List (TypeId×TyI)}(ht:∀ p∈tys,p.2.good P p.1=true)(hm:P.follows .mixedOrders=true)(C:List (GC P L hp))(B:List (GB P L))(O:List (GO P L)){f:FuncId}{fn:Func}(hf:P.funcs[f]?=some fn)(ent:Enters P f)(fuel:Nat)(abs:List AB)(args:List AR)(res:AV)
  {bl:List (List GF×TypeId)} {fa:List FA} {fr:FV} (hev:evL (gcx tys hp L C B O) fn fuel abs args res=true:=by kernel_rfl) (hb:absK L abs=some bl:=by kernel_rfl) (ha:arsL L args=some fa:=by kernel_rfl) (hr:res.lk L=some fr:=by kernel_rfl):SpecM P hp f bl fa fr :=
 ⟨ent,fun σ w A vs hR hA hbl hbey hu=>by
  obtain⟨hl,hg⟩:=absK_get hb
  have hnr:res.noown=true:=by
   have:=hev
   unfold evL at this
   simp only[Bool.and_eq_true] at this
   exact this.1.1
  refine(ev_lent (gcx_ok ht C B O) hm hf fuel hev (fun k hk=>by cases hk) (fun c _ x _ k hk=>by cases hk) σ w A vs hR hA ((arsL_ok ha).2 hu) (fun b ab h=>?_) (fun b h=>hbey b (by omega))).mono fun r w' ⟨v,h1,h2,h3⟩=>⟨v,h1,(AV.lk_ok hr).1 h2,h3⟩
  obtain⟨gs,h1,h2⟩:=hg b ab h
  obtain⟨n,us,k1,k2,k3,k4⟩:=hbl b gs ab.ty h1
  exact⟨n,us,k1,k2,k3,(acsK_ok h2).2 k4⟩⟩
def gsm{hp' hp:Bool}{f:FuncId}{bl:List (List GF×TypeId)}{fa:List FA}{fr:FV}(h:SpecM P hp' f bl fa fr)(bs:List Nat)(abs:List AB)(args:List AR)(res:AV)
  (hb:absK L abs=some bl:=by kernel_rfl) (ha:arsL L args=some fa:=by kernel_rfl) (hr:res.lk L=some fr:=by kernel_rfl) (hc:(bs.length == abs.length && args.all (lowR bs.length) && abs.all (fun ab=>ab.cells.all (lowC bs.length)) && res.noown && (!hp' || hp))=true:=by kernel_rfl):GC P L hp :=
 ⟨{ f,args:=args.map (rnR bs),res,needs:=bs.zip (abs.map (rnB bs)) },h.ent,fun σ w A us hR hA hu hn=>by
  simp only[Bool.and_eq_true,beq_iff_eq] at hc
  obtain⟨⟨⟨⟨hl,hla⟩,hlb⟩,hnr⟩,hh⟩:=hc
  obtain⟨hlen,hg⟩:=absK_get hb
  let σ':Sg:=⟨fun k=>if k<bs.length then σ (bs.getD k 0) else none,fun _=>0⟩
  have hσ:∀ k,k<bs.length→σ' k=σ (bs.getD k 0):=fun k h=>if_pos h
  refine(h.ok σ' w A us (fun e=>hR (by subst e; simpa using hh)) hA (fun b gs ty hb'=>?_) (fun k hk=>if_neg (by omega)) ((arsL_ok ha).1 (rnRs_ok hσ hla hu))).mono fun r w' ⟨v,h1,h2,h3⟩=>⟨v,h1,AV.ok_noown hnr ((AV.lk_ok (σ:=σ') hr).2 h2),h3⟩
  have hlt:b<abs.length:=by rw[hlen]; exact(List.getElem?_eq_some_iff.1 hb').1
  obtain⟨ab,hab⟩:∃ ab,abs[b]?=some ab:=⟨_,List.getElem?_eq_getElem hlt⟩
  obtain⟨gs',h1,h2⟩:=hg b ab hab
  rw[hb'] at h1; cases h1
  obtain⟨n,vs,k1,k2,k3,k4⟩:=needs_get hl hn b ab hab
  exact⟨n,vs,(hσ b (by omega)).trans k1,k2,k3,(acsK_ok h2).1 (rnCs_ok hσ (List.all_eq_true.1 hlb ab (List.mem_of_getElem? hab)) k4)⟩⟩
end
end Tr
namespace Go.Proofs.YtmimficdpfmfgaaGreat
open Go.RowKit Tr
theorem tI{p:Prop}(h:p):true=true↔p:=⟨fun _=>h,fun _=>rfl⟩
theorem fI{p:Prop}(h:¬p):false=true↔p:=⟨fun e=>(by cases e),fun e=>absurd e h⟩
def gr(q:Rat):GF where
 R:=Qbl q
 int:=false
 keeps:=Qbl.keeps q
 cell:=fun v w A h=>by obtain⟨b,rfl,_⟩:=h; rfl
 noint:=fun _ v w A h k x=>by obtain⟨b,rfl,_⟩:=h; simp
 ex:=none
 exact:=fun u e=>by cases e
def gro(q:Rat):GF where
 R:=Qdw q
 int:=false
 keeps:=Qdw.keeps q
 cell:=fun v w A h=>by rcases h with⟨rfl,_⟩|⟨b,rfl,_⟩<;>rfl
 noint:=fun _ v w A h k x=>by rcases h with⟨rfl,_⟩|⟨b,rfl,_⟩<;>simp
 ex:=none
 exact:=fun u e=>by cases e
def rF(q:Rat):List GF:=[gx (.bool (decide (q.num<0))),gx (.string (Qcf q.num.natAbs)),gx (.bool false),gx (.string (Qcf q.den))]
def rG(z:QC):List GF:=rF z.re++rF z.im
def cq(z:QC):List GF:=[gr z.re,gr z.im]
def cn(z:QC):List GF:=[gro z.re,gro z.im]
section
variable{w:World}{A:Nat→Prop}{v:Value}
theorem okg_cons{g:GF}{l:List GF}{vs:List Value}:okg (g :: l) vs w A↔∃ u us,vs=u :: us∧g.R u w A∧okg l us w A:=by
 cases vs with
 | nil=>exact⟨fun h=>h.elim,fun⟨_,_,e,_⟩=>by cases e⟩
 | cons u us=>exact⟨fun h=>⟨u,us,rfl,h.1,h.2⟩,fun⟨_,_,e,h⟩=>by cases e; exact h⟩
theorem okg_nil{vs:List Value}:okg [] vs w A↔vs=[]:=by
 cases vs with
 | nil=>exact⟨fun _=>rfl,fun _=>trivial⟩
 | cons u us=>exact⟨fun h=>h.elim,fun e=>by cases e⟩
theorem Qey{z:QC}:(FR.row (cn z)).R v w A↔Qgr z.re z.im v w A:=by
 constructor
 ·rintro⟨vs,rfl,h⟩
  obtain⟨u1,_,rfl,h1,h⟩:=okg_cons.1 h
  obtain⟨u2,_,rfl,h2,h⟩:=okg_cons.1 h
  cases okg_nil.1 h
  exact⟨u1,u2,rfl,h1,h2⟩
 ·rintro⟨u1,u2,rfl,h1,h2⟩
  exact⟨[u1,u2],rfl,h1,h2,trivial⟩
end
def Qbp.Sz(g:Qbp):Prop:=g.s1.size≤1000000000∧g.s2.size≤1000000000∧g.s3.size≤1000000000∧g.s4.size≤1000000000
def RawP.Sz(p:RawP):Prop:=p.g.Sz
def flA(l:List (List AC)):List AC:=l.flatten
def zFA:List AC:=[.lit (.bool false),.lit .str0,.lit (.bool false),.lit .str0]
def zGA:List AC:=zFA++zFA
def gR(n:Nat):List AC:=[.sym n,.sym (n+1),.lit (.bool false),.sym (n+2),.sym (n+3),.sym (n+4),.lit (.bool false),.sym (n+5)]
def gL:List Nat→List AC
 | []=>[]
 | n :: l=>gR n++gL l
def zFG:List GF:=[gl (.bool false),gl .str0,gl (.bool false),gl .str0]
def zGG:List GF:=zFG++zFG
def B1(b:Bool):FV:=.r (.c (gx (.bool b)))
theorem pGInt(i j:Int)(a1:-9223372036854775808≤i)(a2:i<9223372036854775808)(b1:-9223372036854775808≤j)(b2:j<9223372036854775808):Qbm Tryz.prog false 73 [.c (gx (.int .i64 i)),.c (gx (.int .i64 j))] (.r (.row (Qae ⟨(i:Rat),(j:Rat)⟩).cells)) :=
 Qcn eo73 (vs:=[.int .i64 i,.int .i64 j]) (v:=encG (i:Rat) (j:Rat)) (fun w=>GInt_any i j a1 a2 b1 b2 w) (by kernel_rfl) (by kernel_rfl)
theorem pSMay(p:RawP)(hs:p.Sz)(r:Bool)(hr:r=true↔POk p.val):Qbm Tryz.prog true 271 [.row p.cells] (B1 r) :=
 spec1 eo271 fun w A u _ _ hu=>by
  obtain⟨l1,l2,l3,l4⟩:=hs
  rw[(FR.val_ok (u:=p.val) (x:=.row p.cells) (by kernel_rfl)).1 hu]
  obtain⟨i,g⟩:=p
  cases i
  ·refine(SMay_num g.n1 g.n2 g.n3 g.n4 g.s1 g.s2 g.s3 g.s4 (by simp only at l1; omega) (by simp only at l2; omega) (by simp only at l3; omega) (by simp only at l4; omega) w).mono fun r' w' h=>⟨_,h.1,?_,h.2⟩
   show Value.bool _=Value.bool r
   congr 1
   rw[Bool.eq_iff_iff,hr,pOk_num (p:=⟨false,g⟩) rfl,gOk_iff,Bool.and_eq_true,okB_iff,okB_iff]
  ·refine(SMay_inf g.n1 g.n2 g.n3 g.n4 g.s1 g.s2 g.s3 g.s4 r ?_ w).mono fun r' w' h=>⟨_,h.1,rfl,h.2⟩
   rw[hr]; exact pOk_inf (p:=⟨true,g⟩) rfl
def bI{P:Program}{L:List GF}(op:BinOp)(t:TypeId)(x y:AC)(a b:Int)(c:Bool)(h:Qdn op a b=some c)(hx:x.gv L=some (.int .i64 a):=by kernel_rfl)(hy:y.gv L=some (.int .i64 b):=by kernel_rfl):GB P L:=gbInt op t .i64 x y a b c h hx hy
section
variable{L:List GF}
def bG(x y:AR)(g h:Qbp)(r:Bool)(hr:r=true↔g=h)(hx:x.gv L=some g.val:=by kernel_rfl)(hy:y.gv L=some h.val:=by kernel_rfl):GB Tryz.prog L :=
 gb .eql 28 x y (.lit (.bool r)) (agg_eql (by kernel_rfl) (fun w=>run_eql_rg w g h r (by rw[hr]; exact⟨fun e=>by rw[e],rawG_inj⟩))) hx hy rfl
def bP(x y:AR)(p q:RawP)(r:Bool)(hr:r=true↔p=q)(hx:x.gv L=some p.val:=by kernel_rfl)(hy:y.gv L=some q.val:=by kernel_rfl):GB Tryz.prog L :=
 gb .eql 81 x y (.lit (.bool r)) (agg_eql (by kernel_rfl) (fun w=>run_eql_rp w p q r (by rw[hr]; exact⟨fun e=>by rw[e],rawP_inj⟩))) hx hy rfl
end
theorem shortF_lt{q:Rat}(h1:q.num.natAbs<256 ^ 1024)(h2:q.den<256 ^ 1024):Qap q:=⟨by rw[Qfe]; exact byteLE_le h1,by rw[Qfe]; exact byteLE_le h2⟩
theorem Qcv{z:QC}(h:(z.re.num.natAbs<256 ^ 1024∧z.re.den<256 ^ 1024)∧z.im.num.natAbs<256 ^ 1024∧z.im.den<256 ^ 1024):Qab z:=⟨shortF_lt h.1.1 h.1.2,shortF_lt h.2.1 h.2.2⟩
theorem sz_short{z:QC}(h:Qab z):(Qae z).Sz:=by
 obtain⟨⟨h1,h2⟩,h3,h4⟩:=h
 exact⟨Nat.le_trans h1 (by decide),Nat.le_trans h2 (by decide),Nat.le_trans h3 (by decide),Nat.le_trans h4 (by decide)⟩
theorem sz_shortP{p:Pt}(h:ShortP p):(rawPt p).Sz:=by
 cases p with
 | none=>exact⟨by decide,by decide,by decide,by decide⟩
 | some z=>exact sz_short h
theorem Qax{z w:QC}:Qae z=Qae w↔z=w:=⟨fun h=>encQ_inj' (by rw[←Qik,←Qik,h]),fun h=>by rw[h]⟩
end Go.Proofs.YtmimficdpfmfgaaGreat
namespace Go.Proofs.YtmimficdpfmfgaaGreat
open Go.RowKit Tr
def G1(z:QC):FR:=.row (rG z)
theorem Qdl(g:Qbp)(r:Bool)(hr:r=true↔GOk g.val):Qbm Tryz.prog false 87 [.row g.cells] (B1 r):=Qcn eo87 (gmay g r hr) (by kernel_rfl) (by kernel_rfl)
theorem rInt(a b:Int)(a1:-9223372036854775808≤a)(a2:a<9223372036854775808)(b1:-9223372036854775808≤b)(b2:b<9223372036854775808):Qbm Tryz.prog false 84 [.c (gx (.int .i64 a)),.c (gx (.int .i64 b))] (.r (G1 ⟨(a:Rat),(b:Rat)⟩)):=Qcn eo84 (gint a b a1 a2 b1 b2) (by kernel_rfl) (by kernel_rfl)
theorem rMinus(x y:QC)(hx:ZL x 134217728)(hy:ZL y 134217728):Qbm Tryz.prog false 134 [G1 x,G1 y] (.r (G1 (x - y))):=Qcn eo134 (gminus x y hx hy) (by kernel_rfl) (by kernel_rfl)
def Sz(s:ByteArray):Int:=(s.size:Nat)
def lS{L:List GF}(x:AC)(s:ByteArray)(res:AC)(hn:x.noown=true:=by kernel_rfl)(hx:x.gv L=some (.string s):=by kernel_rfl)(hr:res.gv L=some (.int .i64 (Sz s)):=by kernel_rfl):GO Tryz.prog L :=
 goLenS 9 Tryz.underlying9 x s res hn hx hr
def gtY{P:Program}{L:List GF}(t:TypeId)(x y:AC)(a b:Int)(h:a>b)(hx:x.gv L=some (.int .i64 a):=by kernel_rfl)(hy:y.gv L=some (.int .i64 b):=by kernel_rfl):GB P L:=gbInt .gtr t .i64 x y a b true (congrArg some (decide_eq_true h)) hx hy
def gtN{P:Program}{L:List GF}(t:TypeId)(x y:AC)(a b:Int)(h:¬a>b)(hx:x.gv L=some (.int .i64 a):=by kernel_rfl)(hy:y.gv L=some (.int .i64 b):=by kernel_rfl):GB P L:=gbInt .gtr t .i64 x y a b false (congrArg some (decide_eq_false h)) hx hy
end Go.Proofs.YtmimficdpfmfgaaGreat
