/- Laws for the walk. -/
import Derived.Test.YthklnbaddobieaaGreatUau
set_option linter.unusedVariables false
set_option maxHeartbeats 4000000
namespace Tr
open Go Go.RowKit
section
variable{T:Nat→Fact}{cx:Cx}{A0 M:Nat→Prop}{w0:World}{σs:Sg}{σ:Sg}{s s1 s2:AS}{a:Act}{w:World}{P:Program}{Q:Exit→Act→World→Prop}{ops:Array Oper}{base len:Nat}{fp:Nat→Fp}{i j:Nat}
theorem put_length(s:AS)(d:Option Nat)(e:Eff):(s.put d e).blocks.length=s.blocks.length:=setL_length _ _
theorem step1_length(h:step1 cx ops base len fp i s=some s1):s1.blocks.length=s.blocks.length:=by
 unfold step1 at h
 split at h
 ·cases h; exact put_length _ _ _
 ·cases h
theorem step_sound(C:CxOk P T cx)(R:Rel T cx A0 M w0 σs σ s a w)(hlen:len=s.blocks.length)(h:step1 cx ops base len fp i s=some s1){K:Act→World→Prop}(hK:∀ σ' a' w',Rel T cx A0 M w0 σs σ' s1 a' w'→K a' w'):wpOp P ops Q i K a w:=by
 have hsl:∀ t,viewT ops i s t=.junk∨viewT ops i s t=s.tmps.getD t .undf:=fun t=>by
  unfold viewT; split
  ·exact .inr rfl
  ·exact .inl rfl
 have hbl:∀ b k,viewB fp i s b=some k→s.blocks[b]?=some k:=fun b k hb=>by
  unfold viewB at hb; split at hb
  ·exact hb
  ·cases hb
 unfold step1 act1 at h
 unfold wpOp
 cases ho:ops[i]? with
 | none=>simp[ho] at h
 | some o =>
  simp only[ho] at h ⊢
  have hw:∀ b,wantedA ops o (viewT ops i s)=some b→Region.wanted o (yielded ops a.tmps)=b:=fun b hb=>by
   unfold wantedA at hb
   unfold Region.wanted
   cases hg:o.guard with
   | none=>simpa[hg] using hb
   | some g =>
    obtain⟨g,want⟩:=g
    simp only[hg] at hb ⊢
    cases hd:(ops[g]?).bind (·.dst) with
    | none=>simp[hd] at hb
    | some d =>
     simp only[hd] at hb
     have hsd:=hsl d
     have hv:=R.slot d
     unfold yielded
     simp only[hd,Option.bind_some]
     split at hb
     ·rename_i t ht
      rw[ht] at hsd
      rcases hsd with h1|h1
      ·cases h1
      ·rw[←h1] at hv
       have hv:a.tmps.getD d undef=.bool t:=hv
       have hg2:a.tmps[d]?=some (.bool t):=by
        cases hq:a.tmps[d]? with
        | none=>simp[hq,undef] at hv
        | some u=>simp[hq] at hv; rw[hv]
       simp only[Option.some.injEq] at hb
       simp only[hg2]
       rw[←hb]
       cases t<;>cases want<;>rfl
     ·rename_i ht
      rw[ht] at hsd
      rcases hsd with h1|h1
      ·cases h1
      ·rw[←h1] at hv
       have hv:a.tmps.getD d undef=undef:=hv
       simp only[Option.some.injEq] at hb
       subst hb
       cases hq:a.tmps[d]? with
       | none=>rfl
       | some u =>
        simp[hq] at hv
        subst hv
        rfl
     ·cases hb
  cases hwa:wantedA ops o (viewT ops i s) with
  | none=>simp[hwa] at h
  | some b =>
   rw[hw b hwa]
   cases b
   ·simp only[hwa] at h
    cases h
    simp only[Bool.false_eq_true,if_false]
    exact hK _ _ _ (R.val (av:=.undf) rfl _)
   ·simp only[hwa] at h
    simp only[if_true]
    cases hc:compute cx (base+i*cx.width) len o (viewT ops i s) (viewB fp i s) with
    | none=>simp[hc] at h
    | some e =>
     simp only[hc] at h
     split at h
     ·rename_i d e' heq
      split at heq
      ·cases heq
       cases h
       exact .inl (compute_sound C R hsl hbl hlen hc hK)
      ·cases heq
     ·cases h
theorem ops_sound(C:CxOk P T cx):∀{l:List Nat} {σ:Sg} {s:AS} {a:Act} {w:World},Rel T cx A0 M w0 σs σ s a w→len=s.blocks.length→runL cx ops base len fp l s=some s1→(∀ σ' a' w',Rel T cx A0 M w0 σs σ' s1 a' w'→Q .normal a' w')→wpOps P ops Q l a w
 | [],σ,s,a,w,R,hn,h,hK=>by
  cases h
  exact hK _ _ _ R
 | i :: l,σ,s,a,w,R,hn,h,hK=>by
  rw[wpOps_cons]
  unfold runL at h
  split at h
  ·rename_i s' hs
   exact step_sound C R hn hs fun σ' a' w' R'=>ops_sound C R' (hn.trans (step1_length hs).symm) h hK
  ·cases h
structure Indep(ops:Array Oper)(fp:Nat→Fp)(i j:Nat):Prop where
 slots:∀ oi oj,ops[i]?=some oi→ops[j]?=some oj→(∀ d,oi.dst=some d→(oj.looksAt ops).contains d=false∧oj.dst≠some d)∧(∀ d,oj.dst=some d→(oi.looksAt ops).contains d=false)
 blocks:(∀ b,(fp i).wr b=true→(fp j).rd b=false∧(fp j).wr b=false)∧(∀ b,(fp j).wr b=true→(fp i).rd b=false)
theorem act1_spec{wr:Nat→Bool}{sl:Nat→AV}{bl:Nat→Option BK}{d:Option Nat}{e:Eff}(h:act1 cx ops base len wr i sl bl=some (d,e)):∃ o,ops[i]?=some o∧d=o.dst∧∀ b k,(b,k)∈e.wr→wr b=true:=by
 unfold act1 at h
 split at h
 ·cases h
 ·rename_i o ho
  refine⟨o,ho,?_⟩
  split at h
  ·split at h
   ·rename_i e' _
    split at h
    ·rename_i hw
     cases h
     exact⟨rfl,fun b k hb=>by unfold Eff.fits at hw; rw[List.all_eq_true] at hw; exact hw _ hb⟩
    ·cases h
   ·cases h
  ·cases h; exact⟨rfl,fun b k hb=>by cases hb⟩
  ·cases h
theorem view_put{o:Oper}(ho:ops[j]?=some o){d:Option Nat}{e:Eff}(hd:∀ x,d=some x→(o.looksAt ops).contains x=false)(hw:∀ b k,(b,k)∈e.wr→(fp j).rd b=false) :
  viewT ops j (s.put d e)=viewT ops j s∧viewB fp j (s.put d e)=viewB fp j s:=by
 constructor
 ·funext t
  unfold viewT
  simp only[ho,Option.map_some,Option.getD_some]
  split
  ·rename_i hc
   cases d with
   | none=>rfl
   | some x =>
    have hne:x≠t:=fun h=>by subst h; rw[hd x rfl] at hc; cases hc
    simp[AS.put,List.getD,List.getElem?_set_ne hne]
  ·rfl
 ·funext b
  unfold viewB
  split
  ·rename_i hc
   exact setL_get _ _ _ fun k hk=>by rw[hw b k hk] at hc; cases hc
  ·rfl
theorem setL_set(b:Nat)(k:BK):∀(ws:List (Nat×BK)) (l:List BK),(∀ k',(b,k') ∉ ws)→setL (l.set b k) ws=(setL l ws).set b k
 | [],l,_=>rfl
 | (c,j) :: ws,l,h=>by
  have hne:b≠c:=fun e=>h j (by simp[e])
  rw[setL,setL,List.set_comm _ _ hne,setL_set b k ws _ (fun k' hk=>h k' (List.mem_cons_of_mem _ hk))]
theorem setL_comm:∀(ws vs:List (Nat×BK)) (l:List BK),(∀ b k k',(b,k)∈ws→(b,k') ∉ vs)→setL (setL l ws) vs=setL (setL l vs) ws
 | [],vs,l,_=>rfl
 | (b,k) :: ws,vs,l,h=>by
  rw[setL,setL_comm ws vs _ (fun c j j' h1=>h c j j' (List.mem_cons_of_mem _ h1)),setL_set b k vs l (fun k'=>h b k k' (List.mem_cons_self)),setL]
theorem put_comm{d d':Option Nat}{e e':Eff}(hd:∀ x,d=some x→d'≠some x)(hw:∀ b k k',(b,k)∈e.wr→(b,k') ∉ e'.wr):(s.put d e).put d' e'=(s.put d' e').put d e:=by
 unfold AS.put
 congr 1
 ·cases d with
  | none=>rfl
  | some x =>
   cases d' with
   | none=>rfl
   | some y =>
    have:x≠y:=fun h=>hd x rfl (by rw[h])
    exact(List.set_comm _ _ this)
 ·exact setL_comm _ _ _ hw
theorem step_swap(hi:Indep ops fp i j)(h1:step1 cx ops base len fp i s=some s1)(h2:step1 cx ops base len fp j s1=some s2):∃ s',step1 cx ops base len fp j s=some s'∧step1 cx ops base len fp i s'=some s2:=by
 unfold step1 at h1 h2 ⊢
 split at h1
 ·rename_i d e ha
  cases h1
  split at h2
  ·rename_i d' e' hb
   cases h2
   obtain⟨oi,hoi,rfl,hwi⟩:=act1_spec ha
   obtain⟨oj,hoj,rfl,hwj⟩:=act1_spec hb
   obtain⟨g1,g2⟩:=hi.slots oi oj hoi hoj
   obtain⟨v1,v2⟩:=view_put (s:=s) (fp:=fp) hoj (d:=oi.dst) (e:=e) (fun x hx=>(g1 x hx).1) (fun b k hb=>(hi.blocks.1 b (hwi b k hb)).1)
   rw[v1,v2] at hb
   rw[hb]
   refine⟨_,rfl,?_⟩
   obtain⟨v3,v4⟩:=view_put (s:=s) (fp:=fp) hoi (d:=oj.dst) (e:=e') g2 (fun b k hb=>hi.blocks.2 b (hwj b k hb))
   rw[v3,v4,ha]
   simp only[Option.some.injEq]
   exact(put_comm (fun x hx=>(g1 x hx).2) (fun b k k' h h'=>by have:=(hi.blocks.1 b (hwi b k h)).2; rw[hwj b k' h'] at this; cases this)).symm
  ·cases h2
 ·cases h1
theorem run_front:∀{l1 l2:List Nat} {s s2:AS},(∀ x∈l1,Indep ops fp x i)→runL cx ops base len fp (l1++i :: l2) s=some s2→∃ s1,step1 cx ops base len fp i s=some s1∧runL cx ops base len fp (l1++l2) s1=some s2
 | [],l2,s,s2,_,h=>by
  simp only[List.nil_append] at h ⊢
  unfold runL at h
  split at h
  ·exact⟨_,by assumption,h⟩
  ·cases h
 | x :: l1,l2,s,s2,hx,h=>by
  simp only[List.cons_append] at h ⊢
  unfold runL at h
  split at h
  ·rename_i s' hs
   obtain⟨s1,h1,h2⟩:=run_front (fun y hy=>hx y (by simp[hy])) h
   obtain⟨s3,h3,h4⟩:=step_swap (hx x (by simp)) hs h1
   refine⟨s3,h3,?_⟩
   unfold runL
   rw[h4]
   exact h2
  ·cases h
def ancOk(ops:Array Oper)(B:List Nat):Bool :=
 (List.range ops.size).all fun j=>match ops[j]? with
  | some o=>o.after.toList.all (fun e=>!Region.binds .any e || decide (e.on<j)) &&
    (List.range j).all fun i=>!(B.getD j 0).testBit i || o.after.toList.any fun e=>Region.binds .any e && (e.on == i || decide (i<e.on) && (B.getD e.on 0).testBit i)
  | none=>true
def disj(l m:List Nat):Bool:=l.all fun b=>!m.contains b
def indepB(ops:Array Oper)(F:List (List Nat×List Nat))(i j:Nat):Bool :=
  (match ops[i]?,ops[j]? with
   | some oi,some oj =>
     (match oi.dst with|some d=>!(oj.looksAt ops).contains d && (match oj.dst with|some d'=>!(d' == d)|none=>true)|none=>true) &&
     (match oj.dst with|some d=>!(oi.looksAt ops).contains d|none=>true)
   | _,_=>true) &&
  disj (F.getD i ([],[])).2 (F.getD j ([],[])).1 && disj (F.getD i ([],[])).2 (F.getD j ([],[])).2 && disj (F.getD j ([],[])).2 (F.getD i ([],[])).1
def fpOf(F:List (List Nat×List Nat))(i:Nat):Fp:=⟨fun b=>(F.getD i ([],[])).1.contains b,fun b=>(F.getD i ([],[])).2.contains b⟩
def drawOk(ops:Array Oper)(B:List Nat)(F:List (List Nat×List Nat)):Bool :=
 ancOk ops B && (List.range ops.size).all fun j=>(List.range j).all fun i=>(B.getD j 0).testBit i || indepB ops F i j
theorem disj_spec{l m:List Nat}(h:disj l m=true){b:Nat}(hb:l.contains b=true):m.contains b=false:=by
 unfold disj at h
 rw[List.all_eq_true] at h
 simpa using h b (by simpa using hb)
theorem indepB_spec{F:List (List Nat×List Nat)}(h:indepB ops F i j=true):Indep ops (fpOf F) i j:=by
 unfold indepB at h
 simp only[Bool.and_eq_true] at h
 obtain⟨⟨⟨h1,h2⟩,h3⟩,h4⟩:=h
 refine⟨fun oi oj hi hj=>?_,⟨fun b hb=>⟨disj_spec h2 hb,disj_spec h3 hb⟩,fun b hb=>disj_spec h4 hb⟩⟩
 rw[hi,hj] at h1
 simp only[Bool.and_eq_true] at h1
 refine⟨fun d hd=>?_,fun d hd=>?_⟩
 ·have h5:=h1.1
  rw[hd] at h5
  simp only[Bool.and_eq_true,Bool.not_eq_true'] at h5
  refine⟨h5.1,fun e=>?_⟩
  have h6:=h5.2
  rw[e] at h6
  simp at h6
 ·have h5:=h1.2
  rw[hd] at h5
  simpa using h5
def Closed(ops:Array Oper)(listed:Array Bool):Prop:=∀(j:Nat) (o:Oper),ops[j]?=some o→listed.getD j true=true→∀ e∈o.after,Region.binds .any e=true→listed.getD e.on false=true
theorem anc_listed{B:List Nat}(hB:ancOk ops B=true){listed:Array Bool}(hsz:listed.size=ops.size)(hc:Closed ops listed) :
  ∀(j:Nat) (o:Oper),ops[j]?=some o→(∀ e∈o.after,Region.binds .any e=true→listed.getD e.on false=true)→∀ i,i<j→(B.getD j 0).testBit i=true→listed.getD i false=true:=by
 intro j
 induction j using Nat.strongRecOn with
 | ind j ih =>
  intro o ho hr i hij hb
  unfold ancOk at hB
  rw[List.all_eq_true] at hB
  have hlt:j<ops.size:=(Array.getElem?_eq_some_iff.1 ho).1
  have h1:=hB j (by simpa using hlt)
  simp only[ho,Bool.and_eq_true,List.all_eq_true] at h1
  have h2:=h1.2 i (by simpa using hij)
  rw[hb] at h2
  simp only[Bool.not_true,Bool.false_or,List.any_eq_true,Bool.and_eq_true,Bool.or_eq_true,beq_iff_eq,decide_eq_true_eq] at h2
  obtain⟨e,he,hbd,hor⟩:=h2
  have he':e∈o.after:=by simpa using he
  have hl:=hr e he' hbd
  have hlt2:=h1.1 e he
  rw[hbd] at hlt2
  simp only[Bool.not_true,Bool.false_or,decide_eq_true_eq] at hlt2
  rcases hor with rfl|hor
  ·exact hl
  ·have hlt3:e.on<ops.size:=by omega
   have ho2:ops[e.on]?=some ops[e.on]:=Array.getElem?_eq_getElem hlt3
   have hl2:listed.getD e.on true=true:=by
    have:listed[e.on]?=some (listed[e.on]'(by omega)):=Array.getElem?_eq_getElem (by omega)
    simp only[Array.getD_eq_getD_getElem?,this,Option.getD_some] at hl ⊢
    exact hl
   exact ih e.on hlt2 _ ho2 (hc e.on _ ho2 hl2) i hor.1 hor.2
theorem rest_cons{l1 l2:List Nat}{n:Nat}{listed:Array Bool}(h:(List.range n).filter (fun k=>!listed.getD k true)=l1++i :: l2)(hi:i<listed.size) :
  (List.range n).filter (fun k=>!(listed.setIfInBounds i true).getD k true)=l1++l2∧∀ x∈l1,x<i∧listed.getD x true=false:=by
 have hnd:((List.range n).filter (fun k=>!listed.getD k true)).Nodup:=List.nodup_range.filter _
 have hpw:((List.range n).filter (fun k=>!listed.getD k true)).Pairwise (·<·):=List.pairwise_lt_range.filter _
 rw[h] at hnd hpw
 have e1:(List.range n).filter (fun k=>!(listed.setIfInBounds i true).getD k true)=((List.range n).filter (fun k=>!listed.getD k true)).filter (fun k=>k != i):=by
  rw[List.filter_filter]
  refine List.filter_congr fun k _=>?_
  by_cases e:i=k
  ·subst e
   simp[hi]
  ·have:(listed.setIfInBounds i true).getD k true=listed.getD k true:=by simp[Array.getElem?_setIfInBounds_ne e]
   rw[this]
   simp[Ne.symm e]
 rw[List.nodup_append] at hnd
 obtain⟨n1,n2,n3⟩:=hnd
 rw[List.nodup_cons] at n2
 rw[List.pairwise_append] at hpw
 refine⟨?_,fun x hx=>⟨hpw.2.2 x hx i (by simp),?_⟩⟩
 ·rw[e1,h,List.filter_append,List.filter_cons]
  simp only[bne_self_eq_false,Bool.false_eq_true,if_false]
  rw[List.filter_eq_self.2 fun x hx=>?_,List.filter_eq_self.2 fun x hx=>?_]
  ·simp only[bne_iff_ne,ne_eq]
   intro e; subst e; exact n2.1 hx
  ·simp only[bne_iff_ne,ne_eq]
   intro e; subst e; exact n3 x hx x (by simp) rfl
 ·have hm:x∈(List.range n).filter (fun k=>!listed.getD k true):=by rw[h]; simp[hx]
  simpa using(List.mem_filter.1 hm).2
theorem any_sound(C:CxOk P T cx){B:List Nat}{F:List (List Nat×List Nat)}(hd:drawOk ops B F=true):∀(fuel:Nat) {listed:Array Bool} {σ:Sg} {s:AS} {a:Act} {w:World},
  listed.size=ops.size→Closed ops listed→((List.range ops.size).filter (fun k=>!listed.getD k true)).length=fuel→Rel T cx A0 M w0 σs σ s a w→len=s.blocks.length→runL cx ops base len (fpOf F) ((List.range ops.size).filter (fun k=>!listed.getD k true)) s=some s1 →
  (∀ σ' a' w',Rel T cx A0 M w0 σs σ' s1 a' w'→Q .normal a' w')→wpAny P .any ops Q fuel listed a w:=by
 have hB:ancOk ops B=true:=by unfold drawOk at hd; simp only[Bool.and_eq_true] at hd; exact hd.1
 intro fuel
 induction fuel with
 | zero =>
  intro listed σ s a w hsz hcl hlen R hn hrun hK
  have hnil:=List.eq_nil_of_length_eq_zero hlen
  rw[hnil] at hrun
  cases hrun
  refine⟨?_,hK _ _ _ R⟩
  rw[List.eq_nil_iff_forall_not_mem]
  intro i hi
  obtain⟨h1,o,h2,_⟩:=mem_ready.1 hi
  have:i∈(List.range ops.size).filter (fun k=>!listed.getD k true):=List.mem_filter.2 ⟨by simpa using(Array.getElem?_eq_some_iff.1 h2).1,by simpa using h1⟩
  rw[hnil] at this
  cases this
 | succ fuel ih =>
  intro listed σ s a w hsz hcl hlen R hn hrun hK
  refine⟨fun hr=>?_,fun i hi=>?_⟩
  ·exfalso
   cases hl:(List.range ops.size).filter (fun k=>!listed.getD k true) with
   | nil=>rw[hl] at hlen; simp at hlen
   | cons i l =>
    have hi:i∈(List.range ops.size).filter (fun k=>!listed.getD k true):=by rw[hl]; simp
    obtain⟨h1,h2⟩:=List.mem_filter.1 hi
    have hlt:i<ops.size:=by simpa using h1
    have ho:ops[i]?=some ops[i]:=Array.getElem?_eq_getElem hlt
    have:i∈Region.ready .any ops listed:=by
     rw[mem_ready]
     refine⟨by simpa using h2,_,ho,fun e he hb=>?_⟩
     unfold ancOk at hB
     rw[List.all_eq_true] at hB
     have h3:=hB i (by simpa using hlt)
     simp only[ho,Bool.and_eq_true,List.all_eq_true] at h3
     have h4:=h3.1 e (by simpa using he)
     rw[hb] at h4
     simp only[Bool.not_true,Bool.false_or,decide_eq_true_eq] at h4
     have h5:e.on<listed.size:=by omega
     cases hq:listed.getD e.on true with
     | true=>rwa[getD_tf h5] at hq
     | false =>
      exfalso
      have hm:e.on∈(List.range ops.size).filter (fun k=>!listed.getD k true):=List.mem_filter.2 ⟨by simp; omega,by rw[hq]; rfl⟩
      have hpw:((List.range ops.size).filter (fun k=>!listed.getD k true)).Pairwise (·<·):=List.pairwise_lt_range.filter _
      rw[hl] at hm hpw
      rw[List.pairwise_cons] at hpw
      rcases List.mem_cons.1 hm with h6|h6
      ·omega
      ·have:=hpw.1 _ h6; omega
    rw[hr] at this
    cases this
  ·obtain⟨hun,o,ho,haft⟩:=mem_ready.1 hi
   have hlt:i<ops.size:=(Array.getElem?_eq_some_iff.1 ho).1
   have hm:i∈(List.range ops.size).filter (fun k=>!listed.getD k true):=List.mem_filter.2 ⟨by simpa using hlt,by rw[hun]; rfl⟩
   obtain⟨l1,l2,hl⟩:=List.append_of_mem hm
   obtain⟨e1,e2⟩:=rest_cons hl (by omega)
   rw[hl] at hrun
   have hind:∀ x∈l1,Indep ops (fpOf F) x i:=fun x hx=>by
    obtain⟨g1,g2⟩:=e2 x hx
    have hd2:=hd
    unfold drawOk at hd2
    simp only[Bool.and_eq_true,List.all_eq_true,Bool.or_eq_true] at hd2
    rcases hd2.2 i (by simpa using hlt) x (by simpa using g1) with h|h
    ·exfalso
     have:=anc_listed hB hsz hcl i o ho haft x g1 h
     rw[←getD_tf (by omega),g2] at this
     cases this
    ·exact indepB_spec h
   obtain⟨s',h1,h2⟩:=run_front hind hrun
   refine step_sound C R hn h1 fun σ' a' w' R'=>?_
   refine ih (by simpa using hsz) (fun j o' ho' hj e he hb=>?_) (by rw[e1]; rw[hl] at hlen; simp at hlen ⊢; omega) R' (hn.trans (step1_length h1).symm) (by rw[e1]; exact h2) hK
   by_cases hij:i=j
   ·subst hij
    rw[ho] at ho'
    cases ho'
    have:=haft e he hb
    by_cases h6:i=e.on
    ·rw[←h6]; simp[hsz,hlt]
    ·rw[getD_set_ne false h6]; exact this
   ·rw[getD_set_ne true hij] at hj
    have:=hcl j o' ho' hj e he hb
    by_cases h6:i=e.on
    ·rw[←h6]; simp[hsz,hlt]
    ·rw[getD_set_ne false h6]; exact this
end
end Tr
