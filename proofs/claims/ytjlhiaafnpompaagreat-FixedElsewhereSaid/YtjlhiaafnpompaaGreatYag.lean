/- Laws for the walk. -/
import Derived.Test.YtjlhiaafnpompaaGreatYaf
set_option linter.unusedVariables false
set_option maxHeartbeats 4000000
namespace Tr
open Go Go.RowKit
section
variable{T:Nat→Fact}{cx:Cx}{A0 M:Nat→Prop}{w0:World}{σs:Sg}{σ:Sg}{s s1 s2:AS}{a:Act}{w:World}{P:Program}{Q:Exit→Act→World→Prop}{ops:Array Oper}{base len:Nat}{fp:Nat→Fp}{i j:Nat}
theorem put_length(s:AS)(d:Option Nat)(e:Eff):(s.put d e).blocks.length=s.blocks.length:=setL_length _ _
theorem step1_length(h:step1 cx ops base len fp i s=some s1):s1.blocks.length=s.blocks.length:=by
 unfold step1 at h
 split at h
 ·cases h; exact put_length _ _ _
 ·cases h
theorem step_sound(C:CxOk P T cx)(R:Rel T cx A0 M w0 σs σ s a w)(hlen:len=s.blocks.length)(h:step1 cx ops base len fp i s=some s1){K:Act→World→Prop}(hK:∀ σ' a' w',Rel T cx A0 M w0 σs σ' s1 a' w'→K a' w'):wpOp P ops Q i K a w:=by
 have hsl:∀ t,viewT ops i s t=.junk∨viewT ops i s t=s.tmps.getD t .undf:=fun t=>by
  unfold viewT; split
  ·exact .inr rfl
  ·exact .inl rfl
 have hbl:∀ b k,viewB fp i s b=some k→s.blocks[b]?=some k:=fun b k hb=>by
  unfold viewB at hb; split at hb
  ·exact hb
  ·cases hb
 unfold step1 act1 at h
 unfold wpOp
 cases ho:ops[i]? with
 | none=>simp[ho] at h
 | some o =>
  simp only[ho] at h ⊢
  have hw:∀ b,wantedA ops o (viewT ops i s)=some b→Region.wanted o (yielded ops a.tmps)=b:=fun b hb=>by
   unfold wantedA at hb
   unfold Region.wanted
   cases hg:o.guard with
   | none=>simpa[hg] using hb
   | some g =>
    obtain⟨g,want⟩:=g
    simp only[hg] at hb ⊢
    cases hd:(ops[g]?).bind (·.dst) with
    | none=>simp[hd] at hb
    | some d =>
     simp only[hd] at hb
     have hsd:=hsl d
     have hv:=R.slot d
     unfold yielded
     simp only[hd,Option.bind_some]
     split at hb
     ·rename_i t ht
      rw[ht] at hsd
      rcases hsd with h1|h1
      ·cases h1
      ·rw[←h1] at hv
       have hv:a.tmps.getD d undef=.bool t:=hv
       have hg2:a.tmps[d]?=some (.bool t):=by
        cases hq:a.tmps[d]? with
        | none=>simp[hq,undef] at hv
        | some u=>simp[hq] at hv; rw[hv]
       simp only[Option.some.injEq] at hb
       simp only[hg2]
       rw[←hb]
       cases t<;>cases want<;>rfl
     ·rename_i ht
      rw[ht] at hsd
      rcases hsd with h1|h1
      ·cases h1
      ·rw[←h1] at hv
       have hv:a.tmps.getD d undef=undef:=hv
       simp only[Option.some.injEq] at hb
       subst hb
       cases hq:a.tmps[d]? with
       | none=>rfl
       | some u =>
        simp[hq] at hv
        subst hv
        rfl
     ·cases hb
  cases hwa:wantedA ops o (viewT ops i s) with
  | none=>simp[hwa] at h
  | some b =>
   rw[hw b hwa]
   cases b
   ·simp only[hwa] at h
    cases h
    simp only[Bool.false_eq_true,if_false]
    exact hK _ _ _ (R.val (av:=.undf) rfl _)
   ·simp only[hwa] at h
    simp only[if_true]
    cases hc:compute cx (base+i*cx.width) len o (viewT ops i s) (viewB fp i s) with
    | none=>simp[hc] at h
    | some e =>
     simp only[hc] at h
     split at h
     ·rename_i d e' heq
      split at heq
      ·cases heq
       cases h
       exact .inl (compute_sound C R hsl hbl hlen hc hK)
      ·cases heq
     ·cases h
theorem ops_sound(C:CxOk P T cx):∀{l:List Nat} {σ:Sg} {s:AS} {a:Act} {w:World},Rel T cx A0 M w0 σs σ s a w→len=s.blocks.length→runL cx ops base len fp l s=some s1→(∀ σ' a' w',Rel T cx A0 M w0 σs σ' s1 a' w'→Q .normal a' w')→wpOps P ops Q l a w
 | [],σ,s,a,w,R,hn,h,hK=>by
  cases h
  exact hK _ _ _ R
 | i :: l,σ,s,a,w,R,hn,h,hK=>by
  rw[wpOps_cons]
  unfold runL at h
  split at h
  ·rename_i s' hs
   exact step_sound C R hn hs fun σ' a' w' R'=>ops_sound C R' (hn.trans (step1_length hs).symm) h hK
  ·cases h
structure Indep(ops:Array Oper)(fp:Nat→Fp)(i j:Nat):Prop where
 slots:∀ oi oj,ops[i]?=some oi→ops[j]?=some oj→(∀ d,oi.dst=some d→(oj.looksAt ops).contains d=false∧oj.dst≠some d)∧(∀ d,oj.dst=some d→(oi.looksAt ops).contains d=false)
 blocks:(∀ b,(fp i).wr b=true→(fp j).rd b=false∧(fp j).wr b=false)∧(∀ b,(fp j).wr b=true→(fp i).rd b=false)
theorem act1_spec{wr:Nat→Bool}{sl:Nat→AV}{bl:Nat→Option BK}{d:Option Nat}{e:Eff}(h:act1 cx ops base len wr i sl bl=some (d,e)):∃ o,ops[i]?=some o∧d=o.dst∧∀ b k,(b,k)∈e.wr→wr b=true:=by
 unfold act1 at h
 split at h
 ·cases h
 ·rename_i o ho
  refine⟨o,ho,?_⟩
  split at h
  ·split at h
   ·rename_i e' _
    split at h
    ·rename_i hw
     cases h
     exact⟨rfl,fun b k hb=>by unfold Eff.fits at hw; rw[List.all_eq_true] at hw; exact hw _ hb⟩
    ·cases h
   ·cases h
  ·cases h; exact⟨rfl,fun b k hb=>by cases hb⟩
  ·cases h
theorem view_put{o:Oper}(ho:ops[j]?=some o){d:Option Nat}{e:Eff}(hd:∀ x,d=some x→(o.looksAt ops).contains x=false)(hw:∀ b k,(b,k)∈e.wr→(fp j).rd b=false) :
  viewT ops j (s.put d e)=viewT ops j s∧viewB fp j (s.put d e)=viewB fp j s:=by
 constructor
 ·funext t
  unfold viewT
  simp only[ho,Option.map_some,Option.getD_some]
  split
  ·rename_i hc
   cases d with
   | none=>rfl
   | some x =>
    have hne:x≠t:=fun h=>by subst h; rw[hd x rfl] at hc; cases hc
    simp[AS.put,List.getD,List.getElem?_set_ne hne]
  ·rfl
 ·funext b
  unfold viewB
  split
  ·rename_i hc
   exact setL_get _ _ _ fun k hk=>by rw[hw b k hk] at hc; cases hc
  ·rfl
theorem setL_set(b:Nat)(k:BK):∀(ws:List (Nat×BK)) (l:List BK),(∀ k',(b,k') ∉ ws)→setL (l.set b k) ws=(setL l ws).set b k
 | [],l,_=>rfl
 | (c,j) :: ws,l,h=>by
  have hne:b≠c:=fun e=>h j (by simp[e])
  rw[setL,setL,List.set_comm _ _ hne,setL_set b k ws _ (fun k' hk=>h k' (List.mem_cons_of_mem _ hk))]
theorem setL_comm:∀(ws vs:List (Nat×BK)) (l:List BK),(∀ b k k',(b,k)∈ws→(b,k') ∉ vs)→setL (setL l ws) vs=setL (setL l vs) ws
 | [],vs,l,_=>rfl
 | (b,k) :: ws,vs,l,h=>by
  rw[setL,setL_comm ws vs _ (fun c j j' h1=>h c j j' (List.mem_cons_of_mem _ h1)),setL_set b k vs l (fun k'=>h b k k' (List.mem_cons_self)),setL]
theorem put_comm{d d':Option Nat}{e e':Eff}(hd:∀ x,d=some x→d'≠some x)(hw:∀ b k k',(b,k)∈e.wr→(b,k') ∉ e'.wr):(s.put d e).put d' e'=(s.put d' e').put d e:=by
 unfold AS.put
 congr 1
 ·cases d with
  | none=>rfl
  | some x =>
   cases d' with
   | none=>rfl
   | some y =>
    have:x≠y:=fun h=>hd x rfl (by rw[h])
    exact(List.set_comm _ _ this)
 ·exact setL_comm _ _ _ hw
theorem step_swap(hi:Indep ops fp i j)(h1:step1 cx ops base len fp i s=some s1)(h2:step1 cx ops base len fp j s1=some s2):∃ s',step1 cx ops base len fp j s=some s'∧step1 cx ops base len fp i s'=some s2:=by
 unfold step1 at h1 h2 ⊢
 split at h1
 ·rename_i d e ha
  cases h1
  split at h2
  ·rename_i d' e' hb
   cases h2
   obtain⟨oi,hoi,rfl,hwi⟩:=act1_spec ha
   obtain⟨oj,hoj,rfl,hwj⟩:=act1_spec hb
   obtain⟨g1,g2⟩:=hi.slots oi oj hoi hoj
   obtain⟨v1,v2⟩:=view_put (s:=s) (fp:=fp) hoj (d:=oi.dst) (e:=e) (fun x hx=>(g1 x hx).1) (fun b k hb=>(hi.blocks.1 b (hwi b k hb)).1)
   rw[v1,v2] at hb
   rw[hb]
   refine⟨_,rfl,?_⟩
   obtain⟨v3,v4⟩:=view_put (s:=s) (fp:=fp) hoi (d:=oj.dst) (e:=e') g2 (fun b k hb=>hi.blocks.2 b (hwj b k hb))
   rw[v3,v4,ha]
   simp only[Option.some.injEq]
   exact(put_comm (fun x hx=>(g1 x hx).2) (fun b k k' h h'=>by have:=(hi.blocks.1 b (hwi b k h)).2; rw[hwj b k' h'] at this; cases this)).symm
  ·cases h2
 ·cases h1
theorem run_front:∀{l1 l2:List Nat} {s s2:AS},(∀ x∈l1,Indep ops fp x i)→runL cx ops base len fp (l1++i :: l2) s=some s2→∃ s1,step1 cx ops base len fp i s=some s1∧runL cx ops base len fp (l1++l2) s1=some s2
 | [],l2,s,s2,_,h=>by
  simp only[List.nil_append] at h ⊢
  unfold runL at h
  split at h
  ·exact⟨_,by assumption,h⟩
  ·cases h
 | x :: l1,l2,s,s2,hx,h=>by
  simp only[List.cons_append] at h ⊢
  unfold runL at h
  split at h
  ·rename_i s' hs
   obtain⟨s1,h1,h2⟩:=run_front (fun y hy=>hx y (by simp[hy])) h
   obtain⟨s3,h3,h4⟩:=step_swap (hx x (by simp)) hs h1
   refine⟨s3,h3,?_⟩
   unfold runL
   rw[h4]
   exact h2
  ·cases h
def ancOk(ops:Array Oper)(B:List Nat):Bool :=
 (List.range ops.size).all fun j=>match ops[j]? with
  | some o=>o.after.toList.all (fun e=>!Region.binds .any e || decide (e.on<j)) &&
    (List.range j).all fun i=>!(B.getD j 0).testBit i || o.after.toList.any fun e=>Region.binds .any e && (e.on == i || decide (i<e.on) && (B.getD e.on 0).testBit i)
  | none=>true
def disj(l m:List Nat):Bool:=l.all fun b=>!m.contains b
def indepB(ops:Array Oper)(F:List (List Nat×List Nat))(i j:Nat):Bool :=
  (match ops[i]?,ops[j]? with
   | some oi,some oj =>
     (match oi.dst with|some d=>!(oj.looksAt ops).contains d && (match oj.dst with|some d'=>!(d' == d)|none=>true)|none=>true) &&
     (match oj.dst with|some d=>!(oi.looksAt ops).contains d|none=>true)
   | _,_=>true) &&
  disj (F.getD i ([],[])).2 (F.getD j ([],[])).1 && disj (F.getD i ([],[])).2 (F.getD j ([],[])).2 && disj (F.getD j ([],[])).2 (F.getD i ([],[])).1
def fpOf(F:List (List Nat×List Nat))(i:Nat):Fp:=⟨fun b=>(F.getD i ([],[])).1.contains b,fun b=>(F.getD i ([],[])).2.contains b⟩
def drawOk(ops:Array Oper)(B:List Nat)(F:List (List Nat×List Nat)):Bool :=
 ancOk ops B && (List.range ops.size).all fun j=>(List.range j).all fun i=>(B.getD j 0).testBit i || indepB ops F i j
theorem disj_spec{l m:List Nat}(h:disj l m=true){b:Nat}(hb:l.contains b=true):m.contains b=false:=by
 unfold disj at h
 rw[List.all_eq_true] at h
 simpa using h b (by simpa using hb)
theorem indepB_spec{F:List (List Nat×List Nat)}(h:indepB ops F i j=true):Indep ops (fpOf F) i j:=by
 unfold indepB at h
 simp only[Bool.and_eq_true] at h
 obtain⟨⟨⟨h1,h2⟩,h3⟩,h4⟩:=h
 refine⟨fun oi oj hi hj=>?_,⟨fun b hb=>⟨disj_spec h2 hb,disj_spec h3 hb⟩,fun b hb=>disj_spec h4 hb⟩⟩
 rw[hi,hj] at h1
 simp only[Bool.and_eq_true] at h1
 refine⟨fun d hd=>?_,fun d hd=>?_⟩
 ·have h5:=h1.1
  rw[hd] at h5
  simp only[Bool.and_eq_true,Bool.not_eq_true'] at h5
  refine⟨h5.1,fun e=>?_⟩
  have h6:=h5.2
  rw[e] at h6
  simp at h6
 ·have h5:=h1.2
  rw[hd] at h5
  simpa using h5
def Closed(ops:Array Oper)(listed:Array Bool):Prop:=∀(j:Nat) (o:Oper),ops[j]?=some o→listed.getD j true=true→∀ e∈o.after,Region.binds .any e=true→listed.getD e.on false=true
theorem anc_listed{B:List Nat}(hB:ancOk ops B=true){listed:Array Bool}(hsz:listed.size=ops.size)(hc:Closed ops listed) :
  ∀(j:Nat) (o:Oper),ops[j]?=some o→(∀ e∈o.after,Region.binds .any e=true→listed.getD e.on false=true)→∀ i,i<j→(B.getD j 0).testBit i=true→listed.getD i false=true:=by
 intro j
 induction j using Nat.strongRecOn with
 | ind j ih =>
  intro o ho hr i hij hb
  unfold ancOk at hB
  rw[List.all_eq_true] at hB
  have hlt:j<ops.size:=(Array.getElem?_eq_some_iff.1 ho).1
  have h1:=hB j (by simpa using hlt)
  simp only[ho,Bool.and_eq_true,List.all_eq_true] at h1
  have h2:=h1.2 i (by simpa using hij)
  rw[hb] at h2
  simp only[Bool.not_true,Bool.false_or,List.any_eq_true,Bool.and_eq_true,Bool.or_eq_true,beq_iff_eq,decide_eq_true_eq] at h2
  obtain⟨e,he,hbd,hor⟩:=h2
  have he':e∈o.after:=by simpa using he
  have hl:=hr e he' hbd
  have hlt2:=h1.1 e he
  rw[hbd] at hlt2
  simp only[Bool.not_true,Bool.false_or,decide_eq_true_eq] at hlt2
  rcases hor with rfl|hor
  ·exact hl
  ·have hlt3:e.on<ops.size:=by omega
   have ho2:ops[e.on]?=some ops[e.on]:=Array.getElem?_eq_getElem hlt3
   have hl2:listed.getD e.on true=true:=by
    have:listed[e.on]?=some (listed[e.on]'(by omega)):=Array.getElem?_eq_getElem (by omega)
    simp only[Array.getD_eq_getD_getElem?,this,Option.getD_some] at hl ⊢
    exact hl
   exact ih e.on hlt2 _ ho2 (hc e.on _ ho2 hl2) i hor.1 hor.2
theorem rest_cons{l1 l2:List Nat}{n:Nat}{listed:Array Bool}(h:(List.range n).filter (fun k=>!listed.getD k true)=l1++i :: l2)(hi:i<listed.size) :
  (List.range n).filter (fun k=>!(listed.setIfInBounds i true).getD k true)=l1++l2∧∀ x∈l1,x<i∧listed.getD x true=false:=by
 have hnd:((List.range n).filter (fun k=>!listed.getD k true)).Nodup:=List.nodup_range.filter _
 have hpw:((List.range n).filter (fun k=>!listed.getD k true)).Pairwise (·<·):=List.pairwise_lt_range.filter _
 rw[h] at hnd hpw
 have e1:(List.range n).filter (fun k=>!(listed.setIfInBounds i true).getD k true)=((List.range n).filter (fun k=>!listed.getD k true)).filter (fun k=>k != i):=by
  rw[List.filter_filter]
  refine List.filter_congr fun k _=>?_
  by_cases e:i=k
  ·subst e
   simp[hi]
  ·have:(listed.setIfInBounds i true).getD k true=listed.getD k true:=by simp[Array.getElem?_setIfInBounds_ne e]
   rw[this]
   simp[Ne.symm e]
 rw[List.nodup_append] at hnd
 obtain⟨n1,n2,n3⟩:=hnd
 rw[List.nodup_cons] at n2
 rw[List.pairwise_append] at hpw
 refine⟨?_,fun x hx=>⟨hpw.2.2 x hx i (by simp),?_⟩⟩
 ·rw[e1,h,List.filter_append,List.filter_cons]
  simp only[bne_self_eq_false,Bool.false_eq_true,if_false]
  rw[List.filter_eq_self.2 fun x hx=>?_,List.filter_eq_self.2 fun x hx=>?_]
  ·simp only[bne_iff_ne,ne_eq]
   intro e; subst e; exact n2.1 hx
  ·simp only[bne_iff_ne,ne_eq]
   intro e; subst e; exact n3 x hx x (by simp) rfl
 ·have hm:x∈(List.range n).filter (fun k=>!listed.getD k true):=by rw[h]; simp[hx]
  simpa using(List.mem_filter.1 hm).2
theorem any_sound(C:CxOk P T cx){B:List Nat}{F:List (List Nat×List Nat)}(hd:drawOk ops B F=true):∀(fuel:Nat) {listed:Array Bool} {σ:Sg} {s:AS} {a:Act} {w:World},
  listed.size=ops.size→Closed ops listed→((List.range ops.size).filter (fun k=>!listed.getD k true)).length=fuel→Rel T cx A0 M w0 σs σ s a w→len=s.blocks.length→runL cx ops base len (fpOf F) ((List.range ops.size).filter (fun k=>!listed.getD k true)) s=some s1 →
  (∀ σ' a' w',Rel T cx A0 M w0 σs σ' s1 a' w'→Q .normal a' w')→wpAny P .any ops Q fuel listed a w:=by
 have hB:ancOk ops B=true:=by unfold drawOk at hd; simp only[Bool.and_eq_true] at hd; exact hd.1
 intro fuel
 induction fuel with
 | zero =>
  intro listed σ s a w hsz hcl hlen R hn hrun hK
  have hnil:=List.eq_nil_of_length_eq_zero hlen
  rw[hnil] at hrun
  cases hrun
  refine⟨?_,hK _ _ _ R⟩
  rw[List.eq_nil_iff_forall_not_mem]
  intro i hi
  obtain⟨h1,o,h2,_⟩:=mem_ready.1 hi
  have:i∈(List.range ops.size).filter (fun k=>!listed.getD k true):=List.mem_filter.2 ⟨by simpa using(Array.getElem?_eq_some_iff.1 h2).1,by simpa using h1⟩
  rw[hnil] at this
  cases this
 | succ fuel ih =>
  intro listed σ s a w hsz hcl hlen R hn hrun hK
  refine⟨fun hr=>?_,fun i hi=>?_⟩
  ·exfalso
   cases hl:(List.range ops.size).filter (fun k=>!listed.getD k true) with
   | nil=>rw[hl] at hlen; simp at hlen
   | cons i l =>
    have hi:i∈(List.range ops.size).filter (fun k=>!listed.getD k true):=by rw[hl]; simp
    obtain⟨h1,h2⟩:=List.mem_filter.1 hi
    have hlt:i<ops.size:=by simpa using h1
    have ho:ops[i]?=some ops[i]:=Array.getElem?_eq_getElem hlt
    have:i∈Region.ready .any ops listed:=by
     rw[mem_ready]
     refine⟨by simpa using h2,_,ho,fun e he hb=>?_⟩
     unfold ancOk at hB
     rw[List.all_eq_true] at hB
     have h3:=hB i (by simpa using hlt)
     simp only[ho,Bool.and_eq_true,List.all_eq_true] at h3
     have h4:=h3.1 e (by simpa using he)
     rw[hb] at h4
     simp only[Bool.not_true,Bool.false_or,decide_eq_true_eq] at h4
     have h5:e.on<listed.size:=by omega
     cases hq:listed.getD e.on true with
     | true=>rwa[getD_tf h5] at hq
     | false =>
      exfalso
      have hm:e.on∈(List.range ops.size).filter (fun k=>!listed.getD k true):=List.mem_filter.2 ⟨by simp; omega,by rw[hq]; rfl⟩
      have hpw:((List.range ops.size).filter (fun k=>!listed.getD k true)).Pairwise (·<·):=List.pairwise_lt_range.filter _
      rw[hl] at hm hpw
      rw[List.pairwise_cons] at hpw
      rcases List.mem_cons.1 hm with h6|h6
      ·omega
      ·have:=hpw.1 _ h6; omega
    rw[hr] at this
    cases this
  ·obtain⟨hun,o,ho,haft⟩:=mem_ready.1 hi
   have hlt:i<ops.size:=(Array.getElem?_eq_some_iff.1 ho).1
   have hm:i∈(List.range ops.size).filter (fun k=>!listed.getD k true):=List.mem_filter.2 ⟨by simpa using hlt,by rw[hun]; rfl⟩
   obtain⟨l1,l2,hl⟩:=List.append_of_mem hm
   obtain⟨e1,e2⟩:=rest_cons hl (by omega)
   rw[hl] at hrun
   have hind:∀ x∈l1,Indep ops (fpOf F) x i:=fun x hx=>by
    obtain⟨g1,g2⟩:=e2 x hx
    have hd2:=hd
    unfold drawOk at hd2
    simp only[Bool.and_eq_true,List.all_eq_true,Bool.or_eq_true] at hd2
    rcases hd2.2 i (by simpa using hlt) x (by simpa using g1) with h|h
    ·exfalso
     have:=anc_listed hB hsz hcl i o ho haft x g1 h
     rw[←getD_tf (by omega),g2] at this
     cases this
    ·exact indepB_spec h
   obtain⟨s',h1,h2⟩:=run_front hind hrun
   refine step_sound C R hn h1 fun σ' a' w' R'=>?_
   refine ih (by simpa using hsz) (fun j o' ho' hj e he hb=>?_) (by rw[e1]; rw[hl] at hlen; simp at hlen ⊢; omega) R' (hn.trans (step1_length h1).symm) (by rw[e1]; exact h2) hK
   by_cases hij:i=j
   ·subst hij
    rw[ho] at ho'
    cases ho'
    have:=haft e he hb
    by_cases h6:i=e.on
    ·rw[←h6]; simp[hsz,hlt]
    ·rw[getD_set_ne false h6]; exact this
   ·rw[getD_set_ne true hij] at hj
    have:=hcl j o' ho' hj e he hb
    by_cases h6:i=e.on
    ·rw[←h6]; simp[hsz,hlt]
    ·rw[getD_set_ne false h6]; exact this
end
end Tr
namespace Tr
open Go Go.RowKit
def AC.ments:AC→List Nat|.own b _|.sl b _ _ _|.sg b _ _=>[b]|.fn _ a b=>a++b|_=>[]
def AR.ments(x:AR):List Nat:=x.cells.flatMap AC.ments
def AV.ments:AV→List Nat|.r x=>x.ments|.tup l=>l.flatMap AR.ments|_=>[]
def BK.ments:BK→List Nat|.live ab|.lent ab=>ab.cells.flatMap AC.ments|_=>[]
def visK:Option BK→BK
 | some (.live ab)=>.live ab
 | some (.lent ab)=>.lent ab
 | _=>.dead
def addN(p:Nat→Bool)(acc:List Nat):List Nat→List Nat
 | []=>acc
 | b :: l=>if p b && !acc.contains b then addN p (acc++[b]) l else addN p acc l
def reachN(p:Nat→Bool)(look:Nat→BK):Nat→List Nat→List Nat→List Nat
 | 0,acc,_=>acc
 | n+1,acc,todo =>
  let acc':=addN p acc todo
  match acc'.drop acc.length with
  | []=>acc'
  | new=>reachN p look n acc' (new.flatMap fun b=>(look b).ments)
def foot(cx:Cx)(len:Nat)(o:Oper)(sl:Nat→AV)(bl:Nat→Option BK)(e:Eff):List Nat×List Nat :=
 let w:=e.wr.map (·.1)
 match o.op with
 | .load _ x=>match (opv sl x).own with|some (b,_)=>([b],[])|none=>([],[])
 | .call c=>match calleeA sl c.callee,arsA sl c.args.toList with
  | some (f,a,b),some as=>match findC bl f (ownR a++as++ownR b) cx.calls with
   | some k=>(k.needs.map (·.1)++w,w)
   | none=>(reachN (fun b=>decide (b<len)) (fun b=>visK (bl b)) 12 [] ((ownR a++as++ownR b).flatMap AR.ments)++w,w)
  | _,_=>((match c.callee with|.builtin .append=>c.args.toList.flatMap fun x=>(opv sl x).ments|_=>[])++w,w)
 | _=>(w,w)
def fpAll:Nat→Fp:=fun _=>⟨fun _=>true,fun _=>true⟩
def feet(cx:Cx)(ops:Array Oper)(base len:Nat):List Nat→AS→List (List Nat×List Nat)
 | [],_=>[]
 | i :: l,s =>
  match ops[i]? with
  | none=>[]
  | some o =>
   let sl:=viewT ops i s
   match wantedA ops o sl with
   | some true =>
    let bl:=viewB fpAll i s
    match compute cx (base+i*cx.width) len o sl bl with
    | some e=>foot cx len o sl bl e :: feet cx ops base len l (s.put o.dst e)
    | none=>[]
   | some false=>([],[]) :: feet cx ops base len l (s.put o.dst ⟨.undf,[]⟩)
   | none=>[]
def ancGo:List Oper→List Nat→List Nat
 | [],acc=>acc
 | o :: l,acc=>ancGo l (acc++[o.after.toList.foldl (fun s e=>if Region.binds .any e then s ||| 2 ^ e.on ||| acc.getD e.on 0 else s) 0])
def AS.ext(s:AS)(n:Nat):AS:={ s with blocks:=s.blocks++List.replicate n .unborn }
theorem ext_len(s:AS)(n:Nat):s.blocks.length+n=(s.ext n).blocks.length:=by simp[AS.ext]
def regA(cx:Cx)(ops:Array Oper)(draw:Bool)(s:AS):Option AS :=
 let base:=s.blocks.length
 let len:=base+ops.size*cx.width
 let s':=s.ext (ops.size*cx.width)
 if draw then
  let F:=feet cx ops base len (List.range ops.size) s'
  if drawOk ops (ancGo ops.toList []) F then runL cx ops base len (fpOf F) (List.range ops.size) s' else none
 else runL cx ops base len fpAll (List.range ops.size) s'
def tlC(rel:AC→AC→Bool):List AC→List AC→Bool:=beqL rel
def tlR(rel:AC→AC→Bool):AR→AR→Bool
 | .c x,.c y=>rel x y
 | .row l,.row m=>tlC rel l m
 | _,_=>false
def tlV(rel:AC→AC→Bool):AV→AV→Bool
 | _,.junk=>true
 | .r x,.r y=>tlR rel x y
 | .tup l,.tup m=>beqL (tlR rel) l m
 | .undf,.undf=>true
 | _,_=>false
def tlB(rel:AC→AC→Bool):BK→BK→Bool
 | .unborn,.unborn=>true
 | .unborn,_=>false
 | _,.dead=>true
 | .live a,.live b|.lent a,.lent b=>tlC rel a.cells b.cells && a.ty == b.ty && a.more == b.more
 | _,_=>false
def tlBs(rel:AC→AC→Bool):List BK→List BK→Bool
 | _,[]=>true
 | a :: l,b :: m=>tlB rel a b && tlBs rel l m
 | [],_ :: _=>false
def tlS(rel:AC→AC→Bool)(s s':AS):Bool:=beqL (tlV rel) s.tmps s'.tmps && tlBs rel s.blocks s'.blocks
def keyOf:Code→Option Nat
 | .region id _ _=>some id
 | .seq a b=>match keyOf a with|some k=>some k|none=>keyOf b
 | .block _ a|.loop a|.scope a=>keyOf a
 | .cond _ a b=>match keyOf a with|some k=>some k|none=>keyOf b
 | _=>none
def loopsOf:Code→List Code
 | .seq a b|.cond _ a b=>loopsOf a++loopsOf b
 | .block _ a|.scope a=>loopsOf a
 | .loop a=>a :: loopsOf a
 | _=>[]
def findK(k:Option Nat):List LC→Option LC
 | []=>none
 | c :: l=>if k == some c.key then some c else findK k l
def Ex.exit':Ex→Exit|.normal=>.normal|.exit id=>.exit id|.ret=>.ret
def evC(cx:Cx):Nat→Code→AS→Option (Ex×AS)
 | 0,_,_=>none
 | n+1,c,s=>match c with
  | .skip|.label _=>some (.normal,s)
  | .ret=>some (.ret,s)
  | .exit id=>some (.exit id,s)
  | .seq x y=>match evC cx n x s with|some (.normal,s1)=>evC cx n y s1|r=>r
  | .cond c x y=>match (opv (fun t=>s.tmps.getD t .undf) c).bool with|some t=>evC cx n (if t then x else y) s|none=>none
  | .block id x=>match evC cx n x s with|some (.exit k,s1)=>if k == id then some (.normal,s1) else some (.exit k,s1)|r=>r
  | .loop x=>match findK (keyOf x) cx.cuts with
   | some k=>if tlS AC.beq s k.pre then some (k.ex,k.post) else none
   | none=>match evC cx n x s with|some (.normal,s1)=>evC cx n (.loop x) s1|r=>r
  | .scope x=>evC cx n x s
  | .region _ ops draw=>match regA cx ops draw s with|some s1=>some (.normal,s1)|none=>none
  | _=>none
section
variable{T:Nat→Fact}{cx:Cx}{A0 M:Nat→Prop}{w0:World}{σs:Sg}{P:Program}
theorem Rel.ext{σ:Sg}{s:AS}{a:Act}{w:World}(R:Rel T cx A0 M w0 σs σ s a w)(n:Nat):Rel T cx A0 M w0 σs σ (s.ext n) a w:=by
 have hlive:∀ x (c:AB),(s.blocks++List.replicate n BK.unborn)[x]?=some (BK.live c)↔s.blocks[x]?=some (BK.live c):=fun x c=>by
  rw[List.getElem?_append]
  split
  ·exact Iff.rfl
  ·rename_i h
   rw[List.getElem?_replicate,List.getElem?_eq_none (by omega)]
   split<;>simp
 have hAl:Al A0 σ (s.blocks++List.replicate n BK.unborn)=Al A0 σ s.blocks:=by
  funext x
  unfold Al
  simp only[hlive]
 have hlent:∀ x (c:AB),(s.blocks++List.replicate n BK.unborn)[x]?=some (BK.lent c)↔s.blocks[x]?=some (BK.lent c):=fun x c=>by
  rw[List.getElem?_append]
  split
  ·exact Iff.rfl
  ·rename_i h
   rw[List.getElem?_replicate,List.getElem?_eq_none (by omega)]
   split<;>simp
 refine⟨R.size,?_,R.defers,?_,?_,fun b c m ab ac h1 h2=>R.inj b c m ab ac ((hlive b ab).1 h1) ((hlive c ac).1 h2),fun b h=>?_,fun b h=>?_,R.below,R.rcv,R.low,R.apart,R.mine,R.start⟩
 ·show ∀ i (av:AV),s.tmps[i]?=some av→av.ok T σ _ w (Al A0 σ (s.blocks++List.replicate n BK.unborn))
  rw[hAl]; exact R.slots
 ·show ∀ b (ab:AB),(s.blocks++List.replicate n BK.unborn)[b]?=some (.live ab)→∃ n',σ b=some n'∧_∧LiveOk T cx σ (Al A0 σ (s.blocks++List.replicate n BK.unborn)) w b ab n'
  rw[hAl]
  exact fun b ab h=>R.blocks b ab ((hlive b ab).1 h)
 ·show ∀ b (ab:AB),(s.blocks++List.replicate n BK.unborn)[b]?=some (.lent ab)→∃ n',σ b=some n'∧_∧LiveOk T cx σ (Al A0 σ (s.blocks++List.replicate n BK.unborn)) w b ab n'
  rw[hAl]
  exact fun b ab h=>R.lent b ab ((hlent b ab).1 h)
 ·have h':(s.blocks++List.replicate n BK.unborn)[b]?=some .unborn:=h
  rw[List.getElem?_append] at h'
  split at h'
  ·exact R.unborn b h'
  ·exact R.beyond b (by omega)
 ·have h':(s.blocks++List.replicate n BK.unborn).length≤b:=h
  rw[List.length_append] at h'
  exact R.beyond b (by omega)
theorem Rel.drew{σ:Sg}{s:AS}{a:Act}{w:World}(ht:TOk T cx.ints)(R:Rel T cx A0 M w0 σs σ s a w):Rel T cx A0 M w0 σs σ s a { w with drawn:=w.drawn+1 } :=
 R.world ht ⟨rfl,rfl,rfl,Nat.le_refl _,fun _ _=>rfl⟩
theorem reg_sound(C:CxOk P T cx)(hm:P.follows .mixedOrders=true){id:Nat}{ops:Array Oper}{draw:Bool}{σ:Sg}{s s1:AS}{a:Act}{w:World}{Q:Exit→Act→World→Prop}(R:Rel T cx A0 M w0 σs σ s a w)(h:regA cx ops draw s=some s1)
  (hK:∀ σ' a' w',Rel T cx A0 M w0 σs σ' s1 a' w'→Q .normal a' w'):(Code.region id ops draw).wp P Q a w:=by
 unfold regA at h
 cases draw
 ·simp only[Bool.false_eq_true,if_false] at h
  exact wp_region (ops_sound C (R.ext _) (ext_len _ _) h hK)
 ·simp only[if_true] at h
  split at h
  ·rename_i hd
   refine wp_region_any hm ?_
   have he:(List.range ops.size).filter (fun k=>!(Array.replicate ops.size false).getD k true)=List.range ops.size:=by
    rw[List.filter_eq_self]
    intro k hk
    have:k<ops.size:=by simpa using hk
    simp[this]
   refine any_sound C hd ops.size (by simp) (fun j o ho hj=>?_) (by rw[he]; simp) ((R.ext _).drew C.table) (ext_len _ _) (by rw[he]; exact h) hK
   exfalso
   have hlt:j<ops.size:=(Array.getElem?_eq_some_iff.1 ho).1
   simp[hlt] at hj
  ·cases h
def LC.Ok(P:Program)(T:Nat→Fact)(cx:Cx)(k:LC)(x:Code):Prop :=
 ∀(A0 M:Nat→Prop) (w0:World) (σ:Sg) (a:Act) (w:World) (Q:Exit→Act→World→Prop),Rel T cx A0 M w0 σ0 σ k.pre a w→(∀ σ' a' w',Rel T cx A0 M w0 σ0 σ' k.post a' w'→Q k.ex.exit' a' w')→(Code.loop x).wp P Q a w
def Gives(T T':Nat→Fact)(rel:AC→AC→Bool):Prop:=∀ x y,rel x y=true→∀(σ:Sg) v w A,x.ok T σ v w A→y.ok T' σ v w A
section le
variable{T T':Nat→Fact}{rel:AC→AC→Bool}{σ:Sg}{w:World}{A:Nat→Prop}
theorem tlC_ok(h:Gives T T' rel):∀{l m:List AC} {vs:List Value},tlC rel l m=true→oks T σ l vs w A→oks T' σ m vs w A
 | [],[],vs,_,hx=>by cases vs<;>exact hx
 | x :: l,y :: m,v :: vs,hl,hx=>by
  simp only[tlC,beqL,Bool.and_eq_true] at hl
  exact⟨h x y hl.1 σ v w A hx.1,tlC_ok h hl.2 hx.2⟩
 | [],_ :: _,_,hl,_=>by simp[tlC,beqL] at hl
 | _ :: _,[],_,hl,_=>by simp[tlC,beqL] at hl
 | _ :: _,_ :: _,[],_,hx=>hx.elim
theorem tlR_ok(h:Gives T T' rel){x y:AR}{v:Value}(hl:tlR rel x y=true)(hx:x.ok T σ v w A):y.ok T' σ v w A:=by
 unfold tlR at hl
 split at hl
 ·exact h _ _ hl σ v w A hx
 ·obtain⟨vs,e,h2⟩:=hx; exact⟨vs,e,tlC_ok h hl h2⟩
 ·cases hl
theorem tlRs_ok(h:Gives T T' rel):∀{l m:List AR} {vs:List Value},beqL (tlR rel) l m=true→okr T σ l vs w A→okr T' σ m vs w A
 | [],[],vs,_,hx=>by cases vs<;>exact hx
 | x :: l,y :: m,v :: vs,hl,hx=>by
  simp only[beqL,Bool.and_eq_true] at hl
  exact⟨tlR_ok h hl.1 hx.1,tlRs_ok h hl.2 hx.2⟩
 | [],_ :: _,_,hl,_=>by simp[beqL] at hl
 | _ :: _,[],_,hl,_=>by simp[beqL] at hl
 | _ :: _,_ :: _,[],_,hx=>hx.elim
theorem tlV_ok(h:Gives T T' rel){x y:AV}{v:Value}(hl:tlV rel x y=true)(hx:x.ok T σ v w A):y.ok T' σ v w A:=by
 unfold tlV at hl
 split at hl
 ·trivial
 ·exact tlR_ok h hl hx
 ·obtain⟨vs,e,h2⟩:=hx; exact⟨vs,e,tlRs_ok h hl h2⟩
 ·exact hx
 ·cases hl
theorem beqL_get{α:Type}{p:α→α→Bool}:∀{l m:List α},beqL p l m=true→l.length=m.length∧∀(i:Nat) (y:α),m[i]?=some y→∃ x,l[i]?=some x∧p x y=true
 | [],[],_=>⟨rfl,fun i y h=>by simp at h⟩
 | a :: l,b :: m,h=>by
  simp only[beqL,Bool.and_eq_true] at h
  obtain⟨h1,h2⟩:=beqL_get h.2
  refine⟨by simp[h1],fun i y hy=>?_⟩
  cases i with
  | zero=>simp at hy; subst hy; exact⟨a,rfl,h.1⟩
  | succ i=>simp at hy ⊢; exact h2 i y hy
 | [],_ :: _,h=>by cases h
 | _ :: _,[],h=>by cases h
theorem tlBs_get:∀{l m:List BK},tlBs rel l m=true→m.length≤l.length∧∀(i:Nat) (y:BK),m[i]?=some y→∃ x,l[i]?=some x∧tlB rel x y=true
 | l,[],_=>⟨by simp,fun i y h=>by simp at h⟩
 | a :: l,b :: m,h=>by
  simp only[tlBs,Bool.and_eq_true] at h
  obtain⟨h1,h2⟩:=tlBs_get h.2
  refine⟨by simp[h1],fun i y hy=>?_⟩
  cases i with
  | zero=>simp at hy; subst hy; exact⟨a,rfl,h.1⟩
  | succ i=>simp at hy ⊢; exact h2 i y hy
 | [],_ :: _,h=>by cases h
end le
def restr(σ:Sg)(n:Nat):Sg:=⟨fun b=>if b<n then σ b else none,σ.room⟩
theorem restr_lt{σ:Sg}{n b:Nat}(h:b<n):restr σ n b=σ b:=if_pos h
theorem restr_ge{σ:Sg}{n b:Nat}(h:¬b<n):restr σ n b=none:=if_neg h
theorem restr_some{σ:Sg}{n b m:Nat}(h:restr σ n b=some m):b<n∧σ b=some m:=by
 by_cases hb:b<n
 ·rw[restr_lt hb] at h; exact⟨hb,h⟩
 ·rw[restr_ge hb] at h; cases h
def AC.low(n:Nat):AC→Bool|.own b _|.sl b _ _ _|.sg b _ _=>decide (b<n)|.fn _ a b=>a.all (fun k=>decide (k<n)) && b.all (fun k=>decide (k<n))|_=>true
def AR.low(n:Nat)(x:AR):Bool:=x.cells.all (AC.low n)
def AV.low(n:Nat):AV→Bool|.r x=>x.low n|.tup l=>l.all (AR.low n)|_=>true
def AS.low(s:AS):Bool:=s.tmps.all (AV.low s.blocks.length) && s.blocks.all fun b=>match b with|.live ab|.lent ab=>ab.cells.all (AC.low s.blocks.length)|_=>true
section low
variable{T:Nat→Fact}{σ:Sg}{w:World}{A:Nat→Prop}{n:Nat}
theorem ptrs_low:∀{l:List Nat} {vs:List Value},l.all (fun k=>decide (k<n))=true→ptrs σ l vs→ptrs (restr σ n) l vs
 | [],[],_,_=>trivial
 | b :: l,v :: vs,h,hx=>by
  simp only[List.all_cons,Bool.and_eq_true,decide_eq_true_eq] at h
  obtain⟨⟨m,h1,h2⟩,h3⟩:=hx
  exact⟨⟨m,(restr_lt h.1).trans h1,h2⟩,ptrs_low h.2 h3⟩
 | [],_ :: _,_,h=>h.elim
 | _ :: _,[],_,h=>h.elim
theorem AC.ok_low{x:AC}(h:x.low n=true){v:Value}(hx:x.ok T σ v w A):x.ok T (restr σ n) v w A:=by
 cases x with
 | sym i=>exact hx
 | lit l=>exact hx
 | own b o =>
  obtain⟨m,h1,h2⟩:=hx
  exact⟨m,(restr_lt (by simpa[AC.low] using h)).trans h1,h2⟩
 | sl b o k c =>
  obtain⟨m,h1,h2⟩:=hx
  exact⟨m,(restr_lt (by simpa[AC.low] using h)).trans h1,h2⟩
 | sg b o k =>
  obtain⟨m,h1,h2⟩:=hx
  exact⟨m,(restr_lt (by simpa[AC.low] using h)).trans h1,h2⟩
 | fn f a b =>
  obtain⟨us,vs,h1,h2,h3⟩:=hx
  simp only[AC.low,Bool.and_eq_true] at h
  exact⟨us,vs,h1,ptrs_low h.1 h2,ptrs_low h.2 h3⟩
theorem oks_low:∀{l:List AC} {vs:List Value},l.all (AC.low n)=true→oks T σ l vs w A→oks T (restr σ n) l vs w A
 | [],[],_,_=>trivial
 | x :: l,v :: vs,h,hx=>by
  simp only[List.all_cons,Bool.and_eq_true] at h
  exact⟨AC.ok_low h.1 hx.1,oks_low h.2 hx.2⟩
 | [],_ :: _,_,h=>h.elim
 | _ :: _,[],_,h=>h.elim
theorem AR.ok_low{x:AR}(h:x.low n=true){v:Value}(hx:x.ok T σ v w A):x.ok T (restr σ n) v w A:=by
 cases x with
 | c x=>exact AC.ok_low (x:=x) (by simpa[AR.low,AR.cells] using h) hx
 | row l=>obtain⟨vs,e,h2⟩:=hx; exact⟨vs,e,oks_low h h2⟩
theorem okr_low:∀{l:List AR} {vs:List Value},l.all (AR.low n)=true→okr T σ l vs w A→okr T (restr σ n) l vs w A
 | [],[],_,_=>trivial
 | x :: l,v :: vs,h,hx=>by
  simp only[List.all_cons,Bool.and_eq_true] at h
  exact⟨AR.ok_low h.1 hx.1,okr_low h.2 hx.2⟩
 | [],_ :: _,_,h=>h.elim
 | _ :: _,[],_,h=>h.elim
theorem AV.ok_low{x:AV}(h:x.low n=true){v:Value}(hx:x.ok T σ v w A):x.ok T (restr σ n) v w A:=by
 cases x with
 | r x=>exact AR.ok_low (x:=x) h hx
 | tup l=>obtain⟨vs,e,h2⟩:=hx; exact⟨vs,e,okr_low h h2⟩
 | undf=>exact hx
 | junk=>trivial
end low
theorem Rel.weaken{T T':Nat→Fact}{cx cx':Cx}{rel:AC→AC→Bool}{σ:Sg}{s s':AS}{a:Act}{w:World}(ht:TOk T' cx'.ints)(hg:Gives T T' rel)(hhp:cx'.hp=cx.hp)(hok:s'.blocks.all (fun b=>match b with|.live ab|.lent ab=>okCells cx' ab.cells|_=>true)=true)(hlow:s'.low=true)(hl:tlS rel s s'=true)
  (R:Rel T cx A0 M w0 σ0 σ s a w):∃ σ',Rel T' cx' A0 M w0 σ0 σ' s' a w:=by
 unfold tlS at hl
 simp only[Bool.and_eq_true] at hl
 obtain⟨h1,h2⟩:=beqL_get hl.1
 obtain⟨h3,h4⟩:=tlBs_get hl.2
 unfold AS.low at hlow
 simp only[Bool.and_eq_true,List.all_eq_true] at hlow hok
 have hres:∀ b n,restr σ s'.blocks.length b=some n→σ b=some n:=fun b n h=>(restr_some h).2
 have hlive:∀(b:Nat) (ab:AB),s'.blocks[b]?=some (.live ab)→∃ ab0,s.blocks[b]?=some (.live ab0)∧tlC rel ab0.cells ab.cells=true∧ab0.ty=ab.ty∧ab0.more=ab.more:=fun b ab h=>by
  obtain⟨x,hx,hle⟩:=h4 b _ h
  cases x with
  | unborn=>simp[tlB] at hle
  | dead=>simp[tlB] at hle
  | lent ab0=>simp[tlB] at hle
  | live ab0=>simp[tlB] at hle; exact⟨ab0,hx,hle.1.1,hle.1.2,hle.2⟩
 have hAl:∀ n,Al A0 (restr σ s'.blocks.length) s'.blocks n→Al A0 σ s.blocks n:=fun n h=>by
  rcases h with h|⟨b,ab,hb,hn⟩
  ·exact .inl h
  ·obtain⟨ab0,h5,_⟩:=hlive b ab hb
   exact .inr ⟨b,ab0,h5,hres _ _ hn⟩
 have hk:Kp w w (Al A0 σ s.blocks) (Al A0 (restr σ s'.blocks.length) s'.blocks):=⟨Nat.le_refl _,fun b _ h=>⟨rfl,fun h'=>h (hAl b h')⟩⟩
 have hcells:∀(b n:Nat) (ab0 ab:AB),tlC rel ab0.cells ab.cells=true→ab0.ty=ab.ty→ab0.more=ab.more→ab.cells.all (AC.low s'.blocks.length)=true→okCells cx' ab.cells=true→LiveOk T cx σ (Al A0 σ s.blocks) w b ab0 n→LiveOk T' cx' (restr σ s'.blocks.length) (Al A0 (restr σ s'.blocks.length) s'.blocks) w b ab n:=by
  rintro b n ab0 ab e1 e2 e3 e4 e5 ⟨vs,rest,g1,g2,g3,g4,g5,g6⟩
  refine⟨vs,rest,by rw[←e2]; exact g1,oks_low e4 ((tlC_ok hg e1 g2).keep ht (Sub.refl _) hk),e5,fun h=>g4 (by rw[←hhp]; exact h),g5,?_⟩
  rw[←e3]; exact g6
 refine⟨restr σ s'.blocks.length,by rw[R.size,h1],fun i av hi=>?_,R.defers,fun b ab hb=>?_,fun b ab hb=>?_,fun b c n ab ac hb hc hn hm=>?_,fun b hb=>?_,fun b hb=>?_,R.below,fun h=>R.rcv (by rw[←hhp]; exact h),R.low,R.apart,R.mine,Sub.zero _⟩
 ·obtain⟨x,hx,hle⟩:=h2 i av hi
  have:=tlV_ok hg hle (R.slots i x hx)
  exact AV.ok_low (hlow.1 av (List.mem_of_getElem? hi)) (this.keep ht (Sub.refl _) hk)
 ·obtain⟨ab0,h5,h6,h7,h8⟩:=hlive b ab hb
  obtain⟨n,g1,g2,g3⟩:=R.blocks b ab0 h5
  have hlt:b<s'.blocks.length:=(List.getElem?_eq_some_iff.1 hb).1
  exact⟨n,(restr_lt hlt).trans g1,g2,hcells b n ab0 ab h6 h7 h8 (hlow.2 _ (List.mem_of_getElem? hb)) (hok _ (List.mem_of_getElem? hb)) g3⟩
 ·obtain⟨x,hx,hle⟩:=h4 b _ hb
  have hlt:b<s'.blocks.length:=(List.getElem?_eq_some_iff.1 hb).1
  cases x with
  | unborn=>simp[tlB] at hle
  | dead=>simp[tlB] at hle
  | live ab0=>simp[tlB] at hle
  | lent ab0 =>
   simp[tlB] at hle
   obtain⟨n,g1,g2,g3⟩:=R.lent b ab0 hx
   exact⟨n,(restr_lt hlt).trans g1,g2,hcells b n ab0 ab hle.1.1 hle.1.2 hle.2 (hlow.2 _ (List.mem_of_getElem? hb)) (hok _ (List.mem_of_getElem? hb)) g3⟩
 ·obtain⟨ab0,h5,_⟩:=hlive b ab hb
  obtain⟨ac0,h6,_⟩:=hlive c ac hc
  exact R.inj b c n ab0 ac0 h5 h6 (hres _ _ hn) (hres _ _ hm)
 ·obtain⟨x,hx,hle⟩:=h4 b _ hb
  cases x with
  | unborn=>exact(restr_lt (List.getElem?_eq_some_iff.1 hb).1).trans (R.unborn b hx)
  | dead=>simp[tlB] at hle
  | lent ab0=>simp[tlB] at hle
  | live ab0=>simp[tlB] at hle
 ·exact restr_ge (by omega)
theorem gives_refl(T:Nat→Fact):Gives T T AC.beq:=fun x y h σ v w A hx=>by rw[←AC.eq_of h]; exact hx
theorem findK_spec{k:Option Nat}{c:LC}:∀{l:List LC},findK k l=some c→c∈l∧k=some c.key
 | [],h=>by cases h
 | d :: l,h=>by
  unfold findK at h
  split at h
  ·rename_i hk
   cases h
   exact⟨List.mem_cons_self,by simpa using hk⟩
  ·obtain⟨h1,h2⟩:=findK_spec h
   exact⟨List.mem_cons_of_mem _ h1,h2⟩
theorem evC_sound(C:CxOk P T cx)(hm:P.follows .mixedOrders=true)(hz:cx.cuts=[]∨σs=σ0)(hpre:∀ k∈cx.cuts,(k.pre.low && k.pre.blocks.all (fun b=>match b with|.live ab|.lent ab=>okCells cx ab.cells|_=>true))=true):∀(n:Nat) {c:Code} {σ:Sg} {s s1:AS} {e:Ex} {a:Act} {w:World} {Q:Exit→Act→World→Prop},
  (∀ x∈loopsOf c,∀ k∈cx.cuts,keyOf x=some k.key→k.Ok P T cx x)→Rel T cx A0 M w0 σs σ s a w→evC cx n c s=some (e,s1) →
  (∀ σ' a' w',Rel T cx A0 M w0 σs σ' s1 a' w'→Q e.exit' a' w')→c.wp P Q a w∧∀ x,c=.loop x→findK (keyOf x) cx.cuts=none→Code.rounds P x Q n a w
 | 0,c,σ,s,s1,e,a,w,Q,hcut,R,h,hK=>by cases h
 | n+1,c,σ,s,s1,e,a,w,Q,hcut,R,h,hK=>by
  have ih:=fun{c:Code} {σ:Sg} {s s1:AS} {e:Ex} {a:Act} {w:World} {Q:Exit→Act→World→Prop}=>evC_sound C hm hz hpre n (c:=c) (σ:=σ) (s:=s) (s1:=s1) (e:=e) (a:=a) (w:=w) (Q:=Q)
  cases c
  case loop x =>
   simp only[evC] at h
   split at h
   ·rename_i k hk
    obtain⟨hk1,hk2⟩:=findK_spec hk
    split at h
    ·rename_i hle
     cases h
     have h9:=hpre k hk1
     have hz':σs=σ0:=hz.resolve_left fun e=>by rw[e] at hk1; cases hk1
     subst hz'
     simp only[Bool.and_eq_true] at h9
     obtain⟨σ',R'⟩:=R.weaken C.table (gives_refl T) rfl h9.2 h9.1 hle
     exact⟨hcut x (by simp[loopsOf]) k hk1 hk2 A0 M w0 σ' a w Q R' hK,fun y e hno=>by cases e; rw[hk] at hno; cases hno⟩
    ·cases h
   ·rename_i hk
    have hr:Code.rounds P x Q (n+1) a w:=by
     rw[rounds_succ]
     split at h
     ·rename_i s2 h1
      exact(ih (fun y hy=>hcut y (by simp[loopsOf,hy])) R h1 fun σ' a' w' R'=>(ih hcut R' h hK).2 x rfl hk).1
     ·rename_i r h1
      have he:∀ a' w',Exit.then (Code.rounds P x Q n) Q e.exit' a' w'=Q e.exit' a' w':=fun a' w'=>by
       cases e
       ·exact absurd h (by intro h'; exact h1 _ h')
       ·rfl
       ·rfl
      exact(ih (fun y hy=>hcut y (by simp[loopsOf,hy])) R h fun σ' a' w' R'=>by rw[he]; exact hK _ _ _ R').1
    exact⟨wp_loop_rounds (n+1) hr,fun y e _=>by cases e; exact hr⟩
  all_goals refine⟨?_,fun y e=>by cases e⟩
  case skip=>simp only[evC] at h; cases h; exact wp_skip (hK _ _ _ R)
  case label=>simp only[evC] at h; cases h; exact wp_label (hK _ _ _ R)
  case ret=>simp only[evC] at h; cases h; exact wp_ret (hK _ _ _ R)
  case exit id=>simp only[evC] at h; cases h; exact wp_exit (hK _ _ _ R)
  case seq x y =>
   simp only[evC] at h
   split at h
   ·rename_i s2 h1
    exact wp_seq (ih (fun z hz=>hcut z (by simp[loopsOf,hz])) R h1 fun σ' a' w' R'=>(ih (fun z hz=>hcut z (by simp[loopsOf,hz])) R' h hK).1).1
   ·rename_i r h1
    have he:∀ a' w',Exit.then (y.wp P Q) Q e.exit' a' w'=Q e.exit' a' w':=fun a' w'=>by
     cases e
     ·exact absurd h (by intro h'; exact h1 _ h')
     ·rfl
     ·rfl
    exact wp_seq (ih (fun z hz=>hcut z (by simp[loopsOf,hz])) R h fun σ' a' w' R'=>by rw[he]; exact hK _ _ _ R').1
  case cond c x y =>
   simp only[evC] at h
   split at h
   ·rename_i t h1
    exact wp_cond (AV.bool_ok h1 (R.operand (fun t=>.inr rfl) c)) (ih (fun z hz=>hcut z (by cases t<;>simp[loopsOf] at hz ⊢<;>simp[hz])) R h hK).1
   ·cases h
  case block id x =>
   simp only[evC] at h
   split at h
   ·rename_i k s2 h1
    split at h
    ·rename_i hk
     have hk:k=id:=by simpa using hk
     subst hk
     cases h
     exact wp_block (ih (c:=x) hcut R h1 fun σ' a' w' R'=>by
      show Exit.inBlock k Q (.exit k) a' w'
      simp only[Exit.inBlock,if_true]
      exact hK _ _ _ R').1
    ·rename_i hk
     have hk:¬k=id:=by simpa using hk
     cases h
     exact wp_block (ih (c:=x) hcut R h1 fun σ' a' w' R'=>by
      show Exit.inBlock id Q (.exit k) a' w'
      simp only[Exit.inBlock,if_neg hk]
      exact hK _ _ _ R').1
   ·rename_i r h1
    exact wp_block (ih (c:=x) hcut R h fun σ' a' w' R'=>by
     cases e
     ·exact hK _ _ _ R'
     ·exact absurd h (by intro h'; exact h1 _ _ h')
     ·exact hK _ _ _ R').1
  case scope x =>
   simp only[evC] at h
   exact wp_scope_straight (ih (c:=x) hcut R h fun σ' a' w' R'=>by
    cases e
    ·exact hK _ _ _ R'
    ·exact hK _ _ _ R'
    ·exact hK _ _ _ R').1
  case region id ops draw =>
   simp only[evC] at h
   split at h
   ·rename_i s2 h1
    cases h
    exact reg_sound C hm R h1 hK
   ·cases h
  all_goals (simp only[evC] at h; cases h)
end
end Tr
