/- Laws for the walk. -/
import Derived.Test.YtjlhiaafnpompaaGreatZbi
set_option linter.unusedVariables false
set_option maxHeartbeats 4000000
namespace Go.Proofs.YtjlhiaafnpompaaGreat
open Go.RowKit Tr
open Classical
def NC(W:World)(k:Nat):Prop:=∃ o,W.heap[k]?=some o∧o.isCells=false
theorem cell_nc{w:World}{b i:Nat}{v:Value}(h:w.cell? ⟨b,i,none⟩=some v):¬NC w b:=by
 rintro⟨o,ho,hc⟩
 unfold World.cell? at h
 simp only[ho] at h
 cases o<;>simp[Obj.isCells] at h hc
theorem WSlA.clr{A:Nat→Prop}{w:World}{v:Value}{l:List Nat}(h:WSlA A w v l):WSlA (fun k=>A k∨NC w k) w v l:=by
 obtain⟨p,cap,h1,h2,h3⟩:=h
 refine⟨p,cap,h1,h2,fun hne=>?_⟩
 obtain⟨b,off,h4,h5,h6,h7⟩:=h3 hne
 exact⟨b,off,h4,h5,fun k=>k.elim h6 (cell_nc (h7 0 (List.length_pos_iff.2 hne))),h7⟩
theorem IntP.clr{z:Int}{v:Value}{w:World}{A:Nat→Prop}(h:IntP z v w A):IntP z v w (fun k=>A k∨NC w k):=by
 obtain⟨b,o,sl,h1,h2,h3,h4,h5,h6⟩:=h
 exact⟨b,o,sl,h1,h2,fun k=>k.elim h3 (cell_nc h4),h4,h5,h6.clr⟩
theorem RatP.clr{q:Rat}{v:Value}{w:World}{A:Nat→Prop}(h:RatP q v w A):RatP q v w (fun k=>A k∨NC w k):=by
 obtain⟨b,h1,h2,h3⟩:=h
 exact⟨b,h1,h2.clr,h3.imp IntP.clr (fun k=>⟨k.1,k.2.clr⟩)⟩
theorem RatO.clr{q:Rat}{v:Value}{w:World}{A:Nat→Prop}(h:RatO q v w A):RatO q v w (fun k=>A k∨NC w k):=h.imp id RatP.clr
def GClr(g:GF):Prop:=g.int=false∧∀ v W A,g.R v W A→g.R v W (fun k=>A k∨NC W k)
theorem okg_clr{W:World}{A:Nat→Prop}:∀{l:List GF} {vs:List Value},(∀ g∈l,GClr g)→okg l vs W A→okg l vs W (fun k=>A k∨NC W k)
 | [],[],_,_=>trivial
 | g :: l,v :: vs,hg,h=>⟨(hg g List.mem_cons_self).2 v W A h.1,okg_clr (fun x hx=>hg x (List.mem_cons_of_mem _ hx)) h.2⟩
 | [],_ :: _,_,h=>h.elim
 | _ :: _,[],_,h=>h.elim
theorem gro_clr(q:Rat):GClr (gro q):=⟨rfl,fun _ _ _ h=>RatO.clr h⟩
theorem gb_clr(b:Bool):GClr (gl (.bool b)):=⟨rfl,fun _ _ _ h=>h⟩
theorem gn_clr:GClr (gl .nilp):=⟨rfl,fun _ _ _ h=>h⟩
theorem mR_clr(p:Q4)(t:Bool):∀ g∈mR p t,GClr g:=by
 intro g hg
 simp only[mR,cn,List.cons_append,List.nil_append,List.mem_cons,List.not_mem_nil,or_false] at hg
 rcases hg with rfl|rfl|rfl|rfl|rfl|rfl|rfl|rfl|rfl<;>first|exact gro_clr _|exact gb_clr _
def sR:List GF:=cn (⟨1,0⟩:QC)++[gl .nilp,gl .nilp,gl .nilp,gl .nilp]++cn (⟨1,0⟩:QC)++[gl (.bool false)]
theorem sR_clr:∀ g∈sR,GClr g:=by
 intro g hg
 simp only[sR,cn,List.cons_append,List.nil_append,List.mem_cons,List.not_mem_nil,or_false] at hg
 rcases hg with rfl|rfl|rfl|rfl|rfl|rfl|rfl|rfl|rfl<;>first|exact gro_clr _|exact gb_clr _|exact gn_clr
def q1:Q4:=(⟨1,0⟩,⟨0,0⟩,⟨0,0⟩,⟨1,0⟩)
theorem spec_arg{P:Program}{hp:Bool}{f:FuncId}{a b:List FR}{r:FV}(h:SpecC P hp f a r)(k:∀ vs w A,okf b vs w A→okf a vs w A):SpecC P hp f b r :=
 ⟨h.ent,fun w A vs hR hA hu=>h.ok w A vs hR hA (k vs w A hu)⟩
theorem sR_q1{vs:List Value}{w:World}{A:Nat→Prop}(h:okg sR vs w A):okg (mR q1 false) vs w A:=okg_nil0 h
section
variable(t u:Bool)(m p:Q4)
def cst1(s:Q4×Bool)(j:Nat):Q4×Bool :=
 if j=0 then(nm4 (stp t m.1 m.2.1 m.2.2.1 m.2.2.2 s.1),t != s.2) else(nm4 (stp u p.1 p.2.1 p.2.2.1 p.2.2.2 s.1),u != s.2)
def cst(pre:List Nat):Q4×Bool:=pre.foldl (cst1 t u m p) (q1,false)
theorem cst_app(pre:List Nat)(j:Nat):cst t u m p (pre++[j])=cst1 t u m p (cst t u m p pre) j:=by
 unfold cst; rw[List.foldl_append]; rfl
end
theorem nm4_dq{q:Q4}(h:dq q≠⟨0,0⟩):dq (nm4 q)≠⟨0,0⟩:=dq_smul (u:=by4 q) (by rw[←nm4_smul h]; exact h)
def MapOk(m:Q4):Prop:=Sh4 m∧Nf m∧dq m≠⟨0,0⟩
theorem cst1_ok{t u:Bool}{m p:Q4}(hm:MapOk m)(hp:MapOk p){s:Q4×Bool}{k:Nat}(hs:ZL4 s.1 k)(hd:dq s.1≠⟨0,0⟩)(j:Nat) :
  ZL4 (cst1 t u m p s j).1 (8*(4*1024+4*k+3)+2)∧dq (cst1 t u m p s j).1≠⟨0,0⟩:=by
 unfold cst1
 split
 ·have d:=dq_stp (t:=t) (a:=m.1) (b:=m.2.1) (c:=m.2.2.1) (d:=m.2.2.2) hm.2.2 hd
  exact⟨nm4_zl (stp_zl hm.1.zl hs) d,nm4_dq d⟩
 ·have d:=dq_stp (t:=u) (a:=p.1) (b:=p.2.1) (c:=p.2.2.1) (d:=p.2.2.2) hp.2.2 hd
  exact⟨nm4_zl (stp_zl hp.1.zl hs) d,nm4_dq d⟩
theorem q1_zl:ZL4 q1 2:=⟨ZL_int 1 0 (by decide) (by decide) (by decide) (by decide),ZL_int 0 0 (by decide) (by decide) (by decide) (by decide),ZL_int 0 0 (by decide) (by decide) (by decide) (by decide),ZL_int 1 0 (by decide) (by decide) (by decide) (by decide)⟩
theorem q1_dq:dq q1≠⟨0,0⟩:=by decide +kernel
theorem cst_ok{t u:Bool}{m p:Q4}(hm:MapOk m)(hp:MapOk p)(pre:List Nat)(hl:pre.length≤2):ZL4 (cst t u m p pre).1 2000000∧dq (cst t u m p pre).1≠⟨0,0⟩:=by
 match pre,hl with
 | [],_=>exact⟨q1_zl.mono (by decide),q1_dq⟩
 | [i],_ =>
  have h:=cst1_ok (t:=t) (u:=u) hm hp (s:=(q1,false)) q1_zl q1_dq i
  exact⟨h.1.mono (by decide),h.2⟩
 | [i,j],_ =>
  have h:=cst1_ok (t:=t) (u:=u) hm hp (s:=(q1,false)) q1_zl q1_dq i
  have h:=cst1_ok (t:=t) (u:=u) hm hp h.1 h.2 j
  exact⟨h.1.mono (by decide),h.2⟩
 | _ :: _ :: _ :: _,h=>simp at h
theorem stp_q1(t:Bool)(m:Q4):stp t m.1 m.2.1 m.2.2.1 m.2.2.2 q1=m:=by
 obtain⟨a,b,c,d⟩:=m
 cases t
 ·simp only[stp,q1,Bool.false_eq_true,if_false]
  refine Prod.ext ?_ (Prod.ext ?_ (Prod.ext ?_ ?_))<;>apply qc_ext<;>simp only[qmr,qmi,qar,qai]<;>grind
 ·simp only[stp,q1,if_true,cj]
  refine Prod.ext ?_ (Prod.ext ?_ (Prod.ext ?_ ?_))<;>apply qc_ext<;>simp only[qmr,qmi,qar,qai]<;>grind
theorem eOpenOk(m:Q4)(t:Bool)(h:MapOk m):SpecC Tryz.prog true 21 [.row (mQ m t)] (.tup [.row (mR m t),.c (gl (.bool true))]):=by
 obtain⟨a,b,c,d⟩:=m
 obtain⟨⟨h1,h2,h3,h4⟩,hn,hd⟩:=h
 have k:=(eOpen a b c d t h1 h2 h3 h4).f hd
 by_cases hc:c=⟨1,0⟩
 ·exact k.t hc
 ·exact(k.f hc).t (hn.resolve_left hc)
theorem mCheckOk(m:Q4)(t:Bool)(h:MapOk m):SpecC Tryz.prog true 6 [.row (mQ m t)] (.r (.c (gl (.int .i64 0)))):=by
 obtain⟨a,b,c,d⟩:=m
 obtain⟨⟨h1,h2,h3,h4⟩,hn,hd⟩:=h
 exact((mCheck a b c d t h1 h2 h3 h4).f hd).t hn
theorem eCk(m:Q4)(t:Bool)(h:MapOk m):SpecC Tryz.prog true 25 [.row (mQ m t)] (.r (.c (gl (.bool false)))) :=
  ev_sp (L := mQ m t) tys_ok mixed
     [gs (mCheckOk m t h) [.row (syms 0 33)] (.r (.c (.lit (.int .i64 0))))]
     [] [] Tryz.func25 eo25 2000 [.row (syms 0 33)] (.r (.c (.lit (.bool false))))
def zM:List GF:=zGG++zGG++zGG++zGG++[gl (.bool false)]
theorem mQ_len(m:Q4)(t:Bool):(mQ m t).length=33:=rfl
theorem zM_ex:gfV zM=some zMob.toList:=by kernel_rfl
theorem okg_pure{W W':World}{A A':Nat→Prop}:∀{l:List GF} {vs:List Value},l.all (fun g=>g.ex.isSome)=true→okg l vs W A→okg l vs W' A'
 | [],[],_,_=>trivial
 | g :: l,v :: vs,h,k=>by
  simp only[List.all_cons,Bool.and_eq_true] at h
  obtain⟨u,hu⟩:=Option.isSome_iff_exists.1 h.1
  exact⟨(g.exact u hu v W' A').2 ((g.exact u hu v W A).1 k.1),okg_pure h.2 k.2⟩
 | [],_ :: _,_,h=>h.elim
 | _ :: _,[],_,h=>h.elim
theorem mQ_pure(m:Q4)(t:Bool):(mQ m t).all (fun g=>g.ex.isSome)=true:=rfl
theorem zM_pure:zM.all (fun g=>g.ex.isSome)=true:=rfl
theorem okg_take{w:World}{A:Nat→Prop}:∀{l m:List GF} {vs:List Value},okg (l++m) vs w A→okg l (vs.take l.length) w A∧okg m (vs.drop l.length) w A
 | [],_,_,h=>⟨by simp[okg],by simpa using h⟩
 | g :: l,m,v :: vs,h=>by
  obtain⟨h1,h2⟩:=okg_take (l:=l) h.2
  exact⟨⟨h.1,h1⟩,h2⟩
 | _ :: _,_,[],h=>h.elim
theorem eComp2(t u:Bool)(m p:Q4)(hm:MapOk m)(hp:MapOk p):SpecM Tryz.prog true 9 [(mQ m t++mQ p u,29)] [.sl 0 0 2 2]
  (if Sh4 (nm4 (stp t m.1 m.2.1 m.2.2.1 m.2.2.2 p)) then .tup [.row (mQ (nm4 (stp t m.1 m.2.1 m.2.2.1 m.2.2.2 p)) (t != u)),.c (gl (.int .i64 0))] else .tup [.row zM,.c (gl (.int .i64 4))]):=by
 refine⟨Tr.enters_of Tryz.func9 (by kernel_rfl),fun σ w A vs hR hA hbl _ hvs=>?_⟩
 obtain⟨n,us,hσ,hAn,hn,hus⟩:=hbl 0 _ _ rfl
 obtain⟨v,rfl,rfl⟩:∃ v,vs=[v]∧v=.slice (some ⟨n,0,none⟩) 2 2:=by
  match vs,hvs with
  | [v],h =>
   obtain⟨n',h1,h2⟩:=h.1
   rw[hσ] at h1; cases h1
   exact⟨v,rfl,h2⟩
 obtain⟨hu1,hu2⟩:=okg_take hus
 rw[mQ_len] at hu1 hu2
 have hl:us.length=66:=by have:=okg_size hus; rw[this]; rfl
 have hst1:cst t u m p [1]=(nm4 p,u != false):=by
  show cst1 t u m p (q1,false) 1=_
  unfold cst1
  rw[if_neg (by decide)]
  show(nm4 (stp u p.1 p.2.1 p.2.2.1 p.2.2.2 q1),_)=_
  rw[stp_q1]
 have hst2:cst t u m p [1,0]=(nm4 (stp t m.1 m.2.1 m.2.2.1 m.2.2.2 p),t != u):=by
  have:=cst_app t u m p [1] 0
  rw[show[1,0]=[1]++[0] from rfl,this,hst1]
  unfold cst1
  rw[if_pos rfl,nm4_id hp.2.1]
  cases u<;>rfl
 have hdd:dq (stp t m.1 m.2.1 m.2.2.1 m.2.2.2 p)≠⟨0,0⟩:=dq_stp hm.2.2 hp.2.2
 refine(compose2 (fun j=>if j=0 then mQ m t else mQ p u) (fun j=>if j=0 then mR m t else mR p u) (fun j=>if j=0 then us.take 33 else us.drop 33)
  (fun pre=>if pre=[] then sR else mR (cst t u m p pre).1 (cst t u m p pre).2)
  (fun pre=>if Sh4 (nm4 (cst t u m p pre).1) then mQ (nm4 (cst t u m p pre).1) (cst t u m p pre).2 else zM)
  (fun pre=>if Sh4 (nm4 (cst t u m p pre).1) then 0 else 4)
  (fun pre=>by split<;>rfl) (fun j=>by split<;>rfl) (fun pre=>by split<;>rfl) (fun j=>by split<;>rfl) ?_ (fun pre g hg=>?_) (fun pre vs W W' A h=>?_) (fun pre vs W A h=>?_)
  eStill (fun j=>?_) (fun pre j hl=>?_) (fun pre hl=>?_) (fun j=>?_) w A (hR rfl) hA n 0 2 (fun j=>?_) (fun W' hB j hj=>?_)).mono ?_
 · -- Told of what came first
  show(if Sh4 (nm4 (cst t u m p [1]).1) then(0:Int) else 4)=0
  rw[hst1,nm4_id hp.2.1,nm4_id hp.2.1,if_pos hp.1]
 ·split at hg
  ·exact(sR_clr g hg).1
  ·exact(mR_clr _ _ g hg).1
 ·split at h
  ·rw[if_pos (by assumption)]; exact okg_pure (mQ_pure _ _) h
  ·rw[if_neg (by assumption)]; exact okg_pure zM_pure h
 ·split at h
  ·rw[if_pos (by assumption)]; exact okg_clr sR_clr h
  ·rw[if_neg (by assumption)]; exact okg_clr (mR_clr _ _) h
 ·split
  ·exact eOpenOk m t hm
  ·exact eOpenOk p u hp
 ·obtain⟨z1,d1⟩:=cst_ok (t:=t) (u:=u) hm hp pre (by omega)
  have hne:¬pre++[j]=[]:=by simp
  simp only[if_neg hne]
  have key:SpecC Tryz.prog true 28 [.row (if j=0 then mR m t else mR p u),.row (mR (cst t u m p pre).1 (cst t u m p pre).2)] (.r (.row (mR (cst t u m p (pre++[j])).1 (cst t u m p (pre++[j])).2))):=by
   rw[cst_app]
   unfold cst1
   split
   ·exact eBeh t _ m.1 m.2.1 m.2.2.1 m.2.2.2 _ (hm.1.zl.mono (by decide)) z1 (dq_stp hm.2.2 d1)
   ·exact eBeh u _ p.1 p.2.1 p.2.2.1 p.2.2.2 _ (hp.1.zl.mono (by decide)) z1 (dq_stp hp.2.2 d1)
  by_cases e:pre=[]
  ·rw[if_pos e]
   subst e
   refine spec_arg key fun vs w A h=>?_
   match vs,h with
   | [_,_],h=>exact⟨h.1,by obtain⟨us,e,k⟩:=h.2.1; exact⟨us,e,sR_q1 k⟩,trivial⟩
  ·rw[if_neg e]; exact key
 ·obtain⟨z1,d1⟩:=cst_ok (t:=t) (u:=u) hm hp pre hl
  have key:SpecC Tryz.prog true 23 [.row (mR (cst t u m p pre).1 (cst t u m p pre).2)] (.tup [.row (if Sh4 (nm4 (cst t u m p pre).1) then mQ (nm4 (cst t u m p pre).1) (cst t u m p pre).2 else zM),.c (gx (.int .i64 (if Sh4 (nm4 (cst t u m p pre).1) then 0 else 4)))]):=by
   have k:=eTold (cst t u m p pre).2 (cst t u m p pre).1 z1 d1
   split
   ·exact k.t (by assumption)
   ·exact k.f (by assumption)
  by_cases e:pre=[]
  ·rw[if_pos e]
   subst e
   refine spec_arg key fun vs w A h=>?_
   match vs,h with
   | [_],h=>exact⟨by obtain⟨us,e,k⟩:=h.1; exact⟨us,e,sR_q1 k⟩,trivial⟩
  ·rw[if_neg e]; exact key
 ·split
  ·exact eCk m t hm
  ·exact eCk p u hp
 ·split
  ·exact hu1
  ·exact hu2
 ·have h33:((Tryz.prog).info? 29).map (·.size)=some 33:=by kernel_rfl
  have hn':W'.heap[n]?=some (.cells us.toArray 29 (0,0)):=(hB.block n (hA n hAn)).trans hn
  have k1:(us.take 33).toArray.size=33:=by simp[hl]
  have k2:(us.drop 33).toArray.size=33:=by simp[hl]
  have:j=0∨j=1:=by omega
  rcases this with rfl|rfl
  ·rw[if_pos rfl]; exact run_loadVar_part W' n (0+0*33) _ _ _ _ _ _ hn' Tryz.underlying29 rfl (by rw[h33,k1]) (by rw[k1]; rfl)
  ·rw[if_neg (by decide)]; exact run_loadVar_part W' n (0+1*33) _ _ _ _ _ _ hn' Tryz.underlying29 rfl (by rw[h33,k2]) (by rw[k2]; exact List.take_of_length_le (by simp[hl]))
 ·rintro e w' ⟨v,rfl,h1,h2⟩
  rw[hst2,nm4_id (nm4_nf hdd)] at h1 ⊢
  refine⟨_,rfl,?_,h2⟩
  split
  ·rename_i hs
   rw[if_pos hs] at h1
   refine⟨[v,_],rfl,?_,rfl,trivial⟩
   rcases h1 with h1|h1
   ·exact h1
   ·exact absurd (if_pos hs) h1.1
  ·rename_i hs
   rw[if_neg hs] at h1
   refine⟨[v,_],rfl,?_,rfl,trivial⟩
   rcases h1 with h1|h1
   ·exact h1
   ·exact⟨_,h1.2,(gfV_ok zM_ex).2 rfl⟩
end Go.Proofs.YtjlhiaafnpompaaGreat
namespace Go.Proofs.YtjlhiaafnpompaaGreat
open Go.RowKit Tr
open Classical
def slotsA(n:Nat)(l:List (Nat×AV)):List AV:=(List.range n).map fun i=>(l.lookup i).getD .junk
def blksA(n:Nat)(l:List (Nat×BK)):List BK:=(List.range n).map fun i=>(l.lookup i).getD .unborn
def cM(m:RawM):List GF:=m.a.cells++m.b.cells++m.c.cells++m.d.cells++[gx (.bool m.t)]
def oneM:RawM:=⟨rawQ ⟨1,0⟩,rawQ ⟨0,0⟩,rawQ ⟨0,0⟩,rawQ ⟨1,0⟩,false⟩
def rngL(rs:List (Nat×Nat×Nat)):List (Nat×Nat):=rs.flatMap fun r=>(List.range r.2.2).map fun k=>(r.1+k,r.2.1+k)
def rngOk(L L':List GF):List (Nat×Nat×Nat)→Prop
 | []=>True
 | r :: l=>(L.drop r.1).take r.2.2=(L'.drop r.2.1).take r.2.2∧rngOk L L' l
def litOk(L:List GF):List (LV×Nat)→Prop
 | []=>True
 | p :: l=>(L.getD p.2 g0).ex=some p.1.val∧litOk L l
theorem getD_rng{L L':List GF}{i j n k:Nat}(h:(L.drop i).take n=(L'.drop j).take n)(hk:k<n):L.getD (i+k) g0=L'.getD (j+k) g0:=by
 have e:=congrArg (fun l=>l[k]?) h
 simp only[List.getElem?_take,if_pos hk,List.getElem?_drop] at e
 simp only[List.getD_eq_getElem?_getD,e]
theorem rng_gives{L L':List GF}:∀{rs:List (Nat×Nat×Nat)},rngOk L L' rs→∀ p∈rngL rs,∀ v w A,gT L p.1 v w A→gT L' p.2 v w A
 | [],_,p,hp=>by simp[rngL] at hp
 | r :: rs,h,p,hp=>by
  intro v w A hv
  have hp':p∈(List.range r.2.2).map (fun k=>(r.1+k,r.2.1+k))++rngL rs:=by simpa[rngL] using hp
  rcases List.mem_append.1 hp' with hp|hp
  ·obtain⟨k,hk,rfl⟩:=List.mem_map.1 hp
   have:=getD_rng h.1 (List.mem_range.1 hk)
   show(L'.getD (r.2.1+k) g0).R v w A
   rw[←this]; exact hv
  ·exact rng_gives h.2 p hp v w A hv
theorem lit_gives{L':List GF}:∀{ls:List (LV×Nat)},litOk L' ls→∀ p∈ls,∀ w A,gT L' p.2 p.1.val w A
 | [],_,p,hp=>by simp at hp
 | q :: ls,h,p,hp=>by
  intro w A
  rcases List.mem_cons.1 hp with hp|hp
  ·subst hp; exact((L'.getD p.2 g0).exact _ h.1 _ w A).2 rfl
  ·exact lit_gives h.2 p hp w A
theorem gives_by{L L':List GF}{rs:List (Nat×Nat×Nat)}{ls:List (LV×Nat)}(h:rngOk L L' rs)(k:litOk L' ls):GivesBy (gT L) (gT L') (rngL rs) ls:=⟨rng_gives h,lit_gives k⟩
theorem i64_rem(t:TypeId)(a b:Nat)(hb:b≠0):∀(xo yo:Operand) (w:World),(do eqGuard .rem t xo yo (.int .i64 a) (.int .i64 b); binOp .rem t (.int .i64 a) (.int .i64 b):Sem Value).run Tryz.prog w=.ok (.int .i64 ((a % b:Nat):Int)) w:=by
 intro xo yo w
 have h3:((a:Int).tmod (b:Int))=((a % b:Nat):Int):=by rw[Int.ofNat_tmod]
 simp[eqGuard,binOp,Op.intDiv,hb]
 exact h3
theorem i64_inc(t:TypeId)(a:Nat)(ha:a≤1000):∀(xo yo:Operand) (w:World),(do eqGuard .add t xo yo (.int .i64 a) (.int .i64 1); binOp .add t (.int .i64 a) (.int .i64 1):Sem Value).run Tryz.prog w=.ok (.int .i64 ((a+1:Nat):Int)) w:=by
 intro xo yo w
 have hm:IntKind.i64.wrap ((a:Int)+1)=(a:Int)+1:=by
  simp[IntKind.wrap,IntKind.signed,IntKind.bits]
  omega
 simp[eqGuard,binOp,Op.intArith,hm]
def LTab(m x y:RawM)(n k:Nat)(e:Int):List GF:=[cM m,cM x,cM y,cM oneM,[gx (.int .i64 (n:Int)),gx (.int .i64 (k:Int)),gx (.int .i64 e),gx (.int .i64 ((k+1:Nat):Int)),gx (.int .i64 ((k % n:Nat):Int))]].flatten
theorem mOneC:SpecC Tryz.prog true 20 [] (.r (.row (cM oneM))):=mOne
def CTab(m x y:RawM)(n k:Nat)(e:Int)(h:SpecM Tryz.prog true 9 [(cM m++cM x,29)] [.sl 0 0 2 2] (.tup [.row (cM y),.c (gx (.int .i64 e))])):List (GC Tryz.prog (LTab m x y n k e) true) :=
  [gs mOneC [] (.r (.row (syms 99 33))),
   gsm h [38] [⟨flA [syms 0 33,syms 33 33],29,none⟩] [.c (.sl 0 0 2 2)] (.tup [.row (syms 66 33),.c (.sym 134)]),gs lknown [] (.r (.c (.lit (.bool true))))]
def BTab(m x y:RawM)(n k:Nat)(e:Int)(hk:k≤1000)(b1 b2 b3 b5 b6:Bool)(h1:b1=true↔k≤12)(h2:b2=true↔x=oneM)(h3:b3=true↔0<n)(h5:b5=true↔e≠0)(h6:b6=true↔e=4):List (GB Tryz.prog (LTab m x y n k e)) :=
  [bI .leq 3 (.sym 133) (.lit (.int .i64 12)) (k:Int) 12 b1 (by simp only[cmpB]; congr 1; rw[Bool.eq_iff_iff,decide_eq_true_eq,h1]; omega),
   bM (.row (syms 33 33)) (.row (syms 99 33)) x oneM b2 h2,
   bI .gtr 3 (.sym 132) (.lit (.int .i64 0)) (n:Int) 0 b3 (by simp only[cmpB]; congr 1; rw[Bool.eq_iff_iff,decide_eq_true_eq,h3]; omega),gbNeb 4 Tryz.underlying4 true true,gbNeb 4 Tryz.underlying4 false false,
   bI .neq 31 (.sym 134) (.lit (.int .i64 0)) e 0 b5 (by simp only[cmpB]; congr 1; rw[Bool.eq_iff_iff,h5]; simp),
   bI .eql 31 (.sym 134) (.lit (.int .i64 4)) e 4 b6 (by simp only[cmpB]; congr 1; rw[Bool.eq_iff_iff,h6]; simp),gb .add 3 (.c (.sym 133)) (.c (.lit (.int .i64 1))) (.sym 135) (i64_inc _ k hk) (by kernel_rfl) (by kernel_rfl) (by kernel_rfl)]
def RTab(m x y:RawM)(n k:Nat)(e:Int)(hn:n≠0)(b4:Bool)(h4:b4=true↔k % n=0):List (GB Tryz.prog (LTab m x y n k e)) :=
  [gb .rem 3 (.c (.sym 133)) (.c (.sym 132)) (.sym 136) (i64_rem _ k n hn) (by kernel_rfl) (by kernel_rfl) (by kernel_rfl),
   bI .eql 3 (.sym 136) (.lit (.int .i64 0)) ((k % n:Nat):Int) 0 b4 (by simp only[cmpB]; congr 1; rw[Bool.eq_iff_iff,h4]; simp; omega)]
noncomputable def lawF:Func:=Tryz.f4
noncomputable def c16:Code:=tailOf 16 (tailOf 4 (bodyOf lawF))
def invA:AS:={ tmps:=slotsA 177 [(2,.r (.c (.own 0 0))),(13,.r (.c (.sym 132))),(15,.r (.c (.own 19 0))),(16,.r (.c (.sym 133)))],blocks:=blksA 22 [(0,.live ⟨syms 0 33,29,none⟩),(19,.live ⟨syms 33 33,29,none⟩)] }
abbrev CompC(m x y:RawM)(e:Int):Prop:=SpecM Tryz.prog true 9 [(cM m++cM x,29)] [.sl 0 0 2 2] (.tup [.row (cM y),.c (gx (.int .i64 e))])
structure Stg where
 m:RawM
 n:Nat
 k:Nat
 x:RawM
 y:RawM
 e:Int
 hk:k≤1000
 h:CompC m x y e
abbrev Stg.L(s:Stg):List GF:=LTab s.m s.x s.y s.n s.k s.e
noncomputable def Stg.B(s:Stg):List (GB Tryz.prog s.L):=BTab s.m s.x s.y s.n s.k s.e s.hk (decide (s.k≤12)) (decide (s.x=oneM)) (decide (0<s.n)) (decide (s.e≠0)) (decide (s.e=4)) decide_eq_true_iff decide_eq_true_iff decide_eq_true_iff decide_eq_true_iff decide_eq_true_iff
noncomputable def Stg.cx(s:Stg)(R:List (GB Tryz.prog s.L)):Cx:=gcx tys true s.L (CTab s.m s.x s.y s.n s.k s.e s.h) (s.B++R) []
theorem Stg.ok(s:Stg)(R:List (GB Tryz.prog s.L)):CxOk Tryz.prog (gT s.L) (s.cx R):=gcx_ok tys_ok _ _ _
def onR:List (Nat×Nat):=rngL [(0,0,33),(66,33,33),(132,132,1),(135,133,1)]
def offR:List (Nat×Nat):=rngL [(0,0,33),(132,33,1)]
def postX:AS:={ tmps:=slotsA 177 [(2,.r (.c (.own 0 0))),(13,.r (.c (.sym 33)))],blocks:=blksA 1 [(0,.live ⟨syms 0 33,29,none⟩)] }
def postR:AS:={ tmps:=slotsA 177 [(4,.r (.c (.lit (.bool true))))],blocks:=[] }
section
variable(m x y:RawM)(n k:Nat)(e:Int)(hk:k≤1000)(h:CompC m x y e)(b1 b2 b3 b5 b6:Bool)(h1:b1=true↔k≤12)(h2:b2=true↔x=oneM)(h3:b3=true↔0<n)(h5:b5=true↔e≠0)(h6:b6=true↔e=4)
theorem goN(hn:n≠0)(b4:Bool)(h4:b4=true↔k % n=0)(g1:b1=true)(g2:b2=b4)(g3:b3=true)(g5:b5=false) :
  goesOn (gcx tys true (LTab m x y n k e) (CTab m x y n k e h) (BTab m x y n k e hk b1 b2 b3 b5 b6 h1 h2 h3 h5 h6++RTab m x y n k e hn b4 h4) []) 2000 (loopOf c16) invA onR []=true:=by
 subst g1; subst g2; subst g3; subst g5
 cases b2<;>kernel_rfl
theorem goZ(R:List (GB Tryz.prog (LTab m x y n k e)))(g1:b1=true)(g2:b2=false)(g3:b3=false)(g5:b5=false) :
  goesOn (gcx tys true (LTab m x y n k e) (CTab m x y n k e h) (BTab m x y n k e hk b1 b2 b3 b5 b6 h1 h2 h3 h5 h6++R) []) 2000 (loopOf c16) invA onR []=true:=by
 subst g1; subst g2; subst g3; subst g5
 kernel_rfl
theorem outX(R:List (GB Tryz.prog (LTab m x y n k e)))(g1:b1=false) :
  leaves (gcx tys true (LTab m x y n k e) (CTab m x y n k e h) (BTab m x y n k e hk b1 b2 b3 b5 b6 h1 h2 h3 h5 h6++R) []) 2000 (loopOf c16) invA 2 postX offR []=true:=by
 subst g1
 kernel_rfl
theorem outN(hn:n≠0)(b4:Bool)(h4:b4=true↔k % n=0)(g1:b1=true)(g2:b2=b4)(g3:b3=true)(g5:b5=true)(g6:b6=true) :
  leavesR (gcx tys true (LTab m x y n k e) (CTab m x y n k e h) (BTab m x y n k e hk b1 b2 b3 b5 b6 h1 h2 h3 h5 h6++RTab m x y n k e hn b4 h4) []) 2000 (loopOf c16) invA postR [] []=true:=by
 subst g1; subst g2; subst g3; subst g5; subst g6
 cases b2<;>kernel_rfl
theorem outZ(R:List (GB Tryz.prog (LTab m x y n k e)))(g1:b1=true)(g2:b2=false)(g3:b3=false)(g5:b5=true)(g6:b6=true) :
  leavesR (gcx tys true (LTab m x y n k e) (CTab m x y n k e h) (BTab m x y n k e hk b1 b2 b3 b5 b6 h1 h2 h3 h5 h6++R) []) 2000 (loopOf c16) invA postR [] []=true:=by
 subst g1; subst g2; subst g3; subst g5; subst g6
 kernel_rfl
end
noncomputable def Stg.R(s:Stg):List (GB Tryz.prog s.L):=if hn:s.n≠0 then RTab s.m s.x s.y s.n s.k s.e hn (decide (s.k % s.n=0)) decide_eq_true_iff else[]
theorem Stg.R_pos(s:Stg)(hn:s.n≠0):s.R=RTab s.m s.x s.y s.n s.k s.e hn (decide (s.k % s.n=0)) decide_eq_true_iff:=dif_pos hn
theorem Stg.R_neg(s:Stg)(hn:¬s.n≠0):s.R=[]:=dif_neg hn
theorem Stg.go(s:Stg)(k1:s.k≤12)(k2:s.x=oneM↔0<s.n∧s.k % s.n=0)(k3:s.e=0):goesOn (s.cx s.R) 2000 (loopOf c16) invA onR []=true:=by
 by_cases hn:s.n≠0
 ·rw[s.R_pos hn]
  exact goN _ _ _ _ _ _ _ _ _ _ _ _ _ _ _ _ _ _ hn _ _ (decide_eq_true k1) (by rw[decide_eq_decide,k2]; exact⟨fun h=>h.2,fun h=>⟨by omega,h⟩⟩) (decide_eq_true (by omega)) (decide_eq_false (fun h=>h k3))
 ·rw[s.R_neg hn]
  exact goZ _ _ _ _ _ _ _ _ _ _ _ _ _ _ _ _ _ _ _ (decide_eq_true k1) (decide_eq_false (fun h=>by have:=(k2.1 h).1; omega)) (decide_eq_false (by omega)) (decide_eq_false (fun h=>h k3))
theorem Stg.off(s:Stg)(k1:¬s.k≤12):leaves (s.cx s.R) 2000 (loopOf c16) invA 2 postX offR []=true :=
 outX _ _ _ _ _ _ _ _ _ _ _ _ _ _ _ _ _ _ _ (decide_eq_false k1)
theorem Stg.ret(s:Stg)(k1:s.k≤12)(k2:s.x=oneM↔0<s.n∧s.k % s.n=0)(k3:s.e=4):leavesR (s.cx s.R) 2000 (loopOf c16) invA postR [] []=true:=by
 have e5:decide (s.e≠0)=true:=decide_eq_true (by omega)
 by_cases hn:s.n≠0
 ·rw[s.R_pos hn]
  exact outN _ _ _ _ _ _ _ _ _ _ _ _ _ _ _ _ _ _ hn _ _ (decide_eq_true k1) (by rw[decide_eq_decide,k2]; exact⟨fun h=>h.2,fun h=>⟨by omega,h⟩⟩) (decide_eq_true (by omega)) e5 (decide_eq_true k3)
 ·rw[s.R_neg hn]
  exact outZ _ _ _ _ _ _ _ _ _ _ _ _ _ _ _ _ _ _ _ (decide_eq_true k1) (decide_eq_false (fun h=>by have:=(k2.1 h).1; omega)) (decide_eq_false (by omega)) e5 (decide_eq_true k3)
def L16(m:RawM)(n:Nat)(q:Int):List GF:=[cM m,[gx (.int .i64 (n:Int)),gx (.int .i64 q)]].flatten
def preA:AS:={ tmps:=slotsA 177 [(2,.r (.c (.own 0 0))),(13,.r (.c (.sym 33))),(15,.r (.c (.own 19 0))),(16,.r (.c (.lit (.int .i64 1))))],blocks:=blksA 22 [(0,.live ⟨syms 0 33,29,none⟩),(19,.live ⟨syms 0 33,29,none⟩)] }
def kX:LC:=⟨21,preA,.exit 2,postX⟩
def kR:LC:=⟨21,preA,.ret,postR⟩
def in0:List (Nat×Nat):=rngL [(0,0,33),(0,33,33),(33,132,1)]
def li0:List (LV×Nat):=[(.int .i64 1,133)]
theorem in_gives(m:RawM)(n:Nat)(q:Int)(s:Stg)(h1:s.m=m)(h2:s.x=m)(h3:s.n=n)(h4:s.k=1):GivesBy (gT (L16 m n q)) (gT s.L) in0 li0:=by
 obtain⟨m',n',k,x,y,e,hk,h⟩:=s
 simp only at h1 h2 h3 h4
 subst h1; subst h2; subst h3; subst h4
 exact gives_by ⟨by kernel_rfl,by kernel_rfl,by kernel_rfl,trivial⟩ ⟨by kernel_rfl,trivial⟩
theorem on_gives(s r:Stg)(h1:r.m=s.m)(h2:r.x=s.y)(h3:r.n=s.n)(h4:r.k=s.k+1):GivesBy (gT s.L) (gT r.L) onR []:=by
 obtain⟨m,n,k,x,y,e,hk,h⟩:=s
 obtain⟨m',n',k',x',y',e',hk',h'⟩:=r
 simp only at h1 h2 h3 h4
 subst h1; subst h2; subst h3; subst h4
 exact gives_by ⟨by kernel_rfl,by kernel_rfl,by kernel_rfl,by kernel_rfl,trivial⟩ trivial
theorem off_gives(m:RawM)(n:Nat)(q:Int)(s:Stg)(h1:s.m=m)(h3:s.n=n):GivesBy (gT s.L) (gT (L16 m n q)) offR []:=by
 obtain⟨m',n',k,x,y,e,hk,h⟩:=s
 simp only at h1 h3
 subst h1; subst h3
 exact gives_by ⟨by kernel_rfl,by kernel_rfl,trivial⟩ trivial
theorem table16(m:RawM)(n:Nat)(q:Int):TOk (gT (L16 m n q)) (gI (L16 m n q)):=(gcx_ok (P:=Tryz.prog) (hp:=true) (tys:=[]) (fun p hp=>by cases hp) [] [] []).table
theorem inv_ok(s:Stg)(R:List (GB Tryz.prog s.L)):blocksOk (s.cx R) invA=true:=by
 obtain⟨m,n,k,x,y,e,hk,h⟩:=s
 kernel_rfl
theorem loop12(m:RawM)(n:Nat)(q:Int)(s:Nat→Stg)(hm:∀ i,(s i).m=m)(hn:∀ i,(s i).n=n)(hk:∀ i,i≤12→(s i).k=i+1)(h0:(s 0).x=m)(hx:∀ i,i<12→(s (i+1)).x=(s i).y)(he:∀ i,i<12→(s i).e=0)
  (ho:∀ i,i<12→((s i).x=oneM↔0<n∧(i+1) % n=0)) (cx0:Cx) (hi:cx0.ints=gI (L16 m n q)) (hh:cx0.hp=true):kX.Ok Tryz.prog (gT (L16 m n q)) cx0 (loopOf c16):=by
 refine loop_ok (ι:=Fin 13) (by rw[hi]; exact table16 m n q) mixed (id:=2) rfl (fun i=>gT (s i).L) (fun i=>(s i).cx (s i).R) (fun i=>(s i).ok _) (fun i=>by rw[hh]; rfl) (fun i=>rfl) invA (by kernel_rfl) (fun i=>inv_ok _ _) (by kernel_rfl) ?_ 2000 (fun i=>12 - i.val)
  0 in0 li0 (by kernel_rfl) (in_gives m n q (s 0) (hm 0) h0 (hn 0) (hk 0 (by omega))) ?_
 ·have:blocksOk cx0 postX=blocksOk (gcx (P:=Tryz.prog) [] true (L16 m n q) [] [] []) postX:=by unfold blocksOk; rw[okCells_cx (cx':=cx0) (cx:=gcx (P:=Tryz.prog) [] true (L16 m n q) [] [] []) hh hi]
  show blocksOk cx0 postX=true
  rw[this]; kernel_rfl
 ·intro i
  by_cases h:i.val<12
  ·refine .inl ⟨⟨i.val+1,by omega⟩,onR,[],(s i).go (by rw[hk _ (by omega)]; omega) (by rw[hn,hk _ (by omega)]; exact ho i h) (he i h),on_gives _ _ (by rw[hm,hm]) (hx i h) (by rw[hn,hn]) (by rw[hk _ (by omega),hk _ (by omega)]),?_⟩
   show 12 - (i.val+1)<12 - i.val
   omega
  ·exact .inr ⟨offR,[],(s i).off (by rw[hk _ (by omega)]; omega),off_gives m n q _ (hm _) (hn _)⟩
theorem loopBig(m:RawM)(n:Nat)(q:Int)(s:Nat→Stg)(J:Nat)(hJ:J<12)(hm:∀ i,(s i).m=m)(hn:∀ i,(s i).n=n)(hk:∀ i,i≤12→(s i).k=i+1)(h0:(s 0).x=m)(hx:∀ i,i<J→(s (i+1)).x=(s i).y)(he:∀ i,i<J→(s i).e=0)(hJe:(s J).e=4)
  (ho:∀ i,i≤J→((s i).x=oneM↔0<n∧(i+1) % n=0)) (cx0:Cx) (hi:cx0.ints=gI (L16 m n q)) (hh:cx0.hp=true):kR.Ok Tryz.prog (gT (L16 m n q)) cx0 (loopOf c16):=by
 refine loopR_ok (ι:=Fin (J+1)) (by rw[hi]; exact table16 m n q) mixed rfl (fun i=>gT (s i).L) (fun i=>(s i).cx (s i).R) (fun i=>(s i).ok _) (fun i=>by rw[hh]; rfl) (fun i=>rfl) invA (by kernel_rfl) (fun i=>inv_ok _ _) (by kernel_rfl) rfl 2000 (fun i=>J - i.val)
  0 in0 li0 (by kernel_rfl) (in_gives m n q (s 0) (hm 0) h0 (hn 0) (hk 0 (by omega))) ?_
 intro i
 by_cases h:i.val<J
 ·refine .inl ⟨⟨i.val+1,by omega⟩,onR,[],(s i).go (by rw[hk _ (by omega)]; omega) (by rw[hn,hk _ (by omega)]; exact ho i (by omega)) (he i h),on_gives _ _ (by rw[hm,hm]) (hx i h) (by rw[hn,hn]) (by rw[hk _ (by omega),hk _ (by omega)]),?_⟩
  show J - (i.val+1)<J - i.val
  omega
 ·have e:i.val=J:=by omega
  refine .inr ⟨[],[],(s i).ret (by rw[hk _ (by omega)]; omega) (by rw[hn,hk _ (by omega)]; exact ho i (by omega)) (by rw[e]; exact hJe),⟨fun p hp=>(by cases hp),fun p hp=>(by cases hp)⟩⟩
end Go.Proofs.YtjlhiaafnpompaaGreat
namespace Go.Proofs.YtjlhiaafnpompaaGreat
open Go.RowKit Tr
open Classical
def mid16:AS:={ tmps:=slotsA 177 [(2,.r (.c (.own 0 0)))],blocks:=blksA 1 [(0,.live ⟨syms 0 33,29,none⟩)] }
def TR:FV:=.r (.c (gl (.bool true)))
section
variable(m:RawM)(n:Nat)(q:Int)
def C16(HN:SpecC Tryz.prog true 12 [.row (cM m)] (.tup [.c (gx (.int .i64 (n:Int))),.c (gl (.int .i64 0))]))(HK:SpecC Tryz.prog true 11 [.row (cM m)] (.tup [.c (gx (.int .i64 q)),.c (gl (.int .i64 0))])):List (GC Tryz.prog (L16 m n q) true) :=
  [gs HN [.row (syms 0 33)] (.tup [.c (.sym 33),.c (.lit (.int .i64 0))]),gs HK [.row (syms 0 33)] (.tup [.c (.sym 34),.c (.lit (.int .i64 0))]),gs lknown [] (.r (.c (.lit (.bool true))))]
def B16(hn:n≤12)(b6 b7 b8 b9:Bool)(h6:b6=true↔q=6)(h6t:b6=m.t)(h7:b7=true↔n=1)(h7q:b7=true↔q=1)(h8:b8=true↔n<2)(h9:b9=true↔q=3):List (GB Tryz.prog (L16 m n q)) :=
  [bI .lss 3 (.sym 33) (.lit (.int .i64 0)) (n:Int) 0 false (congrArg some (decide_eq_false (by omega))),
   bI .gtr 3 (.sym 33) (.lit (.int .i64 12)) (n:Int) 12 false (congrArg some (decide_eq_false (by omega))),
   bI .eql 39 (.sym 34) (.lit (.int .i64 6)) q 6 b6 (by simp only[cmpB]; congr 1; rw[Bool.eq_iff_iff,h6]; simp),gb .eql 4 (.c (.lit (.bool b6))) (.c (.sym 32)) (.lit (.bool true)) (bool_eql Tryz.underlying4 b6 m.t true (by rw[h6t]; simp)) (by kernel_rfl) (by kernel_rfl) (by kernel_rfl),
   bI .eql 3 (.sym 33) (.lit (.int .i64 1)) (n:Int) 1 b7 (by simp only[cmpB]; congr 1; rw[Bool.eq_iff_iff,h7]; first|(simp; done)|(simp; omega)),
   bI .eql 39 (.sym 34) (.lit (.int .i64 1)) q 1 b7 (by simp only[cmpB]; congr 1; rw[Bool.eq_iff_iff,h7q]; simp),gbEqb 4 Tryz.underlying4 true true,gbEqb 4 Tryz.underlying4 false false,
   bI .lss 3 (.sym 33) (.lit (.int .i64 2)) (n:Int) 2 b8 (by simp only[cmpB]; congr 1; rw[Bool.eq_iff_iff,h8]; first|(simp; done)|(simp; omega)),
   bI .eql 39 (.sym 34) (.lit (.int .i64 3)) q 3 b9 (by simp only[cmpB]; congr 1; rw[Bool.eq_iff_iff,h9]; simp)]
theorem loops16:loopsOf c16=[loopOf c16]:=by kernel_rfl
theorem cut_one{T:Nat→Fact}{cx:Cx}{k:LC}(h:k.Ok Tryz.prog T cx (loopOf c16))(hc:cx.cuts=[k]):∀ x∈loopsOf c16,∀ j∈cx.cuts,Tr.keyOf x=some j.key→j.Ok Tryz.prog T cx x:=by
 intro x hx j hj _
 rw[loops16] at hx
 rw[hc] at hj
 rw[List.mem_singleton] at hx hj
 subst hx; subst hj
 exact h
theorem tailX0(hn:n≤12)(HN:SpecC Tryz.prog true 12 [.row (cM m)] (.tup [.c (gx (.int .i64 (n:Int))),.c (gl (.int .i64 0))]))(HK:SpecC Tryz.prog true 11 [.row (cM m)] (.tup [.c (gx (.int .i64 q)),.c (gl (.int .i64 0))]))(b6 b7 b8 b9:Bool)(h6:b6=true↔q=6)(h6t:b6=m.t)(h7:b7=true↔n=1)(h7q:b7=true↔q=1)(h8:b8=true↔n<2)(h9:b9=true↔q=3)(hb:(b8 || b9 || b6)=true) :
  endsB (gcl tys true (L16 m n q) (C16 m n q HN HK) (B16 m n q hn b6 b7 b8 b9 h6 h6t h7 h7q h8 h9) [] [kX]) lawF 2000 c16 mid16 (.r (.c (.lit (.bool true))))=true:=by
 cases b8
 ·cases b9
  ·cases b6
   ·cases hb
   ·cases b7<;>kernel_rfl
  ·cases b6<;>cases b7<;>kernel_rfl
 ·cases b6<;>cases b7<;>kernel_rfl
theorem tailX(hn:n≤12)(HN:SpecC Tryz.prog true 12 [.row (cM m)] (.tup [.c (gx (.int .i64 (n:Int))),.c (gl (.int .i64 0))]))(HK:SpecC Tryz.prog true 11 [.row (cM m)] (.tup [.c (gx (.int .i64 q)),.c (gl (.int .i64 0))]))(h6:q=6↔m.t=true)(h7:n=1↔q=1)(h8:n<2∨q=3∨m.t=true)(H:∀ cx0:Cx,cx0.ints=gI (L16 m n q)→cx0.hp=true→kX.Ok Tryz.prog (gT (L16 m n q)) cx0 (loopOf c16)):Part Tryz.prog lawF true TR (L16 m n q) mid16 c16:=by
 refine part_end (cx:=gcl tys true (L16 m n q) (C16 m n q HN HK) (B16 m n q hn m.t (decide (n=1)) (decide (n<2)) (decide (q=3)) h6.symm rfl decide_eq_true_iff (decide_eq_true_iff.trans h7) decide_eq_true_iff decide_eq_true_iff) [] [kX]) (gcl_ok tys_ok _ _ _ _) mixed rfl rfl ?_ (cut_one (H _ rfl rfl) rfl) 2000 (.r (.c (.lit (.bool true)))) ?_ rfl
 ·kernel_rfl
 ·refine tailX0 m n q hn HN HK _ _ _ _ _ _ _ _ _ _ ?_
  rcases h8 with h|h|h<;>simp[h]
theorem tailR0(hn:n≤12)(HN:SpecC Tryz.prog true 12 [.row (cM m)] (.tup [.c (gx (.int .i64 (n:Int))),.c (gl (.int .i64 0))]))(HK:SpecC Tryz.prog true 11 [.row (cM m)] (.tup [.c (gx (.int .i64 q)),.c (gl (.int .i64 0))]))(b6 b7 b8 b9:Bool)(h6:b6=true↔q=6)(h6t:b6=m.t)(h7:b7=true↔n=1)(h7q:b7=true↔q=1)(h8:b8=true↔n<2)(h9:b9=true↔q=3) :
  endsB (gcl tys true (L16 m n q) (C16 m n q HN HK) (B16 m n q hn b6 b7 b8 b9 h6 h6t h7 h7q h8 h9) [] [kR]) lawF 2000 c16 mid16 (.r (.c (.lit (.bool true))))=true:=by
 kernel_rfl
theorem tailR(hn:n≤12)(HN:SpecC Tryz.prog true 12 [.row (cM m)] (.tup [.c (gx (.int .i64 (n:Int))),.c (gl (.int .i64 0))]))(HK:SpecC Tryz.prog true 11 [.row (cM m)] (.tup [.c (gx (.int .i64 q)),.c (gl (.int .i64 0))]))(h6:q=6↔m.t=true)(h7:n=1↔q=1)(H:∀ cx0:Cx,cx0.ints=gI (L16 m n q)→cx0.hp=true→kR.Ok Tryz.prog (gT (L16 m n q)) cx0 (loopOf c16)):Part Tryz.prog lawF true TR (L16 m n q) mid16 c16:=by
 refine part_end (cx:=gcl tys true (L16 m n q) (C16 m n q HN HK) (B16 m n q hn m.t (decide (n=1)) (decide (n<2)) (decide (q=3)) h6.symm rfl decide_eq_true_iff (decide_eq_true_iff.trans h7) decide_eq_true_iff decide_eq_true_iff) [] [kR]) (gcl_ok tys_ok _ _ _ _) mixed rfl rfl ?_ (cut_one (H _ rfl rfl) rfl) 2000 (.r (.c (.lit (.bool true)))) ?_ rfl
 ·kernel_rfl
 ·exact tailR0 m n q hn HN HK _ _ _ _ _ _ _ _ _ _
end
end Go.Proofs.YtjlhiaafnpompaaGreat
