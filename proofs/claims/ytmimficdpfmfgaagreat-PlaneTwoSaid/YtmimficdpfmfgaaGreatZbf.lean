/- Laws for the walk. -/
import Derived.Test.YtmimficdpfmfgaaGreatZbb
import Derived.Test.YtmimficdpfmfgaaGreatZbe
set_option linter.unusedVariables false
set_option maxHeartbeats 4000000
namespace Tr
open Go Go.RowKit
def enterG(fn:Func)(ab:AB)(args:List AR):AS:={ tmps:=args.map AV.r++List.replicate (fn.ntmps - args.length) .undf,blocks:=[.live ab] }
def evG(cx:Cx)(fn:Func)(fuel:Nat)(ab:AB)(args:List AR)(res:AV):Bool :=
 res.noown && (okCells cx ab.cells && ab.more.isNone) &&
 match fn.body with
 | some c=>match evC cx fuel c (enterG fn ab args) with
  | some (.exit _,_)=>false
  | some (_,s)=>(match resA cx fn s with|some r=>r.beq res|none=>false)
  | none=>false
 | none=>false
section
variable{P:Program}{T:Nat→Fact}{cx:Cx}
theorem ev_give(C:CxOk P T cx)(hm:P.follows .mixedOrders=true)(hcu:cx.cuts=[]){f:FuncId}{fn:Func}(hf:P.funcs[f]?=some fn){ab:AB}{args:List AR}{res:AV}(fuel:Nat)(hev:evG cx fn fuel ab args res=true)(hdf:cx.dfs=[])
  (σ:Sg) (w:World) (A:Nat→Prop) (vs:List Value) (hR:cx.hp=true→Rcv A w) (hA:∀ n,A n→n<w.heap.size) (hargs:okr T σ args vs w A) {n:Nat} {us:List Value} (hn:σ 0=some n) (hAn:A n) (hh:w.heap[n]?=some (.cells us.toArray ab.ty (0,0))) (hu:oks T σ ab.cells us w A) (hbey:∀ b,1≤b→σ b=none) :
  Calls P f vs.toArray w fun r w'=>∃ v,r=.returned v∧res.ok T σ v w' (fun x=>A x∧x≠n)∧Mod n w w':=by
 unfold evG at hev
 simp only[Bool.and_eq_true,Option.isNone_iff_eq_none] at hev
 obtain⟨⟨hnr,hbo,hmo⟩,hev⟩:=hev
 cases hb:fn.body with
 | none=>simp[hb] at hev
 | some c =>
  simp only[hb] at hev
  refine calls_of_wp hf hb ?_
  have hlen:=hargs.length
  have hl1:∀(b:Nat) (x:AB),([.live ab]:List BK)[b]?=some (.live x)→b=0∧x=ab:=fun b x h=>by
   match b,h with
   | 0,h=>cases h; exact⟨rfl,rfl⟩
   | b+1,h=>simp at h
  have hAl:Al (fun x=>A x∧x≠n) σ [.live ab]=A:=by
   funext m; unfold Al
   refine propext ⟨?_,fun h=>?_⟩
   ·rintro(h|⟨b,x,h,h2⟩)
    ·exact h.1
    ·obtain⟨rfl,rfl⟩:=hl1 b x h
     rw[hn] at h2; cases h2; exact hAn
   ·by_cases e:m=n
    ·subst e; exact .inr ⟨0,ab,rfl,hn⟩
    ·exact .inl ⟨h,e⟩
  have R0:Rel T cx (fun x=>A x∧x≠n) (fun x=>x=n) w σ0 σ (enterG fn ab args) { tmps:=vs.toArray++Array.replicate (fn.ntmps - vs.toArray.size) undef,defers:=[] } w:=by
   refine⟨?_,?_,hdf.symm,fun b x h=>?_,fun b x h=>?_,fun b c m x y h1 h2 _ _=>?_,fun b h=>?_,fun b h=>?_,BelowM.refl _ _ _,fun h m hm'=>hR h m hm'.1,fun m h=>hA m h.1,fun m h e=>h.2 e,fun m e=>by subst e; exact hA _ hAn,Sub.zero _⟩
   ·simp[enterG,hlen]
   ·show ∀ i (av:AV),(args.map AV.r++List.replicate (fn.ntmps - args.length) AV.undf)[i]?=some av→av.ok T _ _ w (Al (fun x=>A x∧x≠n) σ [.live ab])
    rw[hAl]
    have:fn.ntmps - vs.toArray.size=fn.ntmps - args.length:=by simp[hlen]
    rw[this]
    exact okr_slots hargs
   ·obtain⟨rfl,rfl⟩:=hl1 b x h
    refine⟨n,hn,.inr rfl,?_⟩
    show LiveOk T cx σ (Al (fun x=>A x∧x≠n) σ [.live x]) w 0 x n
    rw[hAl]
    exact⟨us,[],by simpa using hh,hu,hbo,by simp,by simp,by rw[hmo]⟩
   ·have h':([.live ab]:List BK)[b]?=some (.lent x):=h
    match b,h' with
    | 0,h'=>cases h'
    | b+1,h'=>simp at h'
   ·rw[(hl1 b x h1).1,(hl1 c y h2).1]
   ·have h':([.live ab]:List BK)[b]?=some .unborn:=h
    match b,h' with
    | 0,h'=>cases h'
    | b+1,h'=>simp at h'
   ·exact hbey b (by simpa[enterG] using h)
  have fin:∀(σ':Sg) (s1:AS) (a':Act) (w':World),Rel T cx (fun x=>A x∧x≠n) (fun x=>x=n) w σ0 σ' s1 a' w'→(match resA cx fn s1 with|some r=>r.beq res|none=>false)=true →
    a'.defers=[]∧∃ v,(results fn a'.tmps).run P w'=.ok v w'∧∃ u,Ending.returned v=.returned u∧res.ok T σ u w' (fun x=>A x∧x≠n)∧Mod n w w':=fun σ' s1 a' w' R' hr=>by
   cases hx:resA cx fn s1 with
   | none=>simp[hx] at hr
   | some r =>
    simp only[hx] at hr
    have:=AV.eq_of hr
    subst this
    obtain⟨v,e1,e2⟩:=resA_ok C R' hx
    refine⟨R'.defers.trans hdf,v,e1,v,rfl,?_,⟨R'.below.os,R'.below.tape,R'.below.output,R'.below.size,fun k hk hne=>R'.below.block k hk hne⟩⟩
    have h3:=AV.ok.keep (T:=T) (ints:=cx.ints) C.table (Sub.refl σ') (w:=w') (w':=w') (A:=Al (fun x=>A x∧x≠n) σ' s1.blocks) (A':=fun x=>A x∧x≠n) ⟨Nat.le_refl _,fun b _ h=>⟨rfl,fun h'=>h (.inl h')⟩⟩ e2
    exact AV.ok_noown hnr h3
  cases he:evC cx fuel c (enterG fn ab args) with
  | none=>simp[he] at hev
  | some p =>
   obtain⟨e,s1⟩:=p
   simp only[he] at hev
   refine(evC_sound C hm (.inl hcu) (fun k hk=>by rw[hcu] at hk; cases hk) fuel (fun y _ k hk=>by rw[hcu] at hk; cases hk) R0 he fun σ' a' w' R'=>?_).1
   cases e with
   | normal=>exact fin σ' s1 a' w' R' hev
   | ret=>exact fin σ' s1 a' w' R' hev
   | exit id=>cases hev
end
structure SpecG(P:Program)(hp:Bool)(f:FuncId)(bl:List GF×TypeId)(args:List FA)(res:FV):Prop where
 ent:Enters P f
 ok:∀(σ:Sg) (w:World) (A:Nat→Prop) (vs:List Value) (n:Nat) (us:List Value),(hp=true→Rcv A w)→(∀ n,A n→n<w.heap.size)→σ 0=some n→A n→w.heap[n]?=some (.cells us.toArray bl.2 (0,0))→okg bl.1 us w A→(∀ b,1≤b→σ b=none)→oka σ args vs w A →
  Calls P f vs.toArray w fun r w'=>∃ v,r=.returned v∧res.R v w' (fun x=>A x∧x≠n)∧Mod n w w'
section
variable{P:Program}{L:List GF}{hp:Bool}
theorem ev_gvi{tys:List (TypeId×TyI)}(ht:∀ p∈tys,p.2.good P p.1=true)(hm:P.follows .mixedOrders=true)(C:List (GC P L hp))(B:List (GB P L))(O:List (GO P L)){fs:List Fn}(hfs:FnsOk P fs)(width depth:Nat){f:FuncId}{fn:Func}(hf:P.funcs[f]?=some fn)(ent:Enters P f)(fuel:Nat)(ab:AB)(args:List AR)(res:AV)
  {gs:List GF} {ty:TypeId} {fa:List FA} {fr:FV} (hev:evG (upN (gcx tys hp L C B O) fs width depth) fn fuel ab args res=true:=by kernel_rfl) (hb:acsK L ab.cells=some gs:=by kernel_rfl) (hty:ab.ty=ty:=by rfl) (ha:arsL L args=some fa:=by kernel_rfl) (hr:res.lk L=some fr:=by kernel_rfl):SpecG P hp f (gs,ty) fa fr :=
 ⟨ent,fun σ w A vs n us hR hA hn hAn hh hu hbey hargs=>by
  subst hty
  refine(ev_give (upN_ok (gcx_ok ht C B O) hm rfl hfs width depth) hm (Qee rfl _ _ _) hf fuel hev ((upN_dfs _ fs width depth).trans rfl) σ w A vs (fun h=>hR (by rw[upN_hp] at h; exact h)) hA ((arsL_ok ha).2 hargs) hn hAn hh ((Qdx hb).2 hu) hbey).mono fun r w' ⟨v,h1,h2,h3⟩=>⟨v,h1,(AV.lk_ok hr).1 h2,h3⟩⟩
def gsG{hp' hp:Bool}{f:FuncId}{gs:List GF}{ty:TypeId}{fa:List FA}{fr:FV}(h:SpecG P hp' f (gs,ty) fa fr)(b:Nat)(ab:AB)(args:List AR)(res:AV)
  (hb:acsK L ab.cells=some gs:=by kernel_rfl) (hty:ab.ty=ty:=by rfl) (ha:arsL L args=some fa:=by kernel_rfl) (hr:res.lk L=some fr:=by kernel_rfl) (hc:(args.all (lowR 1) && ab.cells.all (lowC 1) && res.noown && (!hp' || hp))=true:=by kernel_rfl):GC P L hp :=
 ⟨{ f,args:=args.map (rnR [b]),res,needs:=[(b,rnB [b] ab)],give:=some b },h.ent,fun σ w A us hR hA hu hn=>by
  intro n hbn hAn
  subst hty
  simp only[Bool.and_eq_true] at hc
  obtain⟨⟨⟨hla,hlb⟩,hnr⟩,hh⟩:=hc
  obtain⟨⟨n',vs,k1,k2,k3,k4⟩,_⟩:=hn
  have e:n=n':=by
   have:=hbn.symm.trans k1
   cases this; rfl
  subst e
  let σ':Sg:=⟨fun k=>if k<1 then σ ([b].getD k 0) else none,fun _=>0⟩
  have hσ:∀ k,k<[b].length→σ' k=σ ([b].getD k 0):=fun k h=>if_pos h
  refine(h.ok σ' w A us n vs (fun e=>hR (by subst e; simpa using hh)) hA ((hσ 0 (by simp)).trans hbn) hAn k3 ((Qdx hb).1 (rnCs_ok hσ hlb k4)) (fun k hk=>if_neg (by omega)) ((arsL_ok ha).1 (rnRs_ok hσ hla hu))).mono fun r w' ⟨v,h1,h2,h3⟩=>⟨v,h1,AV.ok_noown hnr ((AV.lk_ok (σ:=σ') hr).2 h2),h3⟩⟩
end
end Tr
namespace Go.Proofs.YtmimficdpfmfgaaGreat
open Go.RowKit Tr
theorem Qaq{q:Rat}(h:¬q.num.sign=0):q≠0:=fun e=>h (by rw[e]; rfl)
theorem RL_dvd{x y:Rat}{k l:Nat}(h0:y≠0)(hx:RL x k)(hy:RL y l):RL (x / y) (k+l):=by rw[Rat.div_def]; exact RL_mul hx (RL_inv h0 hy)
structure RawM where
 a:Qcc
 b:Qcc
 c:Qcc
 d:Qcc
 t:Bool
def RawM.val(m:RawM):Value:=.agg (m.a.vals++m.b.vals++m.c.vals++m.d.vals++[Value.bool m.t]).toArray
theorem ite_both{α:Type}{p q:Prop}[Decidable p][Decidable q](a b:α):(if p then(if q then a else b) else b)=if p∧q then a else b:=by
 by_cases hp:p<;>by_cases hq:q<;>simp[hp,hq]
set_option maxRecDepth 100000 in
theorem run_eql_rm(w:World)(p q:RawM)(r:Bool)(hr:r=true↔p=q):(binOp .eql 30 p.val q.val).run Tryz.prog w=.ok (.bool r) w:=by
 obtain⟨⟨i1,i2,i3,i4,x1,x2,x3,x4⟩,⟨i5,i6,i7,i8,x5,x6,x7,x8⟩,⟨j1,j2,j3,j4,x9,x10,x11,x12⟩,⟨j5,j6,j7,j8,x13,x14,x15,x16⟩,t⟩:=p
 obtain⟨⟨k1,k2,k3,k4,y1,y2,y3,y4⟩,⟨k5,k6,k7,k8,y5,y6,y7,y8⟩,⟨l1,l2,l3,l4,y9,y10,y11,y12⟩,⟨l5,l6,l7,l8,y13,y14,y15,y16⟩,u⟩:=q
 simp only[RawM.val,Qcc.vals,List.cons_append,List.nil_append]
 simp only[RawM.mk.injEq,Qcc.mk.injEq,and_assoc] at hr
 go_simp
 simp only[toL_iff]
 cases r
 ·have hn:=mt hr.2 Bool.false_ne_true
  clear hr
  simp only[ite_both]
  rw[if_neg]
  rintro⟨rfl,rfl,rfl,rfl,rfl,rfl,rfl,rfl,rfl,rfl,rfl,rfl,rfl,rfl,rfl,rfl,rfl,rfl,rfl,rfl,rfl,rfl,rfl,rfl,rfl,rfl,rfl,rfl,rfl,rfl,rfl,rfl,rfl⟩
  exact hn (by simp)
 ·obtain⟨rfl,rfl,rfl,rfl,rfl,rfl,rfl,rfl,rfl,rfl,rfl,rfl,rfl,rfl,rfl,rfl,rfl,rfl,rfl,rfl,rfl,rfl,rfl,rfl,rfl,rfl,rfl,rfl,rfl,rfl,rfl,rfl,rfl⟩:=hr.1 rfl
  simp
def bM{L:List GF}(x y:AR)(p q:RawM)(r:Bool)(hr:r=true↔p=q)(hx:x.gv L=some p.val:=by kernel_rfl)(hy:y.gv L=some q.val:=by kernel_rfl):GB Tryz.prog L :=
 gb .eql 30 x y (.lit (.bool r)) (agg_eql (by kernel_rfl) (fun w=>run_eql_rm w p q r hr)) hx hy rfl
set_option maxRecDepth 100000 in
theorem NAdd_any(a b c d:Rat)(v v':Value)(A:Nat→Prop)(w:World)(hv:NumO a b v w A)(hv':NumO c d v' w A)(hA:Rcv A w)(k l:Nat)(hla:RL a k)(hlb:RL b k)(hlc:RL c l)(hld:RL d l)(hkl:k+l+(k+l)<137438953472) :
  Calls Tryz.prog 174 #[v,v'] w fun e w'=>∃ u,e=.returned u∧Below w.heap.size w w'∧NumO (a+c) (b+d) u w' A:=by
 obtain⟨u1,u2,rfl,h1,h2⟩:=hv
 obtain⟨u3,u4,rfl,h3,h4⟩:=hv'
 obtain⟨W,HV,hs1,hs2,e0,e1,e2,e3⟩:=box_two w u1 u2 u3 u4 A hA
 have h1:=new_more (RatO.keeps a) (n:=w.heap.size+2) HV.out.2.1 (by omega) h1
 have h2:=new_more (RatO.keeps b) (n:=w.heap.size+2) HV.out.2.1 (by omega) h2
 have h3:=new_more (RatO.keeps c) (n:=w.heap.size+2) HV.out.2.1 (by omega) h3
 have h4:=new_more (RatO.keeps d) (n:=w.heap.size+2) HV.out.2.1 (by omega) h4
 clear hA
 go_enter Tryz.func174,Tryz.ntmps174
 go_wp2_with fail
 rw[←HV.out.1]
 refine wp_region_inv [(.new zR,[]),(.lit,[]),(.lit,[]),(.val,[]),(.lit,[]),(.lit,[]),(.val,[]),(.on 0 zR,[3,6]),(.new zR,[]),(.lit,[]),(.lit,[]),(.val,[]),(.lit,[]),(.lit,[]),(.val,[]),(.on 8 zR,[11,14])]
  (pickF [(3,FactU (Mo A (w.heap.size+2)) (RatP (a))),(6,FactU (Mo A (w.heap.size+2)) (RatP (c))),(7,FactU (Mo A (w.heap.size+2)) (RatP (a+c))),(11,FactU (Mo A (w.heap.size+2)) (RatP (b))),(14,FactU (Mo A (w.heap.size+2)) (RatP (d))),(15,FactU (Mo A (w.heap.size+2)) (RatP (b+d)))]) (by kernel_rfl) ?_ ?_ (by simp[noW_zRat]) (by simp) (by kernel_rfl)
 ·exact keeps_pick (by simp only[List.mem_cons,List.not_mem_nil,or_false]; rintro p (rfl|rfl|rfl|rfl|rfl|rfl)<;>exact FactU.keeps (RatP.keeps _))
 ·refine⟨fun f w1=>by go_simp,?_⟩
  refine⟨_,fun f w1 h1=>by(have d0:=ct h1 hs1 e0; have d1:=ct h1 hs1 e1; have d2:=ct h1 hs2 e2; have d3:=ct h1 hs2 e3; go_simp; rfl),?_⟩
  refine⟨_,fun f w1 h1=>by(have d0:=ct h1 hs1 e0; have d1:=ct h1 hs1 e1; have d2:=ct h1 hs2 e2; have d3:=ct h1 hs2 e3; go_simp; rfl),?_⟩
  simp only[Act.put,nrA,nrB,nrC,Nat.reduceAdd]
  refine⟨fun f w1 A1 k1 hA hN hd K hK=>by
   go_simp
   refine(erat_any a u1 (Un (Mo A (w.heap.size+2)) A1) w1 (later (FactU.keeps (RatO.keeps _)) h1 k1 hN) (rcv_un (HV.out.2.2.1.below (br.drew.trans k1)) hA)).mono ?_
   rintro e w' ⟨v,rfl,hb,hr⟩
   exact hK _ _ hb hr,?_⟩
  refine⟨_,fun f w1 h1=>by(have d0:=ct h1 hs1 e0; have d1:=ct h1 hs1 e1; have d2:=ct h1 hs2 e2; have d3:=ct h1 hs2 e3; go_simp; rfl),?_⟩
  refine⟨_,fun f w1 h1=>by(have d0:=ct h1 hs1 e0; have d1:=ct h1 hs1 e1; have d2:=ct h1 hs2 e2; have d3:=ct h1 hs2 e3; go_simp; rfl),?_⟩
  simp only[Act.put,nrA,nrB,nrC,Nat.reduceAdd]
  refine⟨fun f w1 A1 k1 hA hN hd K hK=>by
   go_simp
   refine(erat_any c u3 (Un (Mo A (w.heap.size+2)) A1) w1 (later (FactU.keeps (RatO.keeps _)) h3 k1 hN) (rcv_un (HV.out.2.2.1.below (br.drew.trans k1)) hA)).mono ?_
   rintro e w' ⟨v,rfl,hb,hr⟩
   exact hK _ _ hb hr,?_⟩
  simp only[Act.put,nrA,nrB,nrC,Nat.reduceAdd]
  refine⟨fun f w1 A1 m1 k1 hA hN hAm hm0 e hz hd K hK=>by
   simp only[e] at hK ⊢
   have i1:RatP (a) (f 3) w1 (Un (Mo A (w.heap.size+2)) A1):=hd 3 (by simp)
   have i2:RatP (c) (f 6) w1 (Un (Mo A (w.heap.size+2)) A1):=hd 6 (by simp)
   go_simp
   refine(RAdd_any m1 _ _ _ _ _ _ w1 hz (by decide) noW_zRat i1 i2 (k) (l) hla hlc (by omega)).mono ?_
   rintro e w' ⟨rfl,hp⟩
   exact hK _ w' hp.1 (hp.ratU (HV.out.2.2.1.below (br.drew.trans k1)) hA hm0 (fun b hb=>HV.out.2.2.1.lt hb)),?_⟩
  refine⟨fun f w1=>by go_simp,?_⟩
  refine⟨_,fun f w1 h1=>by(have d0:=ct h1 hs1 e0; have d1:=ct h1 hs1 e1; have d2:=ct h1 hs2 e2; have d3:=ct h1 hs2 e3; go_simp; rfl),?_⟩
  refine⟨_,fun f w1 h1=>by(have d0:=ct h1 hs1 e0; have d1:=ct h1 hs1 e1; have d2:=ct h1 hs2 e2; have d3:=ct h1 hs2 e3; go_simp; rfl),?_⟩
  simp only[Act.put,nrA,nrB,nrC,Nat.reduceAdd]
  refine⟨fun f w1 A1 k1 hA hN hd K hK=>by
   go_simp
   refine(erat_any b u2 (Un (Mo A (w.heap.size+2)) A1) w1 (later (FactU.keeps (RatO.keeps _)) h2 k1 hN) (rcv_un (HV.out.2.2.1.below (br.drew.trans k1)) hA)).mono ?_
   rintro e w' ⟨v,rfl,hb,hr⟩
   exact hK _ _ hb hr,?_⟩
  refine⟨_,fun f w1 h1=>by(have d0:=ct h1 hs1 e0; have d1:=ct h1 hs1 e1; have d2:=ct h1 hs2 e2; have d3:=ct h1 hs2 e3; go_simp; rfl),?_⟩
  refine⟨_,fun f w1 h1=>by(have d0:=ct h1 hs1 e0; have d1:=ct h1 hs1 e1; have d2:=ct h1 hs2 e2; have d3:=ct h1 hs2 e3; go_simp; rfl),?_⟩
  simp only[Act.put,nrA,nrB,nrC,Nat.reduceAdd]
  refine⟨fun f w1 A1 k1 hA hN hd K hK=>by
   go_simp
   refine(erat_any d u4 (Un (Mo A (w.heap.size+2)) A1) w1 (later (FactU.keeps (RatO.keeps _)) h4 k1 hN) (rcv_un (HV.out.2.2.1.below (br.drew.trans k1)) hA)).mono ?_
   rintro e w' ⟨v,rfl,hb,hr⟩
   exact hK _ _ hb hr,?_⟩
  simp only[Act.put,nrA,nrB,nrC,Nat.reduceAdd]
  refine⟨fun f w1 A1 m1 k1 hA hN hAm hm0 e hz hd K hK=>by
   simp only[e] at hK ⊢
   have i1:RatP (b) (f 11) w1 (Un (Mo A (w.heap.size+2)) A1):=hd 11 (by simp)
   have i2:RatP (d) (f 14) w1 (Un (Mo A (w.heap.size+2)) A1):=hd 14 (by simp)
   go_simp
   refine(RAdd_any m1 _ _ _ _ _ _ w1 hz (by decide) noW_zRat i1 i2 (k) (l) hlb hld (by omega)).mono ?_
   rintro e w' ⟨rfl,hp⟩
   exact hK _ w' hp.1 (hp.ratU (HV.out.2.2.1.below (br.drew.trans k1)) hA hm0 (fun b hb=>HV.out.2.2.1.lt hb)),?_⟩
  intro f w1 k1 hF
  have i0:RatP (a) (f 3) w1 ((Mo A (w.heap.size+2))):=FactU.done (RatP.keeps _) hF.1.1.1.1.1.2
  have i1:RatP (c) (f 6) w1 ((Mo A (w.heap.size+2))):=FactU.done (RatP.keeps _) hF.1.1.1.1.2
  have i2:RatP (a+c) (f 7) w1 ((Mo A (w.heap.size+2))):=FactU.done (RatP.keeps _) hF.1.1.1.2
  have i3:RatP (b) (f 11) w1 ((Mo A (w.heap.size+2))):=FactU.done (RatP.keeps _) hF.1.1.2
  have i4:RatP (d) (f 14) w1 ((Mo A (w.heap.size+2))):=FactU.done (RatP.keeps _) hF.1.2
  have i5:RatP (b+d) (f 15) w1 ((Mo A (w.heap.size+2))):=FactU.done (RatP.keeps _) hF.2
  clear hF
  simp only[Act.put,nrA,nrB,nrC]
  generalize f 3=v0 at *
  generalize f 6=v1 at *
  generalize f 7=v2 at *
  generalize f 11=v3 at *
  generalize f 14=v4 at *
  generalize f 15=v5 at *
  have hb1:Below W.heap.size W w1:=br.drew.trans k1
  obtain⟨c0,c1,f0,f1⟩:=HV.out.2.2.2 w1 hb1
  have hbw:=HV.out.2.1.trans (hb1.mono HV.out.2.1.size)
  have HE:=Lib.hid (And.intro i2 (And.intro i5 hbw))
  obtain⟨m1,rfl⟩:=i2.shape
  obtain⟨m2,rfl⟩:=i5.shape
  clear e0 e1 e2 e3 h1 h2 h3 h4 i0 i1 i2 i3 i4 i5 hbw hb1 k1
  go_wp2_with fail
  refine bodyPost_ret (v:=.agg #[.pointer (some ⟨m1,0,none⟩),.pointer (some ⟨m2,0,none⟩)]) (by simp[results,Tryz.results174,go_sem,c0,c1]) rfl ?_
  exact put_num HE.out.2.2 HE.out.1 HE.out.2.1 (by omega)
theorem Qby(x y:QC){m l:Nat}(hx:ZL x m)(hy:ZL y l)(hb:m+l+(m+l)<137438953472):Qah Tryz.prog true 174 [N1 x,N1 y] (.r (N1 (x+y))) :=
 spec2 eo174 fun w A u v hR _ hu hv=>(NAdd_any x.re x.im y.re y.im u v A w (Qcf.1 hu) (Qcf.1 hv) (hR rfl) m l hx.1 hx.2 hy.1 hy.2 hb).mono fun e w' ⟨z,h1,h2,h3⟩=>⟨z,h1,Qcf.2 h3,h2⟩
open Classical
theorem eSame(x y:QC)(b_x:ZL x 2000000)(b_y:ZL y 2000000) :Qah Tryz.prog true 172 [.row (cn x),.row (cn y)] (if(x - y)=(⟨0,0⟩:QC) then .r (.c (gl (.bool true))) else .r (.c (gl (.bool false)))) :=
  have t1:=pNSub x y b_x b_y (by decide)
  have t2:=pNZero (x - y)
  (Classical.em ((x - y) = (⟨0,0⟩ : QC))).elim (fun h0 => .it h0 (Qav (L := [cn x,cn y,cn (x - y)].flatten) tys_ok mixed
     [gs (t1) [sy [0,1],sy [2,3]] (.r (sy [4,5])),gs (t2 true (tI h0)) [sy [4,5]] (.r (.c (.lit (.bool true))))]
     [] [] Tryz.func172 eo172 2000 [sy [0,1],sy [2,3]] (.r (.c (.lit (.bool true))))))
   (fun h0=>.ie (fun h=>h0 h) (Qav (L:=[cn x,cn y,cn (x - y)].flatten) tys_ok mixed
     [gs (t1) [sy [0,1],sy [2,3]] (.r (sy [4,5])),gs (t2 false (fI h0)) [sy [4,5]] (.r (.c (.lit (.bool false))))]
     [] [] Tryz.func172 eo172 2000 [sy [0,1],sy [2,3]] (.r (.c (.lit (.bool false))))))
theorem pNSame(x y:QC){m l:Nat}(hx:ZL x m)(hy:ZL y l)(hb:m+l<2000000)(r:Bool)(hr:r=true↔x=y):Qah Tryz.prog true 172 [N1 x,N1 y] (B1 r):=by
 have h:=eSame x y (hx.mono (by omega)) (hy.mono (by omega))
 cases r
 ·exact h.f (fun e=>by cases hr.2 (qc_sub0.1 e))
 ·exact h.t (qc_sub0.2 (hr.1 rfl))
theorem eDet(a b c d:QC)(t:Bool)(b_a:ZL a 2000000)(b_b:ZL b 2000000)(b_c:ZL c 2000000)(b_d:ZL d 2000000) :Qah Tryz.prog true 169 [.row (cn a++cn b++cn c++cn d++[gx (.bool t)])] (.r (.row (cn ((a*d) - (b*c))))) :=
  Qav (L := [cn a,cn b,cn c,cn d,[gx (.bool t)],cn (a * d),cn (b * c),cn ((a * d) - (b * c))].flatten) tys_ok mixed
     [gs (Qba a d b_a b_d (by decide)) [sy [0,1],sy [6,7]] (.r (sy [9,10])),gs (Qba b c b_b b_c (by decide)) [sy [2,3],sy [4,5]] (.r (sy [11,12])),gs (pNSub (a*d) (b*c) (Qag b_a b_d) (Qag b_b b_c) (by decide)) [sy [9,10],sy [11,12]] (.r (sy [13,14]))]
     [] [] Tryz.func169 eo169 2000 [.row (Qab 0 9)] (.r (sy [13,14]))
theorem eOpen(a b c d:QC)(t:Bool)(b_a:Qaf a)(b_b:Qaf b)(b_c:Qaf c)(b_d:Qaf d) :Qah Tryz.prog true 75 [.row ((Qae a).cells++(Qae b).cells++(Qae c).cells++(Qae d).cells++[gx (.bool t)])] (if((a*d) - (b*c))=(⟨0,0⟩:QC) then .tup [.row ([gl .nilp,gl .nilp,gl .nilp,gl .nilp,gl .nilp,gl .nilp,gl .nilp,gl .nilp,gl (.bool false)]),.c (gl (.bool false))] else if c=(⟨1,0⟩:QC) then .tup [.row (cn a++cn b++cn c++cn d++[gx (.bool t)]),.c (gl (.bool true))] else if c=(⟨0,0⟩:QC)∧d=(⟨1,0⟩:QC) then .tup [.row (cn a++cn b++cn c++cn d++[gx (.bool t)]),.c (gl (.bool true))] else .tup [.row (cn a++cn b++cn c++cn d++[gx (.bool t)]),.c (gl (.bool false))]) :=
  have t1:=eDet a b c d t ((Qaa b_a).mono (by omega)) ((Qaa b_b).mono (by omega)) ((Qaa b_c).mono (by omega)) ((Qaa b_d).mono (by omega))
  have t2:=pNZero ((a*d) - (b*c))
  have t3:=pNInt 1 0 (by decide) (by decide) (by decide) (by decide)
  have t4:=pNSame c (⟨1,0⟩:QC) (Qaa b_c) (ZL_int 1 0 (by decide) (by decide) (by decide) (by decide)) (by decide)
  have t5:=pNSame d (⟨1,0⟩:QC) (Qaa b_d) (ZL_int 1 0 (by decide) (by decide) (by decide) (by decide)) (by decide)
  (Classical.em (((a * d) - (b * c)) = (⟨0,0⟩ : QC))).elim (fun h0 => .it h0 (Qav (L := [(Qae a).cells,(Qae b).cells,(Qae c).cells,(Qae d).cells,[gx (.bool t)],cn a,cn b,cn c,cn d,cn ((a * d) - (b * c))].flatten) tys_ok mixed
     [gs (Qbm a b_a) [.row (Qab 0 8)] (.tup [sy [33,34],.c (.lit (.bool true))]),gs (Qbm b b_b) [.row (Qab 8 8)] (.tup [sy [35,36],.c (.lit (.bool true))]),gs (Qbm c b_c) [.row (Qab 16 8)] (.tup [sy [37,38],.c (.lit (.bool true))]),gs (Qbm d b_d) [.row (Qab 24 8)] (.tup [sy [39,40],.c (.lit (.bool true))]),gs (t1) [.row (flA [Qab 33 8,[.sym 32]])] (.r (sy [41,42])),gs (t2 true (tI h0)) [sy [41,42]] (.r (.c (.lit (.bool true))))]
     [] [] Tryz.func75 eo75 2000 [.row (Qab 0 33)] (.tup [.row [.lit .nilp,.lit .nilp,.lit .nilp,.lit .nilp,.lit .nilp,.lit .nilp,.lit .nilp,.lit .nilp,.lit (.bool false)],.c (.lit (.bool false))])))
   (fun h0=>.ie h0 ((Classical.em (c=(⟨1,0⟩:QC))).elim (fun h1=>.it h1 (Qav (L:=[(Qae a).cells,(Qae b).cells,(Qae c).cells,(Qae d).cells,[gx (.bool t)],cn a,cn b,cn c,cn d,cn ((a*d) - (b*c)),cn (⟨1,0⟩:QC)].flatten) tys_ok mixed
     [gs (Qbm a b_a) [.row (Qab 0 8)] (.tup [sy [33,34],.c (.lit (.bool true))]),gs (Qbm b b_b) [.row (Qab 8 8)] (.tup [sy [35,36],.c (.lit (.bool true))]),gs (Qbm c b_c) [.row (Qab 16 8)] (.tup [sy [37,38],.c (.lit (.bool true))]),gs (Qbm d b_d) [.row (Qab 24 8)] (.tup [sy [39,40],.c (.lit (.bool true))]),gs (t1) [.row (flA [Qab 33 8,[.sym 32]])] (.r (sy [41,42])),gs (t2 false (fI h0)) [sy [41,42]] (.r (.c (.lit (.bool false)))),gs (t3) [.c (.lit (.int .i64 1)),.c (.lit (.int .i64 0))] (.r (sy [43,44])),gs (t4 true (tI h1)) [sy [37,38],sy [43,44]] (.r (.c (.lit (.bool true))))]
     [] [] Tryz.func75 eo75 2000 [.row (Qab 0 33)] (.tup [.row (flA [Qab 33 8,[.sym 32]]),.c (.lit (.bool true))])))
   (fun h1=>.ie h1 ((Classical.em (c=(⟨0,0⟩:QC))).elim (fun h2=>(Classical.em (d=(⟨1,0⟩:QC))).elim (fun h3=>.it ⟨h2,h3⟩ (Qav (L:=[(Qae a).cells,(Qae b).cells,(Qae c).cells,(Qae d).cells,[gx (.bool t)],cn a,cn b,cn c,cn d,cn ((a*d) - (b*c)),cn (⟨1,0⟩:QC)].flatten) tys_ok mixed
     [gs (Qbm a b_a) [.row (Qab 0 8)] (.tup [sy [33,34],.c (.lit (.bool true))]),gs (Qbm b b_b) [.row (Qab 8 8)] (.tup [sy [35,36],.c (.lit (.bool true))]),gs (Qbm c b_c) [.row (Qab 16 8)] (.tup [sy [37,38],.c (.lit (.bool true))]),gs (Qbm d b_d) [.row (Qab 24 8)] (.tup [sy [39,40],.c (.lit (.bool true))]),gs (t1) [.row (flA [Qab 33 8,[.sym 32]])] (.r (sy [41,42])),gs (t2 false (fI h0)) [sy [41,42]] (.r (.c (.lit (.bool false)))),gs (t3) [.c (.lit (.int .i64 1)),.c (.lit (.int .i64 0))] (.r (sy [43,44])),gs (t4 false (fI h1)) [sy [37,38],sy [43,44]] (.r (.c (.lit (.bool false)))),gs (pNZero c true (tI h2)) [sy [37,38]] (.r (.c (.lit (.bool true)))),gs (t5 true (tI h3)) [sy [39,40],sy [43,44]] (.r (.c (.lit (.bool true))))]
     [] [] Tryz.func75 eo75 2000 [.row (Qab 0 33)] (.tup [.row (flA [Qab 33 8,[.sym 32]]),.c (.lit (.bool true))])))
   (fun h3=>.ie (fun h=>h3 h.2) (Qav (L:=[(Qae a).cells,(Qae b).cells,(Qae c).cells,(Qae d).cells,[gx (.bool t)],cn a,cn b,cn c,cn d,cn ((a*d) - (b*c)),cn (⟨1,0⟩:QC)].flatten) tys_ok mixed
     [gs (Qbm a b_a) [.row (Qab 0 8)] (.tup [sy [33,34],.c (.lit (.bool true))]),gs (Qbm b b_b) [.row (Qab 8 8)] (.tup [sy [35,36],.c (.lit (.bool true))]),gs (Qbm c b_c) [.row (Qab 16 8)] (.tup [sy [37,38],.c (.lit (.bool true))]),gs (Qbm d b_d) [.row (Qab 24 8)] (.tup [sy [39,40],.c (.lit (.bool true))]),gs (t1) [.row (flA [Qab 33 8,[.sym 32]])] (.r (sy [41,42])),gs (t2 false (fI h0)) [sy [41,42]] (.r (.c (.lit (.bool false)))),gs (t3) [.c (.lit (.int .i64 1)),.c (.lit (.int .i64 0))] (.r (sy [43,44])),gs (t4 false (fI h1)) [sy [37,38],sy [43,44]] (.r (.c (.lit (.bool false)))),gs (pNZero c true (tI h2)) [sy [37,38]] (.r (.c (.lit (.bool true)))),gs (t5 false (fI h3)) [sy [39,40],sy [43,44]] (.r (.c (.lit (.bool false))))]
     [] [] Tryz.func75 eo75 2000 [.row (Qab 0 33)] (.tup [.row (flA [Qab 33 8,[.sym 32]]),.c (.lit (.bool false))]))))
   (fun h2=>.ie (fun h=>h2 h.1) (Qav (L:=[(Qae a).cells,(Qae b).cells,(Qae c).cells,(Qae d).cells,[gx (.bool t)],cn a,cn b,cn c,cn d,cn ((a*d) - (b*c)),cn (⟨1,0⟩:QC)].flatten) tys_ok mixed
     [gs (Qbm a b_a) [.row (Qab 0 8)] (.tup [sy [33,34],.c (.lit (.bool true))]),gs (Qbm b b_b) [.row (Qab 8 8)] (.tup [sy [35,36],.c (.lit (.bool true))]),gs (Qbm c b_c) [.row (Qab 16 8)] (.tup [sy [37,38],.c (.lit (.bool true))]),gs (Qbm d b_d) [.row (Qab 24 8)] (.tup [sy [39,40],.c (.lit (.bool true))]),gs (t1) [.row (flA [Qab 33 8,[.sym 32]])] (.r (sy [41,42])),gs (t2 false (fI h0)) [sy [41,42]] (.r (.c (.lit (.bool false)))),gs (t3) [.c (.lit (.int .i64 1)),.c (.lit (.int .i64 0))] (.r (sy [43,44])),gs (t4 false (fI h1)) [sy [37,38],sy [43,44]] (.r (.c (.lit (.bool false)))),gs (pNZero c false (fI h2)) [sy [37,38]] (.r (.c (.lit (.bool false))))]
     [] [] Tryz.func75 eo75 2000 [.row (Qab 0 33)] (.tup [.row (flA [Qab 33 8,[.sym 32]]),.c (.lit (.bool false))])))))))
end Go.Proofs.YtmimficdpfmfgaaGreat
