/- Laws. -/
import Derived.Test.YtmimficdpfmfgaaGreatWas
set_option linter.all false
set_option maxHeartbeats 4000000
set_option maxRecDepth 100000
open Go.Lib (hid)
namespace Tr
open Go Go.RowKit
structure Fn where
 f:FuncId
 fn:Func
 fuel:Nat
def Knp(bl:Nat->Option BK)(len:Nat):List BK:=(List.range len).map fun b=>Ktt (bl b)
def idx(b:Nat):List Nat->Option Nat
 | []=>none
 | c::l=>if c==b then some 0 else(idx b l).map (·+1)
def Qtb(bl:Nat->Option BK)(len new:Nat)(ids:List Nat)(b:Nat):Option Nat :=
 if b<len then(match bl b with|some (.live _)|some (.lent _)=>some b|_=>none) else(idx b ids).map (new+·)
def Krc(ρ:Nat->Option Nat):List Nat->Option (List Nat)
 | []=>some []
 | b::l=>match ρ b,Krc ρ l with|some c,some m=>some (c::m)|_,_=>none
def AC.ren(ρ:Nat->Option Nat):AC->Option AC
 | .sym i=>some (.sym i)
 | .lit l=>some (.lit l)
 | .own b o=>match ρ b with|some c=>some (.own c o)|none=>none
 | .sl b o n k=>match ρ b with|some c=>some (.sl c o n k)|none=>none
 | .sg b o n=>match ρ b with|some c=>some (.sg c o n)|none=>none
 | .fn f a b=>match Krc ρ a,Krc ρ b with|some c,some d=>some (.fn f c d)|_,_=>none
def Ucm(ρ:Nat->Option Nat):List AC->Option (List AC)
 | []=>some []
 | x::l=>match x.ren ρ,Ucm ρ l with|some y,some m=>some (y::m)|_,_=>none
def AR.ren(ρ:Nat->Option Nat):AR->Option AR
 | .c x=>match x.ren ρ with|some y=>some (.c y)|none=>none
 | .row l=>match Ucm ρ l with|some m=>some (.row m)|none=>none
def Utl(ρ:Nat->Option Nat):List AR->Option (List AR)
 | []=>some []
 | x::l=>match x.ren ρ,Utl ρ l with|some y,some m=>some (y::m)|_,_=>none
def AV.ren(ρ:Nat->Option Nat):AV->Option AV
 | .r x=>match x.ren ρ with|some y=>some (.r y)|none=>none
 | .tup l=>match Utl ρ l with|some m=>some (.tup m)|none=>none
 | .undf=>some .undf
 | .junk=>some .junk
def AB.ren(ρ:Nat->Option Nat)(ab:AB):Option AB:=match Ucm ρ ab.cells with|some cs=>some { ab with cells:=cs }|none=>none
def Ull(ρ:Nat->Option Nat)(bl:Nat->Option BK)(bs:List BK):List Nat->Option (List (Nat×BK))
 | []=>some []
 | b::l=>match bl b with
  | some (.live ab)=>(match bs[b]?,Ull ρ bl bs l with
   | some (.live ab1),some r=>(match ab1.ren ρ with|some ab2=>some (if ab2.beq ab then r else(b,.live ab2)::r)|none=>none)
   | some .dead,some r=>some ((b,.dead)::r)
   | _,_=>none)
  | _=>Ull ρ bl bs l
def Kaa(ρ:Nat->Option Nat)(bs:List BK):List Nat->Nat->Option (List (Nat×BK))
 | [],_=>some []
 | b::l,new=>match bs[b]?,Kaa ρ bs l (new+1) with
  | some (.live ab1),some r=>(match ab1.ren ρ with|some ab2=>some ((new,.live ab2)::r)|none=>none)
  | _,_=>none
def Qnd:List Nat->Bool
 | []=>true
 | a::l=>!l.contains a&&Qnd l
def Kqf(bl:Nat->Option BK)(new:Nat):Nat->Bool
 | 0=>true
 | n+1=>(match bl (new+n) with|some .unborn=>true|_=>false)&&Kqf bl new n
def Kyt(f:FuncId):List Fn->Option Fn
 | []=>none
 | q::l=>if q.f==f then some q else Kyt f l
def Khn(cx:Cx)(q:Fn)(args:List AR)(bl:Nat->Option BK)(len new:Nat)(s1:AS):Option (AV×List (Nat×BK)×List Nat) :=
 match Uax cx q.fn s1 with
 | none=>none
 | some r =>
  let seen:=Kit (fun b=>decide (b<len)) (fun b=>Ktt (bl b)) 12 [] (args.flatMap AR.ments);let ids:=Kit (fun b=>decide (len<=b)) (fun b=>s1.blocks.getD b .dead) 12 [] (r.ments++seen.flatMap fun b=>(match bl b with|some (.live _)=>(s1.blocks.getD b .dead).ments|_=>[]));let ρ:=Qtb bl len new ids
  match r.ren ρ,Ull ρ bl s1.blocks (List.range len),Kaa ρ s1.blocks ids new with
  | some r',some wv,some bs =>
   if ids.all (fun b=>decide (len<=b))&&Qnd ids&&Kqf bl new ids.length&&Qnd ((wv++bs).map (·.1)) then some (r',wv++bs,seen) else none
  | _,_,_=>none
def Uhh(cx:Cx)(fs:List Fn):Inl:=fun f args bl len new =>
 match Kyt f fs with
 | none=>none
 | some q=>match q.fn.body with
  | none=>none
  | some c=>match evC cx q.fuel c { tmps:=args.map AV.r++List.replicate (q.fn.ntmps-args.length) .undf,blocks:=Knp bl len } with
   | some (.normal,s1)|some (.ret,s1)=>Khn cx q args bl len new s1
   | _=>none
section
variable{T:Nat->Qcq}{cx cx':Cx}{A0 M:Nat->Prop}{w0:World}{σs σ σ1 σ2:Sg}{s:AS}{a:Act}{w w':World}{P:Program}{bl:Nat->Option BK}{ρ:Nat->Option Nat}{A:Nat->Prop}
def Rn(ρ:Nat->Option Nat)(σ1 σ2:Sg):Prop:=∀ b c n,ρ b=some c->σ1 b=some n->σ2 c=some n/\σ2.room c=σ1.room b
def Qye(h:Rn ρ σ1 σ2):∀{l m:List Nat} {vs:List Value},Krc ρ l=some m->Qsy σ1 l vs->Qsy σ2 m vs
 | [],m,vs,hr,hx=>by cases hr;cases vs<;>exact hx
 | b::l,m,vs,hr,hx=>by
  unfold Krc at hr
  split at hr
  .rename_i c r h1 h2;cases hr;cases vs with
   | nil=>exact hx.elim
   | cons v vs =>
    obtain⟨⟨n,e1,e2⟩,h3⟩:=hx;exact⟨⟨n,(h _ _ _ h1 e1).1,e2⟩,Qye h h2 h3⟩
  .cases hr
def AC.ren_ok(h:Rn ρ σ1 σ2){x y:AC}(hr:x.ren ρ=some y){v:Value}(hx:x.ok T σ1 v w A):y.ok T σ2 v w A:=by
 cases x with
 | sym i=>cases hr;exact hx
 | lit l=>cases hr;exact hx
 | own b o =>
  unfold AC.ren at hr;simp only at hr
  split at hr
  .rename_i c h1;cases hr;obtain⟨n,e1,e2⟩:=hx;exact⟨n,(h _ _ _ h1 e1).1,e2⟩
  .cases hr
 | sl b o k c =>
  unfold AC.ren at hr;simp only at hr
  split at hr
  .rename_i c h1;cases hr;obtain⟨n,e1,e2⟩:=hx;exact⟨n,(h _ _ _ h1 e1).1,e2⟩
  .cases hr
 | sg b o k =>
  unfold AC.ren at hr;simp only at hr
  split at hr
  .rename_i c h1;cases hr;obtain⟨n,e1,e2,e3⟩:=hx;obtain⟨g1,g2⟩:=h _ _ _ h1 e1;exact⟨n,g1,by rw[g2];exact e2,by rw[g2];exact e3⟩
  .cases hr
 | fn f p q =>
  unfold AC.ren at hr;simp only at hr
  split at hr
  .rename_i c d h1 h2;cases hr;obtain⟨us,vs,e1,e2,e3⟩:=hx;exact⟨us,vs,e1,Qye h h1 e2,Qye h h2 e3⟩
  .cases hr
def Kdi(h:Rn ρ σ1 σ2):∀{l m:List AC} {vs:List Value},Ucm ρ l=some m->oks T σ1 l vs w A->oks T σ2 m vs w A
 | [],m,vs,hr,hx=>by cases hr;cases vs<;>exact hx
 | x::l,m,vs,hr,hx=>by
  unfold Ucm at hr
  split at hr
  .rename_i c r h1 h2;cases hr;cases vs with
   | nil=>exact hx.elim
   | cons v vs=>exact⟨AC.ren_ok h h1 hx.1,Kdi h h2 hx.2⟩
  .cases hr
def AR.ren_ok(h:Rn ρ σ1 σ2){x y:AR}(hr:x.ren ρ=some y){v:Value}(hx:x.ok T σ1 v w A):y.ok T σ2 v w A:=by
 cases x with
 | c x =>
  unfold AR.ren at hr;simp only at hr
  split at hr
  .rename_i c h1;cases hr;exact AC.ren_ok (x:=x) h h1 hx
  .cases hr
 | row l =>
  unfold AR.ren at hr;simp only at hr
  split at hr
  .rename_i c h1;cases hr;obtain⟨vs,e,h2⟩:=hx;exact⟨vs,e,Kdi h h1 h2⟩
  .cases hr
def Kou(h:Rn ρ σ1 σ2):∀{l m:List AR} {vs:List Value},Utl ρ l=some m->okr T σ1 l vs w A->okr T σ2 m vs w A
 | [],m,vs,hr,hx=>by cases hr;cases vs<;>exact hx
 | x::l,m,vs,hr,hx=>by
  unfold Utl at hr
  split at hr
  .rename_i c r h1 h2;cases hr;cases vs with
   | nil=>exact hx.elim
   | cons v vs=>exact⟨AR.ren_ok h h1 hx.1,Kou h h2 hx.2⟩
  .cases hr
def AV.ren_ok(h:Rn ρ σ1 σ2){x y:AV}(hr:x.ren ρ=some y){v:Value}(hx:x.ok T σ1 v w A):y.ok T σ2 v w A:=by
 cases x with
 | r x =>
  unfold AV.ren at hr;simp only at hr
  split at hr
  .rename_i c h1;cases hr;exact AR.ren_ok (x:=x) h h1 hx
  .cases hr
 | tup l =>
  unfold AV.ren at hr;simp only at hr
  split at hr
  .rename_i c h1;cases hr;obtain⟨vs,e,h2⟩:=hx;exact⟨vs,e,Kou h h1 h2⟩
  .cases hr
 | undf=>cases hr;exact hx
 | junk=>cases hr;trivial
def AC.ren_noint{x y:AC}(hr:x.ren ρ=some y)(i:Nat->Bool):y.noint i=x.noint i:=by
 cases x with
 | sym j=>cases hr;rfl
 | lit l=>cases hr;rfl
 | own b o=>unfold AC.ren at hr;simp only at hr;split at hr<;>cases hr;rfl
 | sl b o k c=>unfold AC.ren at hr;simp only at hr;split at hr<;>cases hr;rfl
 | sg b o k=>unfold AC.ren at hr;simp only at hr;split at hr<;>cases hr;rfl
 | fn f p q=>unfold AC.ren at hr;simp only at hr;split at hr<;>cases hr;rfl
def Qvc(i:Nat->Bool):∀{l m:List AC},Ucm ρ l=some m->m.all (AC.noint i)=l.all (AC.noint i)
 | [],m,hr=>by cases hr;rfl
 | x::l,m,hr=>by
  unfold Ucm at hr
  split at hr
  .rename_i c r h1 h2;cases hr;rw[List.all_cons,List.all_cons,AC.ren_noint h1,Qvc i h2]
  .cases hr
def AB.ren_spec{ab ab2:AB}(h:ab.ren ρ=some ab2):Ucm ρ ab.cells=some ab2.cells/\ab2.ty=ab.ty/\ab2.more=ab.more:=by
 unfold AB.ren at h
 split at h
 .rename_i cs h1;cases h;exact⟨h1,rfl,rfl⟩
 .cases h
def Kze(ht:TOk T cx.ints)(h:Rn ρ σ1 σ2){b c n:Nat}{ab ab2:AB}(hr:ab.ren ρ=some ab2)(hρ:ρ b=some c)(hn:σ1 b=some n){A':Nat->Prop}(hk:Kp w w A A')(hl:Qeh T cx σ1 A w b ab n):Qeh T cx σ2 A' w c ab2 n:=by
 obtain⟨e1,e2,e3⟩:=AB.ren_spec hr;obtain⟨vs,rest,g1,g2,g3,g4,g5,g6⟩:=hl;refine⟨vs,rest,by rw[e2];exact g1,(Kdi h e1 g2).keep ht (Sub.refl _) hk,?_,g4,g5,?_⟩
 .unfold Qbp at g3 ⊢;rw[Qvc _ e1];exact g3
 .rw[e3,(h _ _ _ hρ hn).2];exact g6
def Qkz{len b:Nat}{k:BK}(h:(Knp bl len)[b]?=some k):b<len/\k=Ktt (bl b):=by
 unfold Knp at h;rw[List.getElem?_map] at h;obtain⟨x,h1,h2⟩:=Option.map_eq_some_iff.1 h;have hlt:b<len:=by have:=(axb.1 h1).1;simpa using this
 rw[List.getElem?_range hlt] at h1;cases h1;exact⟨hlt,h2.symm⟩
def Qno{k:Option BK}{ab:AB}(h:BK.live ab=Ktt k):k=some (.live ab):=by
 unfold Ktt at h;split at h<;>cases h;rfl
def Ktu{k:Option BK}{ab:AB}(h:BK.lent ab=Ktt k):k=some (.lent ab):=by
 unfold Ktt at h;split at h<;>cases h;rfl
def Kfd{k:Option BK}(h:BK.unborn=Ktt k):False:=by
 unfold Ktt at h;split at h<;>cases h
def Ubq{len b:Nat}(h:b<len):(Knp bl len)[b]?=some (Ktt (bl b)):=by
 unfold Knp;rw[List.getElem?_map,List.getElem?_range h];rfl
def Qrk:∀{ws:List (Nat×BK)} {l:List BK} {b:Nat} {k:BK},Qnd (ws.map (·.1))=true->(b,k)∈ws->b<l.length->(Qft l ws)[b]?=some k
 | [],l,b,k,_,h,_=>by cases h
 | (c,j)::ws,l,b,k,hn,h,hl=>by
  simp only[List.map_cons,Qnd,Bool.and_eq_true,Bool.not_eq_true'] at hn;rcases List.mem_cons.1 h with h|h
  .obtain⟨rfl,rfl⟩:=Prod.mk.inj h;have hno:∀ k',(b,k') ∉ ws:=fun k' hk=>by
    have:b∈ws.map (·.1):=List.mem_map.2 ⟨_,hk,rfl⟩;have h2:=hn.1;simp only[List.contains_eq_mem,decide_eq_false_iff_not] at h2;exact h2 this
   rw[Qft,Qky ws _ b hno];simp[hl]
  .exact Qrk (l:=l.set c j) hn.2 h (by simpa using hl)
def Khm{b:Nat}:∀{l:List Nat} {k:Nat},idx b l=some k->l[k]?=some b
 | [],k,h=>by cases h
 | c::l,k,h=>by
  unfold idx at h
  split at h
  .rename_i e;cases h;simpa using e
  .obtain⟨j,h1,rfl⟩:=Option.map_eq_some_iff.1 h;simpa using Khm h1
def Kqp{b:Nat}:∀{l:List Nat} {k:Nat},Qnd l=true->l[k]?=some b->idx b l=some k
 | [],k,_,h=>by simp at h
 | c::l,k,hn,h=>by
  simp only[Qnd,Bool.and_eq_true,Bool.not_eq_true',List.contains_eq_mem,decide_eq_false_iff_not] at hn;unfold idx;cases k with
  | zero=>simp at h;subst h;simp
  | succ k =>
   simp at h;have:¬(c==b)=true:=fun e=>by
    have e:c=b:=by simpa using e
    subst e;exact hn.1 (axq h)
   rw[if_neg this,Kqp hn.2 h];rfl
def Qvt{new:Nat}:∀{n:Nat},Kqf bl new n=true->∀ k,k<n->bl (new+k)=some .unborn
 | 0,_,k,h=>by omega
 | n+1,h,k,hk=>by
  simp only[Kqf,Bool.and_eq_true] at h
  by_cases e:k=n
  .subst e;have:=h.1
   split at this
   .assumption
   .cases this
  .exact Qvt h.2 k (by omega)
def Qrs{bs:List BK}:∀{l:List Nat} {new:Nat} {r:List (Nat×BK)},Kaa ρ bs l new=some r ->
  (∀(k b:Nat),l[k]?=some b->∃ ab1 ab2,bs[b]?=some (.live ab1)/\ab1.ren ρ=some ab2/\(new+k,BK.live ab2)∈r)/\∀ x kk,(x,kk)∈r->∃ k,k<l.length/\x=new+k/\∃ ab,kk=BK.live ab
 | [],new,r,h=>by cases h;exact⟨fun k b h=>by simp at h,fun x kk h=>by cases h⟩
 | b::l,new,r,h=>by
  unfold Kaa at h
  split at h
  .rename_i ab1 r1 h1 h2
   split at h
   .rename_i ab2 h3;cases h;obtain⟨g1,g2⟩:=Qrs h2;refine⟨fun k c hk=>?_,fun x kk hx=>?_⟩
    .cases k with
     | zero=>simp at hk;subst hk;exact⟨ab1,ab2,h1,h3,by simp⟩
     | succ k =>
      simp at hk;obtain⟨p,q,e1,e2,e3⟩:=g1 k c hk;exact⟨p,q,e1,e2,axf _ (by rw[show new+(k+1)=new+1+k by omega];exact e3)⟩
    .rcases List.mem_cons.1 hx with hx|hx
     .cases hx;exact⟨0,by simp,rfl,_,rfl⟩
     .obtain⟨k,e1,e2,e3⟩:=g2 x kk hx;exact⟨k+1,by simp;omega,by omega,e3⟩
   .cases h
  .cases h
def Qnq{bs:List BK}:∀{l:List Nat} {r:List (Nat×BK)},l.Nodup->Ull ρ bl bs l=some r ->
  (∀ b,b∈l->∀ ab,bl b=some (.live ab)->(bs[b]?=some .dead/\(b,BK.dead)∈r)\/∃ ab1 ab2,bs[b]?=some (.live ab1)/\ab1.ren ρ=some ab2/\((ab2=ab/\∀ k,(b,k) ∉ r)\/(b,BK.live ab2)∈r)) /\
  ∀ x kk,(x,kk)∈r->x∈l/\(∃ ab,bl x=some (.live ab))/\(kk=.dead\/∃ ab,kk=BK.live ab)
 | [],r,_,h=>by cases h;exact⟨fun b h=>(List.not_mem_nil h).elim,fun x kk h=>(List.not_mem_nil h).elim⟩
 | b::l,r,hnd,h=>by
  rw[List.nodup_cons] at hnd;unfold Ull at h
  split at h
  .rename_i ab hb
   split at h
   .rename_i ab1 r1 h1 h2;obtain⟨g1,g2⟩:=Qnq hnd.2 h2
    split at h
    .rename_i ab2 h3;cases h;have hno:∀ k,(b,k) ∉ r1:=fun k hk=>hnd.1 (g2 _ _ hk).1
     split
     .rename_i he;have he:=AB.eq_of he;refine⟨fun c hc ab' hc'=>?_,fun x kk hx=>?_⟩
      .rcases List.mem_cons.1 hc with e|e
       .subst e;rw[hb] at hc';cases hc';exact .inr ⟨ab1,ab2,h1,h3,.inl ⟨he,hno⟩⟩
       .exact g1 c e ab' hc'
      .obtain⟨e1,e2,e3⟩:=g2 x kk hx;exact⟨axf _ e1,e2,e3⟩
     .refine⟨fun c hc ab' hc'=>?_,fun x kk hx=>?_⟩
      .rcases List.mem_cons.1 hc with e|e
       .subst e;exact .inr ⟨ab1,ab2,h1,h3,.inr (by simp)⟩
       .have hne:c≠b:=fun e2=>by subst e2;exact hnd.1 e
        rcases g1 c e ab' hc' with⟨p,q⟩|⟨p,q,e1,e2,e3⟩
        .exact .inl ⟨p,axf _ q⟩
        .refine .inr ⟨p,q,e1,e2,e3.imp (fun⟨i,j⟩=>⟨i,fun k hk=>?_⟩) (axf _)⟩;rcases List.mem_cons.1 hk with e4|e4
         .cases e4;exact hne rfl
         .exact j k e4
      .rcases List.mem_cons.1 hx with e|e
       .cases e;exact⟨by simp,⟨ab,hb⟩,.inr ⟨_,rfl⟩⟩
       .obtain⟨e1,e2,e3⟩:=g2 x kk e;exact⟨axf _ e1,e2,e3⟩
    .cases h
   .rename_i r1 h1 h2;cases h;obtain⟨g1,g2⟩:=Qnq hnd.2 h2;refine⟨fun c hc ab' hc'=>?_,fun x kk hx=>?_⟩
    .rcases List.mem_cons.1 hc with e|e
     .subst e;exact .inl ⟨h1,by simp⟩
     .have hne:c≠b:=fun e2=>by subst e2;exact hnd.1 e
      rcases g1 c e ab' hc' with⟨p,q⟩|⟨p,q,e1,e2,e3⟩
      .exact .inl ⟨p,axf _ q⟩
      .refine .inr ⟨p,q,e1,e2,e3.imp (fun⟨i,j⟩=>⟨i,fun k hk=>?_⟩) (axf _)⟩;rcases List.mem_cons.1 hk with e4|e4
       .cases e4;exact hne rfl
       .exact j k e4
    .rcases List.mem_cons.1 hx with e|e
     .cases e;exact⟨by simp,⟨ab,hb⟩,.inl rfl⟩
     .obtain⟨e1,e2,e3⟩:=g2 x kk e;exact⟨axf _ e1,e2,e3⟩
   .cases h
  .rename_i hb;obtain⟨g1,g2⟩:=Qnq hnd.2 h;refine⟨fun c hc ab' hc'=>?_,fun x kk hx=>?_⟩
   .rcases List.mem_cons.1 hc with e|e
    .subst e;exact absurd hc' (hb ab')
    .exact g1 c e ab' hc'
   .obtain⟨e1,e2,e3⟩:=g2 x kk hx;exact⟨axf _ e1,e2,e3⟩
end
end Tr
namespace Tr
open Go Go.RowKit
section
variable{T:Nat->Qcq}{cx cx':Cx}{A0 M:Nat->Prop}{w0:World}{σs σ σ1:Sg}{s:AS}{a:Act}{w w':World}{P:Program}{bl:Nat->Option BK}
def Kzb(ht:TOk T cx.ints)(R:Rel T cx A0 M w0 σs σ s a w)(hbl:∀ b k,bl b=some k->s.blocks[b]?=some k){A0' M':Nat->Prop}
  (hA':∀ n,A0' n↔(A0 n\/∃ b ab,s.blocks[b]?=some (BK.live ab)/\σ b=some n/\∀ ab,bl b≠some (BK.live ab))) (hM':∀ n,M' n↔∃ b ab,bl b=some (BK.live ab)/\σ b=some n)
  {s1:AS} {a1:Act} (R1:Rel T cx A0' M' w σ σ1 s1 a1 w') {ids:List Nat} {new:Nat} {wv bs:List (Nat×BK)} (h1:ids.all (fun b=>decide (s.blocks.length<=b))=true) (h2:Qnd ids=true) (h3:Kqf bl new ids.length=true)
  (h4:Qnd ((wv++bs).map (·.1))=true) (h5:Ull (Qtb bl s.blocks.length new ids) bl s1.blocks (List.range s.blocks.length)=some wv) (h6:Kaa (Qtb bl s.blocks.length new ids) s1.blocks ids new=some bs)
  {r r':AV} {v:Value} (hr:r.ren (Qtb bl s.blocks.length new ids)=some r') (hv:r.ok T σ1 v w' (Al A0' σ1 s1.blocks)) :
  ∃ σ2,∀ d,Rel T cx A0 M w0 σs σ2 (s.put d ⟨r',wv++bs⟩) (a.put d v) w':=by
 let ρ:=Qtb bl s.blocks.length new ids;let at2:Nat->Option Nat:=fun x=>match (if new<=x then ids[x-new]? else none) with|some id=>σ1 id|none=>σ x
 let rm2:Nat->Nat:=fun x=>match (if new<=x then ids[x-new]? else none) with|some id=>σ1.room id|none=>σ.room x
 obtain⟨σ2,hat,hrm⟩:∃ σ2:Sg,(∀ x,σ2 x=at2 x)/\∀ x,σ2.room x=rm2 x:=⟨⟨at2,rm2⟩,fun _=>rfl,fun _=>rfl⟩
 have hres:∀ k id,ids[k]?=some id->σ2 (new+k)=σ1 id/\σ2.room (new+k)=σ1.room id:=fun k id h=>by
  rw[hat,hrm];simp only[at2,rm2];rw[if_pos (by omega),show new+k-new=k by omega,h];exact⟨rfl,rfl⟩
 have hoth:∀ x,(∀ k,k<ids.length->x≠new+k)->σ2 x=σ x/\σ2.room x=σ.room x:=fun x h=>by
  rw[hat,hrm];simp only[at2,rm2]
  by_cases e:new<=x
  .rw[if_pos e];have hn:ids[x-new]?=none:=by
    cases hq:ids[x-new]? with
    | none=>rfl
    | some id=>exact absurd (show x=new+(x-new) by omega) (h _ (axb.1 hq).1)
   rw[hn];exact⟨rfl,rfl⟩
  .rw[if_neg e];exact⟨rfl,rfl⟩
 have hfree:∀ k,k<ids.length->s.blocks[new+k]?=some .unborn:=fun k hk=>hbl _ _ (Qvt h3 k hk)
 have hlen:∀{x:Nat} {k:BK},s.blocks[x]?=some k->x<s.blocks.length:=fun h=>(axb.1 h).1
 have hnr:∀{x:Nat} {k:BK},s.blocks[x]?=some k->k≠.unborn->∀ j,j<ids.length->x≠new+j:=fun h hk j hj e=>by
  subst e;rw[hfree j hj] at h;cases h;exact hk rfl
 have hSub:Sub σ σ2:=fun b n hb=>by
  have hno:∀ k,k<ids.length->b≠new+k:=fun k hk e=>by
   subst e;rw[R.unborn _ (hfree k hk)] at hb;cases hb
  obtain⟨e1,e2⟩:=hoth b hno;exact⟨e1.trans hb,e2⟩
 have hle:∀ k id,ids[k]?=some id->s.blocks.length<=id:=fun k id h=>by
  rw[axu] at h1;simpa using h1 id (axq h)
 have hρv:∀ b ab,bl b=some (BK.live ab)->ρ b=some b:=fun b ab h=>by
  show Qtb bl s.blocks.length new ids b=some b;unfold Qtb;rw[if_pos (hlen (hbl _ _ h)),h]
 have hρr:∀ k id,ids[k]?=some id->ρ id=some (new+k):=fun k id h=>by
  show Qtb bl s.blocks.length new ids id=some (new+k);unfold Qtb;rw[if_neg (by have:=hle k id h;omega),Kqp h2 h];rfl
 have hRn:Rn ρ σ1 σ2:=fun b c n hb hn=>by
  have hb:Qtb bl s.blocks.length new ids b=some c:=hb;unfold Qtb at hb
  split at hb
  .have key:∀ k,bl b=some k->k≠.unborn->(∃ m,σ b=some m)->σ2 b=some n/\σ2.room b=σ1.room b:=fun k hk hku ⟨m,hm⟩=>by
    obtain⟨e1,e2⟩:=hoth b (hnr (hbl _ _ hk) hku);obtain⟨e3,e4⟩:=R1.start b m hm;rw[e3] at hn;cases hn;exact⟨e1.trans hm,e2.trans e4.symm⟩
   split at hb
   .rename_i ab hk;cases hb;obtain⟨m,hm,_⟩:=R.blocks b ab (hbl _ _ hk);exact key _ hk (by simp) ⟨m,hm⟩
   .rename_i ab hk;cases hb;obtain⟨m,hm,_⟩:=R.lent b ab (hbl _ _ hk);exact key _ hk (by simp) ⟨m,hm⟩
   .cases hb
  .obtain⟨k,hk,rfl⟩:=Option.map_eq_some_iff.1 hb;obtain⟨e1,e2⟩:=hres k b (Khm hk);exact⟨e1.trans hn,e2⟩
 obtain⟨hw1,hw2⟩:=Qnq List.nodup_range h5;obtain⟨hb1,hb2⟩:=Qrs h6;obtain⟨B,hB⟩:∃ B,B=Qft s.blocks (wv++bs):=⟨_,rfl⟩
 have hBr:∀ k id,ids[k]?=some id->∃ ab1 ab2,s1.blocks[id]?=some (BK.live ab1)/\ab1.ren ρ=some ab2/\B[new+k]?=some (BK.live ab2):=fun k id h=>by
  obtain⟨ab1,ab2,e1,e2,e3⟩:=hb1 k id h;refine⟨ab1,ab2,e1,e2,?_⟩;rw[hB];exact Qrk h4 (List.mem_append_right _ e3) (hlen (hfree k (axb.1 h).1))
 have hnb:∀{x:Nat},(∀ k,k<ids.length->x≠new+k)->∀ kk,(x,kk) ∉ bs:=fun h kk hm=>by
  obtain⟨k,e1,e2,_⟩:=hb2 _ _ hm;exact h k e1 e2
 have hBv:∀ b ab,bl b=some (BK.live ab)->B[b]?=some .dead\/∃ ab1 ab2,s1.blocks[b]?=some (BK.live ab1)/\ab1.ren ρ=some ab2/\B[b]?=some (BK.live ab2):=fun b ab h=>by
  have hs:=hbl _ _ h;rcases hw1 b (by simpa using hlen hs) ab h with⟨e1,e2⟩|⟨ab1,ab2,e1,e2,e3⟩
  .left;rw[hB];exact Qrk h4 (List.mem_append_left _ e2) (hlen hs)
  .right;refine⟨ab1,ab2,e1,e2,?_⟩;rw[hB];rcases e3 with⟨rfl,e4⟩|e4
   .rw[Qky]
    .exact hs
    .intro k hk;rcases List.mem_append.1 hk with hk|hk
     .exact e4 k hk
     .exact hnb (hnr hs (by simp)) k hk
   .exact Qrk h4 (List.mem_append_left _ e4) (hlen hs)
 have hnw:∀ x,(∀ k,k<ids.length->x≠new+k)->(∀ ab,bl x≠some (BK.live ab))->∀ k,(x,k) ∉ wv++bs:=fun x g1 g2 k hk=>by
  rcases List.mem_append.1 hk with hk|hk
  .obtain⟨_,⟨ab,e⟩,_⟩:=hw2 x k hk;exact g2 ab e
  .exact hnb g1 k hk
 have hBo:∀ x,(∀ k,k<ids.length->x≠new+k)->(∀ ab,bl x≠some (BK.live ab))->B[x]?=s.blocks[x]?:=fun x g1 g2=>by
  rw[hB];exact Qky _ _ _ (hnw x g1 g2)
 have htri:∀ x,(∃ k id,ids[k]?=some id/\x=new+k)\/(∃ ab,bl x=some (BK.live ab))\/((∀ k,k<ids.length->x≠new+k)/\∀ ab,bl x≠some (BK.live ab)):=fun x=>by
  by_cases e1:∃ k,k<ids.length/\x=new+k
  .obtain⟨k,hk,e⟩:=e1;exact .inl ⟨k,ids[k],axi hk,e⟩
  .by_cases e2:∃ ab,bl x=some (BK.live ab)
   .exact .inr (.inl e2)
   .exact .inr (.inr ⟨fun k hk e=>e1 ⟨k,hk,e⟩,fun ab e=>e2 ⟨ab,e⟩⟩)
 have hcl:∀ x ab,B[x]?=some (BK.live ab)->(∃ id ab1,s1.blocks[id]?=some (BK.live ab1)/\ab1.ren ρ=some ab/\ρ id=some x)\/(s.blocks[x]?=some (BK.live ab)/\(∀ ab',bl x≠some (BK.live ab'))/\(∀ k,k<ids.length->x≠new+k)/\σ2 x=σ x):=fun x ab hx=>by
  rcases htri x with⟨k,id,hk,rfl⟩|⟨ab0,h0⟩|⟨g1,g2⟩
  .obtain⟨ab1,ab2,e1,e2,e3⟩:=hBr k id hk;rw[hx] at e3;cases e3;exact .inl ⟨id,ab1,e1,e2,hρr k id hk⟩
  .rcases hBv x ab0 h0 with e|⟨ab1,ab2,e1,e2,e3⟩
   .rw[hx] at e;cases e
   .rw[hx] at e3;cases e3;exact .inl ⟨x,ab1,e1,e2,hρv x ab0 h0⟩
  .right;refine⟨by rw[<-hBo x g1 g2];exact hx,g2,g1,(hoth x g1).1⟩
 have hcat:∀{x id n m:Nat} {ab1:AB},s1.blocks[id]?=some (BK.live ab1)->ρ id=some x->σ2 x=some n->σ1 id=some n:=fun{x id n m ab1} e1 e2 e3=>by
  obtain⟨q,g1,_⟩:=R1.blocks id ab1 e1;have:=(hRn _ _ _ e2 g1).1;rw[e3] at this;cases this;exact g1
 have hA1:∀{n:Nat},A0 n->A0' n:=fun h=>(hA' _).2 (.inl h)
 have hI:∀{x n:Nat} {ab:AB},s.blocks[x]?=some (BK.live ab)->(∀ ab',bl x≠some (BK.live ab'))->σ x=some n->A0' n:=fun h h' h''=>(hA' _).2 (.inr ⟨_,_,h,h'',h'⟩)
 have hMA:∀{n:Nat},M' n->Al A0 σ s.blocks n:=fun h=>by
  obtain⟨c,ab,e1,e2⟩:=(hM' _).1 h;exact .inr ⟨c,ab,hbl _ _ e1,e2⟩
 have hM0:∀{n:Nat},M' n->w0.heap.size<=n\/M n:=fun{n} h=>by
  obtain⟨c,ab,e1,e2⟩:=(hM' _).1 h;obtain⟨m,g1,g2,_⟩:=R.blocks c ab (hbl _ _ e1);rw[e2] at g1;cases g1;exact g2
 have hAl2:∀ n,Al A0 σ2 B n->Al A0' σ1 s1.blocks n:=fun n h=>by
  rcases h with h|⟨x,ab,hx,hn⟩
  .exact .inl (hA1 h)
  .rcases hcl x ab hx with⟨id,ab1,e1,e2,e3⟩|⟨e1,e2,e3,e4⟩
   .exact .inr ⟨id,ab1,e1,hcat (m:=0) e1 e3 hn⟩
   .exact .inl (hI e1 e2 (by rw[<-e4];exact hn))
 have hAl3:∀ n,n<w.heap.size->Al A0 σ2 B n->Al A0 σ s.blocks n:=fun n hlt h=>by
  rcases h with h|⟨x,ab,hx,hn⟩
  .exact .inl h
  .rcases hcl x ab hx with⟨id,ab1,e1,e2,e3⟩|⟨e1,e2,e3,e4⟩
   .have e5:=hcat (m:=0) e1 e3 hn;obtain⟨q,g1,g2,_⟩:=R1.blocks id ab1 e1;rw[e5] at g1;cases g1;rcases g2 with g2|g2
    .omega
    .exact hMA g2
   .exact .inr ⟨x,ab,e1,by rw[<-e4];exact hn⟩
 have hk':Kp w' w' (Al A0' σ1 s1.blocks) (Al A0 σ2 B):=⟨Nat.le_refl _,fun b _ h=>⟨rfl,fun h'=>h (hAl2 b h')⟩⟩
 subst hB;refine⟨σ2,fun d=>R.stepT (fun b=>∃ ab,bl b=some (BK.live ab)) ht hSub ⟨R1.below.size,fun b g1 g2=>⟨R1.below.block b g1 fun hm=>g2 (hMA hm),fun h=>g2 (hAl3 b g1 h)⟩⟩
  ⟨R1.below.os,R1.below.tape,R1.below.output,R1.below.size,fun b hlt hm=>R1.below.block b (axc hlt R.below.size) fun h=>?_⟩ (fun n h=>?_) (fun b n g1 g2=>?_) (fun b ab g1 g2=>?_) (fun b ab g=>?_) (fun b g=>?_) (fun x y n ab ac hx hy h7 h8=>?_)
  ((AV.ren_ok hRn hr hv).keep ht (Sub.refl _) hk')⟩
 .rcases hM0 h with h|h
  .omega
  .exact hm h
 .have hA:A0' n:=by
   rcases h with h|⟨b,ab,e1,e2,e3,_⟩
   .exact hA1 h
   .exact hI e1 (fun ab' e=>e3 ⟨ab',e⟩) e2
  exact R1.below.block n (R1.low n hA) (R1.apart n hA)
 .rcases htri b with⟨k,id,hk,rfl⟩|⟨ab0,h0⟩|⟨e1,e2⟩
  .obtain⟨ab1,ab2,_,_,e3⟩:=hBr k id hk;exact⟨hfree k (axb.1 hk).1,ab2,e3⟩
  .obtain⟨m,e1,_⟩:=R.blocks b ab0 (hbl _ _ h0);rw[g2] at e1;cases e1
  .rw[(hoth b e1).1,g2] at g1;cases g1
 .rcases hcl b ab g1 with⟨id,ab1,e1,e2,e3⟩|⟨e1,e2,e3,e4⟩
  .obtain⟨m,q1,q2,q3⟩:=R1.blocks id ab1 e1;refine⟨m,(hRn _ _ _ e3 q1).1,?_,Kze ht hRn e2 e3 q1 hk' q3⟩;rcases q2 with q2|q2
   .left;exact axw R.below.size q2
   .exact hM0 q2
  .exfalso;rcases g2 with⟨ab',g2⟩|⟨k,g2⟩
   .exact e2 ab' g2
   .exact hnw b e3 e2 k g2
 .rcases htri b with⟨k,id,hk,rfl⟩|⟨ab0,h0⟩|⟨e1,e2⟩
  .obtain⟨ab1,ab2,_,_,e3⟩:=hBr k id hk;rw[g] at e3;cases e3
  .rcases hBv b ab0 h0 with e|⟨ab1,ab2,_,_,e⟩<;>(rw[g] at e;cases e)
  .rw[<-hBo b e1 e2];exact g
 .rcases htri b with⟨k,id,hk,rfl⟩|⟨ab0,h0⟩|⟨e1,e2⟩
  .obtain⟨ab1,ab2,_,_,e3⟩:=hBr k id hk;rw[g] at e3;cases e3
  .rcases hBv b ab0 h0 with e|⟨ab1,ab2,_,_,e⟩<;>(rw[g] at e;cases e)
  .rw[<-hBo b e1 e2];exact g
 .have mix:∀{x y:Nat} {id:Nat} {ab1 ac:AB},s1.blocks[id]?=some (BK.live ab1)->ρ id=some x->σ2 x=some n->s.blocks[y]?=some (BK.live ac)->(∀ ab',bl y≠some (BK.live ab'))->σ2 y=σ y->σ2 y=some n->False:=fun{x y id ab1 ac} e1 e3 h7 f1 f2 f4 h8=>by
   have e5:=hcat (m:=0) e1 e3 h7;obtain⟨q,g1,g2,_⟩:=R1.blocks id ab1 e1;rw[e5] at g1;cases g1;have hA:=hI f1 f2 (by rw[<-f4];exact h8);rcases g2 with g2|g2
   .have:=R1.low n hA;omega
   .exact R1.apart n hA g2
  rcases hcl x ab hx with⟨id,ab1,e1,e2,e3⟩|⟨e1,e2,e3,e4⟩
  .rcases hcl y ac hy with⟨id',ab1',f1,f2,f3⟩|⟨f1,f2,f3,f4⟩
   .have e5:=hcat (m:=0) e1 e3 h7;have f5:=hcat (m:=0) f1 f3 h8;have:=R1.inj id id' n ab1 ab1' e1 f1 e5 f5;subst this;rw[e3] at f3;cases f3;rfl
   .exact(mix e1 e3 h7 f1 f2 f4 h8).elim
  .rcases hcl y ac hy with⟨id',ab1',f1,f2,f3⟩|⟨f1,f2,f3,f4⟩
   .exact(mix f1 f3 h8 e1 e2 e4 h7).elim
   .exact R.inj x y n ab ac e1 f1 (by rw[<-e4];exact h7) (by rw[<-f4];exact h8)
def Klp(e2:cx'.hp=cx.hp)(e3:cx'.ints=cx.ints):Qbp cx'=Qbp cx:=by
 funext l;unfold Qbp;rw[e2,e3]
def Qzv(e2:cx'.hp=cx.hp)(e3:cx'.ints=cx.ints){A:Nat->Prop}{b n:Nat}{ab:AB}:Qeh T cx' σ A w b ab n↔Qeh T cx σ A w b ab n:=by
 unfold Qeh;rw[Klp e2 e3,e2]
def Rel.recx(e2:cx'.hp=cx.hp)(e3:cx'.ints=cx.ints)(e4:cx'.dfs=cx.dfs)(R:Rel T cx' A0 M w0 σs σ s a w):Rel T cx A0 M w0 σs σ s a w :=
 ⟨R.size,R.slots,R.defers.trans e4,fun b ab h=>by
  obtain⟨n,g1,g2,g3⟩:=R.blocks b ab h;exact⟨n,g1,g2,(Qzv e2 e3).1 g3⟩,fun b ab h=>by
  obtain⟨n,g1,g2,g3⟩:=R.lent b ab h;exact⟨n,g1,g2,(Qzv e2 e3).1 g3⟩,R.inj,R.unborn,R.beyond,R.below,fun h=>R.rcv (by rw[e2];exact h),R.low,R.apart,R.mine,R.start⟩
def Qvo{f:FuncId}{q:Fn}:∀{l:List Fn},Kyt f l=some q->q∈l/\q.f=f
 | [],h=>by cases h
 | p::l,h=>by
  unfold Kyt at h
  split at h
  .rename_i e;cases h;exact⟨List.mem_cons_self,by simpa using e⟩
  .obtain⟨h1,h2⟩:=Qvo h;exact⟨axf _ h1,h2⟩
def Kat(C:Qoa P T cx)(R:Rel T cx A0 M w0 σs σ s a w)(hbl:∀ b k,bl b=some k->s.blocks[b]?=some k){A0' M':Nat->Prop}
  (hA':∀ n,A0' n↔(A0 n\/∃ b ab,s.blocks[b]?=some (BK.live ab)/\σ b=some n/\∀ ab,bl b≠some (BK.live ab))) (hM':∀ n,M' n↔∃ b ab,bl b=some (BK.live ab)/\σ b=some n)
  {s1:AS} {a1:Act} (R1:Rel T cx A0' M' w σ σ1 s1 a1 w') {q:Fn} {args:List AR} {new:Nat} {r':AV} {ws:List (Nat×BK)} {rd:List Nat} (h:Khn cx q args bl s.blocks.length new s1=some (r',ws,rd)) :
  ∃ v,(results q.fn a1.tmps).run P w'=.ok v w'/\∃ σ2,∀ d,Rel T cx A0 M w0 σs σ2 (s.put d ⟨r',ws⟩) (a.put d v) w':=by
 unfold Khn at h
 split at h
 .cases h
 .rename_i r hr;obtain⟨v,e1,e2⟩:=Ket C R1 hr;refine⟨v,e1,?_⟩;simp only at h
  split at h
  .rename_i r2 wv bs k1 k2 k3
   split at h
   .rename_i hc;simp only[Bool.and_eq_true] at hc;obtain⟨⟨⟨c1,c2⟩,c3⟩,c4⟩:=hc;cases h;exact Kzb C.table R hbl hA' hM' R1 c1 c2 c3 c4 k2 k3 k1 e2
   .cases h
  .cases h
def Kqs(C:Qoa P T cx)(hm:P.follows .mixedOrders=true)(hcu:cx.cuts=[]){fs:List Fn}(hfs:∀ q∈fs,P.funcs[q.f]?=some q.fn/\Enters P q.f)(e1:cx'.inl=Uhh cx fs)(e2:cx'.hp=cx.hp)(e3:cx'.ints=cx.ints)(e4:cx'.dfs=cx.dfs)(hdf:cx.dfs=[]):Ufh P T cx':=by
 intro A0 M w0 σs σ s a w R' f args vs bl new r ws rd hbl hargs he;have R:=R'.recx e2 e3 e4;rw[e1] at he;unfold Uhh at he
 split at he
 .cases he
 .rename_i q hq;obtain⟨hq1,hq2⟩:=Qvo hq;obtain⟨hf,hen⟩:=hfs q hq1;subst hq2;refine⟨hen,?_⟩
  split at he
  .cases he
  .rename_i c hb;obtain⟨A0',hA'⟩:∃ A0':Nat->Prop,∀ n,A0' n↔(A0 n\/∃ b ab,s.blocks[b]?=some (BK.live ab)/\σ b=some n/\∀ ab,bl b≠some (BK.live ab)):=⟨_,fun _=>Iff.rfl⟩
   obtain⟨M',hM'⟩:∃ M':Nat->Prop,∀ n,M' n↔∃ b ab,bl b=some (BK.live ab)/\σ b=some n:=⟨_,fun _=>Iff.rfl⟩
   have hAA:∀{n:Nat},A0' n->Al A0 σ s.blocks n:=fun h=>by
    rcases(hA' _).1 h with h|⟨b,ab,g1,g2,_⟩
    .exact .inl h
    .exact .inr ⟨b,ab,g1,g2⟩
   have hAl:Al A0' σ (Knp bl s.blocks.length)=Al A0 σ s.blocks:=by
    funext n;refine propext ⟨?_,?_⟩
    .rintro(h|⟨b,ab,g1,g2⟩)
     .exact hAA h
     .obtain⟨_,g3⟩:=Qkz g1;exact .inr ⟨b,ab,hbl _ _ (Qno g3),g2⟩
    .rintro(h|⟨b,ab,g1,g2⟩)
     .exact .inl ((hA' _).2 (.inl h))
     .by_cases e:∃ ab',bl b=some (BK.live ab')
      .obtain⟨ab',e⟩:=e;refine .inr ⟨b,ab',?_,g2⟩;rw[Ubq (axb.1 g1).1,e];rfl
      .exact .inl ((hA' _).2 (.inr ⟨b,ab,g1,g2,fun ab' h=>e ⟨ab',h⟩⟩))
   have hlen:=hargs.length;have R0:Rel T cx A0' M' w σ σ { tmps:=args.map AV.r++List.replicate (q.fn.ntmps-args.length) .undf,blocks:=Knp bl s.blocks.length } { tmps:=vs.toArray++Array.replicate (q.fn.ntmps-vs.toArray.size) undef,defers:=[] } w:=by
    refine⟨?_,?_,hdf.symm,fun b ab h=>?_,fun b ab h=>?_,fun b c n ab ac hb hc h1 h2=>?_,fun b h=>?_,fun b h=>?_,Qgq.refl _ _ _,fun hp n hn=>R.rcvs C.table hp n (hAA hn),fun n hn=>R.low' n (hAA hn),fun n hn hm'=>?_,fun n hm'=>?_,Sub.refl _⟩
    .simp[hlen]
    .show ∀ i (av:AV),(args.map AV.r++List.replicate (q.fn.ntmps-args.length) AV.undf)[i]?=some av->av.ok T _ _ w (Al A0' σ (Knp bl s.blocks.length));rw[hAl];have:q.fn.ntmps-vs.toArray.size=q.fn.ntmps-args.length:=by simp[hlen]
     rw[this];exact Qsm hargs
    .show ∃ n,σ b=some n/\_/\Qeh T cx σ (Al A0' σ (Knp bl s.blocks.length)) w b ab n;rw[hAl];have hv:=Qno (Qkz h).2;obtain⟨n,g1,_,g3⟩:=R.blocks b ab (hbl _ _ hv);exact⟨n,g1,.inr ((hM' _).2 ⟨b,ab,hv,g1⟩),g3⟩
    .show ∃ n,σ b=some n/\_/\Qeh T cx σ (Al A0' σ (Knp bl s.blocks.length)) w b ab n;rw[hAl];have hv:=Ktu (Qkz h).2;obtain⟨n,g1,g2,g3⟩:=R.lent b ab (hbl _ _ hv);exact⟨n,g1,(hA' _).2 (.inl g2),g3⟩
    .exact R.inj b c n ab ac (hbl _ _ (Qno (Qkz hb).2)) (hbl _ _ (Qno (Qkz hc).2)) h1 h2
    .exact(Kfd (Qkz h).2).elim
    .have h':(Knp bl s.blocks.length).length<=b:=h;exact R.beyond b (by simpa[Knp] using h')
    .obtain⟨c,ac,g1,g2⟩:=(hM' _).1 hm';obtain⟨m,g3,g4,_⟩:=R.blocks c ac (hbl _ _ g1);rw[g2] at g3;cases g3;rcases(hA' _).1 hn with h|⟨b,ab,k1,k2,k3⟩
     .rcases g4 with g4|g4
      .have:=R.low n h;omega
      .exact R.apart n h g4
     .have:=R.inj b c n ab ac k1 (hbl _ _ g1) k2 g2;subst this;exact k3 _ g1
    .obtain⟨c,ac,g1,g2⟩:=(hM' _).1 hm';exact R.lt (hbl _ _ g1) g2
   have fin:∀(s1:AS),Khn cx q args bl s.blocks.length new s1=some (r,ws,rd)->∀(σ':Sg) (a':Act) (w':World),Rel T cx A0' M' w σ σ' s1 a' w' ->
     a'.defers=[]/\∃ v,(results q.fn a'.tmps).run P w'=.ok v w'/\∃ u,Ending.returned v=.returned u/\∃ σ2,∀ d,Rel T cx' A0 M w0 σs σ2 (s.put d ⟨r,ws⟩) (a.put d u) w':=fun s1 h1 σ' a' w' R1=>by
    obtain⟨v,g1,σ2,g2⟩:=Kat C R hbl hA' hM' R1 h1;exact⟨R1.defers.trans hdf,v,g1,v,rfl,σ2,fun d=>(g2 d).recx e2.symm e3.symm e4.symm⟩
   refine calls_of_wp hf hb ?_
   split at he
   .rename_i s1 hev;exact(Qha C hm (.inl hcu) (fun k hk=>by rw[hcu] at hk;cases hk) q.fuel (fun x _ k hk=>by rw[hcu] at hk;cases hk) R0 hev fun σ' a' w' R1=>fin s1 he σ' a' w' R1).1
   .rename_i s1 hev;exact(Qha C hm (.inl hcu) (fun k hk=>by rw[hcu] at hk;cases hk) q.fuel (fun x _ k hk=>by rw[hcu] at hk;cases hk) R0 hev fun σ' a' w' R1=>fin s1 he σ' a' w' R1).1
   .cases he
def upC(cx:Cx)(fs:List Fn)(width:Nat):Cx:={ cx with inl:=Uhh cx fs,width }
def Uqx(C:Qoa P T cx)(hm:P.follows .mixedOrders=true)(hcu:cx.cuts=[]){fs:List Fn}(hfs:∀ q∈fs,P.funcs[q.f]?=some q.fn/\Enters P q.f)(width:Nat)(hdf:cx.dfs=[]):Qoa P T (upC cx fs width) :=
 ⟨C.table,C.tys,C.calls,C.enters,C.bins,C.others,Kqs C hm hcu hfs rfl rfl rfl rfl hdf⟩
end
end Tr
namespace Tr
open Go Go.RowKit
section
variable{P:Program}{L:List GF}{hp:Bool}
def upN(cx:Cx)(fs:List Fn)(width:Nat):Nat->Cx
 | 0=>cx
 | n+1=>upC (upN cx fs width n) fs width
def Qjl{cx:Cx}(h:cx.cuts=[])(fs:List Fn)(width:Nat):∀ n,(upN cx fs width n).cuts=[]
 | 0=>h
 | n+1=>Qjl h fs width n
def Kjj(cx:Cx)(fs:List Fn)(width:Nat):∀ n,(upN cx fs width n).hp=cx.hp
 | 0=>rfl
 | n+1=>Kjj cx fs width n
def FnsOk(P:Program)(fs:List Fn):Prop:=∀ q∈fs,P.funcs[q.f]?=some q.fn/\Enters P q.f
def FnsOk.nil:FnsOk P []:=fun q h=>by cases h
def FnsOk.cons{f:FuncId}{fn:Func}{n:Nat}{fs:List Fn}(h:P.funcs[f]?=some fn)(e:Enters P f)(k:FnsOk P fs):FnsOk P (⟨f,fn,n⟩::fs):=fun q hq=>by
 rcases List.mem_cons.1 hq with hq|hq
 .subst hq;exact⟨h,e⟩
 .exact k q hq
def Qtl(cx:Cx)(fs:List Fn)(width:Nat):∀ n,(upN cx fs width n).dfs=cx.dfs
 | 0=>rfl
 | n+1=>Qtl cx fs width n
def Kts{T:Nat->Qcq}{cx:Cx}(C:Qoa P T cx)(hm:P.follows .mixedOrders=true)(hcu:cx.cuts=[]){fs:List Fn}(hfs:FnsOk P fs)(width:Nat)(hdf:cx.dfs=[]):∀ n,Qoa P T (upN cx fs width n)
 | 0=>C
 | n+1=>Uqx (Kts C hm hcu hfs width hdf n) hm (Qjl hcu fs width n) hfs width ((Qtl cx fs width n).trans hdf)
def Ktr{T:Nat->Qcq}{cx:Cx}(C:Qoa P T cx)(hm:P.follows .mixedOrders=true)(hcu:cx.cuts=[]){fs:List Fn}(hfs:FnsOk P fs)(width n:Nat)(hdf:cx.dfs=[]:=by rfl):Qoa P T (upN cx fs width n):=Kts C hm hcu hfs width hdf n
def Qas{tys:List (TypeId×TyI)}(ht:∀ p∈tys,p.2.good P p.1=true)(hm:P.follows .mixedOrders=true)(C:List (GC P L hp))(B:List (GB P L))(O:List (GO P L)){fs:List Fn}(hfs:FnsOk P fs)(width depth:Nat){f:FuncId}{fn:Func}(hf:P.funcs[f]?=some fn)(ent:Enters P f)(fuel:Nat)(args:List AR)(res:AV)
  {fa:List FR} {fr:FV} (hev:evF (upN (gcx tys hp L C B O) fs width depth) fn fuel args res=true:=by kernel_rfl) (ha:Kda L args=some fa:=by kernel_rfl) (hr:res.lk L=some fr:=by kernel_rfl):Qbj P hp f fa fr :=
 ⟨ent,fun w A vs hR hA hu=>(Kdv (Ktr (Qps ht C B O) hm rfl hfs width depth) hm hf fuel hev (fun k hk=>by rw[Qjl rfl] at hk;cases hk) (fun c _ x _ k hk=>by rw[Qjl rfl] at hk;cases hk) σ0 w A vs (fun h=>hR (by rw[Kjj] at h;exact h)) hA ((Qln ha).2 hu) ((Qtl _ fs width depth).trans rfl)).mono fun r w' ⟨v,h1,h2,h3⟩=>⟨v,h1,(AV.lk_ok hr).1 h2,h3⟩⟩
end
end Tr
namespace Tr
open Go Go.RowKit
section
variable{P:Program}{L:List GF}{hp:Bool}
def Qhb{tys:List (TypeId×TyI)}(ht:∀ p∈tys,p.2.good P p.1=true)(hm:P.follows .mixedOrders=true)(C:List (GC P L hp))(B:List (GB P L))(O:List (GO P L)){fs:List Fn}(hfs:FnsOk P fs)(width depth:Nat){f:FuncId}{fn:Func}(hf:P.funcs[f]?=some fn)(ent:Enters P f)(fuel:Nat)(abs:List AB)(args:List AR)(res:AV)
  {bl:List (List GF×TypeId)} {fa:List FA} {fr:FV} (hev:evL (upN (gcx tys hp L C B O) fs width depth) fn fuel abs args res=true:=by kernel_rfl) (hb:Ukr L abs=some bl:=by kernel_rfl) (ha:Ucn L args=some fa:=by kernel_rfl) (hr:res.lk L=some fr:=by kernel_rfl):Qle P hp f bl fa fr :=
 ⟨ent,fun σ w A vs hR hA hbl hbey hu=>by
  obtain⟨hl,hg⟩:=Qqr hb;have hnr:res.noown=true:=by
   have:=hev;unfold evL at this;simp only[Bool.and_eq_true] at this;exact this.1.1
  refine(Kdu (Ktr (Qps ht C B O) hm rfl hfs width depth) hm hf fuel hev (fun k hk=>by rw[Qjl rfl] at hk;cases hk) (fun c _ x _ k hk=>by rw[Qjl rfl] at hk;cases hk) σ w A vs (fun h=>hR (by rw[Kjj] at h;exact h)) hA ((Qog ha).2 hu) (fun b ab h=>?_) (fun b h=>hbey b (by omega)) ((Qtl _ fs width depth).trans rfl)).mono fun r w' ⟨v,h1,h2,h3⟩=>⟨v,h1,(AV.lk_ok hr).1 h2,h3⟩
  obtain⟨gs,h1,h2⟩:=hg b ab h;obtain⟨n,us,k1,k2,k3,k4⟩:=hbl b gs ab.ty h1;exact⟨n,us,k1,k2,k3,(Qif h2).2 k4⟩⟩
end
end Tr
namespace Tr
open Go Go.RowKit
def Kal(fn:Func)(ab:AB)(args:List AR):AS:={ tmps:=args.map AV.r++List.replicate (fn.ntmps-args.length) .undf,blocks:=[.live ab] }
def evG(cx:Cx)(fn:Func)(fuel:Nat)(ab:AB)(args:List AR)(res:AV):Bool :=
 res.noown&&(Qbp cx ab.cells&&ab.more.isNone) &&
 match fn.body with
 | some c=>match evC cx fuel c (Kal fn ab args) with
  | some (.exit _,_)=>false
  | some (_,s)=>(match Uax cx fn s with|some r=>r.beq res|none=>false)
  | none=>false
 | none=>false
section
variable{P:Program}{T:Nat->Qcq}{cx:Cx}
def Ugl(C:Qoa P T cx)(hm:P.follows .mixedOrders=true)(hcu:cx.cuts=[]){f:FuncId}{fn:Func}(hf:P.funcs[f]?=some fn){ab:AB}{args:List AR}{res:AV}(fuel:Nat)(hev:evG cx fn fuel ab args res=true)(hdf:cx.dfs=[])
  (σ:Sg) (w:World) (A:Nat->Prop) (vs:List Value) (hR:cx.hp=true->Rcv A w) (hA:∀ n,A n->n<w.heap.size) (hargs:okr T σ args vs w A) {n:Nat} {us:List Value} (hn:σ 0=some n) (hAn:A n) (hh:w.heap[n]?=some (.cells us.toArray ab.ty (0,0))) (hu:oks T σ ab.cells us w A) (hbey:∀ b,1<=b->σ b=none) :
  Calls P f vs.toArray w fun r w'=>∃ v,r=.returned v/\res.ok T σ v w' (fun x=>A x/\x≠n)/\Mod n w w':=by
 unfold evG at hev;simp only[Bool.and_eq_true,Option.isNone_iff_eq_none] at hev;obtain⟨⟨hnr,hbo,hmo⟩,hev⟩:=hev;cases hb:fn.body with
 | none=>simp[hb] at hev
 | some c =>
  simp only[hb] at hev;refine calls_of_wp hf hb ?_;have hlen:=hargs.length;have hl1:∀(b:Nat) (x:AB),([.live ab]:List BK)[b]?=some (.live x)->b=0/\x=ab:=fun b x h=>by
   match b,h with
   | 0,h=>cases h;exact⟨rfl,rfl⟩
   | b+1,h=>simp at h
  have hAl:Al (fun x=>A x/\x≠n) σ [.live ab]=A:=by
   funext m;unfold Al;refine propext ⟨?_,fun h=>?_⟩
   .rintro(h|⟨b,x,h,h2⟩)
    .exact h.1
    .obtain⟨rfl,rfl⟩:=hl1 b x h;rw[hn] at h2;cases h2;exact hAn
   .by_cases e:m=n
    .subst e;exact .inr ⟨0,ab,rfl,hn⟩
    .exact .inl ⟨h,e⟩
  have R0:Rel T cx (fun x=>A x/\x≠n) (fun x=>x=n) w σ0 σ (Kal fn ab args) { tmps:=vs.toArray++Array.replicate (fn.ntmps-vs.toArray.size) undef,defers:=[] } w:=by
   refine⟨?_,?_,hdf.symm,fun b x h=>?_,fun b x h=>?_,fun b c m x y h1 h2 _ _=>?_,fun b h=>?_,fun b h=>?_,Qgq.refl _ _ _,fun h m hm'=>hR h m hm'.1,fun m h=>hA m h.1,fun m h e=>h.2 e,fun m e=>by subst e;exact hA _ hAn,Sub.zero _⟩
   .simp[Kal,hlen]
   .show ∀ i (av:AV),(args.map AV.r++List.replicate (fn.ntmps-args.length) AV.undf)[i]?=some av->av.ok T _ _ w (Al (fun x=>A x/\x≠n) σ [.live ab]);rw[hAl];have:fn.ntmps-vs.toArray.size=fn.ntmps-args.length:=by simp[hlen]
    rw[this];exact Qsm hargs
   .obtain⟨rfl,rfl⟩:=hl1 b x h;refine⟨n,hn,.inr rfl,?_⟩;show Qeh T cx σ (Al (fun x=>A x/\x≠n) σ [.live x]) w 0 x n;rw[hAl];exact⟨us,[],by simpa using hh,hu,hbo,by simp,by simp,by rw[hmo]⟩
   .have h':([.live ab]:List BK)[b]?=some (.lent x):=h
    match b,h' with
    | 0,h'=>cases h'
    | b+1,h'=>simp at h'
   .rw[(hl1 b x h1).1,(hl1 c y h2).1]
   .have h':([.live ab]:List BK)[b]?=some .unborn:=h
    match b,h' with
    | 0,h'=>cases h'
    | b+1,h'=>simp at h'
   .exact hbey b (by simpa[Kal] using h)
  have fin:∀(σ':Sg) (s1:AS) (a':Act) (w':World),Rel T cx (fun x=>A x/\x≠n) (fun x=>x=n) w σ0 σ' s1 a' w'->(match Uax cx fn s1 with|some r=>r.beq res|none=>false)=true ->
    a'.defers=[]/\∃ v,(results fn a'.tmps).run P w'=.ok v w'/\∃ u,Ending.returned v=.returned u/\res.ok T σ u w' (fun x=>A x/\x≠n)/\Mod n w w':=fun σ' s1 a' w' R' hr=>by
   cases hx:Uax cx fn s1 with
   | none=>simp[hx] at hr
   | some r =>
    simp only[hx] at hr;have:=AV.eq_of hr;subst this;obtain⟨v,e1,e2⟩:=Ket C R' hx;refine⟨R'.defers.trans hdf,v,e1,v,rfl,?_,⟨R'.below.os,R'.below.tape,R'.below.output,R'.below.size,fun k hk hne=>R'.below.block k hk hne⟩⟩;have h3:=AV.ok.keep (T:=T) (ints:=cx.ints) C.table (Sub.refl σ') (w:=w') (w':=w') (A:=Al (fun x=>A x/\x≠n) σ' s1.blocks) (A':=fun x=>A x/\x≠n) ⟨Nat.le_refl _,fun b _ h=>⟨rfl,fun h'=>h (.inl h')⟩⟩ e2;exact AV.ok_noown hnr h3
  cases he:evC cx fuel c (Kal fn ab args) with
  | none=>simp[he] at hev
  | some p =>
   obtain⟨e,s1⟩:=p;simp only[he] at hev;refine(Qha C hm (.inl hcu) (fun k hk=>by rw[hcu] at hk;cases hk) fuel (fun y _ k hk=>by rw[hcu] at hk;cases hk) R0 he fun σ' a' w' R'=>?_).1;cases e with
   | normal=>exact fin σ' s1 a' w' R' hev
   | ret=>exact fin σ' s1 a' w' R' hev
   | exit id=>cases hev
end
structure Kxr(P:Program)(hp:Bool)(f:FuncId)(bl:List GF×TypeId)(args:List FA)(res:FV):Prop where
 ent:Enters P f
 ok:∀(σ:Sg) (w:World) (A:Nat->Prop) (vs:List Value) (n:Nat) (us:List Value),(hp=true->Rcv A w)->(∀ n,A n->n<w.heap.size)->σ 0=some n->A n->w.heap[n]?=some (.cells us.toArray bl.2 (0,0))->okg bl.1 us w A->(∀ b,1<=b->σ b=none)->oka σ args vs w A ->
  Calls P f vs.toArray w fun r w'=>∃ v,r=.returned v/\res.R v w' (fun x=>A x/\x≠n)/\Mod n w w'
section
variable{P:Program}{L:List GF}{hp:Bool}
def Unf{tys:List (TypeId×TyI)}(ht:∀ p∈tys,p.2.good P p.1=true)(hm:P.follows .mixedOrders=true)(C:List (GC P L hp))(B:List (GB P L))(O:List (GO P L)){fs:List Fn}(hfs:FnsOk P fs)(width depth:Nat){f:FuncId}{fn:Func}(hf:P.funcs[f]?=some fn)(ent:Enters P f)(fuel:Nat)(ab:AB)(args:List AR)(res:AV)
  {gs:List GF} {ty:TypeId} {fa:List FA} {fr:FV} (hev:evG (upN (gcx tys hp L C B O) fs width depth) fn fuel ab args res=true:=by kernel_rfl) (hb:Kkr L ab.cells=some gs:=by kernel_rfl) (hty:ab.ty=ty:=by rfl) (ha:Ucn L args=some fa:=by kernel_rfl) (hr:res.lk L=some fr:=by kernel_rfl):Kxr P hp f (gs,ty) fa fr :=
 ⟨ent,fun σ w A vs n us hR hA hn hAn hh hu hbey hargs=>by
  subst hty;refine(Ugl (Ktr (Qps ht C B O) hm rfl hfs width depth) hm (Qjl rfl _ _ _) hf fuel hev ((Qtl _ fs width depth).trans rfl) σ w A vs (fun h=>hR (by rw[Kjj] at h;exact h)) hA ((Qog ha).2 hargs) hn hAn hh ((Qif hb).2 hu) hbey).mono fun r w' ⟨v,h1,h2,h3⟩=>⟨v,h1,(AV.lk_ok hr).1 h2,h3⟩⟩
def gsG{hp' hp:Bool}{f:FuncId}{gs:List GF}{ty:TypeId}{fa:List FA}{fr:FV}(h:Kxr P hp' f (gs,ty) fa fr)(b:Nat)(ab:AB)(args:List AR)(res:AV)
  (hb:Kkr L ab.cells=some gs:=by kernel_rfl) (hty:ab.ty=ty:=by rfl) (ha:Ucn L args=some fa:=by kernel_rfl) (hr:res.lk L=some fr:=by kernel_rfl) (hc:(args.all (Upi 1)&&ab.cells.all (Udd 1)&&res.noown&&(!hp'||hp))=true:=by kernel_rfl):GC P L hp :=
 ⟨{ f,args:=args.map (rnR [b]),res,needs:=[(b,rnB [b] ab)],give:=some b },h.ent,fun σ w A us hR hA hu hn=>by
  intro n hbn hAn;subst hty;simp only[Bool.and_eq_true] at hc;obtain⟨⟨⟨hla,hlb⟩,hnr⟩,hh⟩:=hc;obtain⟨⟨n',vs,k1,k2,k3,k4⟩,_⟩:=hn;have e:n=n':=by
   have:=hbn.symm.trans k1;cases this;rfl
  subst e;let σ':Sg:=⟨fun k=>if k<1 then σ ([b].getD k 0) else none,fun _=>0⟩
  have hσ:∀ k,k<[b].length->σ' k=σ ([b].getD k 0):=fun k h=>if_pos h
  refine(h.ok σ' w A us n vs (fun e=>hR (by subst e;simpa using hh)) hA ((hσ 0 (by simp)).trans hbn) hAn k3 ((Qif hb).1 (Qyi hσ hlb k4)) (fun k hk=>if_neg (by omega)) ((Qog ha).1 (Keu hσ hla hu))).mono fun r w' ⟨v,h1,h2,h3⟩=>⟨v,h1,AV.ok_noown hnr ((AV.lk_ok (σ:=σ') hr).2 h2),h3⟩⟩
end
end Tr
namespace Go.Proofs.YtmimficdpfmfgaaGreat
open Go.RowKit Tr
def Qak{q:Rat}(h:¬q.num.sign=0):q≠0:=fun e=>h (by rw[e];rfl)
def Qcs{x y:Rat}{k l:Nat}(h0:y≠0)(hx:RL x k)(hy:RL y l):RL (x/y) (k+l):=by rw[Rat.div_def];exact Qad hx (Qca h0 hy)
def Qdr{q:Rat}{k:Nat}(h:RL q k):RL (sqr q) (k+1):=Umj (h.mono (by omega)) (by omega)
structure Uym where
 a:Qbg
 b:Qbg
 c:Qbg
 d:Qbg
 t:Bool
def Uym.val(m:Uym):Value:=.agg (m.a.vals++m.b.vals++m.c.vals++m.d.vals++[Value.bool m.t]).toArray
def Kzc{α:Type}{p q:Prop}[Decidable p][Decidable q](a b:α):(if p then(if q then a else b) else b)=if p/\q then a else b:=by
 by_cases hp:p<;>by_cases hq:q<;>simp[hp,hq]
def Kxk(a b c d:Rat)(v v':Value)(A:Nat->Prop)(w:World)(hv:Qhr a b v w A)(hv':Qhr c d v' w A)(hA:Rcv A w)(k l:Nat)(hla:RL a k)(hlb:RL b k)(hlc:RL c l)(hld:RL d l)(hkl:k+l+(k+l)<137438953472) :
  Calls Tryz.prog 174 #[v,v'] w fun e w'=>∃ u,e=.returned u/\Below w.heap.size w w'/\Qhr (a+c) (b+d) u w' A:=by
 obtain⟨u1,u2,rfl,h1,h2⟩:=hv;obtain⟨u3,u4,rfl,h3,h4⟩:=hv';obtain⟨W,HV,hs1,hs2,e0,e1,e2,e3⟩:=Qxg w u1 u2 u3 u4 A hA;have h1:=Qdl (Qeq.keeps a) (n:=w.heap.size+2) HV.out.2.1 (by omega) h1;have h2:=Qdl (Qeq.keeps b) (n:=w.heap.size+2) HV.out.2.1 (by omega) h2;have h3:=Qdl (Qeq.keeps c) (n:=w.heap.size+2) HV.out.2.1 (by omega) h3;have h4:=Qdl (Qeq.keeps d) (n:=w.heap.size+2) HV.out.2.1 (by omega) h4;clear hA
 go_enter Tryz.func174,Tryz.ntmps174
 go_wp2_with fail
 rw[<-HV.out.1];refine Qav [(.new zR,[]),(.lit,[]),(.lit,[]),(.val,[]),(.lit,[]),(.lit,[]),(.val,[]),(.on 0 zR,[3,6]),(.new zR,[]),(.lit,[]),(.lit,[]),(.val,[]),(.lit,[]),(.lit,[]),(.val,[]),(.on 8 zR,[11,14])]
  (Qfj [(3,Qbc (Mo A (w.heap.size+2)) (Qbk (a))),(6,Qbc (Mo A (w.heap.size+2)) (Qbk (c))),(7,Qbc (Mo A (w.heap.size+2)) (Qbk (a+c))),(11,Qbc (Mo A (w.heap.size+2)) (Qbk (b))),(14,Qbc (Mo A (w.heap.size+2)) (Qbk (d))),(15,Qbc (Mo A (w.heap.size+2)) (Qbk (b+d)))]) kR ?_ ?_ (by simp[Qdg]) (by simp) kR
 .exact Qbh (by simp only[List.mem_cons,List.not_mem_nil,or_false];rintro p (rfl|rfl|rfl|rfl|rfl|rfl)<;>exact Qbc.keeps (Qbk.keeps _))
 .refine⟨fun f w1=>by go_simp,?_⟩;refine⟨_,fun f w1 h1=>by(have d0:=ct h1 hs1 e0;have d1:=ct h1 hs1 e1;have d2:=ct h1 hs2 e2;have d3:=ct h1 hs2 e3;go_simp;rfl),?_⟩;refine⟨_,fun f w1 h1=>by(have d0:=ct h1 hs1 e0;have d1:=ct h1 hs1 e1;have d2:=ct h1 hs2 e2;have d3:=ct h1 hs2 e3;go_simp;rfl),?_⟩;simp only[Act.put,nrA,nrB,nrC,Nat.reduceAdd];refine⟨fun f w1 A1 k1 hA hN hd K hK=>by
   go_simp
   refine(Qed a u1 (Un (Mo A (w.heap.size+2)) A1) w1 (Qdk (Qbc.keeps (Qeq.keeps _)) h1 k1 hN) (Qes (HV.out.2.2.1.below (br.drew.trans k1)) hA)).mono ?_;rintro e w' ⟨v,rfl,hb,hr⟩;exact hK _ _ hb hr,?_⟩
  refine⟨_,fun f w1 h1=>by(have d0:=ct h1 hs1 e0;have d1:=ct h1 hs1 e1;have d2:=ct h1 hs2 e2;have d3:=ct h1 hs2 e3;go_simp;rfl),?_⟩;refine⟨_,fun f w1 h1=>by(have d0:=ct h1 hs1 e0;have d1:=ct h1 hs1 e1;have d2:=ct h1 hs2 e2;have d3:=ct h1 hs2 e3;go_simp;rfl),?_⟩;simp only[Act.put,nrA,nrB,nrC,Nat.reduceAdd];refine⟨fun f w1 A1 k1 hA hN hd K hK=>by
   go_simp
   refine(Qed c u3 (Un (Mo A (w.heap.size+2)) A1) w1 (Qdk (Qbc.keeps (Qeq.keeps _)) h3 k1 hN) (Qes (HV.out.2.2.1.below (br.drew.trans k1)) hA)).mono ?_;rintro e w' ⟨v,rfl,hb,hr⟩;exact hK _ _ hb hr,?_⟩
  simp only[Act.put,nrA,nrB,nrC,Nat.reduceAdd];refine⟨fun f w1 A1 m1 k1 hA hN hAm hm0 e hz hd K hK=>by
   simp only[e] at hK ⊢;have i1:Qbk (a) (f 3) w1 (Un (Mo A (w.heap.size+2)) A1):=hd 3 (by simp);have i2:Qbk (c) (f 6) w1 (Un (Mo A (w.heap.size+2)) A1):=hd 6 (by simp)
   go_simp
   refine(Qkq m1 _ _ _ _ _ _ w1 hz (by decide) Qdg i1 i2 (k) (l) hla hlc (by omega)).mono ?_;rintro e w' ⟨rfl,hp⟩;exact hK _ w' hp.1 (hp.ratU (HV.out.2.2.1.below (br.drew.trans k1)) hA hm0 (fun b hb=>HV.out.2.2.1.lt hb)),?_⟩
  refine⟨fun f w1=>by go_simp,?_⟩;refine⟨_,fun f w1 h1=>by(have d0:=ct h1 hs1 e0;have d1:=ct h1 hs1 e1;have d2:=ct h1 hs2 e2;have d3:=ct h1 hs2 e3;go_simp;rfl),?_⟩;refine⟨_,fun f w1 h1=>by(have d0:=ct h1 hs1 e0;have d1:=ct h1 hs1 e1;have d2:=ct h1 hs2 e2;have d3:=ct h1 hs2 e3;go_simp;rfl),?_⟩;simp only[Act.put,nrA,nrB,nrC,Nat.reduceAdd];refine⟨fun f w1 A1 k1 hA hN hd K hK=>by
   go_simp
   refine(Qed b u2 (Un (Mo A (w.heap.size+2)) A1) w1 (Qdk (Qbc.keeps (Qeq.keeps _)) h2 k1 hN) (Qes (HV.out.2.2.1.below (br.drew.trans k1)) hA)).mono ?_;rintro e w' ⟨v,rfl,hb,hr⟩;exact hK _ _ hb hr,?_⟩
  refine⟨_,fun f w1 h1=>by(have d0:=ct h1 hs1 e0;have d1:=ct h1 hs1 e1;have d2:=ct h1 hs2 e2;have d3:=ct h1 hs2 e3;go_simp;rfl),?_⟩;refine⟨_,fun f w1 h1=>by(have d0:=ct h1 hs1 e0;have d1:=ct h1 hs1 e1;have d2:=ct h1 hs2 e2;have d3:=ct h1 hs2 e3;go_simp;rfl),?_⟩;simp only[Act.put,nrA,nrB,nrC,Nat.reduceAdd];refine⟨fun f w1 A1 k1 hA hN hd K hK=>by
   go_simp
   refine(Qed d u4 (Un (Mo A (w.heap.size+2)) A1) w1 (Qdk (Qbc.keeps (Qeq.keeps _)) h4 k1 hN) (Qes (HV.out.2.2.1.below (br.drew.trans k1)) hA)).mono ?_;rintro e w' ⟨v,rfl,hb,hr⟩;exact hK _ _ hb hr,?_⟩
  simp only[Act.put,nrA,nrB,nrC,Nat.reduceAdd];refine⟨fun f w1 A1 m1 k1 hA hN hAm hm0 e hz hd K hK=>by
   simp only[e] at hK ⊢;have i1:Qbk (b) (f 11) w1 (Un (Mo A (w.heap.size+2)) A1):=hd 11 (by simp);have i2:Qbk (d) (f 14) w1 (Un (Mo A (w.heap.size+2)) A1):=hd 14 (by simp)
   go_simp
   refine(Qkq m1 _ _ _ _ _ _ w1 hz (by decide) Qdg i1 i2 (k) (l) hlb hld (by omega)).mono ?_;rintro e w' ⟨rfl,hp⟩;exact hK _ w' hp.1 (hp.ratU (HV.out.2.2.1.below (br.drew.trans k1)) hA hm0 (fun b hb=>HV.out.2.2.1.lt hb)),?_⟩
  intro f w1 k1 hF;have i0:Qbk (a) (f 3) w1 ((Mo A (w.heap.size+2))):=Qbc.done (Qbk.keeps _) hF.1.1.1.1.1.2;have i1:Qbk (c) (f 6) w1 ((Mo A (w.heap.size+2))):=Qbc.done (Qbk.keeps _) hF.1.1.1.1.2;have i2:Qbk (a+c) (f 7) w1 ((Mo A (w.heap.size+2))):=Qbc.done (Qbk.keeps _) hF.1.1.1.2;have i3:Qbk (b) (f 11) w1 ((Mo A (w.heap.size+2))):=Qbc.done (Qbk.keeps _) hF.1.1.2;have i4:Qbk (d) (f 14) w1 ((Mo A (w.heap.size+2))):=Qbc.done (Qbk.keeps _) hF.1.2;have i5:Qbk (b+d) (f 15) w1 ((Mo A (w.heap.size+2))):=Qbc.done (Qbk.keeps _) hF.2;clear hF;simp only[Act.put,nrA,nrB,nrC];generalize f 3=v0 at *
  generalize f 6=v1 at *
  generalize f 7=v2 at *
  generalize f 11=v3 at *
  generalize f 14=v4 at *
  generalize f 15=v5 at *
  have hb1:Below W.heap.size W w1:=br.drew.trans k1;obtain⟨c0,c1,f0,f1⟩:=HV.out.2.2.2 w1 hb1;have hbw:=HV.out.2.1.trans (hb1.mono HV.out.2.1.size);have HE:=hid (And.intro i2 (And.intro i5 hbw));obtain⟨m1,rfl⟩:=i2.shape;obtain⟨m2,rfl⟩:=i5.shape;clear e0 e1 e2 e3 h1 h2 h3 h4 i0 i1 i2 i3 i4 i5 hbw hb1 k1
  go_wp2_with fail
  refine bodyPost_ret (v:=.agg #[.pointer (some ⟨m1,0,none⟩),.pointer (some ⟨m2,0,none⟩)]) (by simp[results,Tryz.results174,go_sem,c0,c1]) rfl ?_;exact Qot HE.out.2.2 HE.out.1 HE.out.2.1 (by omega)
def Qqh(x y:QC){m l:Nat}(hx:ZL x m)(hy:ZL y l)(hb:m+l+(m+l)<137438953472):Qbj Tryz.prog true 174 [N1 x,N1 y] (.r (N1 (x+y))) :=
 Key eo174 fun w A u v hR _ hu hv=>(Kxk x.re x.im y.re y.im u v A w (Qfq.1 hu) (Qfq.1 hv) (hR rfl) m l hx.1 hx.2 hy.1 hy.2 hb).mono fun e w' ⟨z,h1,h2,h3⟩=>⟨z,h1,Qfq.2 h3,h2⟩
