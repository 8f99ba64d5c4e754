/- Laws for the walk. -/
import Derived.Test.YtjlhiaafnpompaaGreatYbd
set_option linter.unusedVariables false
set_option maxHeartbeats 4000000
namespace Go.Proofs.YtjlhiaafnpompaaGreat
open Go.RowKit Tr
open Classical
section
variable(b m k:Q4)
def sel3(j:Nat):Q4:=if j=0 then b else if j=1 then m else k
def cs3(pre:List Nat):Q4:=pre.foldl (fun s j=>nm4 (mul4 (sel3 b m k j) s)) q1
theorem cs3_app(pre:List Nat)(j:Nat):cs3 b m k (pre++[j])=nm4 (mul4 (sel3 b m k j) (cs3 b m k pre)):=by
 unfold cs3; rw[List.foldl_append]; rfl
end
theorem sel3_ok{b m k:Q4}(hb:MapOk b)(hm:MapOk m)(hk:MapOk k)(j:Nat):MapOk (sel3 b m k j):=by
 unfold sel3; split
 ·exact hb
 ·split
  ·exact hm
  ·exact hk
theorem cs3_step{b m k:Q4}(hb:MapOk b)(hm:MapOk m)(hk:MapOk k){s:Q4}{n:Nat}(hs:ZL4 s n)(hd:dq s≠⟨0,0⟩)(j:Nat) :
  ZL4 (nm4 (mul4 (sel3 b m k j) s)) (8*(4*1024+4*n+3)+2)∧dq (nm4 (mul4 (sel3 b m k j) s))≠⟨0,0⟩:=by
 have h:=sel3_ok hb hm hk j
 have d:=dq_stp (t:=false) (a:=(sel3 b m k j).1) (b:=(sel3 b m k j).2.1) (c:=(sel3 b m k j).2.2.1) (d:=(sel3 b m k j).2.2.2) h.2.2 hd
 exact⟨nm4_zl (stp_zl h.1.zl hs) d,nm4_dq d⟩
theorem cs3_ok{b m k:Q4}(hb:MapOk b)(hm:MapOk m)(hk:MapOk k)(pre:List Nat)(hl:pre.length≤3):ZL4 (cs3 b m k pre) 200000000∧dq (cs3 b m k pre)≠⟨0,0⟩:=by
 match pre,hl with
 | [],_=>exact⟨q1_zl.mono (by decide),q1_dq⟩
 | [i],_ =>
  have h:=cs3_step hb hm hk q1_zl q1_dq i
  exact⟨h.1.mono (by decide),h.2⟩
 | [i,j],_ =>
  have h:=cs3_step hb hm hk q1_zl q1_dq i
  have h:=cs3_step hb hm hk h.1 h.2 j
  exact⟨h.1.mono (by decide),h.2⟩
 | [i,j,l],_ =>
  have h:=cs3_step hb hm hk q1_zl q1_dq i
  have h:=cs3_step hb hm hk h.1 h.2 j
  have h:=cs3_step hb hm hk h.1 h.2 l
  exact⟨h.1.mono (by decide),h.2⟩
 | _ :: _ :: _ :: _ :: _,h=>simp at h
theorem eComp3(b m k:Q4)(hb:MapOk b)(hm:MapOk m)(hk:MapOk k)(s1:Sh4 (nm4 (mul4 m k)))(s2:Sh4 (nm4 (mul4 b (nm4 (mul4 m k))))) :
  SpecM Tryz.prog true 9 [(mQ b false++mQ m false++mQ k false,29)] [.sl 0 0 3 3] (.tup [.row (mQ (nm4 (mul4 b (nm4 (mul4 m k)))) false),.c (gl (.int .i64 0))]):=by
 refine⟨Tr.enters_of Tryz.func9 (by kernel_rfl),fun σ w A vs hR hA hbl _ hvs=>?_⟩
 obtain⟨n,us,hσ,hAn,hn,hus⟩:=hbl 0 _ _ rfl
 obtain⟨v,rfl,rfl⟩:∃ v,vs=[v]∧v=.slice (some ⟨n,0,none⟩) 3 3:=by
  match vs,hvs with
  | [v],h =>
   obtain⟨n',h1,h2⟩:=h.1
   rw[hσ] at h1; cases h1
   exact⟨v,rfl,h2⟩
 obtain⟨hu12,hu3⟩:=okg_take hus
 obtain⟨hu1,hu2⟩:=okg_take hu12
 rw[List.length_append,mQ_len,mQ_len] at hu12 hu3 hu1 hu2
 have hl:us.length=99:=by have:=okg_size hus; rw[this]; rfl
 have t1:(us.take (33+33)).take 33=us.take 33:=by rw[List.take_take]; rfl
 have t2:(us.take (33+33)).drop 33=(us.drop 33).take 33:=by rw[List.drop_take]
 rw[t1] at hu1
 rw[t2] at hu2
 have e1:cs3 b m k [2]=k:=by
  show nm4 (mul4 (sel3 b m k 2) q1)=k
  rw[mul4_one]; exact nm4_id hk.2.1
 have e2:cs3 b m k [2,1]=nm4 (mul4 m k):=by
  have:=cs3_app b m k [2] 1
  rw[show[2,1]=[2]++[1] from rfl,this,e1]; rfl
 have e3:cs3 b m k [2,1,0]=nm4 (mul4 b (nm4 (mul4 m k))):=by
  have:=cs3_app b m k [2,1] 0
  rw[show[2,1,0]=[2,1]++[0] from rfl,this,e2]; rfl
 have d1:dq (mul4 m k)≠⟨0,0⟩:=by rw[dq_mul]; exact mul_ne hm.2.2 hk.2.2
 have d2:dq (mul4 b (nm4 (mul4 m k)))≠⟨0,0⟩:=by rw[dq_mul]; exact mul_ne hb.2.2 (nm4_dq d1)
 refine(compose3 (fun j=>mQ (sel3 b m k j) false) (fun j=>mR (sel3 b m k j) false) (fun j=>if j=0 then us.take 33 else if j=1 then(us.drop 33).take 33 else us.drop 66)
  (fun pre=>if pre=[] then sR else mR (cs3 b m k pre) false)
  (fun pre=>if Sh4 (nm4 (cs3 b m k pre)) then mQ (nm4 (cs3 b m k pre)) false else zM)
  (fun pre=>if Sh4 (nm4 (cs3 b m k pre)) then 0 else 4)
  (fun pre=>by split<;>rfl) (fun j=>rfl) (fun pre=>by split<;>rfl) (fun j=>rfl) ?_ ?_ (fun pre g hg=>?_) (fun pre vs W W' A h=>?_) (fun pre vs W A h=>?_)
  eStill (fun j=>?_) (fun pre j hl=>?_) (fun pre hl=>?_) (fun j=>?_) w A (hR rfl) hA n 0 3 (fun j=>?_) (fun W' hB j hj=>?_)).mono ?_
 ·show(if Sh4 (nm4 (cs3 b m k [2])) then(0:Int) else 4)=0
  rw[e1,nm4_id hk.2.1,if_pos hk.1]
 ·show(if Sh4 (nm4 (cs3 b m k [2,1])) then(0:Int) else 4)=0
  rw[e2,nm4_id (nm4_nf d1),if_pos s1]
 ·split at hg
  ·exact(sR_clr g hg).1
  ·exact(mR_clr _ _ g hg).1
 ·split at h
  ·rw[if_pos (by assumption)]; exact okg_pure (mQ_pure _ _) h
  ·rw[if_neg (by assumption)]; exact okg_pure zM_pure h
 ·split at h
  ·rw[if_pos (by assumption)]; exact okg_clr sR_clr h
  ·rw[if_neg (by assumption)]; exact okg_clr (mR_clr _ _) h
 ·exact eOpenOk _ false (sel3_ok hb hm hk j)
 ·obtain⟨z1,d1⟩:=cs3_ok hb hm hk pre (by omega)
  have hs:=sel3_ok hb hm hk j
  have hne:¬pre++[j]=[]:=by simp
  simp only[if_neg hne]
  have key:SpecC Tryz.prog true 28 [.row (mR (sel3 b m k j) false),.row (mR (cs3 b m k pre) false)] (.r (.row (mR (cs3 b m k (pre++[j])) false))):=by
   rw[cs3_app]
   exact eBeh false false _ _ _ _ _ (hs.1.zl.mono (by decide)) z1 (dq_stp hs.2.2 d1)
  by_cases e:pre=[]
  ·rw[if_pos e]
   subst e
   refine spec_arg key fun vs w A h=>?_
   match vs,h with
   | [_,_],h=>exact⟨h.1,by obtain⟨us,e,k⟩:=h.2.1; exact⟨us,e,sR_q1 k⟩,trivial⟩
  ·rw[if_neg e]; exact key
 ·obtain⟨z1,d1⟩:=cs3_ok hb hm hk pre hl
  have key:SpecC Tryz.prog true 23 [.row (mR (cs3 b m k pre) false)] (.tup [.row (if Sh4 (nm4 (cs3 b m k pre)) then mQ (nm4 (cs3 b m k pre)) false else zM),.c (gx (.int .i64 (if Sh4 (nm4 (cs3 b m k pre)) then 0 else 4)))]):=by
   have k:=eTold false (cs3 b m k pre) z1 d1
   split
   ·exact k.t (by assumption)
   ·exact k.f (by assumption)
  by_cases e:pre=[]
  ·rw[if_pos e]
   subst e
   refine spec_arg key fun vs w A h=>?_
   match vs,h with
   | [_],h=>exact⟨by obtain⟨us,e,k⟩:=h.1; exact⟨us,e,sR_q1 k⟩,trivial⟩
  ·rw[if_neg e]; exact key
 ·exact eCk _ false (sel3_ok hb hm hk j)
 ·unfold sel3
  split
  ·exact hu1
  ·split
   ·exact hu2
   ·exact hu3
 ·have h33:((Tryz.prog).info? 29).map (·.size)=some 33:=by kernel_rfl
  have hn':W'.heap[n]?=some (.cells us.toArray 29 (0,0)):=(hB.block n (hA n hAn)).trans hn
  have k1:(us.take 33).toArray.size=33:=by simp[hl]
  have k2:((us.drop 33).take 33).toArray.size=33:=by simp[hl]
  have k3:(us.drop 66).toArray.size=33:=by simp[hl]
  have:j=0∨j=1∨j=2:=by omega
  rcases this with rfl|rfl|rfl
  ·rw[if_pos rfl]; exact run_loadVar_part W' n (0+0*33) _ _ _ _ _ _ hn' Tryz.underlying29 rfl (by rw[h33,k1]) (by rw[k1]; rfl)
  ·rw[if_neg (by decide),if_pos rfl]; exact run_loadVar_part W' n (0+1*33) _ _ _ _ _ _ hn' Tryz.underlying29 rfl (by rw[h33,k2]) (by rw[k2])
  ·rw[if_neg (by decide),if_neg (by decide)]; exact run_loadVar_part W' n (0+2*33) _ _ _ _ _ _ hn' Tryz.underlying29 rfl (by rw[h33,k3]) (by rw[k3]; exact List.take_of_length_le (by simp[hl]))
 ·rintro e w' ⟨v,rfl,h1,h2⟩
  rw[e3,nm4_id (nm4_nf d2),if_pos s2,if_pos s2] at h1
  rw[e3,nm4_id (nm4_nf d2),if_pos s2]
  refine⟨_,rfl,⟨[v,_],rfl,?_,rfl,trivial⟩,h2⟩
  rcases h1 with h1|h1
  ·exact h1
  ·exact absurd rfl h1.1
end Go.Proofs.YtjlhiaafnpompaaGreat
namespace Go.Proofs.YtjlhiaafnpompaaGreat
open Go.RowKit Tr
def zRA:List AC:=[.lit (.bool false),.lit .nils,.lit (.bool false),.lit .nils]
def giveR{L:List GF}{f:FuncId}(ent:Tr.Enters Tryz.prog f)(b:Nat)(args:List AR)(res:AC)(q:Rat)(fa:List FR)
  (h:∀(m:Nat) (C:Array Value) (w:World) (A:Nat→Prop) (vs:List Value),Rcv A w→w.heap[m]?=some (.cells C 129 (0,0))→C.size=4→NoW (.cells C 129 (0,0))→okf fa vs w A →
   Calls Tryz.prog f (.pointer (some ⟨m,0,none⟩) :: vs).toArray w fun e w'=>e=.returned (.pointer (some ⟨m,0,none⟩))∧PutR m q w w')
  (ha:arsK L args=some fa:=by kernel_rfl) (hr:res.lk L=some (gr q):=by kernel_rfl):GC Tryz.prog L true :=
 ⟨{ f,args:=.c (.own b 0) :: args,res:=.r (.c res),needs:=[(b,⟨zRA,129,none⟩)],give:=some b },ent,fun σ w A us hR hA hu hn n hσ hAn=>by
  match us,hu with
  | u :: us,hu =>
   obtain⟨⟨n0,h0,rfl⟩,hu⟩:=hu
   have e0:n0=n:=by
    have:some n0=some n:=h0.symm.trans hσ
    cases this; rfl
   subst e0
   obtain⟨⟨n1,vs,h1,_,h2,h3⟩,_⟩:=hn
   have e1:n1=n0:=by
    have:some n1=some n0:=h1.symm.trans hσ
    cases this; rfl
   subst e1
   have e2:vs=[.bool false,.slice none 0 0,.bool false,.slice none 0 0]:=by
    match vs,h3 with
    | [a,b,c,d],⟨k1,k2,k3,k4,_⟩=>cases k1; cases k2; cases k3; cases k4; rfl
   subst e2
   refine(h n1 _ w A us (hR rfl) h2 rfl noW_zRat ((arsK_ok ha).1 hu)).mono ?_
   rintro e w' ⟨rfl,hp⟩
   exact⟨_,rfl,(AC.lk_ok hr).2 (hp.ratP (hR rfl)),hp.1⟩⟩
section
variable{L:List GF}
def gvNeg(x:Rat)(hx:RL x 137438953472)(b:Nat)(ax:AR)(res:AC)(ha:arsK L [ax]=some [.c (gr x)]:=by kernel_rfl)(hr:res.lk L=some (gr (-x)):=by kernel_rfl):GC Tryz.prog L true :=
 giveR eo95 b [ax] res (-x) [.c (gr x)] (fun m C w A vs hA hm h4 hC hu=>by
  match vs,hu with
  | [v],hu=>exact RNeg_any m C x v A w hm h4 hC hu.1 hx) ha hr
end
theorem pErat(q:Rat):SpecC Tryz.prog true 87 [.c (gro q)] (.r (.c (gr q))) :=
 spec1 eo87 fun w A u hR _ hu=>(erat_any q u A w hu (hR rfl)).mono fun e w' ⟨v,h1,h2,h3⟩=>⟨v,h1,h3,h2⟩
def ng(z:QC):QC:=⟨-z.re,-z.im⟩
theorem ng_eq(z:QC):ng z=⟨0,0⟩ - z:=by apply qc_ext<;>simp only[ng,qsr,qsi]<;>grind
theorem ZL_ng{z:QC}{k:Nat}(h:ZL z k):ZL (ng z) k:=⟨RL_neg h.1,RL_neg h.2⟩
theorem ZL_n0{z:QC}{k:Nat}(h:ZL z k):ZL (⟨0,0⟩ - z) k:=by rw[←ng_eq]; exact ZL_ng h
theorem cq_cn{z:QC}{u:Value}{w:World}{A:Nat→Prop}(h:(FR.row (cq z)).R u w A):(FR.row (cn z)).R u w A:=by
 obtain⟨vs,rfl,h⟩:=h
 match vs,h with
 | [a,b],h=>exact⟨[a,b],rfl,.inr h.1,.inr h.2.1,trivial⟩
theorem cn_res{f:FuncId}{fa:List FR}{z:QC}(h:SpecC Tryz.prog true f fa (.r (.row (cq z)))):SpecC Tryz.prog true f fa (.r (.row (cn z))) :=
 ⟨h.ent,fun w A vs hR hA hu=>(h.ok w A vs hR hA hu).mono fun r w' ⟨v,h1,h2,h3⟩=>⟨v,h1,cq_cn h2,h3⟩⟩
end Go.Proofs.YtjlhiaafnpompaaGreat
namespace Tr
open Go Go.RowKit
structure Fn where
 f:FuncId
 fn:Func
 fuel:Nat
def visB(bl:Nat→Option BK)(len:Nat):List BK:=(List.range len).map fun b=>visK (bl b)
def idx(b:Nat):List Nat→Option Nat
 | []=>none
 | c :: l=>if c == b then some 0 else(idx b l).map (·+1)
def renOf(bl:Nat→Option BK)(len new:Nat)(ids:List Nat)(b:Nat):Option Nat :=
 if b<len then(match bl b with|some (.live _)|some (.lent _)=>some b|_=>none) else(idx b ids).map (new+·)
def natsR(ρ:Nat→Option Nat):List Nat→Option (List Nat)
 | []=>some []
 | b :: l=>match ρ b,natsR ρ l with|some c,some m=>some (c :: m)|_,_=>none
def AC.ren(ρ:Nat→Option Nat):AC→Option AC
 | .sym i=>some (.sym i)
 | .lit l=>some (.lit l)
 | .own b o=>match ρ b with|some c=>some (.own c o)|none=>none
 | .sl b o n k=>match ρ b with|some c=>some (.sl c o n k)|none=>none
 | .sg b o n=>match ρ b with|some c=>some (.sg c o n)|none=>none
 | .fn f a b=>match natsR ρ a,natsR ρ b with|some c,some d=>some (.fn f c d)|_,_=>none
def acsR(ρ:Nat→Option Nat):List AC→Option (List AC)
 | []=>some []
 | x :: l=>match x.ren ρ,acsR ρ l with|some y,some m=>some (y :: m)|_,_=>none
def AR.ren(ρ:Nat→Option Nat):AR→Option AR
 | .c x=>match x.ren ρ with|some y=>some (.c y)|none=>none
 | .row l=>match acsR ρ l with|some m=>some (.row m)|none=>none
def arsR(ρ:Nat→Option Nat):List AR→Option (List AR)
 | []=>some []
 | x :: l=>match x.ren ρ,arsR ρ l with|some y,some m=>some (y :: m)|_,_=>none
def AV.ren(ρ:Nat→Option Nat):AV→Option AV
 | .r x=>match x.ren ρ with|some y=>some (.r y)|none=>none
 | .tup l=>match arsR ρ l with|some m=>some (.tup m)|none=>none
 | .undf=>some .undf
 | .junk=>some .junk
def AB.ren(ρ:Nat→Option Nat)(ab:AB):Option AB:=match acsR ρ ab.cells with|some cs=>some { ab with cells:=cs }|none=>none
def wvis(ρ:Nat→Option Nat)(bl:Nat→Option BK)(bs:List BK):List Nat→Option (List (Nat×BK))
 | []=>some []
 | b :: l=>match bl b with
  | some (.live ab)=>(match bs[b]?,wvis ρ bl bs l with
   | some (.live ab1),some r=>(match ab1.ren ρ with|some ab2=>some (if ab2.beq ab then r else(b,.live ab2) :: r)|none=>none)
   | some .dead,some r=>some ((b,.dead) :: r)
   | _,_=>none)
  | _=>wvis ρ bl bs l
def births(ρ:Nat→Option Nat)(bs:List BK):List Nat→Nat→Option (List (Nat×BK))
 | [],_=>some []
 | b :: l,new=>match bs[b]?,births ρ bs l (new+1) with
  | some (.live ab1),some r=>(match ab1.ren ρ with|some ab2=>some ((new,.live ab2) :: r)|none=>none)
  | _,_=>none
def nodupB:List Nat→Bool
 | []=>true
 | a :: l=>!l.contains a && nodupB l
def freeB(bl:Nat→Option BK)(new:Nat):Nat→Bool
 | 0=>true
 | n+1=>(match bl (new+n) with|some .unborn=>true|_=>false) && freeB bl new n
def findF(f:FuncId):List Fn→Option Fn
 | []=>none
 | q :: l=>if q.f == f then some q else findF f l
def inlEnd(cx:Cx)(q:Fn)(args:List AR)(bl:Nat→Option BK)(len new:Nat)(s1:AS):Option (AV×List (Nat×BK)×List Nat) :=
 match resA cx q.fn s1 with
 | none=>none
 | some r =>
  let seen:=reachN (fun b=>decide (b<len)) (fun b=>visK (bl b)) 12 [] (args.flatMap AR.ments)
  let ids:=reachN (fun b=>decide (len≤b)) (fun b=>s1.blocks.getD b .dead) 12 [] (r.ments++seen.flatMap fun b=>(match bl b with|some (.live _)=>(s1.blocks.getD b .dead).ments|_=>[]))
  let ρ:=renOf bl len new ids
  match r.ren ρ,wvis ρ bl s1.blocks (List.range len),births ρ s1.blocks ids new with
  | some r',some wv,some bs =>
   if ids.all (fun b=>decide (len≤b)) && nodupB ids && freeB bl new ids.length && nodupB ((wv++bs).map (·.1)) then some (r',wv++bs,seen) else none
  | _,_,_=>none
def inlOf(cx:Cx)(fs:List Fn):Inl:=fun f args bl len new =>
 match findF f fs with
 | none=>none
 | some q=>match q.fn.body with
  | none=>none
  | some c=>match evC cx q.fuel c { tmps:=args.map AV.r++List.replicate (q.fn.ntmps - args.length) .undf,blocks:=visB bl len } with
   | some (.normal,s1)|some (.ret,s1)=>inlEnd cx q args bl len new s1
   | _=>none
section
variable{T:Nat→Fact}{cx cx':Cx}{A0 M:Nat→Prop}{w0:World}{σs σ σ1 σ2:Sg}{s:AS}{a:Act}{w w':World}{P:Program}{bl:Nat→Option BK}{ρ:Nat→Option Nat}{A:Nat→Prop}
def Rn(ρ:Nat→Option Nat)(σ1 σ2:Sg):Prop:=∀ b c n,ρ b=some c→σ1 b=some n→σ2 c=some n∧σ2.room c=σ1.room b
theorem ptrs_ren(h:Rn ρ σ1 σ2):∀{l m:List Nat} {vs:List Value},natsR ρ l=some m→ptrs σ1 l vs→ptrs σ2 m vs
 | [],m,vs,hr,hx=>by cases hr; cases vs<;>exact hx
 | b :: l,m,vs,hr,hx=>by
  unfold natsR at hr
  split at hr
  ·rename_i c r h1 h2
   cases hr
   cases vs with
   | nil=>exact hx.elim
   | cons v vs =>
    obtain⟨⟨n,e1,e2⟩,h3⟩:=hx
    exact⟨⟨n,(h _ _ _ h1 e1).1,e2⟩,ptrs_ren h h2 h3⟩
  ·cases hr
theorem AC.ren_ok(h:Rn ρ σ1 σ2){x y:AC}(hr:x.ren ρ=some y){v:Value}(hx:x.ok T σ1 v w A):y.ok T σ2 v w A:=by
 cases x with
 | sym i=>cases hr; exact hx
 | lit l=>cases hr; exact hx
 | own b o =>
  unfold AC.ren at hr; simp only at hr
  split at hr
  ·rename_i c h1; cases hr
   obtain⟨n,e1,e2⟩:=hx
   exact⟨n,(h _ _ _ h1 e1).1,e2⟩
  ·cases hr
 | sl b o k c =>
  unfold AC.ren at hr; simp only at hr
  split at hr
  ·rename_i c h1; cases hr
   obtain⟨n,e1,e2⟩:=hx
   exact⟨n,(h _ _ _ h1 e1).1,e2⟩
  ·cases hr
 | sg b o k =>
  unfold AC.ren at hr; simp only at hr
  split at hr
  ·rename_i c h1; cases hr
   obtain⟨n,e1,e2,e3⟩:=hx
   obtain⟨g1,g2⟩:=h _ _ _ h1 e1
   exact⟨n,g1,by rw[g2]; exact e2,by rw[g2]; exact e3⟩
  ·cases hr
 | fn f p q =>
  unfold AC.ren at hr; simp only at hr
  split at hr
  ·rename_i c d h1 h2; cases hr
   obtain⟨us,vs,e1,e2,e3⟩:=hx
   exact⟨us,vs,e1,ptrs_ren h h1 e2,ptrs_ren h h2 e3⟩
  ·cases hr
theorem acsR_ok(h:Rn ρ σ1 σ2):∀{l m:List AC} {vs:List Value},acsR ρ l=some m→oks T σ1 l vs w A→oks T σ2 m vs w A
 | [],m,vs,hr,hx=>by cases hr; cases vs<;>exact hx
 | x :: l,m,vs,hr,hx=>by
  unfold acsR at hr
  split at hr
  ·rename_i c r h1 h2
   cases hr
   cases vs with
   | nil=>exact hx.elim
   | cons v vs=>exact⟨AC.ren_ok h h1 hx.1,acsR_ok h h2 hx.2⟩
  ·cases hr
theorem AR.ren_ok(h:Rn ρ σ1 σ2){x y:AR}(hr:x.ren ρ=some y){v:Value}(hx:x.ok T σ1 v w A):y.ok T σ2 v w A:=by
 cases x with
 | c x =>
  unfold AR.ren at hr; simp only at hr
  split at hr
  ·rename_i c h1; cases hr; exact AC.ren_ok (x:=x) h h1 hx
  ·cases hr
 | row l =>
  unfold AR.ren at hr; simp only at hr
  split at hr
  ·rename_i c h1; cases hr
   obtain⟨vs,e,h2⟩:=hx
   exact⟨vs,e,acsR_ok h h1 h2⟩
  ·cases hr
theorem arsR_ok(h:Rn ρ σ1 σ2):∀{l m:List AR} {vs:List Value},arsR ρ l=some m→okr T σ1 l vs w A→okr T σ2 m vs w A
 | [],m,vs,hr,hx=>by cases hr; cases vs<;>exact hx
 | x :: l,m,vs,hr,hx=>by
  unfold arsR at hr
  split at hr
  ·rename_i c r h1 h2
   cases hr
   cases vs with
   | nil=>exact hx.elim
   | cons v vs=>exact⟨AR.ren_ok h h1 hx.1,arsR_ok h h2 hx.2⟩
  ·cases hr
theorem AV.ren_ok(h:Rn ρ σ1 σ2){x y:AV}(hr:x.ren ρ=some y){v:Value}(hx:x.ok T σ1 v w A):y.ok T σ2 v w A:=by
 cases x with
 | r x =>
  unfold AV.ren at hr; simp only at hr
  split at hr
  ·rename_i c h1; cases hr; exact AR.ren_ok (x:=x) h h1 hx
  ·cases hr
 | tup l =>
  unfold AV.ren at hr; simp only at hr
  split at hr
  ·rename_i c h1; cases hr
   obtain⟨vs,e,h2⟩:=hx
   exact⟨vs,e,arsR_ok h h1 h2⟩
  ·cases hr
 | undf=>cases hr; exact hx
 | junk=>cases hr; trivial
theorem AC.ren_noint{x y:AC}(hr:x.ren ρ=some y)(i:Nat→Bool):y.noint i=x.noint i:=by
 cases x with
 | sym j=>cases hr; rfl
 | lit l=>cases hr; rfl
 | own b o=>unfold AC.ren at hr; simp only at hr; split at hr<;>cases hr; rfl
 | sl b o k c=>unfold AC.ren at hr; simp only at hr; split at hr<;>cases hr; rfl
 | sg b o k=>unfold AC.ren at hr; simp only at hr; split at hr<;>cases hr; rfl
 | fn f p q=>unfold AC.ren at hr; simp only at hr; split at hr<;>cases hr; rfl
theorem acsR_noint(i:Nat→Bool):∀{l m:List AC},acsR ρ l=some m→m.all (AC.noint i)=l.all (AC.noint i)
 | [],m,hr=>by cases hr; rfl
 | x :: l,m,hr=>by
  unfold acsR at hr
  split at hr
  ·rename_i c r h1 h2
   cases hr
   rw[List.all_cons,List.all_cons,AC.ren_noint h1,acsR_noint i h2]
  ·cases hr
theorem AB.ren_spec{ab ab2:AB}(h:ab.ren ρ=some ab2):acsR ρ ab.cells=some ab2.cells∧ab2.ty=ab.ty∧ab2.more=ab.more:=by
 unfold AB.ren at h
 split at h
 ·rename_i cs h1; cases h; exact⟨h1,rfl,rfl⟩
 ·cases h
theorem live_ren(ht:TOk T cx.ints)(h:Rn ρ σ1 σ2){b c n:Nat}{ab ab2:AB}(hr:ab.ren ρ=some ab2)(hρ:ρ b=some c)(hn:σ1 b=some n){A':Nat→Prop}(hk:Kp w w A A')(hl:LiveOk T cx σ1 A w b ab n):LiveOk T cx σ2 A' w c ab2 n:=by
 obtain⟨e1,e2,e3⟩:=AB.ren_spec hr
 obtain⟨vs,rest,g1,g2,g3,g4,g5,g6⟩:=hl
 refine⟨vs,rest,by rw[e2]; exact g1,(acsR_ok h e1 g2).keep ht (Sub.refl _) hk,?_,g4,g5,?_⟩
 ·unfold okCells at g3 ⊢
  rw[acsR_noint _ e1]; exact g3
 ·rw[e3,(h _ _ _ hρ hn).2]; exact g6
theorem visB_get{len b:Nat}{k:BK}(h:(visB bl len)[b]?=some k):b<len∧k=visK (bl b):=by
 unfold visB at h
 rw[List.getElem?_map] at h
 obtain⟨x,h1,h2⟩:=Option.map_eq_some_iff.1 h
 have hlt:b<len:=by have:=(List.getElem?_eq_some_iff.1 h1).1; simpa using this
 rw[List.getElem?_range hlt] at h1
 cases h1; exact⟨hlt,h2.symm⟩
theorem visK_live{k:Option BK}{ab:AB}(h:BK.live ab=visK k):k=some (.live ab):=by
 unfold visK at h; split at h<;>cases h; rfl
theorem visK_lent{k:Option BK}{ab:AB}(h:BK.lent ab=visK k):k=some (.lent ab):=by
 unfold visK at h; split at h<;>cases h; rfl
theorem visK_unborn{k:Option BK}(h:BK.unborn=visK k):False:=by
 unfold visK at h; split at h<;>cases h
theorem visB_set{len b:Nat}(h:b<len):(visB bl len)[b]?=some (visK (bl b)):=by
 unfold visB
 rw[List.getElem?_map,List.getElem?_range h]; rfl
theorem setL_mem:∀{ws:List (Nat×BK)} {l:List BK} {b:Nat} {k:BK},nodupB (ws.map (·.1))=true→(b,k)∈ws→b<l.length→(setL l ws)[b]?=some k
 | [],l,b,k,_,h,_=>by cases h
 | (c,j) :: ws,l,b,k,hn,h,hl=>by
  simp only[List.map_cons,nodupB,Bool.and_eq_true,Bool.not_eq_true'] at hn
  rcases List.mem_cons.1 h with h|h
  ·obtain⟨rfl,rfl⟩:=Prod.mk.inj h
   have hno:∀ k',(b,k') ∉ ws:=fun k' hk=>by
    have:b∈ws.map (·.1):=List.mem_map.2 ⟨_,hk,rfl⟩
    have h2:=hn.1
    simp only[List.contains_eq_mem,decide_eq_false_iff_not] at h2
    exact h2 this
   rw[setL,setL_get ws _ b hno]
   simp[hl]
  ·exact setL_mem (l:=l.set c j) hn.2 h (by simpa using hl)
theorem idx_spec{b:Nat}:∀{l:List Nat} {k:Nat},idx b l=some k→l[k]?=some b
 | [],k,h=>by cases h
 | c :: l,k,h=>by
  unfold idx at h
  split at h
  ·rename_i e; cases h; simpa using e
  ·obtain⟨j,h1,rfl⟩:=Option.map_eq_some_iff.1 h
   simpa using idx_spec h1
theorem idx_get{b:Nat}:∀{l:List Nat} {k:Nat},nodupB l=true→l[k]?=some b→idx b l=some k
 | [],k,_,h=>by simp at h
 | c :: l,k,hn,h=>by
  simp only[nodupB,Bool.and_eq_true,Bool.not_eq_true',List.contains_eq_mem,decide_eq_false_iff_not] at hn
  unfold idx
  cases k with
  | zero=>simp at h; subst h; simp
  | succ k =>
   simp at h
   have:¬(c == b)=true:=fun e=>by
    have e:c=b:=by simpa using e
    subst e
    exact hn.1 (List.mem_of_getElem? h)
   rw[if_neg this,idx_get hn.2 h]; rfl
theorem freeB_spec{new:Nat}:∀{n:Nat},freeB bl new n=true→∀ k,k<n→bl (new+k)=some .unborn
 | 0,_,k,h=>by omega
 | n+1,h,k,hk=>by
  simp only[freeB,Bool.and_eq_true] at h
  by_cases e:k=n
  ·subst e
   have:=h.1
   split at this
   ·assumption
   ·cases this
  ·exact freeB_spec h.2 k (by omega)
theorem births_spec{bs:List BK}:∀{l:List Nat} {new:Nat} {r:List (Nat×BK)},births ρ bs l new=some r →
  (∀(k b:Nat),l[k]?=some b→∃ ab1 ab2,bs[b]?=some (.live ab1)∧ab1.ren ρ=some ab2∧(new+k,BK.live ab2)∈r)∧∀ x kk,(x,kk)∈r→∃ k,k<l.length∧x=new+k∧∃ ab,kk=BK.live ab
 | [],new,r,h=>by cases h; exact⟨fun k b h=>by simp at h,fun x kk h=>by cases h⟩
 | b :: l,new,r,h=>by
  unfold births at h
  split at h
  ·rename_i ab1 r1 h1 h2
   split at h
   ·rename_i ab2 h3
    cases h
    obtain⟨g1,g2⟩:=births_spec h2
    refine⟨fun k c hk=>?_,fun x kk hx=>?_⟩
    ·cases k with
     | zero=>simp at hk; subst hk; exact⟨ab1,ab2,h1,h3,by simp⟩
     | succ k =>
      simp at hk
      obtain⟨p,q,e1,e2,e3⟩:=g1 k c hk
      exact⟨p,q,e1,e2,List.mem_cons_of_mem _ (by rw[show new+(k+1)=new+1+k by omega]; exact e3)⟩
    ·rcases List.mem_cons.1 hx with hx|hx
     ·cases hx; exact⟨0,by simp,rfl,_,rfl⟩
     ·obtain⟨k,e1,e2,e3⟩:=g2 x kk hx
      exact⟨k+1,by simp; omega,by omega,e3⟩
   ·cases h
  ·cases h
theorem wvis_spec{bs:List BK}:∀{l:List Nat} {r:List (Nat×BK)},l.Nodup→wvis ρ bl bs l=some r →
  (∀ b,b∈l→∀ ab,bl b=some (.live ab)→(bs[b]?=some .dead∧(b,BK.dead)∈r)∨∃ ab1 ab2,bs[b]?=some (.live ab1)∧ab1.ren ρ=some ab2∧((ab2=ab∧∀ k,(b,k) ∉ r)∨(b,BK.live ab2)∈r)) ∧
  ∀ x kk,(x,kk)∈r→x∈l∧(∃ ab,bl x=some (.live ab))∧(kk=.dead∨∃ ab,kk=BK.live ab)
 | [],r,_,h=>by cases h; exact⟨fun b h=>(List.not_mem_nil h).elim,fun x kk h=>(List.not_mem_nil h).elim⟩
 | b :: l,r,hnd,h=>by
  rw[List.nodup_cons] at hnd
  unfold wvis at h
  split at h
  ·rename_i ab hb
   split at h
   ·rename_i ab1 r1 h1 h2
    obtain⟨g1,g2⟩:=wvis_spec hnd.2 h2
    split at h
    ·rename_i ab2 h3
     cases h
     have hno:∀ k,(b,k) ∉ r1:=fun k hk=>hnd.1 (g2 _ _ hk).1
     split
     ·rename_i he
      have he:=AB.eq_of he
      refine⟨fun c hc ab' hc'=>?_,fun x kk hx=>?_⟩
      ·rcases List.mem_cons.1 hc with e|e
       ·subst e
        rw[hb] at hc'; cases hc'
        exact .inr ⟨ab1,ab2,h1,h3,.inl ⟨he,hno⟩⟩
       ·exact g1 c e ab' hc'
      ·obtain⟨e1,e2,e3⟩:=g2 x kk hx
       exact⟨List.mem_cons_of_mem _ e1,e2,e3⟩
     ·refine⟨fun c hc ab' hc'=>?_,fun x kk hx=>?_⟩
      ·rcases List.mem_cons.1 hc with e|e
       ·subst e
        exact .inr ⟨ab1,ab2,h1,h3,.inr (by simp)⟩
       ·have hne:c≠b:=fun e2=>by subst e2; exact hnd.1 e
        rcases g1 c e ab' hc' with⟨p,q⟩|⟨p,q,e1,e2,e3⟩
        ·exact .inl ⟨p,List.mem_cons_of_mem _ q⟩
        ·refine .inr ⟨p,q,e1,e2,e3.imp (fun⟨i,j⟩=>⟨i,fun k hk=>?_⟩) (List.mem_cons_of_mem _)⟩
         rcases List.mem_cons.1 hk with e4|e4
         ·cases e4; exact hne rfl
         ·exact j k e4
      ·rcases List.mem_cons.1 hx with e|e
       ·cases e; exact⟨by simp,⟨ab,hb⟩,.inr ⟨_,rfl⟩⟩
       ·obtain⟨e1,e2,e3⟩:=g2 x kk e
        exact⟨List.mem_cons_of_mem _ e1,e2,e3⟩
    ·cases h
   ·rename_i r1 h1 h2
    cases h
    obtain⟨g1,g2⟩:=wvis_spec hnd.2 h2
    refine⟨fun c hc ab' hc'=>?_,fun x kk hx=>?_⟩
    ·rcases List.mem_cons.1 hc with e|e
     ·subst e; exact .inl ⟨h1,by simp⟩
     ·have hne:c≠b:=fun e2=>by subst e2; exact hnd.1 e
      rcases g1 c e ab' hc' with⟨p,q⟩|⟨p,q,e1,e2,e3⟩
      ·exact .inl ⟨p,List.mem_cons_of_mem _ q⟩
      ·refine .inr ⟨p,q,e1,e2,e3.imp (fun⟨i,j⟩=>⟨i,fun k hk=>?_⟩) (List.mem_cons_of_mem _)⟩
       rcases List.mem_cons.1 hk with e4|e4
       ·cases e4; exact hne rfl
       ·exact j k e4
    ·rcases List.mem_cons.1 hx with e|e
     ·cases e; exact⟨by simp,⟨ab,hb⟩,.inl rfl⟩
     ·obtain⟨e1,e2,e3⟩:=g2 x kk e
      exact⟨List.mem_cons_of_mem _ e1,e2,e3⟩
   ·cases h
  ·rename_i hb
   obtain⟨g1,g2⟩:=wvis_spec hnd.2 h
   refine⟨fun c hc ab' hc'=>?_,fun x kk hx=>?_⟩
   ·rcases List.mem_cons.1 hc with e|e
    ·subst e; exact absurd hc' (hb ab')
    ·exact g1 c e ab' hc'
   ·obtain⟨e1,e2,e3⟩:=g2 x kk hx
    exact⟨List.mem_cons_of_mem _ e1,e2,e3⟩
end
end Tr
