/- Laws. -/
import Derived.Test.YtcjjdooeogmdbaaGreatVbb
set_option linter.all false
set_option maxHeartbeats 4000000
set_option maxRecDepth 100000
open Go.Lib (hid)
namespace Go.Proofs.YtcjjdooeogmdbaaGreat
open Go.RowKit Tr Proofs.Tryz
def zRA:List AC:=[.lit (.bool false),.lit .nils,.lit (.bool false),.lit .nils]
def Kne{L:List GF}{f:FuncId}(ent:Tr.Enters prog f)(b:Nat)(args:List AR)(res:AC)(q:Rat)(fa:List FR)
  (h:∀(m:Nat) (C:Array Value) (w:World) (A:Nat->Prop) (vs:List Value),Rcv A w->w.heap[m]?=some (.cells C 180 (0,0))->C.size=4->NoW (.cells C 180 (0,0))->okf fa vs w A ->
   Calls prog f (.pointer (some ⟨m,0,none⟩)::vs).toArray w fun e w'=>e=.returned (.pointer (some ⟨m,0,none⟩))/\Qml m q w w')
  (ha:Kev L args=some fa:=by kernel_rfl) (hr:res.lk L=some (gr q):=by kernel_rfl):GC prog L true :=
 ⟨{ f,args:=.c (.own b 0)::args,res:=.r (.c res),needs:=[(b,⟨zRA,180,none⟩)],give:=some b },ent,fun σ w A us hR hA hu hn n hσ hAn=>by
  match us,hu with
  | u::us,hu =>
   obtain⟨⟨n0,h0,rfl⟩,hu⟩:=hu;have e0:n0=n:=by
    have:some n0=some n:=h0.symm.trans hσ;cases this;rfl
   subst e0;obtain⟨⟨n1,vs,h1,_,h2,h3⟩,_⟩:=hn;have e1:n1=n0:=by
    have:some n1=some n0:=h1.symm.trans hσ;cases this;rfl
   subst e1;have e2:vs=[.bool false,.slice none 0 0,.bool false,.slice none 0 0]:=by
    match vs,h3 with
    | [a,b,c,d],⟨k1,k2,k3,k4,_⟩=>cases k1;cases k2;cases k3;cases k4;rfl
   subst e2;refine(h n1 _ w A us (hR rfl) h2 rfl Qcy ((Qmu ha).1 hu)).mono ?_;rintro e w' ⟨rfl,hp⟩;exact⟨_,rfl,(AC.lk_ok hr).2 (hp.ratP (hR rfl)),hp.1⟩⟩
section
variable{L:List GF}
def Ufs(x:Rat)(hx:RL x 137438953472)(b:Nat)(ax:AR)(res:AC)(ha:Kev L [ax]=some [.c (gr x)]:=by kernel_rfl)(hr:res.lk L=some (gr (-x)):=by kernel_rfl):GC prog L true :=
 Kne eo110 b [ax] res (-x) [.c (gr x)] (fun m C w A vs hA hm h4 hC hu=>by
  match vs,hu with
  | [v],hu=>exact Qxr m C x v A w hm h4 hC hu.1 hx) ha hr
def Kft(x y:Rat){k l:Nat}(hx:RL x k)(hy:RL y l)(hb:k+l<137438953472)(b:Nat)(ax ay:AR)(res:AC)(ha:Kev L [ax,ay]=some [.c (gr x),.c (gr y)]:=by kernel_rfl)(hr:res.lk L=some (gr (x+y)):=by kernel_rfl):GC prog L true :=
 Kne eo109 b [ax,ay] res (x+y) [.c (gr x),.c (gr y)] (fun m C w A vs hA hm h4 hC hu=>by
  match vs,hu with
  | [v,v'],hu=>exact Qlu m C x y v v' A w hm h4 hC hu.1 hu.2.1 k l hx hy hb) ha hr
def Kza(x y:Rat){k l:Nat}(hx:RL x k)(hy:RL y l)(hb:k+l<137438953472)(b:Nat)(ax ay:AR)(res:AC)(ha:Kev L [ax,ay]=some [.c (gr x),.c (gr y)]:=by kernel_rfl)(hr:res.lk L=some (gr (x-y)):=by kernel_rfl):GC prog L true :=
 Kne eo160 b [ax,ay] res (x-y) [.c (gr x),.c (gr y)] (fun m C w A vs hA hm h4 hC hu=>by
  match vs,hu with
  | [v,v'],hu=>exact Qrl m C x y v v' A w hm h4 hC hu.1 hu.2.1 k l hx hy hb) ha hr
def Kyz(x y:Rat){k l:Nat}(hx:RL x k)(hy:RL y l)(hb:k+l<137438953472)(b:Nat)(ax ay:AR)(res:AC)(ha:Kev L [ax,ay]=some [.c (gr x),.c (gr y)]:=by kernel_rfl)(hr:res.lk L=some (gr (x*y)):=by kernel_rfl):GC prog L true :=
 Kne eo161 b [ax,ay] res (x*y) [.c (gr x),.c (gr y)] (fun m C w A vs hA hm h4 hC hu=>by
  match vs,hu with
  | [v,v'],hu=>exact Kif m C x y v v' A w hm h4 hC hu.1 hu.2.1 k l hx hy hb) ha hr
def Qyh(x:Rat)(h0:x≠0){k:Nat}(hx:RL x k)(hb:k<137438953472)(b:Nat)(ax:AR)(res:AC)(ha:Kev L [ax]=some [.c (gr x)]:=by kernel_rfl)(hr:res.lk L=some (gr (x⁻¹)):=by kernel_rfl):GC prog L true :=
 Kne eo119 b [ax] res x⁻¹ [.c (gr x)] (fun m C w A vs hA hm h4 hC hu=>by
  match vs,hu with
  | [v],hu=>exact Kie m C x h0 v A w hm h4 hC hu.1 k hx hb) ha hr
end
def Knt(q:Rat):Qbx prog true 167 [.c (gro q)] (.r (.c (gr q))) :=
 Qqe eo167 fun w A u hR _ hu=>(Qes q u A w hu (hR rfl)).mono fun e w' ⟨v,h1,h2,h3⟩=>⟨v,h1,h3,h2⟩
def ng(z:QC):QC:=⟨-z.re,-z.im⟩
def Kzl(z:QC):ng z=⟨0,0⟩-z:=by apply Qcs<;>simp only[ng,qsr,qsi]<;>grind
def Uqu{z:QC}{k:Nat}(h:ZL z k):ZL (ng z) k:=⟨Qbq h.1,Qbq h.2⟩
def Qxu{z:QC}{k:Nat}(h:ZL z k):ZL (⟨0,0⟩-z) k:=by rw[<-Kzl];exact Uqu h
def Ure{z:QC}{u:Value}{w:World}{A:Nat->Prop}(h:(FR.row (cq z)).R u w A):(FR.row (cn z)).R u w A:=by
 obtain⟨vs,rfl,h⟩:=h
 match vs,h with
 | [a,b],h=>exact⟨[a,b],rfl,.inr h.1,.inr h.2.1,trivial⟩
def Ucn{f:FuncId}{fa:List FR}{z:QC}(h:Qbx prog true f fa (.r (.row (cq z)))):Qbx prog true f fa (.r (.row (cn z))) :=
 ⟨h.ent,fun w A vs hR hA hu=>(h.ok w A vs hR hA hu).mono fun r w' ⟨v,h1,h2,h3⟩=>⟨v,h1,Ure h2,h3⟩⟩
end Go.Proofs.YtcjjdooeogmdbaaGreat
namespace Go.Proofs.YtcjjdooeogmdbaaGreat
open Go.RowKit Tr Proofs.Tryz
def Kob(x y:Rat):Rat.divInt (x.num*(y.den:Int)) ((x.den:Int)*y.num)=x/y:=by
 rw[<-Rat.divInt_mul_divInt,Rat.num_divInt_den,Qlw,Rat.div_def]
def Kxw(m:Nat)(C:Array Value)(x y:Rat)(vx vy:Value)(A:Nat->Prop)(w:World)(hm:w.heap[m]?=some (.cells C 180 (0,0)))(hC4:C.size=4)(hC:NoW (.cells C 180 (0,0)))(hx:Qbl x vx w A)(hy:Qbl y vy w A)(k l:Nat)(hlx:RL x k)(hly:RL y l)(hkl:k+l<137438953472)(h0:y≠0) :
  Calls prog 180 #[.pointer (some ⟨m,0,none⟩),vx,vy] w fun e w'=>e=.returned (.pointer (some ⟨m,0,none⟩))/\Qml m (x/y) w w':=by
 have hx:=hx.noA;have hy:=hy.noA;obtain⟨b,rfl⟩:=hx.shape;obtain⟨b2,rfl⟩:=hy.shape;have hmlt:m<w.heap.size:=(Array.getElem?_eq_some_iff.1 hm).1;obtain⟨_,eb,hxn,_⟩:=id hx;cases eb;obtain⟨_,eb,hyn,_⟩:=id hy;cases eb;have HM:=hid (And.intro hm hC);clear hm hC
 go_enter func180,Tryz.ntmps180
 go_wp2_with fail
 refine Qat [(.lit,[]),(.new zI,[]),(.lit,[]),(.lit,[]),(.lit,[]),(.lit,[]),(.val,[]),(.on 1 zI,[6]),(.new zI,[]),(.lit,[]),(.val,[]),(.lit,[]),(.lit,[]),(.lit,[]),(.on 8 zI,[10])]
  (Qfv [(6,Qce y.den),(7,Qce (x.num*(y.den:Int))),(10,Qce x.den),(14,Qce ((x.den:Int)*y.num))]) (by kernel_rfl) ?_ ?_ (by simp[Qbh]) (by simp) (by kernel_rfl)
 .exact Qbc (by simp[Qce.keeps])
 .refine⟨_,fun f w1 h1=>by go_simp;rfl,?_⟩;refine⟨fun f w1=>by go_simp,?_⟩
  repeat (refine⟨_,fun f w1 h1=>by go_simp;rfl,?_⟩)
  simp only[Act.put,nrA,nrB,nrC,Nat.reduceAdd];refine⟨fun f w1 A1 h1 hA hN hd K hK=>by
   go_simp
   refine(Qfu y _ A1 w1 (Qdp (Qbl.keeps _) hy h1 hN) hA).mono ?_;rintro e w' ⟨v,rfl,hb,hi⟩;exact hK _ _ hb hi,?_⟩
  simp only[Act.put,nrA,nrB,nrC,Nat.reduceAdd];refine⟨fun f w1 A1 m1 h1 hA hN hAm hm0 e hz hd K hK=>by
   simp only[e] at hK ⊢;have i1:Qce y.den (f 6) w1 A1:=hd 6 (by simp)
   go_simp
   refine(Qho m1 0 _ _ x.num y.den _ _ A1 w1 hz (by decide) Qbh (Qdp (Qce.keeps _) hxn h1 hN) i1 (by have:=hlx.1;omega) (by have:=hly.2;simp;omega)).mono ?_;rintro e w' ⟨rfl,hp⟩;exact hK _ w' hp.1 (hp.intP (by decide) hA),?_⟩
  refine⟨fun f w1=>by go_simp,?_⟩;refine⟨_,fun f w1 h1=>by go_simp;rfl,?_⟩;simp only[Act.put,nrA,nrB,nrC,Nat.reduceAdd];refine⟨fun f w1 A1 h1 hA hN hd K hK=>by
   go_simp
   refine(Qfu x _ A1 w1 (Qdp (Qbl.keeps _) hx h1 hN) hA).mono ?_;rintro e w' ⟨v,rfl,hb,hi⟩;exact hK _ _ hb hi,?_⟩
  repeat (refine⟨_,fun f w1 h1=>by go_simp;rfl,?_⟩)
  simp only[Act.put,nrA,nrB,nrC,Nat.reduceAdd];refine⟨fun f w1 A1 m1 h1 hA hN hAm hm0 e hz hd K hK=>by
   simp only[e] at hK ⊢;have i1:Qce x.den (f 10) w1 A1:=hd 10 (by simp)
   go_simp
   refine(Qho m1 0 _ _ x.den y.num _ _ A1 w1 hz (by decide) Qbh i1 (Qdp (Qce.keeps _) hyn h1 hN) (by have:=hlx.2;simp;omega) (by have:=hly.1;omega)).mono ?_;rintro e w' ⟨rfl,hp⟩;exact hK _ w' hp.1 (hp.intP (by decide) hA),?_⟩
  intro f w1 h1 hF;have i1:Qce (x.num*(y.den:Int)) (f 7) w1 NoA:=hF.1.1.2;have i2:Qce ((x.den:Int)*y.num) (f 14) w1 NoA:=hF.2;clear hF;simp only[Act.put,nrA,nrB,nrC];generalize f 7=v8 at *
  generalize f 14=v14 at *
  have hbw:Below w.heap.size w w1:=br.drew.trans h1;have hS:=Qfb m C _ _ (Int.mul_ne_zero Qgr (fun e=>h0 (Rat.num_eq_zero.1 e))) _ _ NoA w1 ((h1.block m hmlt).trans HM.out.1) hC4 HM.out.2 i1 i2 (by rw[Int.natAbs_mul];have:=Qgt (b:=(y.den:Int).natAbs) hlx.1 (by simpa using hly.2);omega) (by rw[Int.natAbs_mul];have:=Qgt (a:=(x.den:Int).natAbs) (by simpa using hlx.2) hly.1;omega);rw[Kob] at hS;have HS:=hid hS;clear hS i1 i2 hx hy hxn hyn
  go_wp2_with (go_at_call 188;refine HS.out.mono ?_;rintro e w' ⟨rfl,hp⟩)
  go_ret
  exact⟨rfl,hp.below hbw⟩
def gws(l:List Nat):GF where
 R:=fun v w A=>Qkv A w v l
 int:=false
 keeps:=fun v w w' A A' hs hk h=>Qkv.keep hs hk h
 cell:=fun v w A h=>by obtain⟨p,cap,rfl,_⟩:=h;rfl
 noint:=fun _ v w A h k x=>by obtain⟨p,cap,rfl,_⟩:=h;simp
 ex:=none
 exact:=fun u e=>by cases e
def rq(q:Rat):List GF:=[gl (.bool (decide (q.num<0))),gws (Qad q.num.natAbs),gl (.bool false),gws (Qad q.den)]
def RC(L:List GF)(cs:List AC)(q:Rat):Prop:=Kmr L cs=some (rq q)\/cs=zRA/\q=0
def Ksy(b:Bool)(s1 s2:Value){w:World}{l1 l2:List Nat}(h1:WSl w s1 l1)(h2:WSl w s2 l2)(T:TypeId):NoW (.cells #[.bool b,s1,.bool false,s2] T (0,0)):=by
 obtain⟨p,c,rfl,_⟩:=h1;obtain⟨p2,c2,rfl,_⟩:=h2;intro cs T' fr e i k x hx;cases e
 match i,hx with
 | 0,hx=>simp at hx
 | 1,hx=>simp at hx
 | 2,hx=>simp at hx
 | 3,hx=>simp at hx
 | i+4,hx=>simp at hx
def Kkt{q:Rat}{vs:List Value}{w:World}{A:Nat->Prop}(h:okg (rq q) vs w A):∃ s1 s2,vs=[.bool (decide (q.num<0)),s1,.bool false,s2]/\Qkv A w s1 (Qad q.num.natAbs)/\Qkv A w s2 (Qad q.den):=by
 match vs,h with
 | [a,b,c,d],⟨h1,h2,h3,h4,_⟩ =>
  have h1:a=.bool (decide (q.num<0)):=h1;have h3:c=.bool false:=h3;subst h1;subst h3;exact⟨b,d,rfl,h2,h4⟩
def Udi{q:Rat}{w:World}{A:Nat->Prop}{n:Nat}{s1 s2:Value}{T:TypeId}(hn:w.heap[n]?=some (.cells #[.bool (decide (q.num<0)),s1,.bool false,s2] T (0,0)))(hA:¬A n)(h1:Qkv A w s1 (Qad q.num.natAbs))(h2:Qkv A w s2 (Qad q.den)):Qbl q (.pointer (some ⟨n,0,none⟩)) w A:=by
 have hlt:=(Array.getElem?_eq_some_iff.1 hn).1;refine⟨n,rfl,⟨n,0,s1,rfl,hlt,hA,by simp[World.cell?,hn],by simp[World.cell?,hn],h1⟩,.inl ⟨n,2,s2,rfl,hlt,hA,?_,by simp[World.cell?,hn],h2⟩⟩;have:decide ((q.den:Int)<0)=false:=by simp
 rw[this];simp[World.cell?,hn]
def Qkv.sub{A B:Nat->Prop}{w:World}{v:Value}{l:List Nat}(h:Qkv A w v l)(hs:∀ n,B n->A n):Qkv B w v l:=Qkv.keep lr (fun b _ hb=>⟨rfl,fun h=>hb (hs b h)⟩) h
def RC.rat{L:List GF}{cs:List AC}{q:Rat}(h:RC L cs q){σ:Sg}{w:World}{A:Nat->Prop}{n:Nat}{vs:List Value}{T:TypeId}(hn:w.heap[n]?=some (.cells vs.toArray T (0,0)))(ho:oks (gT L) σ cs vs w A) :
  Qbl q (.pointer (some ⟨n,0,none⟩)) w NoA/\vs.length=4/\NoW (.cells vs.toArray T (0,0)):=by
 rcases h with h|⟨rfl,rfl⟩
 .obtain⟨s1,s2,rfl,h1,h2⟩:=Kkt ((Qjb h).1 ho);exact⟨Udi hn (fun h=>h) (h1.sub (fun _ h=>h.elim)) (h2.sub (fun _ h=>h.elim)),rfl,Ksy _ _ _ h1.wsl h2.wsl T⟩
 .have e2:vs=[.bool false,.slice none 0 0,.bool false,.slice none 0 0]:=by
   match vs,ho with
   | [a,b,c,d],⟨k1,k2,k3,k4,_⟩=>cases k1;cases k2;cases k3;cases k4;rfl
  subst e2;have hlt:=(Array.getElem?_eq_some_iff.1 hn).1;have hz:∀ A,Qkv A w (.slice none 0 0) (Qad (0:Int).natAbs):=fun A=>by
   rw[show Qad (0:Int).natAbs=[] from Qcd.2 rfl];exact⟨none,0,rfl,Nat.le_refl _,fun h=>absurd rfl h⟩
  refine⟨⟨n,rfl,⟨n,0,_,rfl,hlt,fun h=>h,by simp[World.cell?,hn],by simp[World.cell?,hn],hz _⟩,.inr ⟨rfl,⟨n,2,_,rfl,hlt,fun h=>h,by simp[World.cell?,hn],by simp[World.cell?,hn],hz _⟩⟩⟩,rfl,?_⟩;intro cs T' fr e i k x hx;cases e
  match i,hx with
  | 0,hx=>simp at hx
  | 1,hx=>simp at hx
  | 2,hx=>simp at hx
  | 3,hx=>simp at hx
  | i+4,hx=>simp at hx
def Qml.cells{m:Nat}{q:Rat}{w w':World}(h:Qml m q w w'){A:Nat->Prop}(hA:Rcv A w):∃ us:List Value,w'.heap[m]?=some (.cells us.toArray 180 (0,0))/\okg (rq q) us w' A:=by
 obtain⟨h1,s1,s2,h2,h3,h4⟩:=h;have hA':Rcv A w':=fun b hb=>by
  by_cases e:b=m
  .subst e;exact⟨_,h2,Ksy _ _ _ h3 h4 _⟩
  .obtain⟨zz,k1,k2⟩:=hA b hb;exact⟨zz,(h1.block b (Array.getElem?_eq_some_iff.1 k1).1 e).trans k1,k2⟩
 exact⟨_,h2,rfl,h3.avoids hA',rfl,h4.avoids hA',trivial⟩
def Qha:RL (0:Rat) 1:=⟨by decide +kernel,by decide +kernel⟩
def Qbb{x y:Rat}(h0:y≠0){k l:Nat}(hx:RL x k)(hy:RL y l):RL (x/y) (k+l):=by rw[Rat.div_def];exact Qam hx (Qdn h0 hy)
def Uua{L:List GF}(x y:Rat)(h0:y≠0){k l:Nat}(hx:RL x k)(hy:RL y l)(hb:k+l<137438953472)(b:Nat)(ax ay:AR)(res:AC)(ha:Kev L [ax,ay]=some [.c (gr x),.c (gr y)]:=by kernel_rfl)(hr:res.lk L=some (gr (x/y)):=by kernel_rfl):GC prog L true :=
 Kne eo180 b [ax,ay] res (x/y) [.c (gr x),.c (gr y)] (fun m C w A vs hA hm h4 hC hu=>by
  match vs,hu with
  | [v,v'],hu=>exact Kxw m C x y v v' A w hm h4 hC hu.1 hu.2.1 k l hx hy hb h0) ha hr
def Uwl{L:List GF}{f:FuncId}(ent:Tr.Enters prog f)(b:Nat)(cs:List AC)(self:Bool)(args:List AR)(cs':List AC)(x q:Rat)(fa:List FR)(hc:RC L cs x)
  (h:∀(m:Nat) (C:Array Value) (w:World) (A:Nat->Prop) (vs:List Value),Rcv A w->w.heap[m]?=some (.cells C 180 (0,0))->C.size=4->NoW (.cells C 180 (0,0))->Qbl x (.pointer (some ⟨m,0,none⟩)) w NoA->okf fa vs w A ->
   Calls prog f (.pointer (some ⟨m,0,none⟩)::(if self then .pointer (some ⟨m,0,none⟩)::vs else vs)).toArray w fun e w'=>e=.returned (.pointer (some ⟨m,0,none⟩))/\Qml m q w w')
  (ha:Kev L args=some fa:=by kernel_rfl) (hr:Kmr L cs'=some (rq q):=by kernel_rfl):GC prog L true :=
 ⟨{ f,args:=.c (.own b 0)::(if self then .c (.own b 0)::args else args),res:=.r (.c (.own b 0)),needs:=[(b,⟨cs,180,none⟩)],put:=some (b,⟨cs',180,none⟩) },ent,fun σ w A us hR hA hu hn n hσ hAn=>by
  have e0:∃ vs,us=.pointer (some ⟨n,0,none⟩)::(if self then .pointer (some ⟨n,0,none⟩)::vs else vs)/\okr (gT L) σ args vs w A:=by
   have own:∀ v,(AR.c (.own b 0)).ok (gT L) σ v w A->v=.pointer (some ⟨n,0,none⟩):=fun v hv=>by
    obtain⟨m,h1,rfl⟩:=hv;have h1:some m=some n:=h1.symm.trans hσ;cases h1;rfl
   cases self
   .match us,hu with
    | u::us,hu=>exact⟨us,by rw[own u hu.1];rfl,hu.2⟩
   .match us,hu with
    | u::v::us,hu=>exact⟨us,by rw[own u hu.1,own v hu.2.1];rfl,hu.2.2⟩
  obtain⟨vs,rfl,hv⟩:=e0;obtain⟨⟨n1,ws,h1,_,h2,h3⟩,_⟩:=hn;have e1:n1=n:=by
   have:some n1=some n:=h1.symm.trans hσ;cases this;rfl
  subst e1;obtain⟨k1,k2,k3⟩:=hc.rat h2 h3;refine(h n1 _ w A vs (hR rfl) h2 (by simpa using k2) k3 k1 ((Qmu ha).1 hv)).mono ?_;rintro e w' ⟨rfl,hp⟩;obtain⟨us,p1,p2⟩:=hp.cells (hR rfl);exact⟨_,rfl,⟨n1,hσ,rfl⟩,hp.1,us,p1,(Qjb hr).2 p2⟩⟩
def frR{L:List GF}(key:Nat)(cs:List AC)(q:Rat)(i:Nat){f:FuncId}(ent:Tr.Enters prog f)(hc:Kmr L cs=some (rq q):=by kernel_rfl)(hi:AC.lk L (.sym i)=some (gr q):=by kernel_rfl):GC prog L true :=
 ⟨{ f,args:=[],res:=.r (.c (.sym i)),frz:=some (key,⟨cs,180,none⟩) },ent,fun σ w A n vs hR hn ho=>by
  obtain⟨s1,s2,rfl,h1,h2⟩:=Kkt ((Qjb hc).1 ho);exact(AC.lk_ok (σ:=σ) (x:=.sym i) hi).2 (Udi hn (fun h=>h.2 rfl) (h1.sub (fun _ h=>h.1)) (h2.sub (fun _ h=>h.1)))⟩
def Qfk{L:List GF}{f:FuncId}(ent:Tr.Enters prog f):GC prog L true :=
 ⟨{ f,args:=[],res:=.junk,frz:=some (1000000,⟨[],0,none⟩) },ent,fun _ _ _ _ _ _ _ _=>trivial⟩
section
variable{L:List GF}
def Qjd(x y:Rat){k l:Nat}(hx:RL x k)(hy:RL y l)(hb:k+l<137438953472)(b:Nat)(cs:List AC)(ay:AR)(cs':List AC)(hc:RC L cs x)(ha:Kev L [ay]=some [.c (gr y)]:=by kernel_rfl)(hr:Kmr L cs'=some (rq (x+y)):=by kernel_rfl):GC prog L true :=
 Uwl eo109 b cs true [ay] cs' x (x+y) [.c (gr y)] hc (fun m C w A vs hA hm h4 hC hx' hu=>by
  match vs,hu with
  | [v],hu=>exact Qlu m C x y _ v NoA w hm h4 hC hx' hu.1.noA k l hx hy hb) ha hr
def Unw(x:Rat)(hx:RL x 137438953472)(b:Nat)(cs cs':List AC)(hc:RC L cs x)(hr:Kmr L cs'=some (rq (-x)):=by kernel_rfl):GC prog L true :=
 Uwl eo110 b cs true [] cs' x (-x) [] hc (fun m C w A vs hA hm h4 hC hx' hu=>by
  match vs,hu with
  | [],_=>exact Qxr m C x _ NoA w hm h4 hC hx' hx) rfl hr
end
end Go.Proofs.YtcjjdooeogmdbaaGreat
namespace Go.Proofs.YtcjjdooeogmdbaaGreat
open Go.RowKit Tr Proofs.Tryz
def Ube{q:Rat}(hq:q<0):decide (q.num<0)=true:=by
 have:=mt Rat.num_nonneg.1 (Rat.not_le.2 hq);exact decide_eq_true (by omega)
def Ubd{q:Rat}(hq:0<=q):decide (q.num<0)=false:=by
 have:=Rat.num_nonneg.2 hq;exact decide_eq_false (by omega)
def Kkr(q:Rat)(hq:q<0)(vx:Value)(A:Nat->Prop)(w:World)(hx:Qbl q vx w A) :
  Calls prog 121 #[vx] w fun e w'=>e=.returned (.tuple #[.pointer none,.bool false])/\Below w.heap.size w w':=by
 have hs:=Ube hq;have HS:=hid (Qhz q vx A w hx);obtain⟨b,rfl⟩:=hx.shape
 go_enter func121,Tryz.ntmps121
 go_wp2_with fail
 refine HS.out.mono ?_;rintro e w' ⟨rfl,rfl⟩
 go_wp2_with fail
 refine bodyPost_ret (v:=.tuple #[.pointer none,.bool false]) (by simp[results,Tryz.results121,go_sem]) rfl ?_;exact⟨rfl,Below.refl _ _⟩
def Kks(q:Rat)(hq:0<=q)(R D:Nat)(r1:R*R<=q.num.natAbs)(r2:q.num.natAbs<(R+1)*(R+1))(d1:D*D<=q.den)(d2:q.den<(D+1)*(D+1))(hD:D≠0)(r:Bool)(hr:r=true↔Rat.divInt R D*Rat.divInt R D=q)
  (vx:Value) (A:Nat->Prop) (w:World) (hx:Qbl q vx w A) (hA:Rcv A w) (k:Nat) (hl:RL q k) (hk:k<=134217728) :
  Calls prog 121 #[vx] w fun e w'=>∃ m,e=.returned (.tuple #[.pointer (some ⟨m,0,none⟩),.bool r])/\Below w.heap.size w w'/\Kxz w.heap.size (Rat.divInt R D) (.pointer (some ⟨m,0,none⟩)) w' A:=by
 have hs:=Ubd hq;have HS:=hid (Qhz q vx A w hx);obtain⟨b,rfl⟩:=hx.shape;have lR:(Qad R).length<=k:=Qfx (Nat.le_trans (Nat.le_mul_self R) r1) hl.1;have lD:(Qad D).length<=k:=Qfx (Nat.le_trans (Nat.le_mul_self D) d1) hl.2;have HX:=hid (And.intro hx hA);have HQ:=hid (And.intro (Int.natAbs_of_nonneg (Rat.num_nonneg.2 hq)) (And.intro hl hr));clear hx hA hr hq hl
 go_enter func121,Tryz.ntmps121
 go_wp2_with fail
 refine HS.out.mono ?_;rintro e w' ⟨rfl,rfl⟩
 go_wp2_with fail
 obtain⟨w1,hw1⟩:∃ w1,w1=w.alloc (.cells #[.bool false,.slice none 0 0] 178):=⟨_,rfl⟩
 have hb1:Below w.heap.size w w1:=by rw[hw1];exact br.alloc lr _
 have hs1:w1.heap.size=w.heap.size+1:=by rw[hw1];simp
 have hn1:w1.heap[w.heap.size]?=some (.cells #[.bool false,.slice none 0 0] 178 (0,0)):=by rw[hw1];exact heap_alloc_new w _
 rw[<-hw1];have H1:=hid (And.intro hw1 (And.intro hb1 hn1));clear hw1 hb1 hn1;refine(Qxq q _ A w1 (HX.out.1.below H1.out.2.1) (HQ.out.2.1.mono (by omega))).mono ?_;rintro e w2 ⟨v2,rfl,hv2⟩;have H2:=hid hv2;clear hv2
 go_wp2_with fail
 have hm2:w2.heap[w.heap.size]?=some (.cells #[.bool false,.slice none 0 0] 178 (0,0)):=(H2.out.1.block _ (by omega)).trans H1.out.2.2;have hi2:Qce (q.num.natAbs:Int) v2 w2 NoA:=by rw[HQ.out.1];exact H2.out.2 NoA (Qbu _)
 refine(Kig w.heap.size 0 _ _ q.num.natAbs R r1 r2 v2 NoA w2 hm2 (by decide) Qbh hi2 (by have:=HQ.out.2.1.1;omega)).mono ?_;rintro e w3 ⟨rfl,hp3⟩;have hs2:=H2.out.1.size;have hb3:Below w.heap.size w w3:=H1.out.2.1.trans ((H2.out.1.mono (by omega)).trans (hp3.1.below lr (by omega)));have h3:Qce (R:Int) (.pointer (some ⟨w.heap.size,0,none⟩)) w3 NoA:=(hp3.intP (by decide) (Qbu _)).noA;have hs3:=hp3.1.size;have H3:=hid (And.intro hb3 h3);clear hp3 hm2 hi2 hb3 h3
 go_wp2_with fail
 obtain⟨w4,hw4⟩:∃ w4,w4=w3.alloc (.cells #[.bool false,.slice none 0 0] 178):=⟨_,rfl⟩
 have hb4:Below w3.heap.size w3 w4:=by rw[hw4];exact br.alloc lr _
 have hs4:w4.heap.size=w3.heap.size+1:=by rw[hw4];simp
 have hn4:w4.heap[w3.heap.size]?=some (.cells #[.bool false,.slice none 0 0] 178 (0,0)):=by rw[hw4];exact heap_alloc_new w3 _
 rw[<-hw4];have H4:=hid (And.intro hw4 (And.intro hb4 hn4));clear hw4 hb4 hn4;have hbw4:=H3.out.1.trans (H4.out.2.1.mono (by omega));refine(Qnp q _ A w4 (HX.out.1.below hbw4) (HQ.out.2.1.mono (by omega))).mono ?_;rintro e w5 ⟨v5,rfl,hv5⟩;have H5:=hid hv5;clear hv5 hbw4
 go_wp2_with fail
 have hm5:w5.heap[w3.heap.size]?=some (.cells #[.bool false,.slice none 0 0] 178 (0,0)):=(H5.out.1.block _ (by omega)).trans H4.out.2.2;refine(Kig w3.heap.size 0 _ _ q.den D d1 d2 v5 NoA w5 hm5 (by decide) Qbh (H5.out.2 NoA (Qbu _)) (by have:=HQ.out.2.1.2;omega)).mono ?_;rintro e w6 ⟨rfl,hp6⟩;have hs5:=H5.out.1.size;have hb6:Below w3.heap.size w3 w6:=H4.out.2.1.trans ((H5.out.1.mono (by omega)).trans (hp6.1.below lr (by omega)));have h6:Qce (D:Int) (.pointer (some ⟨w3.heap.size,0,none⟩)) w6 NoA:=(hp6.intP (by decide) (Qbu _)).noA;have hs6:=hp6.1.size;have H6:=hid (And.intro hb6 (And.intro h6 (H3.out.2.below hb6)));clear hp6 hm5 hb6 h6
 go_wp2_with fail
 obtain⟨w7,hw7⟩:∃ w7,w7=w6.alloc zR:=⟨_,rfl⟩
 have hb7:Below w6.heap.size w6 w7:=by rw[hw7];exact br.alloc lr _
 have hs7:w7.heap.size=w6.heap.size+1:=by rw[hw7];simp
 have hn7:w7.heap[w6.heap.size]?=some zR:=by rw[hw7];exact heap_alloc_new w6 _
 rw[<-hw7];have H7:=hid (And.intro hw7 (And.intro hb7 hn7));clear hw7 hb7 hn7;refine(Qfb w6.heap.size _ R D (by omega) _ _ NoA w7 H7.out.2.2 (by decide) Qcy (H6.out.2.2.below H7.out.2.1) (H6.out.2.1.below H7.out.2.1) (by rw[Int.natAbs_natCast];omega) (by rw[Int.natAbs_natCast];omega)).mono ?_;rintro e w8 ⟨rfl,hp8⟩;have hs8:=hp8.1.size;have hb8:Below w.heap.size w w8:=H3.out.1.trans ((H6.out.1.mono (by omega)).trans ((H7.out.2.1.mono (by omega)).trans (hp8.1.below (by omega) (by omega))));have hA8:Rcv A w7:=HX.out.2.below (H3.out.1.trans ((H6.out.1.mono (by omega)).trans (H7.out.2.1.mono (by omega))));have h8:Kxz w.heap.size (Rat.divInt R D) (.pointer (some ⟨w6.heap.size,0,none⟩)) w8 A:=Kxz.keeps _ _ _ _ _ _ _ lr (fun b _ hna=>⟨rfl,fun h=>hna (.inr h)⟩) (hp8.ratB hA8 (Qbu _) (by omega) (fun b hb=>HX.out.2.lt hb));have H8:=hid (And.intro hb8 (And.intro h8 (hp8.ratP (Qbu _)).noA));clear hp8 hb8 h8 hA8
 go_wp2_with fail
 have lS:RL (Rat.divInt R D) k:=Qhy (by omega) (by rw[Int.natAbs_natCast];exact lR) (by rw[Int.natAbs_natCast];exact lD);refine(Qhw (Rat.divInt R D) (Rat.divInt R D) _ _ NoA w8 (.inr H8.out.2.2) (.inr H8.out.2.2) (Qbu _) k k lS lS (by omega)).mono ?_;rintro e w10 ⟨u10,rfl,hb10,hp10⟩;have H10:=hid (And.intro hb10 hp10);clear hp10 hb10
 go_wp2_with fail
 obtain⟨cz,hcz,hcr⟩:∃ cz,cz=Qff (Rat.divInt R D*Rat.divInt R D) q/\(cz==0)=r:=by
  refine⟨_,rfl,?_⟩;rw[Bool.eq_iff_iff,HQ.out.2.2,beq_iff_eq];unfold Qff;constructor
  .intro h
   split at h
   .cases h
   .split at h
    .assumption
    .cases h
  .intro h;rw[h,if_neg (Rat.lt_irrefl),if_pos rfl]
 have hc:=Kid (Rat.divInt R D*Rat.divInt R D) q _ _ NoA w10 H10.out.2 (HX.out.1.below (H8.out.1.trans (H10.out.1.mono H8.out.1.size))).noA (k+k) k (Qam lS lS) HQ.out.2.1 (by omega);rw[<-hcz] at hc;have HC:=hid (And.intro hc hcr);clear hc hcz hcr;refine HC.out.1.mono ?_;rintro e w11 ⟨rfl,hb11⟩;have H11:=hid hb11;clear hb11
 go_wp2_with fail
 rw[HC.out.2];refine bodyPost_ret (v:=.tuple #[.pointer (some ⟨w6.heap.size,0,none⟩),.bool r]) (by simp[results,Tryz.results121,go_sem]) rfl ?_;have hb11:=H10.out.1.trans (H11.out.mono H10.out.1.size);exact⟨_,rfl,H8.out.1.trans (hb11.mono H8.out.1.size),Qcp.Keeps.below (Kxz.keeps _ _) hb11 H8.out.2.1⟩
def Uaz(q:Rat)(r:Bool)(hr:r=true↔Qjx q)(vx:Value)(A:Nat->Prop)(w:World)(hx:Qbl q vx w A)(hA:Rcv A w)(k:Nat)(hl:RL q k)(hk:k<=134217728) :
  Calls prog 121 #[vx] w fun e w'=>∃ u,e=.returned (.tuple #[u,.bool r])/\Below w.heap.size w w'/\(r=true->Kxz w.heap.size (sqr q) u w' A):=by
 by_cases h0:0<=q
 .obtain⟨R,r1,r2⟩:=Qzr q.num.natAbs;obtain⟨D,d1,d2⟩:=Qzr q.den;obtain⟨e1,e2,e3⟩:=Kdx h0 r1 r2 d1 d2;refine(Kks q h0 R D r1 r2 d1 d2 e2 r (hr.trans ⟨fun h=>?_,fun h=>⟨_,Rat.divInt_nonneg (Int.natCast_nonneg R) (Int.natCast_nonneg D),h⟩⟩) vx A w hx hA k hl hk).mono ?_
  .rw[<-(e3 h).1];exact(Qlq h).2
  .rintro e w' ⟨m,rfl,hb,h1⟩;exact⟨_,rfl,hb,fun h=>by rw[(e3 (hr.1 h)).1];exact h1⟩
 .have hn:¬Qjx q:=fun⟨s,h2,h3⟩=>h0 (h3▸Rat.mul_nonneg h2 h2)
  have e:r=false:=by cases r;rfl;exact absurd (hr.1 rfl) hn
  subst e;exact(Kkr q (Rat.not_le.1 h0) vx A w hx).mono fun e w' ⟨h1,h2⟩=>⟨_,h1,h2,fun h=>by cases h⟩
end Go.Proofs.YtcjjdooeogmdbaaGreat
namespace Tr
def RL.upby{q:Rat}{n:Nat}(h:RL q n)(j:Nat):RL q (n+j):=h.mono (by omega)
end Tr
namespace Go.Proofs.YtcjjdooeogmdbaaGreat
open Go.RowKit Tr Proofs.Tryz
def ZL.upby{z:QC}{n:Nat}(h:ZL z n)(j:Nat):ZL z (n+j):=h.mono (by omega)
def Unz{base:Nat}{q:Rat}{v:Value}{w:World}{A:Nat->Prop}(h:Kxz base q v w A):Qbl q v w A:=by
 obtain⟨_,_,_,_,_,_,_,_,h⟩:=h;exact h
def Ktj(x y:Rat)(v:Int){m l:Nat}(hx:RL x m)(hy:RL y l)(hb:m+l<137438953472)(h:Qff x y=v):Qbx prog true 163 [.c (gr x),.c (gr y)] (.r (.c (gl (.int .i64 v)))):=by
 subst h;exact Kdc x y hx hy hb
def Uvv(q:Rat)(n:Nat)(h:(decide ((Qad q.num.natAbs).length<=n)&&decide ((Qad q.den).length<=n))=true):RL q n:=by
 simp only[Bool.and_eq_true,decide_eq_true_eq] at h;exact h
def Quz(z:QC)(n:Nat)(h:(decide ((Qad z.re.num.natAbs).length<=n)&&decide ((Qad z.re.den).length<=n)&&(decide ((Qad z.im.num.natAbs).length<=n)&&decide ((Qad z.im.den).length<=n)))=true):ZL z n:=by
 simp only[Bool.and_eq_true,decide_eq_true_eq] at h;exact⟨h.1,h.2⟩
def Qbk{a b:Rat}{k:Nat}(h:RL a k)(h':RL b k):ZL (⟨a,b⟩:QC) k:=⟨h,h'⟩
section
variable{f:FuncId}{x y:Rat}{r:FV}
def Ukk(h:Qbx prog true f [.c (gro x),.c (gro y)] r):Qbx prog true f [.c (gro x),.c (gr y)] r :=
 ⟨h.ent,fun w A vs hR hA hu=>by
  match vs,hu with
  | [a,b],hu=>exact h.ok w A [a,b] hR hA ⟨hu.1,.inr hu.2.1,trivial⟩⟩
def Qqz(h:Qbx prog true f [.c (gro x),.c (gro y)] r):Qbx prog true f [.c (gr x),.c (gr y)] r :=
 ⟨h.ent,fun w A vs hR hA hu=>by
  match vs,hu with
  | [a,b],hu=>exact h.ok w A [a,b] hR hA ⟨.inr hu.1,.inr hu.2.1,trivial⟩⟩
end
def Knr{q:Rat}(h:Qar q){w:World}{A:Nat->Prop}:FV.R (.tup [.row (rF q),.c (gl (.int .i64 0))]) (.tuple #[Kpm q,.int .i64 (Ktc q)]) w A:=by
 refine(FV.val_ok (u:=.tuple #[Qgf q,.int .i64 0]) (by kernel_rfl)).2 ?_;rw[Kpm,Ktc,if_pos h,if_pos h]
def Qhr(q:Rat)(hq:RL q 137438953472)(h:Qar q):Qbx prog true 84 [.c (gr q)] (.tup [.row (rF q),.c (gl (.int .i64 0))]) :=
 Qqe eo84 fun w A u hR _ hu=>(Qsb q u A w (.inr hu) hq).mono fun e w' h1=>⟨_,h1.1,Knr h,h1.2⟩
def Qct(q:Rat)(h:Qar q):Qbx prog true 105 [.row (rF q)] (.r (.c (gr q))) :=
 Qqe eo105 fun w A u hR hA hu=>by
  rw[(FR.val_ok (u:=Qgf q) (x:=.row (rF q)) (by kernel_rfl)).1 hu];refine(Qxo _ _ _ _ (Nat.lt_of_le_of_lt h.1 (by decide)) (Nat.lt_of_le_of_lt h.2 (by decide)) w).mono ?_;rintro e w' ⟨v,h1,h2,h3⟩;rcases h2 with⟨h2,_⟩|⟨q',e2,_,h2⟩
  .exact absurd ⟨q,rfl,h.1,h.2⟩ h2
  .have h6:q=q':=Qnu e2;subst h6;exact⟨_,h1,(h2.new h3 lr).2 A (hR rfl),h3⟩
def Qdw(q:Rat):Qbx prog true 113 [.c (gr q)] (.r (.row (cn (⟨q,0⟩:QC)))):=by
 have k:Qbx prog true 113 [.c (gr q)] (.r (.row [gr q,gl .nilp])) :=
  Qft (L:=[gr q]) Qai Qap [] [] [] func113 eo113 2000 [.c (.sym 0)] (.r (.row [.sym 0,.lit .nilp]))
 exact⟨k.ent,fun w A vs hR hA hu=>(k.ok w A vs hR hA hu).mono fun r w' ⟨v,h1,h2,h3⟩=>⟨v,h1,by
  obtain⟨us,rfl,h2⟩:=h2
  match us,h2 with
  | [a,b],h2=>exact⟨[a,b],rfl,.inr h2.1,.inl ⟨h2.2.1,rfl⟩,trivial⟩,h3⟩⟩
def Qnc(q:Rat)(v:Int)(h:q.num.sign=v):Qbx prog false 45 [.c (gr q)] (.r (.c (gl (.int .i64 v)))):=by
 subst h;exact Qau q
def Qkw(q:Rat)(hq:RL q 134217728)(h:Qjx q):Qbx prog true 121 [.c (gr q)] (.tup [.c (gr (sqr q)),.c (gl (.bool true))]) :=
 Qqe eo121 fun w A u hR hA hu=>by
  refine(Uaz q true ⟨fun _=>h,fun _=>rfl⟩ u A w hu (hR rfl) 134217728 hq lr).mono ?_;rintro e w' ⟨v,rfl,hb,h1⟩;exact⟨_,rfl,⟨[v,.bool true],rfl,Unz (h1 rfl),rfl,trivial⟩,hb⟩
def Qby(x y:Rat)(hx:RL x 134217728)(hy:RL y 134217728):Qbx prog false 80 [F1 x,F1 y] (.r (F1 (x-y))):=Qee eo80 (Uld x y hx hy) (by kernel_rfl) (by kernel_rfl)
def Kod(x:Rat):Qbx prog false 137 [F1 x] (.r (F1 (-x))):=Qee eo137 (Ule x) (by kernel_rfl) (by kernel_rfl)
def Qzp(n d:Int)(q:Rat)(h1:-9223372036854775808<=n)(h2:n<9223372036854775808)(h3:-9223372036854775808<=d)(h4:d<9223372036854775808)(h0:d≠0)(hq:Rat.divInt n d=q):Qbx prog false 40 [.c (gx (.int .i64 n)),.c (gx (.int .i64 d))] (.r (F1 q)):=by
 subst hq;exact Qee eo40 (Ulp n d h1 h2 h3 h4 h0) (by kernel_rfl) (by kernel_rfl)
def Uvl(z:QC):Qbx prog false 96 [G1 z] (.r (G1 (ng z))):=Qee eo96 (Uye z) (by kernel_rfl) (by kernel_rfl)
def Kog(w:World)(n m:Bool)(s1 s2 t1 t2:ByteArray)(r:Bool)(hr:r=true↔(n=m/\s1=t1/\s2=t2)) :
  (binOp .eql 26 (.agg #[.bool n,.string s1,.bool false,.string s2]) (.agg #[.bool m,.string t1,.bool false,.string t2])).run prog w=.ok (.bool r) w:=by
 go_simp
 simp only[Qng];cases r
 .have hn:¬(n=m/\s1=t1/\s2=t2):=fun h=>by cases hr.2 h
  repeat' split
  all_goals first
   | rfl
   | (exfalso;apply hn;refine⟨?_,?_,?_⟩<;>assumption)
 .obtain⟨rfl,rfl,rfl⟩:=hr.1 rfl;simp
def Qwx(w:World)(p q:Rat)(r:Bool)(hr:r=true↔p=q):(binOp .eql 26 (Qgf p) (Qgf q)).run prog w=.ok (.bool r) w :=
 Kog w _ _ _ _ _ _ r (hr.trans ⟨fun h=>by subst h;exact⟨rfl,rfl,rfl⟩,fun h=>Qnu (by unfold Qgf;rw[h.1,h.2.1,h.2.2])⟩)
def bF{L:List GF}(x y:AR)(p q:Rat)(r:Bool)(hr:r=true↔p=q)(hx:x.gv L=some (Qgf p):=by kernel_rfl)(hy:y.gv L=some (Qgf q):=by kernel_rfl):GB prog L :=
 gb .eql 26 x y (.lit (.bool r)) (Qse (by kernel_rfl) (fun w=>Qwx w p q r hr)) hx hy rfl
def Uks(a b c d:Rat):Value:=.agg #[.bool (decide (a.num<0)),.string (Qcj a.num.natAbs),.bool false,.string (Qcj a.den),.bool (decide (b.num<0)),.string (Qcj b.num.natAbs),.bool false,.string (Qcj b.den),
 .bool (decide (c.num<0)),.string (Qcj c.num.natAbs),.bool false,.string (Qcj c.den),.bool (decide (d.num<0)),.string (Qcj d.num.natAbs),.bool false,.string (Qcj d.den)]
def Koi(w:World)(a b c d:Rat):(binOp .eql 30 (Uks a b c d) (Uks a b c d)).run prog w=.ok (.bool true) w:=by
 unfold Uks
 go_simp
def bCt{L:List GF}(x y:AR)(a b c d:Rat)(hx:x.gv L=some (Uks a b c d):=by kernel_rfl)(hy:y.gv L=some (Uks a b c d):=by kernel_rfl):GB prog L :=
 gb .eql 30 x y (.lit (.bool true)) (Qse (by kernel_rfl) (fun w=>Koi w a b c d)) hx hy rfl
def Qqo{L:List GF}(q:Rat)(x:AC)(hx:AC.lk L x=some (gr q):=by kernel_rfl):GB prog L :=
 ⟨{ op:=.eql,t:=87,x:=.c x,y:=.c (.lit .nilp),res:=.lit (.bool false) },fun σ w A vx vy xo yo h1 h2=>by
  obtain⟨b,rfl,_⟩:=(AC.lk_ok (σ:=σ) (x:=x) hx).1 h1;cases(show vy=.pointer none from h2);exact⟨.bool false,by go_simp,rfl⟩⟩
def Qdi{k:Nat}:RL (0:Rat) (k+1):=⟨Nat.le_trans (by decide +kernel:(Qad (0:Rat).num.natAbs).length<=1) (by omega),Nat.le_trans (by decide +kernel:(Qad (0:Rat).den).length<=1) (by omega)⟩
