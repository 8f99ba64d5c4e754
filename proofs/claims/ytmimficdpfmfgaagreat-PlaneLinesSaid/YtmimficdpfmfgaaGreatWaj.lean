/- Laws. -/
import Derived.Test.YtmimficdpfmfgaaGreatWai
import Derived.Deep.LoopGhost
set_option linter.all false
set_option maxHeartbeats 4000000
set_option maxRecDepth 100000
open Go.Lib (hid)
namespace Go.Proofs.YtmimficdpfmfgaaGreat
open Go.RowKit Tr Proofs.Tryz
def Kgz{a b:Nat}(h:a<b):Qdw a b<0:=by unfold Qdw;rw[if_pos h];decide
def Kcm{b:Nat}(h:(Qac b).length=1):b<4294967296/\Qac b=[b]:=by
 have h1:=Qbr b;rw[h] at h1;have h2:b<4294967296:=by simpa using h1
 refine⟨h2,?_⟩;have h0:b≠0:=by intro h0;rw[h0,Qay] at h;simp at h
 rw[Qhl h0,Nat.mod_eq_of_lt h2,Nat.div_eq_of_lt h2,Qay]
def Kfh(w:World)(x:Nat):Blk (w.alloc (.cells #[.int .u32 (x:Int)] 268)) w.heap.size [x]:=Blk.new w [x]
def Kdq(a b:Nat)(va vb:Value)(w:World)(ha:WSl w va (Qac a))(hb:WSl w vb (Qac b))(hab:a<b)(hn:(Qac a).length<274877906944) :
  Calls prog 285 #[va,vb] w fun e w'=>∃ v1 v2,e=.returned (.tuple #[v1,v2])/\WSl w' v1 (Qac (a/b))/\WSl w' v2 (Qac (a%b))/\Below w.heap.size w w':=by
 have HN:=hid hn;have HA:=hid (And.intro ha hb);obtain⟨z,hz⟩:∃ z,z=Qdw a b:=⟨_,rfl⟩
 have hz0:z<0:=by rw[hz];exact Kgz hab
 have HU:=hid (fun(w:World) ha hb=>by have:=Qhj a b va vb w ha hb (by omega);rw[<-hz] at this;exact this);obtain⟨pa,ca,rfl,hca,hra⟩:=ha;have HD:=hid hab;clear hz hab hra hca hn
 go_enter func285,Tryz.ntmps285
 go_wp2_with (go_at_call 264;refine(HU.out _ HA.out.1 HA.out.2).mono ?_;rintro e w' ⟨rfl,d,rfl⟩)
 go_ret2
 refine⟨_,_,rfl,?_,?_,Qbs br d⟩
 .rw[Nat.div_eq_of_lt HD.out,Qay];exact WSl.nil _
 .rw[Nat.mod_eq_of_lt HD.out];exact HA.out.1.drewN d
def Kds(a b:Nat)(va vb:Value)(w:World)(ha:WSl w va (Qac a))(hb:WSl w vb (Qac b))(hab:b<=a)(h1:(Qac b).length=1)(hn:(Qac a).length<274877906944) :
  Calls prog 285 #[va,vb] w fun e w'=>∃ v1 v2,e=.returned (.tuple #[v1,v2])/\WSl w' v1 (Qac (a/b))/\WSl w' v2 (Qac (a%b))/\Below w.heap.size w w':=by
 have HN:=hid hn;have HA:=hid (And.intro ha hb);obtain⟨z,hz⟩:∃ z,z=Qdw a b:=⟨_,rfl⟩
 have hz0:¬z<0:=by rw[hz];exact Qvf hab
 have HU:=hid (fun(w:World) ha hb=>by have:=Qhj a b va vb w ha hb (by omega);rw[<-hz] at this;exact this);obtain⟨hb32,hbw⟩:=Kcm h1;have hb0:0<b:=by
  rcases axh b with h|h
  .rw[h,Qay] at h1;simp at h1
  .exact h
 obtain⟨pb,cb,rfl,hcb,hrb⟩:=hb;obtain⟨bb,ob,rfl,hbb,hcell⟩:=hrb (by rw[hbw];simp);have c0:=hcell 0 (by rw[h1];omega);rw[hbw] at c0;simp only[List.getElem?_cons_zero,Option.getD_some,Nat.add_zero] at c0;rw[h1] at HA HU ⊢;have hsh:=fun(w:World) (ha:WSl w va (Qac a))=>Ksx (Qac a) b va w (Qap a) hb0 hb32 ha (by omega)
 have hr32:a%b<4294967296:=Nat.lt_trans (Nat.mod_lt _ hb0) hb32;rw[Qaq] at hsh;have HS:=hid hsh;obtain⟨r,hr⟩:∃ r,r=a%b:=⟨_,rfl⟩
 have hw1:wv [r]=r:=by simp[wv]
 have hcut:=fun(w:World)=>Qoi [r] _ _ (by rw[Qdz];exact⟨by omega,Qfz⟩) ((Kfh w r).wsl (k:=1) (cap:=1) (by simp) (by omega)) (by simp)
 rw[hw1] at hcut;rw[<-hr] at HS ⊢;have HC:=hid hcut;clear hz hab hrb hcb hn hcell hbw h1 hr hcut hw1 ha hsh
 go_enter func285,Tryz.ntmps285
 go_wp2_with (first
  | (go_at_call 264;refine(HU.out _ HA.out.1 HA.out.2).mono ?_;rintro e w' ⟨rfl,d,rfl⟩)
  | (go_at_call 299;refine(HS.out _ (HA.out.1.drewN d)).mono ?_;rintro e w' ⟨v,rfl,hv,hb1⟩)
  | (go_at_call 287;refine(HC.out _).mono ?_;rintro e w' ⟨v2,rfl,hv2,rfl⟩))
 go_ret2
 refine⟨_,_,rfl,hv.below (br.alloc lr _),hv2,?_⟩;have h9:=(Qbs (Below.refl w.heap.size w) d).trans (hb1.mono (by simp));exact h9.alloc h9.size _
def Qvi(a b:Nat)(va vb:Value)(w:World)(ha:WSl w va (Qac a))(hb:WSl w vb (Qac b))(hb0:0<b)(hn:(Qac a).length<274877906944) :
  Calls prog 285 #[va,vb] w fun e w'=>∃ v1 v2,e=.returned (.tuple #[v1,v2])/\WSl w' v1 (Qac (a/b))/\WSl w' v2 (Qac (a%b))/\Below w.heap.size w w':=by
 by_cases hab:a<b
 .exact Kdq a b va vb w ha hb hab hn
 .by_cases h1:(Qac b).length=1
  .exact Kds a b va vb w ha hb (by omega) h1 hn
  .have h2:2<=(Qac b).length:=by
    have:Qac b≠[]:=by intro h;have:=Qbz.1 h;omega
    have:=List.length_pos_iff.2 this;omega
   obtain⟨pa,ca,rfl,hra⟩:=ha;obtain⟨pb,cb,rfl,hrb⟩:=hb;exact Kdr a b _ _ rfl rfl h2 (by omega) pa pb ca cb w ⟨pa,ca,rfl,hra⟩ ⟨pb,cb,rfl,hrb⟩ hn
def Qjo(A:Nat->Prop)(w:World)(v:Value)(l:List Nat):Prop :=
 ∃ p cap,v=.slice p l.length cap/\l.length<=cap/\(l≠[]->∃ b off,p=some ⟨b,off,none⟩/\b<w.heap.size/\¬A b/\∀ j,j<l.length->w.cell? ⟨b,off+j,none⟩=some (.int .u32 (l[j]?.getD 0:Nat)))
def Qjo.wsl{A:Nat->Prop}{w:World}{v:Value}{l:List Nat}(h:Qjo A w v l):WSl w v l:=by
 obtain⟨p,cap,h1,h2,h3⟩:=h;exact⟨p,cap,h1,h2,fun hne=>by obtain⟨b,off,h4,h5,_,h6⟩:=h3 hne;exact⟨b,off,h4,h5,h6⟩⟩
def Kgv{w:World}{b i:Nat}{z:Obj}(h:w.heap[b]?=some z)(hz:NoW z)(k:Unit)(x:Int):w.cell? ⟨b,i,none⟩≠some (.int .u32 x):=by
 intro hc;unfold World.cell? at hc;simp only[h] at hc;cases z with
 | cells cs T fr =>
  simp at hc;exact hz cs T fr rfl i k x hc
 | _=>simp at hc
def WSl.avoids{A:Nat->Prop}{w:World}{v:Value}{l:List Nat}(h:WSl w v l)(hA:Rcv A w):Qjo A w v l:=by
 obtain⟨p,cap,h1,h2,h3⟩:=h;refine⟨p,cap,h1,h2,fun hne=>?_⟩;obtain⟨b,off,h4,h5,h6⟩:=h3 hne;refine⟨b,off,h4,h5,fun hb=>?_,h6⟩;obtain⟨z,hz,hn⟩:=hA b hb;have:=h6 0 (List.length_pos_iff.2 hne);exact Kgv hz hn () _ this
def Qjo.keep{A A':Nat->Prop}{w w':World}{v:Value}{l:List Nat}(hs:w.heap.size<=w'.heap.size)(hk:∀ b,b<w.heap.size->¬A b->w'.heap[b]?=w.heap[b]?/\¬A' b)(h:Qjo A w v l):Qjo A' w' v l:=by
 obtain⟨p,cap,h1,h2,h3⟩:=h;refine⟨p,cap,h1,h2,fun hne=>?_⟩;obtain⟨b,off,h4,h5,h6,h7⟩:=h3 hne;obtain⟨k1,k2⟩:=hk b h5 h6;exact⟨b,off,h4,axc h5 hs,k2,fun j hj=>(World.cell?_of_block (w:=w) k1).trans (h7 j hj)⟩
def Qce(z:Int):Qcq:=fun v w A=>∃ b o sl,v=.pointer (some ⟨b,o,none⟩)/\b<w.heap.size/\¬A b/\w.cell? ⟨b,o,none⟩=some (.bool (decide (z<0)))/\w.cell? ⟨b,o+1,none⟩=some sl/\Qjo A w sl (Qac z.natAbs)
def Qce.keeps(z:Int):(Qce z).Keeps:=by
 intro v w w' A A' hs hk ⟨b,o,sl,h1,h2,h3,h4,h5,h6⟩;obtain⟨k1,k2⟩:=hk b h2 h3;exact⟨b,o,sl,h1,axc h2 hs,k2,(World.cell?_of_block (w:=w) k1).trans h4,(World.cell?_of_block (w:=w) k1).trans h5,h6.keep hs hk⟩
def Qbk(q:Rat):Qcq:=fun v w A=>∃ b,v=.pointer (some ⟨b,0,none⟩)/\Qce q.num (.pointer (some ⟨b,0,none⟩)) w A/\(Qce (q.den:Int) (.pointer (some ⟨b,2,none⟩)) w A\/q=0/\Qce 0 (.pointer (some ⟨b,2,none⟩)) w A)
def Qbk.keeps(q:Rat):(Qbk q).Keeps:=by
 intro v w w' A A' hs hk ⟨b,h1,h2,h3⟩;exact⟨b,h1,Qce.keeps _ _ _ _ _ _ hs hk h2,h3.imp (Qce.keeps _ _ _ _ _ _ hs hk) (fun h=>⟨h.1,Qce.keeps _ _ _ _ _ _ hs hk h.2⟩)⟩
def Qce.below{z:Int}{v:Value}{w w':World}{A:Nat->Prop}(hb:Below w.heap.size w w')(h:Qce z v w A):Qce z v w' A:=Qcq.Keeps.below (Qce.keeps z) hb h
def Qbk.below{q:Rat}{v:Value}{w w':World}{A:Nat->Prop}(hb:Below w.heap.size w w')(h:Qbk q v w A):Qbk q v w' A:=Qcq.Keeps.below (Qbk.keeps q) hb h
def Qce.noA{z:Int}{v:Value}{w:World}{A:Nat->Prop}(h:Qce z v w A):Qce z v w NoA:=Qcq.Keeps.noA (Qce.keeps z) h
def Qbk.noA{q:Rat}{v:Value}{w:World}{A:Nat->Prop}(h:Qbk q v w A):Qbk q v w NoA:=Qcq.Keeps.noA (Qbk.keeps q) h
def Qce.drewN{z:Int}{v:Value}{w:World}{A:Nat->Prop}(h:Qce z v w A)(n:Nat):Qce z v (w.drewN n) A:=h
def Utz(w:World)(m o:Nat)(b sl:Value):World:=(w.setCell ⟨m,o+1,none⟩ sl).setCell ⟨m,o,none⟩ b
def Ksv{w:World}{m o:Nat}{C:Array Value}{T:TypeId}(hm:w.heap[m]?=some (.cells C T (0,0)))(b sl:Value):(Utz w m o b sl).heap[m]?=some (.cells ((C.setIfInBounds (o+1) sl).setIfInBounds o b) T (0,0)):=by
 unfold Utz;simp only[World.setCell,Array.getElem?_modify,if_true,hm,Option.map_some];rfl
def Qrj(w:World)(m o:Nat)(b sl:Value):Mod m w (Utz w m o b sl):=((Mod.refl m w).setCell _ _).setCell _ _
def WSl.mod{w w':World}{m:Nat}{v:Value}{l:List Nat}(h:WSl w v l)(hm:Mod m w w'){z:Obj}(hz:w.heap[m]?=some z)(hn:NoW z):WSl w' v l:=by
 obtain⟨p,cap,h1,h2,h3⟩:=h;refine⟨p,cap,h1,h2,fun hne=>?_⟩;obtain⟨b,off,h4,h5,h6⟩:=h3 hne;have hbm:b≠m:=fun e=>by
  subst e;exact Kgv hz hn () _ (h6 0 (List.length_pos_iff.2 hne))
 exact⟨b,off,h4,axc h5 hm.size,fun j hj=>(World.cell?_of_block (w:=w) (hm.block b h5 hbm)).trans (h6 j hj)⟩
def Uox(m o:Nat)(C:Array Value)(T:TypeId)(neg:Bool)(l:List Nat)(v:Value)(w:World)(hm:w.heap[m]?=some (.cells C T (0,0)))(ho:o+1<C.size)(hC:NoW (.cells C T (0,0)))(ol:WOk l)(hl:WSl w v l)(hn:l.length<1099511627776) :
  Calls prog 265 #[.pointer (some ⟨m,o,none⟩),.bool neg,v] w fun e w'=>∃ sl,e=.returned (.pointer (some ⟨m,o,none⟩))/\WSl w' sl (Qac (wv l))/\w'=Utz w m o (.bool (neg&&decide (wv l≠0))) sl:=by
 have hcut:=Qoi l v w ol hl hn;have HN:=hid hn;obtain⟨x,hx⟩:∃ x,w.cell? ⟨m,o,none⟩=some x:=by unfold World.cell?;simp[hm];exact⟨_,Array.getElem?_eq_getElem (by omega)⟩
 obtain⟨y,hy⟩:∃ y,w.cell? ⟨m,o+1,none⟩=some y:=by unfold World.cell?;simp[hm];exact⟨_,Array.getElem?_eq_getElem ho⟩
 have fx:w.frozen? ⟨m,o,none⟩=false:=by unfold World.frozen?;simp[hm]
 have fy:w.frozen? ⟨m,o+1,none⟩=false:=by unfold World.frozen?;simp[hm]
 have HM:=hid (And.intro hm hC);have HC:=hid hcut;clear hm hC hcut hl hn ol
 by_cases hneg:neg=true
 .subst hneg
  by_cases hz:wv l=0
  .have e:(true&&decide (wv l≠0))=false:=by simp[hz]
   have HE:=hid e;have HZ:=hid hz;clear e hz
   go_enter func265,Tryz.ntmps265
   go_wp2_with (go_at_call 287;refine HC.out.mono ?_;rintro e w' ⟨sl,rfl,hsl,rfl⟩;have hk:=hsl;rw[HZ.out,Qay] at hk;obtain⟨p,cap,rfl,_,_⟩:=hk)
   go_ret
   refine⟨.slice p 0 cap,rfl,?_,?_⟩
   .exact WSl.mod hsl (Qrj _ _ _ _ _) HM.out.1 HM.out.2
   .rw[HE.out];rfl
  .have e:(true&&decide (wv l≠0))=true:=by simp[hz]
   have hpos:0<(Qac (wv l)).length:=List.length_pos_iff.2 (fun h=>hz (Qbz.1 h));have HE:=hid e;clear e hz
   go_enter func265,Tryz.ntmps265
   go_wp2_with (go_at_call 287;refine HC.out.mono ?_;rintro e w' ⟨sl,rfl,hsl,rfl⟩;have hk:=hsl;obtain⟨p,cap,rfl,_,_⟩:=hk)
   go_ret
   refine⟨.slice p (Qac (wv l)).length cap,rfl,?_,?_⟩
   .exact WSl.mod hsl (Qrj _ _ _ _ _) HM.out.1 HM.out.2
   .rw[HE.out];rfl
 .obtain rfl:neg=false:=by simpa using hneg
  go_enter func265,Tryz.ntmps265
  go_wp2_with (go_at_call 287;refine HC.out.mono ?_;rintro e w' ⟨sl,rfl,hsl,rfl⟩;have hk:=hsl;obtain⟨p,cap,rfl,_,_⟩:=hk)
  go_ret
  refine⟨.slice p (Qac (wv l)).length cap,rfl,?_,?_⟩
  .exact WSl.mod hsl (Qrj _ _ _ _ _) HM.out.1 HM.out.2
  .rfl
def Put(m o:Nat)(C:Array Value)(T:TypeId)(z:Int)(w w':World):Prop:=Mod m w w'/\∃ sl,w'.heap[m]?=some (.cells ((C.setIfInBounds (o+1) sl).setIfInBounds o (.bool (decide (z<0)))) T (0,0))/\WSl w' sl (Qac z.natAbs)
def Put.below{m o:Nat}{C:Array Value}{T:TypeId}{z:Int}{w w1 w':World}(h:Put m o C T z w1 w')(hb:Below w.heap.size w w1):Put m o C T z w w':=⟨(Mod.of_below hb).trans h.1,h.2⟩
def Qir(m o:Nat)(C:Array Value)(T:TypeId)(neg:Bool)(l:List Nat)(v:Value)(w:World)(z:Int)(hm:w.heap[m]?=some (.cells C T (0,0)))(ho:o+1<C.size)(hC:NoW (.cells C T (0,0)))(ol:WOk l)(hl:WSl w v l)(hn:l.length<1099511627776)(hz:z.natAbs=wv l)(hs:decide (z<0)=(neg&&decide (wv l≠0))) :
  Calls prog 265 #[.pointer (some ⟨m,o,none⟩),.bool neg,v] w fun e w'=>e=.returned (.pointer (some ⟨m,o,none⟩))/\Put m o C T z w w':=by
 refine(Uox m o C T neg l v w hm ho hC ol hl hn).mono ?_;rintro e w' ⟨sl,rfl,h1,rfl⟩;refine⟨rfl,Qrj _ _ _ _ _,sl,?_,by rw[hz];exact h1⟩;rw[Ksv hm,hs]
def Kty{n:Nat}(_:n<18446744073709551616):wv [n%4294967296,n/4294967296]=n:=by simp[wv];omega
def Upr(n:Nat)(hn:n<18446744073709551616)(w:World) :
  Calls prog 294 #[.int .u64 n] w fun e w'=>∃ v,e=.returned v/\WSl w' v (Qac n)/\Below w.heap.size w w':=by
 have e1:((n:Int))%4294967296=((n%4294967296:Nat):Int):=by omega
 have e2:(n:Int)/4294967296=((n/4294967296:Nat):Int):=by omega
 have hlt:n/4294967296<4294967296:=by omega
 have hcut:=fun(w:World)=>Qoi [n%4294967296,n/4294967296] _ _ (by rw[Qdz,Qdz];exact⟨Nat.mod_lt _ (by decide),hlt,Qfz⟩) ((Blk.new w [n%4294967296,n/4294967296]).wsl (k:=2) (cap:=2) (by simp) (by omega)) (by simp)
 rw[Kty hn] at hcut;have HC:=hid hcut;have HE:=hid (And.intro e1 e2);have b1:(n:Int)/4294967296<4294967296:=by omega
 clear e1 e2 hcut
 go_enter func294,Tryz.ntmps294
 go_wp2_with (go_at_call 287;rw[HE.out.1,HE.out.2];refine(HC.out _).mono ?_;rintro e w' ⟨v,rfl,hv,rfl⟩)
 go_ret
 exact⟨v,rfl,hv,br.alloc lr _⟩
def Kby(m o:Nat)(C:Array Value)(T:TypeId)(n:Int)(h0:-9223372036854775808<=n)(h1:n<9223372036854775808)(w:World)(hm:w.heap[m]?=some (.cells C T (0,0)))(ho:o+1<C.size)(hC:NoW (.cells C T (0,0))) :
  Calls prog 278 #[.pointer (some ⟨m,o,none⟩),.int .i64 n] w fun e w'=>e=.returned (.pointer (some ⟨m,o,none⟩))/\Put m o C T n w w':=by
 have hof:=fun w=>Upr n.natAbs (by omega) w
 have hmlt:m<w.heap.size:=(axa.1 hm).1;have his:=fun(neg:Bool) (hs:decide (n<0)=(neg&&decide (n.natAbs≠0))) (w1:World) (hb:Below w.heap.size w w1) v (hv:WSl w1 v (Qac n.natAbs))=>Qir m o C T neg (Qac n.natAbs) v w1 n ((hb.block m hmlt).trans hm) ho hC (Qap _) hv (axd (Qal (k:=2) (by omega)) (by decide)) (Qaq _).symm (by rw[Qaq];exact hs)
 have HI:=hid his;have HO:=hid hof;clear his hof hm hC
 by_cases hneg:n<0
 .have e1:IntKind.u64.wrap n=n+18446744073709551616:=by rw[IntKind.wrap_u64];omega
  have e2:IntKind.u64.wrap (-(n+18446744073709551616))=(n.natAbs:Int):=by rw[IntKind.wrap_u64];omega
  have hs:Hid (decide (n<0)=(true&&decide (n.natAbs≠0))):=hid (by
   have:n.natAbs≠0:=by omega
   simp[hneg,this])
  go_enter func278,Tryz.ntmps278
  go_wp2_with (first
   | (go_at_call 294;refine(HO.out _).mono ?_;rintro e w' ⟨v,rfl,hv,hb⟩)
   | (go_at_call 265;refine(HI.out true hs.out _ hb v hv).mono ?_;rintro e w' ⟨rfl,hp⟩))
  go_ret
  exact⟨rfl,hp.below hb⟩
 .have e1:IntKind.u64.wrap n=(n.natAbs:Int):=by rw[IntKind.wrap_u64];omega
  have hs:Hid (decide (n<0)=(false&&decide (n.natAbs≠0))):=hid (by simp[hneg])
  go_enter func278,Tryz.ntmps278
  go_wp2_with (first
   | (go_at_call 294;refine(HO.out _).mono ?_;rintro e w' ⟨v,rfl,hv,hb⟩)
   | (go_at_call 265;refine(HI.out false hs.out _ hb v hv).mono ?_;rintro e w' ⟨rfl,hp⟩))
  go_ret
  exact⟨rfl,hp.below hb⟩
def Kfi{w:World}{B m:Nat}{v:Value}{l:List Nat}(h:w.ownsRow B 268 1 v m (l.map fun x:Nat=>Value.int .u32 (x:Int))):WSl w v l:=by
 have h0:l.length=m:=by have:=h.1;simpa using this
 obtain⟨h1,h2|⟨g,cap',cur,h2,h3,h4,h5,h6,h7,h8⟩⟩:=h
 .obtain⟨rfl,h3⟩:=h2;have:l=[]:=List.eq_nil_of_length_eq_zero (by rw[h0];simpa using h3);subst this;exact WSl.nil w
 .subst h2;refine⟨some ⟨g,0,none⟩,cap',by rw[h0],by omega,fun _=>⟨g,0,rfl,(axa.1 h4).1,fun j hj=>?_⟩⟩;have h9:(cur.toList.take (m*1))[j]?=some (.int .u32 (l[j]?.getD 0:Nat)):=by rw[h8];simp[hj]
  rw[List.getElem?_take_of_lt (by omega)] at h9;simp at h9;simp[World.cell?,h4,h9]
def Qqk(v:Value)(l:List Nat)(w:World)(h:WSl w v l)(hn:l.length<1099511627776) :
  ∃ v' w',(Builtin.append_ #[228,228] 228 #[.slice none 0 0,v]).run prog w=.ok v' w'/\WSl w' v' l/\Below w.heap.size w w':=by
 obtain⟨p,cap,rfl,hc,hrow⟩:=h;obtain⟨i0,hi,hz0,hz1,hz2⟩:=info_parts Qhx;have hown:w.ownsRow w.heap.size 268 1 (.slice none 0 0) 0 []:=⟨by simp,.inl ⟨rfl,rfl⟩⟩
 rcases p with _|ad
 .have hl:l=[]:=by
   rcases l with _|⟨x,l⟩
   .rfl
   .obtain⟨b,off,h,_⟩:=hrow (by simp);cases h
  subst hl;refine⟨.slice none 0 0,w,?_,WSl.nil w,Below.refl _ _⟩;simp[Builtin.append_,run_underlying (Tryz.underlying228),sizeOf,typeInfo,hi,Builtin.lenOf,Builtin.firstCells]
 .have hcells:∀ j u,(l.map fun x:Nat=>Value.int .u32 (x:Int))[j]?=some u->w.cell? (ad.add j)=some u:=by
   intro j u hu;rw[List.getElem?_map] at hu;obtain⟨y,hy,rfl⟩:=Option.map_eq_some_iff.1 hu;have hlt:=(axb.1 hy).1;obtain⟨b,off,h1,h2,h3⟩:=hrow (by intro h;rw[h] at hlt;simp at hlt);cases h1;have:=h3 j hlt;rw[hy] at this;rw[Addr.add_lit];simpa using this
  have h1:∀ u∈(l.map fun x:Nat=>Value.int .u32 (x:Int)),u.oneCell'=true:=by intro u hu;obtain⟨y,_,rfl⟩:=List.mem_map.1 hu;rfl
  obtain⟨v',w',hrun,h2,h3,_,h5⟩:=run_append_own_at (P:=prog) w w.heap.size 228 228 268 i0 _ 1 4 Tryz.underlying228 hi hz0 hz1 hz2 rfl (by decide) (.slice none 0 0) 0 [] hown ad l.length cap _ (by simp) hcells h1 (by unfold maxLen;omega) (by omega) lr;refine⟨v',w',hrun,?_,?_⟩
  .rw[Nat.zero_add,List.nil_append] at h2;exact Kfi h2
  .exact br.grown h3 lr (fun k e=>by simp[Value.ownBlock] at e)
def Qko{o:Oper}{a:Act}{w:World}{K:Act->World->Prop}{Q:Exit->Act->World->Prop}(s x:Operand)
  (ho:o.op=.call { callee:=.builtin .append,args:=#[s,x],argTypes:=#[228,228] }) (hty:o.type=228) (v:Value) (l:List Nat) (hs:a.eval s=.slice none 0 0) (hx:a.eval x=v) (h:WSl w v l) (hn:l.length<1099511627776)
  (hK:∀ v' w',WSl w' v' l->Below w.heap.size w w'->K (a.put o.dst v') w'):o.wp prog a w K Q:=by
 obtain⟨v',w',hrun,h2,h3⟩:=Qqk v l w h hn;unfold Oper.wp execOp;simp only[ho,hty,resolve,invoke,builtin,Sem.run_bind,Sem.run_pure,Result.andThen_ok,List.map_toArray,List.map_cons,List.map_nil,hs,hx,hrun];exact hK v' w' h2 h3
def ct{w w1:World}(h1:Below w.drew.heap.size w.drew w1){b o:Nat}{v:Value}(hb:b<w.heap.size)(hc:w.cell? ⟨b,o,none⟩=some v):w1.cell? ⟨b,o,none⟩=some v:=(h1.cell (p:=⟨b,o,none⟩) hb).trans hc
def Qol(l:List Nat):Qcq.Keeps (fun v w A=>Qjo A w v l):=fun _ _ _ _ _ hs hk h=>h.keep hs hk
def Qmb(m o:Nat)(C:Array Value)(T:TypeId)(z:Int)(v:Value)(A:Nat->Prop)(w:World)(hm:w.heap[m]?=some (.cells C T (0,0)))(ho:o+1<C.size)(hC:NoW (.cells C T (0,0)))(hx:Qce z v w A)(hn:(Qac z.natAbs).length<274877906944) :
  Calls prog 255 #[.pointer (some ⟨m,o,none⟩),v] w fun e w'=>e=.returned (.pointer (some ⟨m,o,none⟩))/\Put m o C T z w w':=by
 obtain⟨b,bo,sl,rfl,hb,_,c0,c1,hsl⟩:=hx;have hw:=hsl.wsl;have hmlt:m<w.heap.size:=(axa.1 hm).1
 go_enter func255,Tryz.ntmps255
 go_wp2_with fail
 refine Qav [(.lit,[]),(.lit,[]),(.lit,[]),(.lit,[]),(.lit,[]),(.lit,[]),(.lit,[]),(.lit,[]),(.lit,[]),(.val,[])] (Qfj [(9,fun v w A=>Qjo A w v (Qac z.natAbs))]) kR ?_ ?_ (by simp) (by simp) kR
 .exact Qbh (by simp[Qol])
 .refine⟨_,fun f w1 h1=>by go_simp;rfl,?_⟩;refine⟨_,fun f w1 h1=>by go_simp;rfl,?_⟩;refine⟨_,fun f w1 h1=>by go_simp;rfl,?_⟩;refine⟨_,fun f w1 h1=>by go_simp;rfl,?_⟩;refine⟨_,fun f w1 h1=>by have:=ct h1 hb c0;go_simp;rfl,?_⟩;refine⟨_,fun f w1 h1=>by go_simp;rfl,?_⟩;refine⟨_,fun f w1 h1=>by go_simp;rfl,?_⟩;refine⟨_,fun f w1 h1=>by go_simp;rfl,?_⟩;refine⟨_,fun f w1 h1=>by have:=ct h1 hb c1;go_simp;rfl,?_⟩;simp only[Act.put,nrA,nrB,nrC,Nat.reduceAdd];refine⟨fun f w1 A1 h1 hA hN hd K hK=>?_,?_⟩
  .refine Qko _ _ rfl rfl _ _ rfl rfl (hw.below h1) (by omega) ?_;intro v' w' hv hb';exact hK v' w' hb' (hv.avoids (hA.below hb'))
  .intro f w1 h1 hF;have hv:Qjo NoA w1 (f 9) (Qac z.natAbs):=hF.2;have hv:=hv.wsl;clear hF;simp only[Act.put,nrA,nrB,nrC];generalize f 9=v9 at *
   have h1':Below w.heap.size w w1:=br.drew.trans h1;have his:=Qir m o C T (decide (z<0)) (Qac z.natAbs) v9 w1 z ((h1.block m hmlt).trans hm) ho hC (Qap _) hv (by omega) (Qaq _).symm (by rw[Qaq];by_cases h:z<0<;>simp[h];omega);have HI:=hid his;clear his hm hC c0 c1
   go_wp2_with (go_at_call 265;refine HI.out.mono ?_;rintro e w' ⟨rfl,hp⟩)
   go_ret
   exact⟨rfl,hp.below h1'⟩
def Qhs(n k:Nat):Qcq:=fun v w A=>∃ l,WOk l/\wv l=n/\l.length<=k/\Qjo A w v l
def Qhs.keeps(n k:Nat):(Qhs n k).Keeps:=by
 intro v w w' A A' hs hk ⟨l,h1,h2,h3,h4⟩;exact⟨l,h1,h2,h3,h4.keep hs hk⟩
def Blk.all{w:World}{B:Nat}{l:List Nat}(h:Blk w B l):WSl w (.slice (some ⟨B,0,none⟩) l.length l.length) l:=by
 have:=h.wsl (k:=l.length) (cap:=l.length) lr lr;rwa[List.take_length] at this
def Ube(x y:Int)(n:Nat)(hn:n=x.natAbs*y.natAbs):decide (x*y<0)=((decide (x<0) != decide (y<0))&&decide (n≠0)):=by
 subst hn;rcases Int.lt_trichotomy x 0 with hx|hx|hx<;>rcases Int.lt_trichotomy y 0 with hy|hy|hy
 .have:0<x*y:=Int.mul_pos_of_neg_of_neg hx hy;have h2:¬x*y<0:=by omega
  simp[hx,hy,h2]
 .subst hy;simp
 .have:x*y<0:=Int.mul_neg_of_neg_of_pos hx hy;have h3:¬y<0:=by omega
  have h6:x.natAbs*y.natAbs≠0:=Nat.mul_ne_zero (by omega) (by omega);rw[decide_eq_true hx,decide_eq_false h3,decide_eq_true this,decide_eq_true h6];rfl
 .subst hx;simp
 .subst hx;simp
 .subst hx;simp
 .have:x*y<0:=Int.mul_neg_of_pos_of_neg hx hy;have h3:¬x<0:=by omega
  have h6:x.natAbs*y.natAbs≠0:=Nat.mul_ne_zero (by omega) (by omega);rw[decide_eq_false h3,decide_eq_true hy,decide_eq_true this,decide_eq_true h6];rfl
 .subst hy;simp
 .have:0<x*y:=Int.mul_pos hx hy;have h2:¬x*y<0:=by omega
  have h3:¬x<0:=by omega
  have h4:¬y<0:=by omega
  simp[h2,h3,h4]
def Qgm(m o:Nat)(C:Array Value)(T:TypeId)(x y:Int)(vx vy:Value)(A:Nat->Prop)(w:World)(hm:w.heap[m]?=some (.cells C T (0,0)))(ho:o+1<C.size)(hC:NoW (.cells C T (0,0)))(hx:Qce x vx w A)(hy:Qce y vy w A)(hnx:(Qac x.natAbs).length<274877906944)(hny:(Qac y.natAbs).length<274877906944) :
  Calls prog 225 #[.pointer (some ⟨m,o,none⟩),vx,vy] w fun e w'=>e=.returned (.pointer (some ⟨m,o,none⟩))/\Put m o C T (x*y) w w':=by
 obtain⟨b,bo,sl,rfl,hb,_,c0,c1,hsl⟩:=hx;obtain⟨b2,bo2,sl2,rfl,hb2,_,d0,d1,hsl2⟩:=hy;have hw:=hsl.wsl;have hw2:=hsl2.wsl;have hmlt:m<w.heap.size:=(axa.1 hm).1
 go_enter func225,Tryz.ntmps225
 go_wp2_with fail
 refine Qav [(.lit,[]),(.lit,[]),(.lit,[]),(.lit,[]),(.lit,[]),(.lit,[]),(.lit,[]),(.lit,[]),(.lit,[]),(.lit,[]),(.lit,[]),(.lit,[]),(.lit,[]),(.lit,[]),(.lit,[]),(.lit,[]),(.lit,[]),(.lit,[]),(.val,[])]
  (Qfj [(18,Qhs (x.natAbs*y.natAbs) 549755813888)]) kR ?_ ?_ (by simp) (by simp) kR
 .exact Qbh (by simp[Qhs.keeps])
 .repeat (refine⟨_,fun f w1 h1=>by(have e1:=ct h1 hb c0;have e2:=ct h1 hb c1;have e3:=ct h1 hb2 d0;have e4:=ct h1 hb2 d1;go_simp;rfl),?_⟩)
  simp only[Act.put,nrA,nrB,nrC,Nat.reduceAdd];refine⟨fun f w1 A1 h1 hA hN hd K hK=>?_,?_⟩
  .go_simp
   refine(Kep _ _ _ _ _ (Qap x.natAbs) (Qap y.natAbs) (hw.below h1) (hw2.below h1) (by omega) (by omega)).mono ?_;rintro e w' ⟨out,h2,h3,h4,rfl,h5,h6⟩;rw[Qaq,Qaq] at h4;exact hK _ w' h6 ⟨out,h3,h4,by omega,h5.all.avoids (hA.below h6)⟩
  .intro f w1 h1 hF;obtain⟨l,ol,hl,hll,hv⟩:Qhs (x.natAbs*y.natAbs) 549755813888 (f 18) w1 NoA:=hF.2;have hv:=hv.wsl;clear hF;simp only[Act.put,nrA,nrB,nrC];generalize f 18=v9 at *
   have h1':Below w.heap.size w w1:=br.drew.trans h1;have his:=Qir m o C T _ l v9 w1 (x*y) ((h1.block m hmlt).trans hm) ho hC ol hv (by omega) (by rw[hl,axm]) (Ube x y _ hl);have HI:=hid his;clear his hm hC c0 c1 d0 d1
   go_wp2_with (go_at_call 265;refine HI.out.mono ?_;rintro e w' ⟨rfl,hp⟩)
   go_ret
   exact⟨rfl,hp.below h1'⟩
def sgn(neg:Bool)(n:Nat):Int:=if neg then -(n:Int) else n
def Qdi(neg:Bool)(n:Nat):(sgn neg n).natAbs=n:=by unfold sgn;cases neg<;>simp
def Qrl(x:Int):sgn (decide (x<0)) x.natAbs=x:=by
 unfold sgn
 by_cases h:x<0
 .simp[h];omega
 .simp[h];omega
def Qkm(neg:Bool)(n:Nat):decide (sgn neg n<0)=(neg&&decide (n≠0)):=by
 unfold sgn;cases neg
 .simp
 .by_cases h:n=0
  .simp[h]
  .simp[h];omega
def Kxt(m o:Nat)(C:Array Value)(T:TypeId)(x y:Int)(neg:Bool)(hneg:decide (x<0)=neg)(vx vy:Value)(A:Nat->Prop)(w:World)(hm:w.heap[m]?=some (.cells C T (0,0)))(ho:o+1<C.size)(hC:NoW (.cells C T (0,0)))(hx:Qce x vx w A)(hy:Qce y vy w A)(hnx:(Qac x.natAbs).length<274877906944)(hny:(Qac y.natAbs).length<274877906944) :
  Calls prog 279 #[.pointer (some ⟨m,o,none⟩),vx,vy,.bool neg] w fun e w'=>e=.returned (.pointer (some ⟨m,o,none⟩))/\Put m o C T (x+sgn neg y.natAbs) w w':=by
 obtain⟨b,bo,sl,rfl,hb,_,c0,c1,hsl⟩:=hx;obtain⟨b2,bo2,sl2,rfl,hb2,_,d0,d1,hsl2⟩:=hy;have hw:=hsl.wsl;have hw2:=hsl2.wsl;have hmlt:m<w.heap.size:=(axa.1 hm).1;have hz:Hid (x+sgn neg y.natAbs=sgn neg (x.natAbs+y.natAbs)):=hid (by
  unfold sgn;cases neg<;>simp at hneg<;>simp<;>omega)
 rw[hneg] at c0;have hnn:(neg==neg)=true:=by simp
 have HX:=hid hneg;clear hneg
 go_enter func279,Tryz.ntmps279
 go_wp2_with fail
 refine Qav [(.lit,[]),(.lit,[]),(.lit,[]),(.lit,[]),(.lit,[]),(.lit,[]),(.lit,[]),(.lit,[]),(.lit,[]),(.lit,[]),(.val,[])]
  (Qfj [(10,Qhs (x.natAbs+y.natAbs) 549755813888)]) kR ?_ ?_ (by simp) (by simp) kR
 .exact Qbh (by simp[Qhs.keeps])
 .repeat (refine⟨_,fun f w1 h1=>by(have e2:=ct h1 hb c1;have e4:=ct h1 hb2 d1;go_simp;rfl),?_⟩)
  simp only[Act.put,nrA,nrB,nrC,Nat.reduceAdd];refine⟨fun f w1 A1 h1 hA hN hd K hK=>?_,?_⟩
  .go_simp
   refine(Kzh _ _ _ _ _ (Qap x.natAbs) (Qap y.natAbs) (hw.below h1) (hw2.below h1) (by omega) (by omega)).mono ?_;rintro e w' ⟨out,h2,h3,h4,rfl,h5,h6⟩;rw[Qaq,Qaq] at h4;exact hK _ w' h6 ⟨out,h3,h4,by omega,h5.all.avoids (hA.below h6)⟩
  .intro f w1 h1 hF;obtain⟨l,ol,hl,hll,hv⟩:Qhs (x.natAbs+y.natAbs) 549755813888 (f 10) w1 NoA:=hF.2;have hv:=hv.wsl;clear hF;simp only[Act.put,nrA,nrB,nrC];generalize f 10=v9 at *
   have h1':Below w.heap.size w w1:=br.drew.trans h1;have his:=Qir m o C T neg l v9 w1 (x+sgn neg y.natAbs) ((h1.block m hmlt).trans hm) ho hC ol hv (by omega) (by rw[hl,hz.out,Qdi]) (by rw[hl,hz.out,Qkm]);have HI:=hid his;clear his hm hC c0 c1 d0 d1
   go_wp2_with (go_at_call 265;refine HI.out.mono ?_;rintro e w' ⟨rfl,hp⟩)
   go_ret
   exact⟨rfl,hp.below h1'⟩
def Kxu(m o:Nat)(C:Array Value)(T:TypeId)(x y:Int)(neg:Bool)(hneg:decide (x<0)=!neg)(hle:y.natAbs<=x.natAbs)(vx vy:Value)(A:Nat->Prop)(w:World)(hm:w.heap[m]?=some (.cells C T (0,0)))(ho:o+1<C.size)(hC:NoW (.cells C T (0,0)))(hx:Qce x vx w A)(hy:Qce y vy w A)(hnx:(Qac x.natAbs).length<274877906944) :
  Calls prog 279 #[.pointer (some ⟨m,o,none⟩),vx,vy,.bool neg] w fun e w'=>e=.returned (.pointer (some ⟨m,o,none⟩))/\Put m o C T (x+sgn neg y.natAbs) w w':=by
 obtain⟨b,bo,sl,rfl,hb,_,c0,c1,hsl⟩:=hx;obtain⟨b2,bo2,sl2,rfl,hb2,_,d0,d1,hsl2⟩:=hy;have hw:=hsl.wsl;have hw2:=hsl2.wsl;have hmlt:m<w.heap.size:=(axa.1 hm).1;have hz:Hid (x+sgn neg y.natAbs=sgn (!neg) (x.natAbs-y.natAbs)):=hid (by
  unfold sgn;cases neg<;>simp at hneg<;>simp<;>omega)
 have hll2:(Qac y.natAbs).length<=(Qac x.natAbs).length:=by
  rcases Nat.lt_or_ge (Qac x.natAbs).length (Qac y.natAbs).length with h|h
  .have:=Qdt h;omega
  .exact h
 rw[hneg] at c0;have hnn:((!neg)==neg)=false:=by cases neg<;>rfl
 have hcz:(Qdw x.natAbs y.natAbs)>=0:=by have:=Qvf hle;omega
 have HX:=hid (And.intro hneg (And.intro hle hll2));obtain⟨cz,hcze⟩:∃ cz,cz=Qdw x.natAbs y.natAbs:=⟨_,rfl⟩
 rw[<-hcze] at hcz;have HU:=fun(w:World) h1 h2=>Qhj x.natAbs y.natAbs sl sl2 w h1 h2 (by omega)
 rw[<-hcze] at HU;clear hneg hle hcze hll2
 go_enter func279,Tryz.ntmps279
 go_wp2_with fail
 refine Qav [(.lit,[]),(.lit,[]),(.lit,[]),(.lit,[]),(.lit,[]),(.lit,[]),(.lit,[]),(.lit,[]),(.val,[])]
  (Qfj [(8,fun v _ _=>v=.int .i64 cz)]) kR ?_ ?_ (by simp) (by simp) kR
 .exact Qbh (by simp[Qis])
 .repeat (refine⟨_,fun f w1 h1=>by(have e2:=ct h1 hb c1;have e4:=ct h1 hb2 d1;go_simp;rfl),?_⟩)
  simp only[Act.put,nrA,nrB,nrC,Nat.reduceAdd];refine⟨fun f w1 A1 h1 hA hN hd K hK=>?_,?_⟩
  .go_simp
   refine(HU _ (hw.below h1) (hw2.below h1)).mono ?_;rintro e w' ⟨rfl,d,rfl⟩;exact hK _ _ (Qbs br d) rfl
  .intro f w1 h1 hF;have hv:f 8=.int .i64 cz:=hF.2;clear hF;simp only[Act.put,nrA,nrB,nrC,hv];clear hv;have h1':Below w.heap.size w w1:=br.drew.trans h1;have c0':=ct h1 hb c0;have c1':=ct h1 hb c1;have d1':=ct h1 hb2 d1;have hw':=hw.below h1;have hw2':=hw2.below h1;have hb':b<w1.heap.size:=axc hb h1'.size;have hb2':b2<w1.heap.size:=axc hb2 h1'.size;have hm':=(h1.block m hmlt).trans hm;have HS:=hid (And.intro h1' (And.intro hm' hC));clear h1 h1' c0 c1 d0 d1 hw hw2 hb hb2 hm hm' hC
   go_wp2_with fail
   refine Qav [(.lit,[]),(.lit,[]),(.lit,[]),(.lit,[]),(.lit,[]),(.lit,[]),(.lit,[]),(.lit,[]),(.lit,[]),(.lit,[]),(.lit,[]),(.lit,[]),(.lit,[]),(.val,[])]
    (Qfj [(13,Qhs (x.natAbs-y.natAbs) 549755813888)]) kR ?_ ?_ (by simp) (by simp) kR
   .exact Qbh (by simp[Qhs.keeps])
   .repeat (refine⟨_,fun f w1 h1=>by(have e1:=ct h1 hb' c0';have e2:=ct h1 hb' c1';have e4:=ct h1 hb2' d1';go_simp;rfl),?_⟩)
    simp only[Act.put,nrA,nrB,nrC,Nat.reduceAdd];refine⟨fun f w1 A1 h1 hA hN hd K hK=>?_,?_⟩
    .go_simp
     refine(Khp _ _ _ _ _ (Qap x.natAbs) (Qap y.natAbs) (by rw[Qaq,Qaq];exact HX.out.2.1) HX.out.2.2 (hw'.below h1) (hw2'.below h1) (by omega)).mono ?_;rintro e w' ⟨out,h2,h3,h4,rfl,h5,h6⟩;rw[Qaq,Qaq] at h4;exact hK _ w' h6 ⟨out,h3,h4,by omega,h5.all.avoids (hA.below h6)⟩
    .intro f w2 h2 hF;obtain⟨l,ol,hl,hll,hv⟩:Qhs (x.natAbs-y.natAbs) 549755813888 (f 13) w2 NoA:=hF.2;have hv:=hv.wsl;clear hF;simp only[Act.put,nrA,nrB,nrC];generalize f 13=v9 at *
     have h2':Below w1.heap.size w1 w2:=br.drew.trans h2;have his:=Qir m o C T (!neg) l v9 w2 (x+sgn neg y.natAbs) ((h2'.block m (axc hmlt HS.out.1.size)).trans HS.out.2.1) ho HS.out.2.2 ol hv (by omega) (by rw[hl,hz.out,Qdi]) (by rw[hl,hz.out,Qkm]);have HI:=hid his;clear his c0' c1' d1'
     go_wp2_with (go_at_call 265;refine HI.out.mono ?_;rintro e w' ⟨rfl,hp⟩)
     go_ret
     exact⟨rfl,hp.below (HS.out.1.trans (h2'.mono HS.out.1.size))⟩
def Kop(m o:Nat)(C:Array Value)(T:TypeId)(x y:Int)(neg:Bool)(hneg:decide (x<0)=!neg)(hle:x.natAbs<y.natAbs)(vx vy:Value)(A:Nat->Prop)(w:World)(hm:w.heap[m]?=some (.cells C T (0,0)))(ho:o+1<C.size)(hC:NoW (.cells C T (0,0)))(hx:Qce x vx w A)(hy:Qce y vy w A)(hnx:(Qac x.natAbs).length<274877906944)(hny:(Qac y.natAbs).length<274877906944) :
  Calls prog 279 #[.pointer (some ⟨m,o,none⟩),vx,vy,.bool neg] w fun e w'=>e=.returned (.pointer (some ⟨m,o,none⟩))/\Put m o C T (x+sgn neg y.natAbs) w w':=by
 obtain⟨b,bo,sl,rfl,hb,_,c0,c1,hsl⟩:=hx;obtain⟨b2,bo2,sl2,rfl,hb2,_,d0,d1,hsl2⟩:=hy;have hw:=hsl.wsl;have hw2:=hsl2.wsl;have hmlt:m<w.heap.size:=(axa.1 hm).1;have hz:Hid (x+sgn neg y.natAbs=sgn neg (y.natAbs-x.natAbs)):=hid (by
  unfold sgn;cases neg<;>simp at hneg<;>simp<;>omega)
 have hll2:(Qac x.natAbs).length<=(Qac y.natAbs).length:=by
  rcases Nat.lt_or_ge (Qac y.natAbs).length (Qac x.natAbs).length with h|h
  .have:=Qdt h;omega
  .exact h
 rw[hneg] at c0;have hnn:((!neg)==neg)=false:=by cases neg<;>rfl
 have hcz:(Qdw x.natAbs y.natAbs)<0:=Kgz hle;have HX:=hid (And.intro hneg (And.intro hle hll2));obtain⟨cz,hcze⟩:∃ cz,cz=Qdw x.natAbs y.natAbs:=⟨_,rfl⟩
 rw[<-hcze] at hcz;have HU:=fun(w:World) h1 h2=>Qhj x.natAbs y.natAbs sl sl2 w h1 h2 (by omega)
 rw[<-hcze] at HU;clear hneg hle hcze hll2
 go_enter func279,Tryz.ntmps279
 go_wp2_with fail
 refine Qav [(.lit,[]),(.lit,[]),(.lit,[]),(.lit,[]),(.lit,[]),(.lit,[]),(.lit,[]),(.lit,[]),(.val,[])]
  (Qfj [(8,fun v _ _=>v=.int .i64 cz)]) kR ?_ ?_ (by simp) (by simp) kR
 .exact Qbh (by simp[Qis])
 .repeat (refine⟨_,fun f w1 h1=>by(have e2:=ct h1 hb c1;have e4:=ct h1 hb2 d1;go_simp;rfl),?_⟩)
  simp only[Act.put,nrA,nrB,nrC,Nat.reduceAdd];refine⟨fun f w1 A1 h1 hA hN hd K hK=>?_,?_⟩
  .go_simp
   refine(HU _ (hw.below h1) (hw2.below h1)).mono ?_;rintro e w' ⟨rfl,d,rfl⟩;exact hK _ _ (Qbs br d) rfl
  .intro f w1 h1 hF;have hv:f 8=.int .i64 cz:=hF.2;clear hF;simp only[Act.put,nrA,nrB,nrC,hv];clear hv;have h1':Below w.heap.size w w1:=br.drew.trans h1;have c0':=ct h1 hb c0;have c1':=ct h1 hb c1;have d1':=ct h1 hb2 d1;have hw':=hw.below h1;have hw2':=hw2.below h1;have hb':b<w1.heap.size:=axc hb h1'.size;have hb2':b2<w1.heap.size:=axc hb2 h1'.size;have hm':=(h1.block m hmlt).trans hm;have HS:=hid (And.intro h1' (And.intro hm' hC));clear h1 h1' c0 c1 d0 d1 hw hw2 hb hb2 hm hm' hC
   go_wp2_with fail
   refine Qav [(.lit,[]),(.lit,[]),(.lit,[]),(.lit,[]),(.lit,[]),(.lit,[]),(.lit,[]),(.lit,[]),(.lit,[]),(.lit,[]),(.val,[])]
    (Qfj [(10,Qhs (y.natAbs-x.natAbs) 549755813888)]) kR ?_ ?_ (by simp) (by simp) kR
   .exact Qbh (by simp[Qhs.keeps])
   .repeat (refine⟨_,fun f w1 h1=>by(have e2:=ct h1 hb' c1';have e4:=ct h1 hb2' d1';go_simp;rfl),?_⟩)
    simp only[Act.put,nrA,nrB,nrC,Nat.reduceAdd];refine⟨fun f w1 A1 h1 hA hN hd K hK=>?_,?_⟩
    .go_simp
     refine(Khp _ _ _ _ _ (Qap y.natAbs) (Qap x.natAbs) (by rw[Qaq,Qaq];exact Nat.le_of_lt HX.out.2.1) HX.out.2.2 (hw2'.below h1) (hw'.below h1) (by omega)).mono ?_;rintro e w' ⟨out,h2,h3,h4,rfl,h5,h6⟩;rw[Qaq,Qaq] at h4;exact hK _ w' h6 ⟨out,h3,h4,by omega,h5.all.avoids (hA.below h6)⟩
    .intro f w2 h2 hF;obtain⟨l,ol,hl,hll,hv⟩:Qhs (y.natAbs-x.natAbs) 549755813888 (f 10) w2 NoA:=hF.2;have hv:=hv.wsl;clear hF;simp only[Act.put,nrA,nrB,nrC];generalize f 10=v9 at *
     have h2':Below w1.heap.size w1 w2:=br.drew.trans h2;have his:=Qir m o C T neg l v9 w2 (x+sgn neg y.natAbs) ((h2'.block m (axc hmlt HS.out.1.size)).trans HS.out.2.1) ho HS.out.2.2 ol hv (by omega) (by rw[hl,hz.out,Qdi]) (by rw[hl,hz.out,Qkm]);have HI:=hid his;clear his c0' c1' d1'
     go_wp2_with (go_at_call 265;refine HI.out.mono ?_;rintro e w' ⟨rfl,hp⟩)
     go_ret
     exact⟨rfl,hp.below (HS.out.1.trans (h2'.mono HS.out.1.size))⟩
def Koo(m o:Nat)(C:Array Value)(T:TypeId)(x y:Int)(neg:Bool)(vx vy:Value)(A:Nat->Prop)(w:World)(hm:w.heap[m]?=some (.cells C T (0,0)))(ho:o+1<C.size)(hC:NoW (.cells C T (0,0)))(hx:Qce x vx w A)(hy:Qce y vy w A)(hnx:(Qac x.natAbs).length<274877906944)(hny:(Qac y.natAbs).length<274877906944) :
  Calls prog 279 #[.pointer (some ⟨m,o,none⟩),vx,vy,.bool neg] w fun e w'=>e=.returned (.pointer (some ⟨m,o,none⟩))/\Put m o C T (x+sgn neg y.natAbs) w w':=by
 by_cases h:decide (x<0)=neg
 .exact Kxt m o C T x y neg h vx vy A w hm ho hC hx hy hnx hny
 .have h':decide (x<0)=!neg:=by cases neg<;>cases hd:decide (x<0)<;>simp[hd] at h ⊢
  rcases Nat.lt_or_ge x.natAbs y.natAbs with h2|h2
  .exact Kop m o C T x y neg h' h2 vx vy A w hm ho hC hx hy hnx hny
  .exact Kxu m o C T x y neg h' h2 vx vy A w hm ho hC hx hy hnx
def Kog(m o:Nat)(C:Array Value)(T:TypeId)(x y:Int)(vx vy:Value)(A:Nat->Prop)(w:World)(hm:w.heap[m]?=some (.cells C T (0,0)))(ho:o+1<C.size)(hC:NoW (.cells C T (0,0)))(hx:Qce x vx w A)(hy:Qce y vy w A)(hnx:(Qac x.natAbs).length<274877906944)(hny:(Qac y.natAbs).length<274877906944) :
  Calls prog 248 #[.pointer (some ⟨m,o,none⟩),vx,vy] w fun e w'=>e=.returned (.pointer (some ⟨m,o,none⟩))/\Put m o C T (x+y) w w':=by
 have hc:=Koo m o C T x y (decide (y<0)) vx vy A w hm ho hC hx hy hnx hny;rw[Qrl] at hc;have HC:=hid hc;obtain⟨b2,bo2,sl2,rfl,hb2,_,d0,d1,hsl2⟩:=hy;clear hc hm hC
 go_enter func248,Tryz.ntmps248
 go_wp2_with (go_at_call 279;refine HC.out.mono ?_;rintro e w' ⟨rfl,hp⟩)
 go_ret
 exact⟨rfl,hp⟩
def Uiz(y:Int):sgn (!decide (y<0)) y.natAbs=-y:=by
 unfold sgn
 by_cases h:y<0
 .simp[h];omega
 .simp[h];omega
def Ufm(m o:Nat)(C:Array Value)(T:TypeId)(x y:Int)(vx vy:Value)(A:Nat->Prop)(w:World)(hm:w.heap[m]?=some (.cells C T (0,0)))(ho:o+1<C.size)(hC:NoW (.cells C T (0,0)))(hx:Qce x vx w A)(hy:Qce y vy w A)(hnx:(Qac x.natAbs).length<274877906944)(hny:(Qac y.natAbs).length<274877906944) :
  Calls prog 257 #[.pointer (some ⟨m,o,none⟩),vx,vy] w fun e w'=>e=.returned (.pointer (some ⟨m,o,none⟩))/\Put m o C T (x-y) w w':=by
 have hc:=Koo m o C T x y (!decide (y<0)) vx vy A w hm ho hC hx hy hnx hny;rw[Uiz,<-Int.sub_eq_add_neg] at hc;have HC:=hid hc;obtain⟨b2,bo2,sl2,rfl,hb2,_,d0,d1,hsl2⟩:=hy;clear hc hm hC
 go_enter func257,Tryz.ntmps257
 go_wp2_with (go_at_call 279;refine HC.out.mono ?_;rintro e w' ⟨rfl,hp⟩)
 go_ret
 exact⟨rfl,hp⟩
def Put.cells{m o:Nat}{C:Array Value}{T:TypeId}{z:Int}{w w':World}(h:Put m o C T z w w')(ho:o+1<C.size):∃ sl,w'.cell? ⟨m,o,none⟩=some (.bool (decide (z<0)))/\w'.cell? ⟨m,o+1,none⟩=some sl/\WSl w' sl (Qac z.natAbs)/\w'.heap[m]?=some (.cells ((C.setIfInBounds (o+1) sl).setIfInBounds o (.bool (decide (z<0)))) T (0,0))/\(∀ i,w'.frozen? ⟨m,i,none⟩=false):=by
 obtain⟨_,sl,h2,h3⟩:=h;refine⟨sl,?_,?_,h3,h2,fun i=>by simp[World.frozen?,h2]⟩
 .have hlt:o<C.size:=Nat.lt_of_succ_lt ho;simp[World.cell?,h2,hlt]
 .simp only[World.cell?,h2];simp[ho]
def Qsz{m o:Nat}{C:Array Value}{T:TypeId}{z z':Int}{w w1:World}(h:Put m o C T z w w1)(hz:z'.natAbs=z.natAbs)(hC:NoW (.cells C T (0,0))):Put m o C T z' w (w1.setCell ⟨m,o,none⟩ (.bool (decide (z'<0)))):=by
 obtain⟨h1,sl,h2,h3⟩:=h;have hsl:∃ p n c,sl=.slice p n c:=by obtain⟨p,c,e,_⟩:=h3;exact⟨_,_,_,e⟩
 obtain⟨p,n,c,rfl⟩:=hsl;have hn:NoW (.cells ((C.setIfInBounds (o+1) (.slice p n c)).setIfInBounds o (.bool (decide (z<0)))) T (0,0)):=by
  intro cs T' fr e i k x hx;cases e;rw[Array.getElem?_setIfInBounds] at hx
  split at hx
  .split at hx<;>simp at hx
  .rw[Array.getElem?_setIfInBounds] at hx
   split at hx
   .split at hx<;>simp at hx
   .exact hC C T (0,0) rfl i k x hx
 refine⟨h1.setCell _ _,.slice p n c,?_,?_⟩
 .simp only[World.setCell,Array.getElem?_modify,if_true,h2,Option.map_some];simp[Array.setIfInBounds_setIfInBounds]
 .rw[hz];exact WSl.mod h3 ((Mod.refl m w1).setCell o _) h2 hn
def Kdg(m o:Nat)(C:Array Value)(T:TypeId)(x:Int)(vx:Value)(A:Nat->Prop)(w:World)(hm:w.heap[m]?=some (.cells C T (0,0)))(ho:o+1<C.size)(hC:NoW (.cells C T (0,0)))(hx:Qce x vx w A)(hnx:(Qac x.natAbs).length<274877906944) :
  Calls prog 250 #[.pointer (some ⟨m,o,none⟩),vx] w fun e w'=>e=.returned (.pointer (some ⟨m,o,none⟩))/\Put m o C T (-x) w w':=by
 have hc:=Qmb m o C T x vx A w hm ho hC hx hnx;obtain⟨b2,bo2,sl2,rfl,hb2,_,d0,d1,hsl2⟩:=hx;have HC:=hid hc;have HN:=hid hC;clear hc hm hC d0 d1
 by_cases hz:x=0
 .subst hz
  go_enter func250,Tryz.ntmps250
  go_wp2_with (go_at_call 255;refine HC.out.mono ?_;rintro e w' ⟨rfl,hp⟩;obtain⟨sl,e1,e2,e3,e4,e5⟩:=hp.cells ho;obtain⟨p,cap,rfl,_,_⟩:=e3;have e6:=e5 o;clear e5 e4;rw[show(0:Int).natAbs=0 from rfl,Qay] at e2)
  go_ret
  refine⟨rfl,?_⟩;have:=Qsz (z':=-0) hp rfl HN.out;simpa using this
 .have hpos:0<(Qac x.natAbs).length:=List.length_pos_iff.2 (fun h=>hz (by have:=Qbz.1 h;omega));have hs:decide (-x<0)=!decide (x<0):=by by_cases h:x<0<;>simp[h]<;>omega
  have HS:=hid hs;clear hs hz
  by_cases hx0:x<0
  .have e0:decide (x<0)=true:=by simpa using hx0
   rw[e0] at HS
   go_enter func250,Tryz.ntmps250
   go_wp2_with (go_at_call 255;refine HC.out.mono ?_;rintro e w' ⟨rfl,hp⟩;obtain⟨sl,e1,e2,e3,e4,e5⟩:=hp.cells ho;obtain⟨p,cap,rfl,_,_⟩:=e3;have e6:=e5 o;clear e5 e4;rw[e0] at e1)
   go_ret
   refine⟨rfl,?_⟩;have:=Qsz (z':=-x) hp (Int.natAbs_neg x) HN.out;rw[HS.out] at this;exact this
  .have e0:decide (x<0)=false:=by simpa using hx0
   rw[e0] at HS
   go_enter func250,Tryz.ntmps250
   go_wp2_with (go_at_call 255;refine HC.out.mono ?_;rintro e w' ⟨rfl,hp⟩;obtain⟨sl,e1,e2,e3,e4,e5⟩:=hp.cells ho;obtain⟨p,cap,rfl,_,_⟩:=e3;have e6:=e5 o;clear e5 e4;rw[e0] at e1)
   go_ret
   refine⟨rfl,?_⟩;have:=Qsz (z':=-x) hp (Int.natAbs_neg x) HN.out;rw[HS.out] at this;exact this
def Qxc(x:Int)(vx:Value)(A:Nat->Prop)(w:World)(hx:Qce x vx w A) :
  Calls prog 176 #[vx] w fun e w'=>e=.returned (.int .i64 x.sign)/\w=w':=by
 obtain⟨b,bo,sl,rfl,hb,_,c0,c1,hsl⟩:=hx;obtain⟨p,cap,rfl,_,_⟩:=hsl;rcases Int.lt_trichotomy x 0 with h|h|h
 .have e0:decide (x<0)=true:=by simpa using h
  have hl:(((Qac x.natAbs).length:Int)==0)=false:=by
   have:=List.length_pos_iff.2 (fun h0=>by have:=Qbz.1 h0;omega:Qac x.natAbs≠[]);simp;intro h0;rw[h0] at this;simp at this
  have hs:x.sign=-1:=axo h;have HS:=hid hs;rw[e0] at c0;clear hs
  go_enter func176,Tryz.ntmps176
  go_wp2
  go_ret
  exact⟨Qfb HS.out.symm,rfl⟩
 .subst h;rw[show(0:Int).natAbs=0 from rfl,Qay] at c1
  go_enter func176,Tryz.ntmps176
  go_wp2
  go_ret
  exact⟨rfl,rfl⟩
 .have e0:decide (x<0)=false:=by simp;omega
  have hl:(((Qac x.natAbs).length:Int)==0)=false:=by
   have:=List.length_pos_iff.2 (fun h0=>by have:=Qbz.1 h0;omega:Qac x.natAbs≠[]);simp;intro h0;rw[h0] at this;simp at this
  have hs:x.sign=1:=axn h;have HS:=hid hs;rw[e0] at c0;clear hs
  go_enter func176,Tryz.ntmps176
  go_wp2
  go_ret
  exact⟨Qfb HS.out.symm,rfl⟩
def Put.intP{m o:Nat}{C:Array Value}{T:TypeId}{z:Int}{w w':World}(h:Put m o C T z w w')(ho:o+1<C.size){A:Nat->Prop}(hA:Rcv A w):Qce z (.pointer (some ⟨m,o,none⟩)) w' (fun b=>A b/\b≠m):=by
 obtain⟨sl,e1,e2,e3,e4,_⟩:=h.cells ho;refine⟨m,o,sl,rfl,(axa.1 e4).1,fun h=>h.2 rfl,e1,e2,e3.avoids fun b hb=>?_⟩;obtain⟨zz,h1,h2⟩:=hA b hb.1;exact⟨zz,(h.1.block b (axa.1 h1).1 hb.2).trans h1,h2⟩
def Qce.wider{z:Int}{v:Value}{w:World}{A A':Nat->Prop}(h:Qce z v w A)(hA:∀ b,A' b->A b):Qce z v w A' :=
 Qce.keeps z v w w A A' lr (fun b _ hna=>⟨rfl,fun h=>hna (hA b h)⟩) h
def Kcz(z:Int)(v:Value)(w w':World):Prop:=Below w.heap.size w w'/\∀ A,Rcv A w->Qce z v w' A
def Put.new{o:Nat}{C:Array Value}{T:TypeId}{z:Int}{w w':World}{ob:Obj}(h:Put w.heap.size o C T z (w.alloc ob) w')(ho:o+1<C.size):Kcz z (.pointer (some ⟨w.heap.size,o,none⟩)) w w':=by
 refine⟨Qgh h.1,fun A hA=>?_⟩;have hA':Rcv A (w.alloc ob):=hA.below (br.alloc lr _);exact(h.intP ho hA').wider fun b hb=>⟨hb,fun e=>by have:=hA.lt hb;omega⟩
def Kcz.of_below{z:Int}{v:Value}{w w1 w':World}(h:Kcz z v w1 w')(hb:Below w.heap.size w w1):Kcz z v w w':=⟨hb.trans (h.1.mono hb.size),fun A hA=>h.2 A (hA.below hb)⟩
def Qbi:NoW (.cells #[.bool false,.slice none 0 0] 230 (0,0)):=by
 intro cs T fr e i k x;cases e;rcases i with _|_|i<;>simp
def Qdg:NoW (.cells #[.bool false,.slice none 0 0,.bool false,.slice none 0 0] 232 (0,0)):=by
 intro cs T fr e i k x;cases e;rcases i with _|_|_|_|i<;>simp
def Qgv(n:Int)(h0:-9223372036854775808<=n)(h1:n<9223372036854775808)(w:World) :
  Calls prog 247 #[.int .i64 n] w fun e w'=>∃ v,e=.returned v/\Kcz n v w w':=by
 have hs:=Kby w.heap.size 0 _ _ n h0 h1 _ (heap_alloc_new w (.cells #[.bool false,.slice none 0 0] 230)) (by decide) Qbi;have HS:=hid hs;clear hs
 go_enter func247,Tryz.ntmps247
 go_wp2_with (go_at_call 278;refine HS.out.mono ?_;rintro e w' ⟨rfl,hp⟩)
 go_ret
 exact⟨_,rfl,hp.new (by decide)⟩
def Qgs(x y:Int):Int:=if x<y then -1 else if y<x then 1 else 0
def Kxw{x y:Int}(hx:x<0)(hy:y<0):Qdw y.natAbs x.natAbs=Qgs x y:=by
 unfold Qdw Qgs
 by_cases h:x<y
 .rw[if_pos h,if_pos (by omega)]
 .by_cases h2:y<x
  .rw[if_neg h,if_pos h2,if_neg (by omega),if_pos (by omega)]
  .rw[if_neg h,if_neg h2,if_neg (by omega),if_neg (by omega)]
def Kxx{x y:Int}(hx:0<=x)(hy:0<=y):Qdw x.natAbs y.natAbs=Qgs x y:=by
 unfold Qdw Qgs
 by_cases h:x<y
 .rw[if_pos h,if_pos (by omega)]
 .by_cases h2:y<x
  .rw[if_neg h,if_pos h2,if_neg (by omega),if_pos (by omega)]
  .rw[if_neg h,if_neg h2,if_neg (by omega),if_neg (by omega)]
def Qwy(x y:Int)(vx vy:Value)(A:Nat->Prop)(w:World)(hx:Qce x vx w A)(hy:Qce y vy w A)(hnx:(Qac x.natAbs).length<274877906944)(hny:(Qac y.natAbs).length<274877906944) :
  Calls prog 224 #[vx,vy] w fun e w'=>e=.returned (.int .i64 (Qgs x y))/\Below w.heap.size w w':=by
 obtain⟨b,bo,sl,rfl,hb,_,c0,c1,hsl⟩:=hx;obtain⟨b2,bo2,sl2,rfl,hb2,_,d0,d1,hsl2⟩:=hy;have hw:=hsl.wsl;have hw2:=hsl2.wsl;obtain⟨cz,hcz⟩:∃ cz,cz=Qgs x y:=⟨_,rfl⟩
 rw[<-hcz];have HZ:=hid hcz;clear hcz
 by_cases hx0:x<0<;>by_cases hy0:y<0
 .have e0:decide (x<0)=true:=by simpa using hx0
  have e1:decide (y<0)=true:=by simpa using hy0
  rw[e0] at c0;rw[e1] at d0;have HU:=fun(w:World) h1 h2=>Qhj y.natAbs x.natAbs sl2 sl w h1 h2 (by omega)
  rw[Kxw hx0 hy0,<-HZ.out] at HU;clear e0 e1 hx0 hy0
  go_enter func224,Tryz.ntmps224
  go_wp2_with fail
  refine Qav [(.lit,[]),(.lit,[]),(.lit,[]),(.lit,[]),(.lit,[]),(.lit,[]),(.lit,[]),(.lit,[]),(.val,[])] (Qfj [(8,fun v _ _=>v=.int .i64 cz)]) kR ?_ ?_ (by simp) (by simp) kR
  .exact Qbh (by simp[Qis])
  .repeat (refine⟨_,fun f w1 h1=>by(have e2:=ct h1 hb c1;have e4:=ct h1 hb2 d1;go_simp;rfl),?_⟩)
   simp only[Act.put,nrA,nrB,nrC,Nat.reduceAdd];refine⟨fun f w1 A1 h1 hA hN hd K hK=>?_,?_⟩
   .go_simp
    refine(HU _ (hw2.below h1) (hw.below h1)).mono ?_;rintro e w' ⟨rfl,d,rfl⟩;exact hK _ _ (Qbs br d) rfl
   .intro f w1 h1 hF;have hv:f 8=.int .i64 cz:=hF.2;clear hF;simp only[Act.put,nrA,nrB,nrC];rw[hv];clear hv c0 c1 d0 d1 hw hw2
    go_wp2
    go_ret
    exact⟨rfl,br.drew.trans h1⟩
 .have e0:decide (x<0)=true:=by simpa using hx0
  have e1:decide (y<0)=false:=by simpa using hy0
  rw[e0] at c0;rw[e1] at d0;have hc:Hid (cz=-1):=hid (by rw[HZ.out];unfold Qgs;rw[if_pos (by omega)]);clear e0 e1 hx0 hy0
  go_enter func224,Tryz.ntmps224
  go_wp2
  go_ret
  exact⟨Qfb hc.out.symm,Below.refl _ _⟩
 .have e0:decide (x<0)=false:=by simpa using hx0
  have e1:decide (y<0)=true:=by simpa using hy0
  rw[e0] at c0;rw[e1] at d0;have hc:Hid (cz=1):=hid (by rw[HZ.out];unfold Qgs;rw[if_neg (by omega),if_pos (by omega)]);clear e0 e1 hx0 hy0
  go_enter func224,Tryz.ntmps224
  go_wp2
  go_ret
  exact⟨Qfb hc.out.symm,Below.refl _ _⟩
 .have e0:decide (x<0)=false:=by simpa using hx0
  have e1:decide (y<0)=false:=by simpa using hy0
  rw[e0] at c0;rw[e1] at d0;have HU:=fun(w:World) h1 h2=>Qhj x.natAbs y.natAbs sl sl2 w h1 h2 (by omega)
  rw[Kxx (by omega) (by omega),<-HZ.out] at HU;clear e0 e1 hx0 hy0
  go_enter func224,Tryz.ntmps224
  go_wp2_with fail
  refine Qav [(.lit,[]),(.lit,[]),(.lit,[]),(.lit,[]),(.lit,[]),(.lit,[]),(.lit,[]),(.lit,[]),(.val,[])] (Qfj [(8,fun v _ _=>v=.int .i64 cz)]) kR ?_ ?_ (by simp) (by simp) kR
  .exact Qbh (by simp[Qis])
  .repeat (refine⟨_,fun f w1 h1=>by(have e2:=ct h1 hb c1;have e4:=ct h1 hb2 d1;go_simp;rfl),?_⟩)
   simp only[Act.put,nrA,nrB,nrC,Nat.reduceAdd];refine⟨fun f w1 A1 h1 hA hN hd K hK=>?_,?_⟩
   .go_simp
    refine(HU _ (hw.below h1) (hw2.below h1)).mono ?_;rintro e w' ⟨rfl,d,rfl⟩;exact hK _ _ (Qbs br d) rfl
   .intro f w1 h1 hF;have hv:f 8=.int .i64 cz:=hF.2;clear hF;simp only[Act.put,nrA,nrB,nrC];rw[hv];clear hv c0 c1 d0 d1 hw hw2
    go_wp2
    go_ret
    exact⟨rfl,br.drew.trans h1⟩
