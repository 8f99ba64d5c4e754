/- Laws. -/
import Derived.Test.YtcjjdooeogmdbaaGreatVam
set_option linter.all false
set_option maxHeartbeats 4000000
set_option maxRecDepth 100000
open Go.Lib (hid)
namespace Go.Proofs.YtcjjdooeogmdbaaGreat
open Go.RowKit Tr Proofs.Tryz
def Qkv(A:Nat->Prop)(w:World)(v:Value)(l:List Nat):Prop :=
 ∃ p cap,v=.slice p l.length cap/\l.length<=cap/\(l≠[]->∃ b off,p=some ⟨b,off,none⟩/\b<w.heap.size/\¬A b/\∀ j,j<l.length->w.cell? ⟨b,off+j,none⟩=some (.int .u32 (l[j]?.getD 0:Nat)))
def Qkv.wsl{A:Nat->Prop}{w:World}{v:Value}{l:List Nat}(h:Qkv A w v l):WSl w v l:=by
 obtain⟨p,cap,h1,h2,h3⟩:=h;exact⟨p,cap,h1,h2,fun hne=>by obtain⟨b,off,h4,h5,_,h6⟩:=h3 hne;exact⟨b,off,h4,h5,h6⟩⟩
def Kil{w:World}{b i:Nat}{z:Obj}(h:w.heap[b]?=some z)(hz:NoW z)(k:Unit)(x:Int):w.cell? ⟨b,i,none⟩≠some (.int .u32 x):=by
 intro hc;unfold World.cell? at hc;simp only[h] at hc;cases z with
 | cells cs T fr =>
  simp at hc;exact hz cs T fr rfl i k x hc
 | _=>simp at hc
def WSl.avoids{A:Nat->Prop}{w:World}{v:Value}{l:List Nat}(h:WSl w v l)(hA:Rcv A w):Qkv A w v l:=by
 obtain⟨p,cap,h1,h2,h3⟩:=h;refine⟨p,cap,h1,h2,fun hne=>?_⟩;obtain⟨b,off,h4,h5,h6⟩:=h3 hne;refine⟨b,off,h4,h5,fun hb=>?_,h6⟩;obtain⟨z,hz,hn⟩:=hA b hb;have:=h6 0 (List.length_pos_iff.2 hne);exact Kil hz hn () _ this
def Qkv.keep{A A':Nat->Prop}{w w':World}{v:Value}{l:List Nat}(hs:w.heap.size<=w'.heap.size)(hk:∀ b,b<w.heap.size->¬A b->w'.heap[b]?=w.heap[b]?/\¬A' b)(h:Qkv A w v l):Qkv A' w' v l:=by
 obtain⟨p,cap,h1,h2,h3⟩:=h;refine⟨p,cap,h1,h2,fun hne=>?_⟩;obtain⟨b,off,h4,h5,h6,h7⟩:=h3 hne;obtain⟨k1,k2⟩:=hk b h5 h6;exact⟨b,off,h4,Nat.lt_of_lt_of_le h5 hs,k2,fun j hj=>(World.cell?_of_block (w:=w) k1).trans (h7 j hj)⟩
def Qce(z:Int):Qcp:=fun v w A=>∃ b o sl,v=.pointer (some ⟨b,o,none⟩)/\b<w.heap.size/\¬A b/\w.cell? ⟨b,o,none⟩=some (.bool (decide (z<0)))/\w.cell? ⟨b,o+1,none⟩=some sl/\Qkv A w sl (Qad z.natAbs)
def Qce.keeps(z:Int):(Qce z).Keeps:=by
 intro v w w' A A' hs hk ⟨b,o,sl,h1,h2,h3,h4,h5,h6⟩;obtain⟨k1,k2⟩:=hk b h2 h3;exact⟨b,o,sl,h1,Nat.lt_of_lt_of_le h2 hs,k2,(World.cell?_of_block (w:=w) k1).trans h4,(World.cell?_of_block (w:=w) k1).trans h5,h6.keep hs hk⟩
def Qbl(q:Rat):Qcp:=fun v w A=>∃ b,v=.pointer (some ⟨b,0,none⟩)/\Qce q.num (.pointer (some ⟨b,0,none⟩)) w A/\(Qce (q.den:Int) (.pointer (some ⟨b,2,none⟩)) w A\/q=0/\Qce 0 (.pointer (some ⟨b,2,none⟩)) w A)
def Qbl.keeps(q:Rat):(Qbl q).Keeps:=by
 intro v w w' A A' hs hk ⟨b,h1,h2,h3⟩;exact⟨b,h1,Qce.keeps _ _ _ _ _ _ hs hk h2,h3.imp (Qce.keeps _ _ _ _ _ _ hs hk) (fun h=>⟨h.1,Qce.keeps _ _ _ _ _ _ hs hk h.2⟩)⟩
def Qce.below{z:Int}{v:Value}{w w':World}{A:Nat->Prop}(hb:Below w.heap.size w w')(h:Qce z v w A):Qce z v w' A:=Qcp.Keeps.below (Qce.keeps z) hb h
def Qbl.below{q:Rat}{v:Value}{w w':World}{A:Nat->Prop}(hb:Below w.heap.size w w')(h:Qbl q v w A):Qbl q v w' A:=Qcp.Keeps.below (Qbl.keeps q) hb h
def Qce.noA{z:Int}{v:Value}{w:World}{A:Nat->Prop}(h:Qce z v w A):Qce z v w NoA:=Qcp.Keeps.noA (Qce.keeps z) h
def Qbl.noA{q:Rat}{v:Value}{w:World}{A:Nat->Prop}(h:Qbl q v w A):Qbl q v w NoA:=Qcp.Keeps.noA (Qbl.keeps q) h
def Qce.drewN{z:Int}{v:Value}{w:World}{A:Nat->Prop}(h:Qce z v w A)(n:Nat):Qce z v (w.drewN n) A:=h
def Uqc(w:World)(m o:Nat)(b sl:Value):World:=(w.setCell ⟨m,o+1,none⟩ sl).setCell ⟨m,o,none⟩ b
def Kua{w:World}{m o:Nat}{C:Array Value}{T:TypeId}(hm:w.heap[m]?=some (.cells C T (0,0)))(b sl:Value):(Uqc w m o b sl).heap[m]?=some (.cells ((C.setIfInBounds (o+1) sl).setIfInBounds o b) T (0,0)):=by
 unfold Uqc;simp only[World.setCell,Array.getElem?_modify,if_true,hm,Option.map_some];rfl
def Qrv(w:World)(m o:Nat)(b sl:Value):Mod m w (Uqc w m o b sl):=((Mod.refl m w).setCell _ _).setCell _ _
def WSl.mod{w w':World}{m:Nat}{v:Value}{l:List Nat}(h:WSl w v l)(hm:Mod m w w'){z:Obj}(hz:w.heap[m]?=some z)(hn:NoW z):WSl w' v l:=by
 obtain⟨p,cap,h1,h2,h3⟩:=h;refine⟨p,cap,h1,h2,fun hne=>?_⟩;obtain⟨b,off,h4,h5,h6⟩:=h3 hne;have hbm:b≠m:=fun e=>by
  subst e;exact Kil hz hn () _ (h6 0 (List.length_pos_iff.2 hne))
 exact⟨b,off,h4,Nat.lt_of_lt_of_le h5 hm.size,fun j hj=>(World.cell?_of_block (w:=w) (hm.block b h5 hbm)).trans (h6 j hj)⟩
def Umc(m o:Nat)(C:Array Value)(T:TypeId)(neg:Bool)(l:List Nat)(v:Value)(w:World)(hm:w.heap[m]?=some (.cells C T (0,0)))(ho:o+1<C.size)(hC:NoW (.cells C T (0,0)))(ol:WOk l)(hl:WSl w v l)(hn:l.length<1099511627776) :
  Calls prog 229 #[.pointer (some ⟨m,o,none⟩),.bool neg,v] w fun e w'=>∃ sl,e=.returned (.pointer (some ⟨m,o,none⟩))/\WSl w' sl (Qad (wv l))/\w'=Uqc w m o (.bool (neg&&decide (wv l≠0))) sl:=by
 have hcut:=Qpl l v w ol hl hn;have HN:=hid hn;obtain⟨x,hx⟩:∃ x,w.cell? ⟨m,o,none⟩=some x:=by unfold World.cell?;simp[hm];exact⟨_,Array.getElem?_eq_getElem (by omega)⟩
 obtain⟨y,hy⟩:∃ y,w.cell? ⟨m,o+1,none⟩=some y:=by unfold World.cell?;simp[hm];exact⟨_,Array.getElem?_eq_getElem ho⟩
 have fx:w.frozen? ⟨m,o,none⟩=false:=by unfold World.frozen?;simp[hm]
 have fy:w.frozen? ⟨m,o+1,none⟩=false:=by unfold World.frozen?;simp[hm]
 have HM:=hid (And.intro hm hC);have HC:=hid hcut;clear hm hC hcut hl hn ol
 by_cases hneg:neg=true
 .subst hneg
  by_cases hz:wv l=0
  .have e:(true&&decide (wv l≠0))=false:=by simp[hz]
   have HE:=hid e;have HZ:=hid hz;clear e hz
   go_enter func229,Tryz.ntmps229
   go_wp2_with (go_at_call 251;refine HC.out.mono ?_;rintro e w' ⟨sl,rfl,hsl,rfl⟩;have hk:=hsl;rw[HZ.out,Qax] at hk;obtain⟨p,cap,rfl,_,_⟩:=hk)
   go_ret
   refine⟨.slice p 0 cap,rfl,?_,?_⟩
   .exact WSl.mod hsl (Qrv _ _ _ _ _) HM.out.1 HM.out.2
   .rw[HE.out];rfl
  .have e:(true&&decide (wv l≠0))=true:=by simp[hz]
   have hpos:0<(Qad (wv l)).length:=List.length_pos_iff.2 (fun h=>hz (Qcd.1 h));have HE:=hid e;clear e hz
   go_enter func229,Tryz.ntmps229
   go_wp2_with (go_at_call 251;refine HC.out.mono ?_;rintro e w' ⟨sl,rfl,hsl,rfl⟩;have hk:=hsl;obtain⟨p,cap,rfl,_,_⟩:=hk)
   go_ret
   refine⟨.slice p (Qad (wv l)).length cap,rfl,?_,?_⟩
   .exact WSl.mod hsl (Qrv _ _ _ _ _) HM.out.1 HM.out.2
   .rw[HE.out];rfl
 .obtain rfl:neg=false:=by simpa using hneg
  go_enter func229,Tryz.ntmps229
  go_wp2_with (go_at_call 251;refine HC.out.mono ?_;rintro e w' ⟨sl,rfl,hsl,rfl⟩;have hk:=hsl;obtain⟨p,cap,rfl,_,_⟩:=hk)
  go_ret
  refine⟨.slice p (Qad (wv l)).length cap,rfl,?_,?_⟩
  .exact WSl.mod hsl (Qrv _ _ _ _ _) HM.out.1 HM.out.2
  .rfl
def Put(m o:Nat)(C:Array Value)(T:TypeId)(z:Int)(w w':World):Prop:=Mod m w w'/\∃ sl,w'.heap[m]?=some (.cells ((C.setIfInBounds (o+1) sl).setIfInBounds o (.bool (decide (z<0)))) T (0,0))/\WSl w' sl (Qad z.natAbs)
def Put.below{m o:Nat}{C:Array Value}{T:TypeId}{z:Int}{w w1 w':World}(h:Put m o C T z w1 w')(hb:Below w.heap.size w w1):Put m o C T z w w':=⟨(Mod.of_below hb).trans h.1,h.2⟩
def Qjm(m o:Nat)(C:Array Value)(T:TypeId)(neg:Bool)(l:List Nat)(v:Value)(w:World)(z:Int)(hm:w.heap[m]?=some (.cells C T (0,0)))(ho:o+1<C.size)(hC:NoW (.cells C T (0,0)))(ol:WOk l)(hl:WSl w v l)(hn:l.length<1099511627776)(hz:z.natAbs=wv l)(hs:decide (z<0)=(neg&&decide (wv l≠0))) :
  Calls prog 229 #[.pointer (some ⟨m,o,none⟩),.bool neg,v] w fun e w'=>e=.returned (.pointer (some ⟨m,o,none⟩))/\Put m o C T z w w':=by
 refine(Umc m o C T neg l v w hm ho hC ol hl hn).mono ?_;rintro e w' ⟨sl,rfl,h1,rfl⟩;refine⟨rfl,Qrv _ _ _ _ _,sl,?_,by rw[hz];exact h1⟩;rw[Kua hm,hs]
def Kvf{n:Nat}(_:n<18446744073709551616):wv [n%4294967296,n/4294967296]=n:=by simp[wv];omega
def Unj(n:Nat)(hn:n<18446744073709551616)(w:World) :
  Calls prog 261 #[.int .u64 n] w fun e w'=>∃ v,e=.returned v/\WSl w' v (Qad n)/\Below w.heap.size w w':=by
 have e1:((n:Int))%4294967296=((n%4294967296:Nat):Int):=by omega
 have e2:(n:Int)/4294967296=((n/4294967296:Nat):Int):=by omega
 have hlt:n/4294967296<4294967296:=by omega
 have hcut:=fun(w:World)=>Qpl [n%4294967296,n/4294967296] _ _ (by rw[Qet,Qet];exact⟨Nat.mod_lt _ (by decide),hlt,Qhg⟩) ((Blk.new w [n%4294967296,n/4294967296]).wsl (k:=2) (cap:=2) (by simp) (by omega)) (by simp)
 rw[Kvf hn] at hcut;have HC:=hid hcut;have HE:=hid (And.intro e1 e2);have b1:(n:Int)/4294967296<4294967296:=by omega
 clear e1 e2 hcut
 go_enter func261,Tryz.ntmps261
 go_wp2_with (go_at_call 251;rw[HE.out.1,HE.out.2];refine(HC.out _).mono ?_;rintro e w' ⟨v,rfl,hv,rfl⟩)
 go_ret
 exact⟨v,rfl,hv,br.alloc lr _⟩
def Kdp(m o:Nat)(C:Array Value)(T:TypeId)(n:Int)(h0:-9223372036854775808<=n)(h1:n<9223372036854775808)(w:World)(hm:w.heap[m]?=some (.cells C T (0,0)))(ho:o+1<C.size)(hC:NoW (.cells C T (0,0))) :
  Calls prog 250 #[.pointer (some ⟨m,o,none⟩),.int .i64 n] w fun e w'=>e=.returned (.pointer (some ⟨m,o,none⟩))/\Put m o C T n w w':=by
 have hof:=fun w=>Unj n.natAbs (by omega) w
 have hmlt:m<w.heap.size:=(Array.getElem?_eq_some_iff.1 hm).1;have his:=fun(neg:Bool) (hs:decide (n<0)=(neg&&decide (n.natAbs≠0))) (w1:World) (hb:Below w.heap.size w w1) v (hv:WSl w1 v (Qad n.natAbs))=>Qjm m o C T neg (Qad n.natAbs) v w1 n ((hb.block m hmlt).trans hm) ho hC (Qas _) hv (Nat.lt_of_le_of_lt (Qak (k:=2) (by omega)) (by decide)) (Qaq _).symm (by rw[Qaq];exact hs)
 have HI:=hid his;have HO:=hid hof;clear his hof hm hC
 by_cases hneg:n<0
 .have e1:IntKind.u64.wrap n=n+18446744073709551616:=by rw[IntKind.wrap_u64];omega
  have e2:IntKind.u64.wrap (-(n+18446744073709551616))=(n.natAbs:Int):=by rw[IntKind.wrap_u64];omega
  have hs:Hid (decide (n<0)=(true&&decide (n.natAbs≠0))):=hid (by
   have:n.natAbs≠0:=by omega
   simp[hneg,this])
  go_enter func250,Tryz.ntmps250
  go_wp2_with (first
   | (go_at_call 261;refine(HO.out _).mono ?_;rintro e w' ⟨v,rfl,hv,hb⟩)
   | (go_at_call 229;refine(HI.out true hs.out _ hb v hv).mono ?_;rintro e w' ⟨rfl,hp⟩))
  go_ret
  exact⟨rfl,hp.below hb⟩
 .have e1:IntKind.u64.wrap n=(n.natAbs:Int):=by rw[IntKind.wrap_u64];omega
  have hs:Hid (decide (n<0)=(false&&decide (n.natAbs≠0))):=hid (by simp[hneg])
  go_enter func250,Tryz.ntmps250
  go_wp2_with (first
   | (go_at_call 261;refine(HO.out _).mono ?_;rintro e w' ⟨v,rfl,hv,hb⟩)
   | (go_at_call 229;refine(HI.out false hs.out _ hb v hv).mono ?_;rintro e w' ⟨rfl,hp⟩))
  go_ret
  exact⟨rfl,hp.below hb⟩
def Khb{w:World}{B m:Nat}{v:Value}{l:List Nat}(h:w.ownsRow B 233 1 v m (l.map fun x:Nat=>Value.int .u32 (x:Int))):WSl w v l:=by
 have h0:l.length=m:=by have:=h.1;simpa using this
 obtain⟨h1,h2|⟨g,cap',cur,h2,h3,h4,h5,h6,h7,h8⟩⟩:=h
 .obtain⟨rfl,h3⟩:=h2;have:l=[]:=List.eq_nil_of_length_eq_zero (by rw[h0];simpa using h3);subst this;exact WSl.nil w
 .subst h2;refine⟨some ⟨g,0,none⟩,cap',by rw[h0],by omega,fun _=>⟨g,0,rfl,(Array.getElem?_eq_some_iff.1 h4).1,fun j hj=>?_⟩⟩;have h9:(cur.toList.take (m*1))[j]?=some (.int .u32 (l[j]?.getD 0:Nat)):=by rw[h8];simp[hj]
  rw[List.getElem?_take_of_lt (by omega)] at h9;simp at h9;simp[World.cell?,h4,h9]
def Qrb(v:Value)(l:List Nat)(w:World)(h:WSl w v l)(hn:l.length<1099511627776) :
  ∃ v' w',(Builtin.append_ #[176,176] 176 #[.slice none 0 0,v]).run prog w=.ok v' w'/\WSl w' v' l/\Below w.heap.size w w':=by
 obtain⟨p,cap,rfl,hc,hrow⟩:=h;obtain⟨i0,hi,hz0,hz1,hz2⟩:=info_parts Qiv;have hown:w.ownsRow w.heap.size 233 1 (.slice none 0 0) 0 []:=⟨by simp,.inl ⟨rfl,rfl⟩⟩
 rcases p with _|ad
 .have hl:l=[]:=by
   rcases l with _|⟨x,l⟩
   .rfl
   .obtain⟨b,off,h,_⟩:=hrow (by simp);cases h
  subst hl;refine⟨.slice none 0 0,w,?_,WSl.nil w,Below.refl _ _⟩;simp[Builtin.append_,run_underlying (Tryz.underlying176),sizeOf,typeInfo,hi,Builtin.lenOf,Builtin.firstCells]
 .have hcells:∀ j u,(l.map fun x:Nat=>Value.int .u32 (x:Int))[j]?=some u->w.cell? (ad.add j)=some u:=by
   intro j u hu;rw[List.getElem?_map] at hu;obtain⟨y,hy,rfl⟩:=Option.map_eq_some_iff.1 hu;have hlt:=(List.getElem?_eq_some_iff.1 hy).1;obtain⟨b,off,h1,h2,h3⟩:=hrow (by intro h;rw[h] at hlt;simp at hlt);cases h1;have:=h3 j hlt;rw[hy] at this;rw[Addr.add_lit];simpa using this
  have h1:∀ u∈(l.map fun x:Nat=>Value.int .u32 (x:Int)),u.oneCell'=true:=by intro u hu;obtain⟨y,_,rfl⟩:=List.mem_map.1 hu;rfl
  obtain⟨v',w',hrun,h2,h3,_,h5⟩:=run_append_own_at (P:=prog) w w.heap.size 176 176 233 i0 _ 1 4 Tryz.underlying176 hi hz0 hz1 hz2 rfl (by decide) (.slice none 0 0) 0 [] hown ad l.length cap _ (by simp) hcells h1 (by unfold maxLen;omega) (by omega) lr;refine⟨v',w',hrun,?_,?_⟩
  .rw[Nat.zero_add,List.nil_append] at h2;exact Khb h2
  .exact br.grown h3 lr (fun k e=>by simp[Value.ownBlock] at e)
def Qls{o:Oper}{a:Act}{w:World}{K:Act->World->Prop}{Q:Exit->Act->World->Prop}(s x:Operand)
  (ho:o.op=.call { callee:=.builtin .append,args:=#[s,x],argTypes:=#[176,176] }) (hty:o.type=176) (v:Value) (l:List Nat) (hs:a.eval s=.slice none 0 0) (hx:a.eval x=v) (h:WSl w v l) (hn:l.length<1099511627776)
  (hK:∀ v' w',WSl w' v' l->Below w.heap.size w w'->K (a.put o.dst v') w'):o.wp prog a w K Q:=by
 obtain⟨v',w',hrun,h2,h3⟩:=Qrb v l w h hn;unfold Oper.wp execOp;simp only[ho,hty,resolve,invoke,builtin,Sem.run_bind,Sem.run_pure,Result.andThen_ok,List.map_toArray,List.map_cons,List.map_nil,hs,hx,hrun];exact hK v' w' h2 h3
def ct{w w1:World}(h1:Below w.drew.heap.size w.drew w1){b o:Nat}{v:Value}(hb:b<w.heap.size)(hc:w.cell? ⟨b,o,none⟩=some v):w1.cell? ⟨b,o,none⟩=some v:=(h1.cell (p:=⟨b,o,none⟩) hb).trans hc
def Qps(l:List Nat):Qcp.Keeps (fun v w A=>Qkv A w v l):=fun _ _ _ _ _ hs hk h=>h.keep hs hk
def Qnf(m o:Nat)(C:Array Value)(T:TypeId)(z:Int)(v:Value)(A:Nat->Prop)(w:World)(hm:w.heap[m]?=some (.cells C T (0,0)))(ho:o+1<C.size)(hC:NoW (.cells C T (0,0)))(hx:Qce z v w A)(hn:(Qad z.natAbs).length<274877906944) :
  Calls prog 216 #[.pointer (some ⟨m,o,none⟩),v] w fun e w'=>e=.returned (.pointer (some ⟨m,o,none⟩))/\Put m o C T z w w':=by
 obtain⟨b,bo,sl,rfl,hb,_,c0,c1,hsl⟩:=hx;have hw:=hsl.wsl;have hmlt:m<w.heap.size:=(Array.getElem?_eq_some_iff.1 hm).1
 go_enter func216,Tryz.ntmps216
 go_wp2_with fail
 refine Qat [(.lit,[]),(.lit,[]),(.lit,[]),(.lit,[]),(.lit,[]),(.lit,[]),(.lit,[]),(.lit,[]),(.lit,[]),(.val,[])] (Qfv [(9,fun v w A=>Qkv A w v (Qad z.natAbs))]) (by kernel_rfl) ?_ ?_ (by simp) (by simp) (by kernel_rfl)
 .exact Qbc (by simp[Qps])
 .refine⟨_,fun f w1 h1=>by go_simp;rfl,?_⟩;refine⟨_,fun f w1 h1=>by go_simp;rfl,?_⟩;refine⟨_,fun f w1 h1=>by go_simp;rfl,?_⟩;refine⟨_,fun f w1 h1=>by go_simp;rfl,?_⟩;refine⟨_,fun f w1 h1=>by have:=ct h1 hb c0;go_simp;rfl,?_⟩;refine⟨_,fun f w1 h1=>by go_simp;rfl,?_⟩;refine⟨_,fun f w1 h1=>by go_simp;rfl,?_⟩;refine⟨_,fun f w1 h1=>by go_simp;rfl,?_⟩;refine⟨_,fun f w1 h1=>by have:=ct h1 hb c1;go_simp;rfl,?_⟩;simp only[Act.put,nrA,nrB,nrC,Nat.reduceAdd];refine⟨fun f w1 A1 h1 hA hN hd K hK=>?_,?_⟩
  .refine Qls _ _ rfl rfl _ _ rfl rfl (hw.below h1) (by omega) ?_;intro v' w' hv hb';exact hK v' w' hb' (hv.avoids (hA.below hb'))
  .intro f w1 h1 hF;have hv:Qkv NoA w1 (f 9) (Qad z.natAbs):=hF.2;have hv:=hv.wsl;clear hF;simp only[Act.put,nrA,nrB,nrC];generalize f 9=v9 at *
   have h1':Below w.heap.size w w1:=br.drew.trans h1;have his:=Qjm m o C T (decide (z<0)) (Qad z.natAbs) v9 w1 z ((h1.block m hmlt).trans hm) ho hC (Qas _) hv (by omega) (Qaq _).symm (by rw[Qaq];by_cases h:z<0<;>simp[h];omega);have HI:=hid his;clear his hm hC c0 c1
   go_wp2_with (go_at_call 229;refine HI.out.mono ?_;rintro e w' ⟨rfl,hp⟩)
   go_ret
   exact⟨rfl,hp.below h1'⟩
def Qis(n k:Nat):Qcp:=fun v w A=>∃ l,WOk l/\wv l=n/\l.length<=k/\Qkv A w v l
def Qis.keeps(n k:Nat):(Qis n k).Keeps:=by
 intro v w w' A A' hs hk ⟨l,h1,h2,h3,h4⟩;exact⟨l,h1,h2,h3,h4.keep hs hk⟩
def Blk.all{w:World}{B:Nat}{l:List Nat}(h:Blk w B l):WSl w (.slice (some ⟨B,0,none⟩) l.length l.length) l:=by
 have:=h.wsl (k:=l.length) (cap:=l.length) lr lr;rwa[List.take_length] at this
def Ubf(x y:Int)(n:Nat)(hn:n=x.natAbs*y.natAbs):decide (x*y<0)=((decide (x<0) != decide (y<0))&&decide (n≠0)):=by
 subst hn;rcases Int.lt_trichotomy x 0 with hx|hx|hx<;>rcases Int.lt_trichotomy y 0 with hy|hy|hy
 .have:0<x*y:=Int.mul_pos_of_neg_of_neg hx hy;have h2:¬x*y<0:=by omega
  simp[hx,hy,h2]
 .subst hy;simp
 .have:x*y<0:=Int.mul_neg_of_neg_of_pos hx hy;have h3:¬y<0:=by omega
  have h6:x.natAbs*y.natAbs≠0:=Nat.mul_ne_zero (by omega) (by omega);rw[decide_eq_true hx,decide_eq_false h3,decide_eq_true this,decide_eq_true h6];rfl
 .subst hx;simp
 .subst hx;simp
 .subst hx;simp
 .have:x*y<0:=Int.mul_neg_of_pos_of_neg hx hy;have h3:¬x<0:=by omega
  have h6:x.natAbs*y.natAbs≠0:=Nat.mul_ne_zero (by omega) (by omega);rw[decide_eq_false h3,decide_eq_true hy,decide_eq_true this,decide_eq_true h6];rfl
 .subst hy;simp
 .have:0<x*y:=Int.mul_pos hx hy;have h2:¬x*y<0:=by omega
  have h3:¬x<0:=by omega
  have h4:¬y<0:=by omega
  simp[h2,h3,h4]
def Qho(m o:Nat)(C:Array Value)(T:TypeId)(x y:Int)(vx vy:Value)(A:Nat->Prop)(w:World)(hm:w.heap[m]?=some (.cells C T (0,0)))(ho:o+1<C.size)(hC:NoW (.cells C T (0,0)))(hx:Qce x vx w A)(hy:Qce y vy w A)(hnx:(Qad x.natAbs).length<274877906944)(hny:(Qad y.natAbs).length<274877906944) :
  Calls prog 191 #[.pointer (some ⟨m,o,none⟩),vx,vy] w fun e w'=>e=.returned (.pointer (some ⟨m,o,none⟩))/\Put m o C T (x*y) w w':=by
 obtain⟨b,bo,sl,rfl,hb,_,c0,c1,hsl⟩:=hx;obtain⟨b2,bo2,sl2,rfl,hb2,_,d0,d1,hsl2⟩:=hy;have hw:=hsl.wsl;have hw2:=hsl2.wsl;have hmlt:m<w.heap.size:=(Array.getElem?_eq_some_iff.1 hm).1
 go_enter func191,Tryz.ntmps191
 go_wp2_with fail
 refine Qat [(.lit,[]),(.lit,[]),(.lit,[]),(.lit,[]),(.lit,[]),(.lit,[]),(.lit,[]),(.lit,[]),(.lit,[]),(.lit,[]),(.lit,[]),(.lit,[]),(.lit,[]),(.lit,[]),(.lit,[]),(.lit,[]),(.lit,[]),(.lit,[]),(.val,[])]
  (Qfv [(18,Qis (x.natAbs*y.natAbs) 549755813888)]) (by kernel_rfl) ?_ ?_ (by simp) (by simp) (by kernel_rfl)
 .exact Qbc (by simp[Qis.keeps])
 .repeat (refine⟨_,fun f w1 h1=>by(have e1:=ct h1 hb c0;have e2:=ct h1 hb c1;have e3:=ct h1 hb2 d0;have e4:=ct h1 hb2 d1;go_simp;rfl),?_⟩)
  simp only[Act.put,nrA,nrB,nrC,Nat.reduceAdd];refine⟨fun f w1 A1 h1 hA hN hd K hK=>?_,?_⟩
  .go_simp
   refine(Kge _ _ _ _ _ (Qas x.natAbs) (Qas y.natAbs) (hw.below h1) (hw2.below h1) (by omega) (by omega)).mono ?_;rintro e w' ⟨out,h2,h3,h4,rfl,h5,h6⟩;rw[Qaq,Qaq] at h4;exact hK _ w' h6 ⟨out,h3,h4,by omega,h5.all.avoids (hA.below h6)⟩
  .intro f w1 h1 hF;obtain⟨l,ol,hl,hll,hv⟩:Qis (x.natAbs*y.natAbs) 549755813888 (f 18) w1 NoA:=hF.2;have hv:=hv.wsl;clear hF;simp only[Act.put,nrA,nrB,nrC];generalize f 18=v9 at *
   have h1':Below w.heap.size w w1:=br.drew.trans h1;have his:=Qjm m o C T _ l v9 w1 (x*y) ((h1.block m hmlt).trans hm) ho hC ol hv (by omega) (by rw[hl,Int.natAbs_mul]) (Ubf x y _ hl);have HI:=hid his;clear his hm hC c0 c1 d0 d1
   go_wp2_with (go_at_call 229;refine HI.out.mono ?_;rintro e w' ⟨rfl,hp⟩)
   go_ret
   exact⟨rfl,hp.below h1'⟩
def sgn(neg:Bool)(n:Nat):Int:=if neg then -(n:Int) else n
def Qck(neg:Bool)(n:Nat):(sgn neg n).natAbs=n:=by unfold sgn;cases neg<;>simp
def Qrx(x:Int):sgn (decide (x<0)) x.natAbs=x:=by
 unfold sgn
 by_cases h:x<0
 .simp[h];omega
 .simp[h];omega
def Qlp(neg:Bool)(n:Nat):decide (sgn neg n<0)=(neg&&decide (n≠0)):=by
 unfold sgn;cases neg
 .simp
 .by_cases h:n=0
  .simp[h]
  .simp[h];omega
def Kye(m o:Nat)(C:Array Value)(T:TypeId)(x y:Int)(neg:Bool)(hneg:decide (x<0)=neg)(vx vy:Value)(A:Nat->Prop)(w:World)(hm:w.heap[m]?=some (.cells C T (0,0)))(ho:o+1<C.size)(hC:NoW (.cells C T (0,0)))(hx:Qce x vx w A)(hy:Qce y vy w A)(hnx:(Qad x.natAbs).length<274877906944)(hny:(Qad y.natAbs).length<274877906944) :
  Calls prog 231 #[.pointer (some ⟨m,o,none⟩),vx,vy,.bool neg] w fun e w'=>e=.returned (.pointer (some ⟨m,o,none⟩))/\Put m o C T (x+sgn neg y.natAbs) w w':=by
 obtain⟨b,bo,sl,rfl,hb,_,c0,c1,hsl⟩:=hx;obtain⟨b2,bo2,sl2,rfl,hb2,_,d0,d1,hsl2⟩:=hy;have hw:=hsl.wsl;have hw2:=hsl2.wsl;have hmlt:m<w.heap.size:=(Array.getElem?_eq_some_iff.1 hm).1;have hz:Hid (x+sgn neg y.natAbs=sgn neg (x.natAbs+y.natAbs)):=hid (by
  unfold sgn;cases neg<;>simp at hneg<;>simp<;>omega)
 rw[hneg] at c0;have hnn:(neg==neg)=true:=by simp
 have HX:=hid hneg;clear hneg
 go_enter func231,Tryz.ntmps231
 go_wp2_with fail
 refine Qat [(.lit,[]),(.lit,[]),(.lit,[]),(.lit,[]),(.lit,[]),(.lit,[]),(.lit,[]),(.lit,[]),(.lit,[]),(.lit,[]),(.val,[])]
  (Qfv [(10,Qis (x.natAbs+y.natAbs) 549755813888)]) (by kernel_rfl) ?_ ?_ (by simp) (by simp) (by kernel_rfl)
 .exact Qbc (by simp[Qis.keeps])
 .repeat (refine⟨_,fun f w1 h1=>by(have e2:=ct h1 hb c1;have e4:=ct h1 hb2 d1;go_simp;rfl),?_⟩)
  simp only[Act.put,nrA,nrB,nrC,Nat.reduceAdd];refine⟨fun f w1 A1 h1 hA hN hd K hK=>?_,?_⟩
  .go_simp
   refine(Kzi _ _ _ _ _ (Qas x.natAbs) (Qas y.natAbs) (hw.below h1) (hw2.below h1) (by omega) (by omega)).mono ?_;rintro e w' ⟨out,h2,h3,h4,rfl,h5,h6⟩;rw[Qaq,Qaq] at h4;exact hK _ w' h6 ⟨out,h3,h4,by omega,h5.all.avoids (hA.below h6)⟩
  .intro f w1 h1 hF;obtain⟨l,ol,hl,hll,hv⟩:Qis (x.natAbs+y.natAbs) 549755813888 (f 10) w1 NoA:=hF.2;have hv:=hv.wsl;clear hF;simp only[Act.put,nrA,nrB,nrC];generalize f 10=v9 at *
   have h1':Below w.heap.size w w1:=br.drew.trans h1;have his:=Qjm m o C T neg l v9 w1 (x+sgn neg y.natAbs) ((h1.block m hmlt).trans hm) ho hC ol hv (by omega) (by rw[hl,hz.out,Qck]) (by rw[hl,hz.out,Qlp]);have HI:=hid his;clear his hm hC c0 c1 d0 d1
   go_wp2_with (go_at_call 229;refine HI.out.mono ?_;rintro e w' ⟨rfl,hp⟩)
   go_ret
   exact⟨rfl,hp.below h1'⟩
def Kyf(m o:Nat)(C:Array Value)(T:TypeId)(x y:Int)(neg:Bool)(hneg:decide (x<0)=!neg)(hle:y.natAbs<=x.natAbs)(vx vy:Value)(A:Nat->Prop)(w:World)(hm:w.heap[m]?=some (.cells C T (0,0)))(ho:o+1<C.size)(hC:NoW (.cells C T (0,0)))(hx:Qce x vx w A)(hy:Qce y vy w A)(hnx:(Qad x.natAbs).length<274877906944) :
  Calls prog 231 #[.pointer (some ⟨m,o,none⟩),vx,vy,.bool neg] w fun e w'=>e=.returned (.pointer (some ⟨m,o,none⟩))/\Put m o C T (x+sgn neg y.natAbs) w w':=by
 obtain⟨b,bo,sl,rfl,hb,_,c0,c1,hsl⟩:=hx;obtain⟨b2,bo2,sl2,rfl,hb2,_,d0,d1,hsl2⟩:=hy;have hw:=hsl.wsl;have hw2:=hsl2.wsl;have hmlt:m<w.heap.size:=(Array.getElem?_eq_some_iff.1 hm).1;have hz:Hid (x+sgn neg y.natAbs=sgn (!neg) (x.natAbs-y.natAbs)):=hid (by
  unfold sgn;cases neg<;>simp at hneg<;>simp<;>omega)
 have hll2:(Qad y.natAbs).length<=(Qad x.natAbs).length:=by
  rcases Nat.lt_or_ge (Qad x.natAbs).length (Qad y.natAbs).length with h|h
  .have:=Qed h;omega
  .exact h
 rw[hneg] at c0;have hnn:((!neg)==neg)=false:=by cases neg<;>rfl
 have hcz:(Qgh x.natAbs y.natAbs)>=0:=by have:=Qvr hle;omega
 have HX:=hid (And.intro hneg (And.intro hle hll2));obtain⟨cz,hcze⟩:∃ cz,cz=Qgh x.natAbs y.natAbs:=⟨_,rfl⟩
 rw[<-hcze] at hcz;have HU:=fun(w:World) h1 h2=>Qig x.natAbs y.natAbs sl sl2 w h1 h2 (by omega)
 rw[<-hcze] at HU;clear hneg hle hcze hll2
 go_enter func231,Tryz.ntmps231
 go_wp2_with fail
 refine Qat [(.lit,[]),(.lit,[]),(.lit,[]),(.lit,[]),(.lit,[]),(.lit,[]),(.lit,[]),(.lit,[]),(.val,[])]
  (Qfv [(8,fun v _ _=>v=.int .i64 cz)]) (by kernel_rfl) ?_ ?_ (by simp) (by simp) (by kernel_rfl)
 .exact Qbc (by simp[Qjn])
 .repeat (refine⟨_,fun f w1 h1=>by(have e2:=ct h1 hb c1;have e4:=ct h1 hb2 d1;go_simp;rfl),?_⟩)
  simp only[Act.put,nrA,nrB,nrC,Nat.reduceAdd];refine⟨fun f w1 A1 h1 hA hN hd K hK=>?_,?_⟩
  .go_simp
   refine(HU _ (hw.below h1) (hw2.below h1)).mono ?_;rintro e w' ⟨rfl,d,rfl⟩;exact hK _ _ (Qbv br d) rfl
  .intro f w1 h1 hF;have hv:f 8=.int .i64 cz:=hF.2;clear hF;simp only[Act.put,nrA,nrB,nrC,hv];clear hv;have h1':Below w.heap.size w w1:=br.drew.trans h1;have c0':=ct h1 hb c0;have c1':=ct h1 hb c1;have d1':=ct h1 hb2 d1;have hw':=hw.below h1;have hw2':=hw2.below h1;have hb':b<w1.heap.size:=Nat.lt_of_lt_of_le hb h1'.size;have hb2':b2<w1.heap.size:=Nat.lt_of_lt_of_le hb2 h1'.size;have hm':=(h1.block m hmlt).trans hm;have HS:=hid (And.intro h1' (And.intro hm' hC));clear h1 h1' c0 c1 d0 d1 hw hw2 hb hb2 hm hm' hC
   go_wp2_with fail
   refine Qat [(.lit,[]),(.lit,[]),(.lit,[]),(.lit,[]),(.lit,[]),(.lit,[]),(.lit,[]),(.lit,[]),(.lit,[]),(.lit,[]),(.lit,[]),(.lit,[]),(.lit,[]),(.val,[])]
    (Qfv [(13,Qis (x.natAbs-y.natAbs) 549755813888)]) (by kernel_rfl) ?_ ?_ (by simp) (by simp) (by kernel_rfl)
   .exact Qbc (by simp[Qis.keeps])
   .repeat (refine⟨_,fun f w1 h1=>by(have e1:=ct h1 hb' c0';have e2:=ct h1 hb' c1';have e4:=ct h1 hb2' d1';go_simp;rfl),?_⟩)
    simp only[Act.put,nrA,nrB,nrC,Nat.reduceAdd];refine⟨fun f w1 A1 h1 hA hN hd K hK=>?_,?_⟩
    .go_simp
     refine(Kje _ _ _ _ _ (Qas x.natAbs) (Qas y.natAbs) (by rw[Qaq,Qaq];exact HX.out.2.1) HX.out.2.2 (hw'.below h1) (hw2'.below h1) (by omega)).mono ?_;rintro e w' ⟨out,h2,h3,h4,rfl,h5,h6⟩;rw[Qaq,Qaq] at h4;exact hK _ w' h6 ⟨out,h3,h4,by omega,h5.all.avoids (hA.below h6)⟩
    .intro f w2 h2 hF;obtain⟨l,ol,hl,hll,hv⟩:Qis (x.natAbs-y.natAbs) 549755813888 (f 13) w2 NoA:=hF.2;have hv:=hv.wsl;clear hF;simp only[Act.put,nrA,nrB,nrC];generalize f 13=v9 at *
     have h2':Below w1.heap.size w1 w2:=br.drew.trans h2;have his:=Qjm m o C T (!neg) l v9 w2 (x+sgn neg y.natAbs) ((h2'.block m (Nat.lt_of_lt_of_le hmlt HS.out.1.size)).trans HS.out.2.1) ho HS.out.2.2 ol hv (by omega) (by rw[hl,hz.out,Qck]) (by rw[hl,hz.out,Qlp]);have HI:=hid his;clear his c0' c1' d1'
     go_wp2_with (go_at_call 229;refine HI.out.mono ?_;rintro e w' ⟨rfl,hp⟩)
     go_ret
     exact⟨rfl,hp.below (HS.out.1.trans (h2'.mono HS.out.1.size))⟩
def Kqt(m o:Nat)(C:Array Value)(T:TypeId)(x y:Int)(neg:Bool)(hneg:decide (x<0)=!neg)(hle:x.natAbs<y.natAbs)(vx vy:Value)(A:Nat->Prop)(w:World)(hm:w.heap[m]?=some (.cells C T (0,0)))(ho:o+1<C.size)(hC:NoW (.cells C T (0,0)))(hx:Qce x vx w A)(hy:Qce y vy w A)(hnx:(Qad x.natAbs).length<274877906944)(hny:(Qad y.natAbs).length<274877906944) :
  Calls prog 231 #[.pointer (some ⟨m,o,none⟩),vx,vy,.bool neg] w fun e w'=>e=.returned (.pointer (some ⟨m,o,none⟩))/\Put m o C T (x+sgn neg y.natAbs) w w':=by
 obtain⟨b,bo,sl,rfl,hb,_,c0,c1,hsl⟩:=hx;obtain⟨b2,bo2,sl2,rfl,hb2,_,d0,d1,hsl2⟩:=hy;have hw:=hsl.wsl;have hw2:=hsl2.wsl;have hmlt:m<w.heap.size:=(Array.getElem?_eq_some_iff.1 hm).1;have hz:Hid (x+sgn neg y.natAbs=sgn neg (y.natAbs-x.natAbs)):=hid (by
  unfold sgn;cases neg<;>simp at hneg<;>simp<;>omega)
 have hll2:(Qad x.natAbs).length<=(Qad y.natAbs).length:=by
  rcases Nat.lt_or_ge (Qad y.natAbs).length (Qad x.natAbs).length with h|h
  .have:=Qed h;omega
  .exact h
 rw[hneg] at c0;have hnn:((!neg)==neg)=false:=by cases neg<;>rfl
 have hcz:(Qgh x.natAbs y.natAbs)<0:=Kir hle;have HX:=hid (And.intro hneg (And.intro hle hll2));obtain⟨cz,hcze⟩:∃ cz,cz=Qgh x.natAbs y.natAbs:=⟨_,rfl⟩
 rw[<-hcze] at hcz;have HU:=fun(w:World) h1 h2=>Qig x.natAbs y.natAbs sl sl2 w h1 h2 (by omega)
 rw[<-hcze] at HU;clear hneg hle hcze hll2
 go_enter func231,Tryz.ntmps231
 go_wp2_with fail
 refine Qat [(.lit,[]),(.lit,[]),(.lit,[]),(.lit,[]),(.lit,[]),(.lit,[]),(.lit,[]),(.lit,[]),(.val,[])]
  (Qfv [(8,fun v _ _=>v=.int .i64 cz)]) (by kernel_rfl) ?_ ?_ (by simp) (by simp) (by kernel_rfl)
 .exact Qbc (by simp[Qjn])
 .repeat (refine⟨_,fun f w1 h1=>by(have e2:=ct h1 hb c1;have e4:=ct h1 hb2 d1;go_simp;rfl),?_⟩)
  simp only[Act.put,nrA,nrB,nrC,Nat.reduceAdd];refine⟨fun f w1 A1 h1 hA hN hd K hK=>?_,?_⟩
  .go_simp
   refine(HU _ (hw.below h1) (hw2.below h1)).mono ?_;rintro e w' ⟨rfl,d,rfl⟩;exact hK _ _ (Qbv br d) rfl
  .intro f w1 h1 hF;have hv:f 8=.int .i64 cz:=hF.2;clear hF;simp only[Act.put,nrA,nrB,nrC,hv];clear hv;have h1':Below w.heap.size w w1:=br.drew.trans h1;have c0':=ct h1 hb c0;have c1':=ct h1 hb c1;have d1':=ct h1 hb2 d1;have hw':=hw.below h1;have hw2':=hw2.below h1;have hb':b<w1.heap.size:=Nat.lt_of_lt_of_le hb h1'.size;have hb2':b2<w1.heap.size:=Nat.lt_of_lt_of_le hb2 h1'.size;have hm':=(h1.block m hmlt).trans hm;have HS:=hid (And.intro h1' (And.intro hm' hC));clear h1 h1' c0 c1 d0 d1 hw hw2 hb hb2 hm hm' hC
   go_wp2_with fail
   refine Qat [(.lit,[]),(.lit,[]),(.lit,[]),(.lit,[]),(.lit,[]),(.lit,[]),(.lit,[]),(.lit,[]),(.lit,[]),(.lit,[]),(.val,[])]
    (Qfv [(10,Qis (y.natAbs-x.natAbs) 549755813888)]) (by kernel_rfl) ?_ ?_ (by simp) (by simp) (by kernel_rfl)
   .exact Qbc (by simp[Qis.keeps])
   .repeat (refine⟨_,fun f w1 h1=>by(have e2:=ct h1 hb' c1';have e4:=ct h1 hb2' d1';go_simp;rfl),?_⟩)
    simp only[Act.put,nrA,nrB,nrC,Nat.reduceAdd];refine⟨fun f w1 A1 h1 hA hN hd K hK=>?_,?_⟩
    .go_simp
     refine(Kje _ _ _ _ _ (Qas y.natAbs) (Qas x.natAbs) (by rw[Qaq,Qaq];exact Nat.le_of_lt HX.out.2.1) HX.out.2.2 (hw2'.below h1) (hw'.below h1) (by omega)).mono ?_;rintro e w' ⟨out,h2,h3,h4,rfl,h5,h6⟩;rw[Qaq,Qaq] at h4;exact hK _ w' h6 ⟨out,h3,h4,by omega,h5.all.avoids (hA.below h6)⟩
    .intro f w2 h2 hF;obtain⟨l,ol,hl,hll,hv⟩:Qis (y.natAbs-x.natAbs) 549755813888 (f 10) w2 NoA:=hF.2;have hv:=hv.wsl;clear hF;simp only[Act.put,nrA,nrB,nrC];generalize f 10=v9 at *
     have h2':Below w1.heap.size w1 w2:=br.drew.trans h2;have his:=Qjm m o C T neg l v9 w2 (x+sgn neg y.natAbs) ((h2'.block m (Nat.lt_of_lt_of_le hmlt HS.out.1.size)).trans HS.out.2.1) ho HS.out.2.2 ol hv (by omega) (by rw[hl,hz.out,Qck]) (by rw[hl,hz.out,Qlp]);have HI:=hid his;clear his c0' c1' d1'
     go_wp2_with (go_at_call 229;refine HI.out.mono ?_;rintro e w' ⟨rfl,hp⟩)
     go_ret
     exact⟨rfl,hp.below (HS.out.1.trans (h2'.mono HS.out.1.size))⟩
def Kqs(m o:Nat)(C:Array Value)(T:TypeId)(x y:Int)(neg:Bool)(vx vy:Value)(A:Nat->Prop)(w:World)(hm:w.heap[m]?=some (.cells C T (0,0)))(ho:o+1<C.size)(hC:NoW (.cells C T (0,0)))(hx:Qce x vx w A)(hy:Qce y vy w A)(hnx:(Qad x.natAbs).length<274877906944)(hny:(Qad y.natAbs).length<274877906944) :
  Calls prog 231 #[.pointer (some ⟨m,o,none⟩),vx,vy,.bool neg] w fun e w'=>e=.returned (.pointer (some ⟨m,o,none⟩))/\Put m o C T (x+sgn neg y.natAbs) w w':=by
 by_cases h:decide (x<0)=neg
 .exact Kye m o C T x y neg h vx vy A w hm ho hC hx hy hnx hny
 .have h':decide (x<0)=!neg:=by cases neg<;>cases hd:decide (x<0)<;>simp[hd] at h ⊢
  rcases Nat.lt_or_ge x.natAbs y.natAbs with h2|h2
  .exact Kqt m o C T x y neg h' h2 vx vy A w hm ho hC hx hy hnx hny
  .exact Kyf m o C T x y neg h' h2 vx vy A w hm ho hC hx hy hnx
def Kqk(m o:Nat)(C:Array Value)(T:TypeId)(x y:Int)(vx vy:Value)(A:Nat->Prop)(w:World)(hm:w.heap[m]?=some (.cells C T (0,0)))(ho:o+1<C.size)(hC:NoW (.cells C T (0,0)))(hx:Qce x vx w A)(hy:Qce y vy w A)(hnx:(Qad x.natAbs).length<274877906944)(hny:(Qad y.natAbs).length<274877906944) :
  Calls prog 193 #[.pointer (some ⟨m,o,none⟩),vx,vy] w fun e w'=>e=.returned (.pointer (some ⟨m,o,none⟩))/\Put m o C T (x+y) w w':=by
 have hc:=Kqs m o C T x y (decide (y<0)) vx vy A w hm ho hC hx hy hnx hny;rw[Qrx] at hc;have HC:=hid hc;obtain⟨b2,bo2,sl2,rfl,hb2,_,d0,d1,hsl2⟩:=hy;clear hc hm hC
 go_enter func193,Tryz.ntmps193
 go_wp2_with (go_at_call 231;refine HC.out.mono ?_;rintro e w' ⟨rfl,hp⟩)
 go_ret
 exact⟨rfl,hp⟩
def Uhi(y:Int):sgn (!decide (y<0)) y.natAbs=-y:=by
 unfold sgn
 by_cases h:y<0
 .simp[h];omega
 .simp[h];omega
def Uey(m o:Nat)(C:Array Value)(T:TypeId)(x y:Int)(vx vy:Value)(A:Nat->Prop)(w:World)(hm:w.heap[m]?=some (.cells C T (0,0)))(ho:o+1<C.size)(hC:NoW (.cells C T (0,0)))(hx:Qce x vx w A)(hy:Qce y vy w A)(hnx:(Qad x.natAbs).length<274877906944)(hny:(Qad y.natAbs).length<274877906944) :
  Calls prog 206 #[.pointer (some ⟨m,o,none⟩),vx,vy] w fun e w'=>e=.returned (.pointer (some ⟨m,o,none⟩))/\Put m o C T (x-y) w w':=by
 have hc:=Kqs m o C T x y (!decide (y<0)) vx vy A w hm ho hC hx hy hnx hny;rw[Uhi,<-Int.sub_eq_add_neg] at hc;have HC:=hid hc;obtain⟨b2,bo2,sl2,rfl,hb2,_,d0,d1,hsl2⟩:=hy;clear hc hm hC
 go_enter func206,Tryz.ntmps206
 go_wp2_with (go_at_call 231;refine HC.out.mono ?_;rintro e w' ⟨rfl,hp⟩)
 go_ret
 exact⟨rfl,hp⟩
def Put.cells{m o:Nat}{C:Array Value}{T:TypeId}{z:Int}{w w':World}(h:Put m o C T z w w')(ho:o+1<C.size):∃ sl,w'.cell? ⟨m,o,none⟩=some (.bool (decide (z<0)))/\w'.cell? ⟨m,o+1,none⟩=some sl/\WSl w' sl (Qad z.natAbs)/\w'.heap[m]?=some (.cells ((C.setIfInBounds (o+1) sl).setIfInBounds o (.bool (decide (z<0)))) T (0,0))/\(∀ i,w'.frozen? ⟨m,i,none⟩=false):=by
 obtain⟨_,sl,h2,h3⟩:=h;refine⟨sl,?_,?_,h3,h2,fun i=>by simp[World.frozen?,h2]⟩
 .have hlt:o<C.size:=Nat.lt_of_succ_lt ho;simp[World.cell?,h2,hlt]
 .simp only[World.cell?,h2];simp[ho]
def Qtk{m o:Nat}{C:Array Value}{T:TypeId}{z z':Int}{w w1:World}(h:Put m o C T z w w1)(hz:z'.natAbs=z.natAbs)(hC:NoW (.cells C T (0,0))):Put m o C T z' w (w1.setCell ⟨m,o,none⟩ (.bool (decide (z'<0)))):=by
 obtain⟨h1,sl,h2,h3⟩:=h;have hsl:∃ p n c,sl=.slice p n c:=by obtain⟨p,c,e,_⟩:=h3;exact⟨_,_,_,e⟩
 obtain⟨p,n,c,rfl⟩:=hsl;have hn:NoW (.cells ((C.setIfInBounds (o+1) (.slice p n c)).setIfInBounds o (.bool (decide (z<0)))) T (0,0)):=by
  intro cs T' fr e i k x hx;cases e;rw[Array.getElem?_setIfInBounds] at hx
  split at hx
  .split at hx<;>simp at hx
  .rw[Array.getElem?_setIfInBounds] at hx
   split at hx
   .split at hx<;>simp at hx
   .exact hC C T (0,0) rfl i k x hx
 refine⟨h1.setCell _ _,.slice p n c,?_,?_⟩
 .simp only[World.setCell,Array.getElem?_modify,if_true,h2,Option.map_some];simp[Array.setIfInBounds_setIfInBounds]
 .rw[hz];exact WSl.mod h3 ((Mod.refl m w1).setCell o _) h2 hn
def Qxp(m o:Nat)(C:Array Value)(T:TypeId)(x:Int)(vx:Value)(A:Nat->Prop)(w:World)(hm:w.heap[m]?=some (.cells C T (0,0)))(ho:o+1<C.size)(hC:NoW (.cells C T (0,0)))(hx:Qce x vx w A)(hnx:(Qad x.natAbs).length<274877906944) :
  Calls prog 195 #[.pointer (some ⟨m,o,none⟩),vx] w fun e w'=>e=.returned (.pointer (some ⟨m,o,none⟩))/\Put m o C T (-x) w w':=by
 have hc:=Qnf m o C T x vx A w hm ho hC hx hnx;obtain⟨b2,bo2,sl2,rfl,hb2,_,d0,d1,hsl2⟩:=hx;have HC:=hid hc;have HN:=hid hC;clear hc hm hC d0 d1
 by_cases hz:x=0
 .subst hz
  go_enter func195,Tryz.ntmps195
  go_wp2_with (go_at_call 216;refine HC.out.mono ?_;rintro e w' ⟨rfl,hp⟩;obtain⟨sl,e1,e2,e3,e4,e5⟩:=hp.cells ho;obtain⟨p,cap,rfl,_,_⟩:=e3;have e6:=e5 o;clear e5 e4;rw[show(0:Int).natAbs=0 from rfl,Qax] at e2)
  go_ret
  refine⟨rfl,?_⟩;have:=Qtk (z':=-0) hp rfl HN.out;simpa using this
 .have hpos:0<(Qad x.natAbs).length:=List.length_pos_iff.2 (fun h=>hz (by have:=Qcd.1 h;omega));have hs:decide (-x<0)=!decide (x<0):=by by_cases h:x<0<;>simp[h]<;>omega
  have HS:=hid hs;clear hs hz
  by_cases hx0:x<0
  .have e0:decide (x<0)=true:=by simpa using hx0
   rw[e0] at HS
   go_enter func195,Tryz.ntmps195
   go_wp2_with (go_at_call 216;refine HC.out.mono ?_;rintro e w' ⟨rfl,hp⟩;obtain⟨sl,e1,e2,e3,e4,e5⟩:=hp.cells ho;obtain⟨p,cap,rfl,_,_⟩:=e3;have e6:=e5 o;clear e5 e4;rw[e0] at e1)
   go_ret
   refine⟨rfl,?_⟩;have:=Qtk (z':=-x) hp (Int.natAbs_neg x) HN.out;rw[HS.out] at this;exact this
  .have e0:decide (x<0)=false:=by simpa using hx0
   rw[e0] at HS
   go_enter func195,Tryz.ntmps195
   go_wp2_with (go_at_call 216;refine HC.out.mono ?_;rintro e w' ⟨rfl,hp⟩;obtain⟨sl,e1,e2,e3,e4,e5⟩:=hp.cells ho;obtain⟨p,cap,rfl,_,_⟩:=e3;have e6:=e5 o;clear e5 e4;rw[e0] at e1)
   go_ret
   refine⟨rfl,?_⟩;have:=Qtk (z':=-x) hp (Int.natAbs_neg x) HN.out;rw[HS.out] at this;exact this
def Qxt(x:Int)(vx:Value)(A:Nat->Prop)(w:World)(hx:Qce x vx w A) :
  Calls prog 108 #[vx] w fun e w'=>e=.returned (.int .i64 x.sign)/\w=w':=by
 obtain⟨b,bo,sl,rfl,hb,_,c0,c1,hsl⟩:=hx;obtain⟨p,cap,rfl,_,_⟩:=hsl;rcases Int.lt_trichotomy x 0 with h|h|h
 .have e0:decide (x<0)=true:=by simpa using h
  have hl:(((Qad x.natAbs).length:Int)==0)=false:=by
   have:=List.length_pos_iff.2 (fun h0=>by have:=Qcd.1 h0;omega:Qad x.natAbs≠[]);simp;intro h0;rw[h0] at this;simp at this
  have hs:x.sign=-1:=Int.sign_eq_neg_one_of_neg h;have HS:=hid hs;rw[e0] at c0;clear hs
  go_enter func108,Tryz.ntmps108
  go_wp2
  go_ret
  exact⟨Qfw HS.out.symm,rfl⟩
 .subst h;rw[show(0:Int).natAbs=0 from rfl,Qax] at c1
  go_enter func108,Tryz.ntmps108
  go_wp2
  go_ret
  exact⟨rfl,rfl⟩
 .have e0:decide (x<0)=false:=by simp;omega
  have hl:(((Qad x.natAbs).length:Int)==0)=false:=by
   have:=List.length_pos_iff.2 (fun h0=>by have:=Qcd.1 h0;omega:Qad x.natAbs≠[]);simp;intro h0;rw[h0] at this;simp at this
  have hs:x.sign=1:=Int.sign_eq_one_of_pos h;have HS:=hid hs;rw[e0] at c0;clear hs
  go_enter func108,Tryz.ntmps108
  go_wp2
  go_ret
  exact⟨Qfw HS.out.symm,rfl⟩
