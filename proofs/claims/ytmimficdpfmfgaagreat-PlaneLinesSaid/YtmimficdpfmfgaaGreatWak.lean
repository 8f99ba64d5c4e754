/- Laws. -/
import Derived.Test.YtmimficdpfmfgaaGreatWaj
import Derived.Lib.ConvBytes
import Derived.Lib.SlBytesRow
set_option linter.all false
set_option maxHeartbeats 4000000
set_option maxRecDepth 100000
open Go.Lib (hid)
namespace Go.Proofs.YtmimficdpfmfgaaGreat
open Go.RowKit Tr Proofs.Tryz
def Ubk(x y:Int):x.tdiv y=sgn (decide (x<0) != decide (y<0)) (x.natAbs/y.natAbs):=by
 have hx:=Int.natAbs_eq x;have hy:=Int.natAbs_eq y
 by_cases h1:x<0<;>by_cases h2:y<0
 .have e1:x=-(x.natAbs:Int):=by omega
  have e2:y=-(y.natAbs:Int):=by omega
  rw[show(decide (x<0) != decide (y<0))=false by simp[h1,h2]]
  conv=>lhs;rw[e1,e2,Int.neg_tdiv_neg]
  simp[sgn]
 .have e1:x=-(x.natAbs:Int):=by omega
  have e2:y=(y.natAbs:Int):=by omega
  rw[show(decide (x<0) != decide (y<0))=true by simp[h1,h2]]
  conv=>lhs;rw[e1,e2,Int.neg_tdiv]
  simp[sgn]
 .have e1:x=(x.natAbs:Int):=by omega
  have e2:y=-(y.natAbs:Int):=by omega
  rw[show(decide (x<0) != decide (y<0))=true by simp[h1,h2]]
  conv=>lhs;rw[e1,e2,Int.tdiv_neg]
  simp[sgn]
 .have e1:x=(x.natAbs:Int):=by omega
  have e2:y=(y.natAbs:Int):=by omega
  rw[show(decide (x<0) != decide (y<0))=false by simp[h1,h2]]
  conv=>lhs;rw[e1,e2]
  simp[sgn]
def Ubl(x y:Int):x.tmod y=sgn (decide (x<0)) (x.natAbs%y.natAbs):=by
 have hy:x.tmod y=x.tmod (y.natAbs:Int):=by
  by_cases h:y<0
  .have e:(y.natAbs:Int)=-y:=by omega
   rw[e,Int.tmod_neg]
  .have e:(y.natAbs:Int)=y:=by omega
   rw[e]
 rw[hy]
 by_cases h1:x<0
 .have e1:x=-(x.natAbs:Int):=by omega
  rw[show decide (x<0)=true by simp[h1]]
  conv=>lhs;rw[e1,Int.neg_tmod]
  simp[sgn];rfl
 .have e1:x=(x.natAbs:Int):=by omega
  rw[show decide (x<0)=false by simp[h1]]
  conv=>lhs;rw[e1]
  simp[sgn];rfl
def Qhm{ops:Array Oper}{rest:List Oper}{o:Oper}{a:Act}{w:World}{Q:Exit->Act->World->Prop}(hgd:o.guard=none)(s x:Operand)
  (ho:o.op=.call { callee:=.builtin .append,args:=#[s,x],argTypes:=#[228,228] }) (hty:o.type=228) (v:Value) (l:List Nat) (hs:a.eval s=.slice none 0 0) (hx:a.eval x=v) (h:WSl w v l) (hn:l.length<1099511627776)
  (hK:∀ v' w',WSl w' v' l->Below w.heap.size w w'->wpList prog ops Q rest (a.put o.dst v') w'):wpList prog ops Q (o::rest) a w :=
 wpList_plain hgd fun _ hK'=>Qko s x ho hty v l hs hx h hn fun v' w' h1 h2=>hK' _ _ (hK v' w' h1 h2)
def Qzy(x y:Nat):Qcq:=fun v w A=>∃ v1 v2,v=.tuple #[v1,v2]/\Qjo A w v1 (Qac x)/\Qjo A w v2 (Qac y)
def Qzy.keeps(x y:Nat):(Qzy x y).Keeps:=by
 intro v w w' A A' hs hk ⟨v1,v2,h1,h2,h3⟩;exact⟨v1,v2,h1,h2.keep hs hk,h3.keep hs hk⟩
def Kkq(m o:Nat)(C:Array Value)(T:TypeId)(m2 o2:Nat)(C2:Array Value)(T2:TypeId)(hmm:m≠m2)(x y:Int)(hy0:y≠0)(vx vy:Value)(A:Nat->Prop)(w:World)(hm:w.heap[m]?=some (.cells C T (0,0)))(ho:o+1<C.size)(hC:NoW (.cells C T (0,0)))
  (hm2:w.heap[m2]?=some (.cells C2 T2 (0,0))) (ho2:o2+1<C2.size) (hC2:NoW (.cells C2 T2 (0,0))) (hx:Qce x vx w A) (hy:Qce y vy w A) (hnx:(Qac x.natAbs).length<274877906944) :
  Calls prog 286 #[.pointer (some ⟨m,o,none⟩),vx,vy,.pointer (some ⟨m2,o2,none⟩)] w fun e w'=>e=.returned (.tuple #[.pointer (some ⟨m,o,none⟩),.pointer (some ⟨m2,o2,none⟩)])/\∃ w2,Put m2 o2 C2 T2 (x.tmod y) w w2/\Put m o C T (x.tdiv y) w2 w':=by
 obtain⟨b,bo,sl,rfl,hb,_,c0,c1,hsl⟩:=hx;obtain⟨b2,bo2,sl2,rfl,hb2,_,d0,d1,hsl2⟩:=hy;have hw:=hsl.wsl;have hw2:=hsl2.wsl;have hmlt:m<w.heap.size:=(axa.1 hm).1;have hmlt2:m2<w.heap.size:=(axa.1 hm2).1;have hq0:x.natAbs/y.natAbs<=x.natAbs:=Nat.div_le_self _ _;have hq1:x.natAbs%y.natAbs<=x.natAbs:=Nat.mod_le _ _;have hlq:(Qac (x.natAbs/y.natAbs)).length<274877906944:=axd (Qal (axd hq0 (Qbr _))) hnx;have hlr:(Qac (x.natAbs%y.natAbs)).length<274877906944:=axd (Qal (axd hq1 (Qbr _))) hnx;have hyp:0<y.natAbs:=by omega
 have HD:=fun(w:World) h1 h2=>Qvi x.natAbs y.natAbs sl sl2 w h1 h2 hyp hnx
 obtain⟨qa,hqa⟩:∃ qa,qa=x.natAbs/y.natAbs:=⟨_,rfl⟩
 obtain⟨ra,hra⟩:∃ ra,ra=x.natAbs%y.natAbs:=⟨_,rfl⟩
 rw[<-hqa] at HD hlq;rw[<-hra] at HD hlr;obtain⟨xn,hxn⟩:∃ xn,xn=decide (x<0):=⟨_,rfl⟩
 obtain⟨yn,hyn⟩:∃ yn,yn=decide (y<0):=⟨_,rfl⟩
 rw[<-hxn] at c0;rw[<-hyn] at d0;have hT:Hid (x.tdiv y=sgn (xn != yn) qa/\x.tmod y=sgn xn ra):=hid ⟨by rw[Ubk,hxn,hyn,hqa],by rw[Ubl,hxn,hra]⟩;rw[hT.out.1,hT.out.2];clear hT hqa hra hxn hyn hq0 hq1 hyp hnx;have HM:=hid (And.intro hm (And.intro hm2 (And.intro hC hC2)));clear hm hm2 hC hC2
 go_enter func286,Tryz.ntmps286
 go_wp2_with fail
 refine Qav [(.lit,[]),(.lit,[]),(.lit,[]),(.lit,[]),(.lit,[]),(.lit,[]),(.lit,[]),(.lit,[]),(.val,[]),(.val,[8]),(.val,[9]),(.val,[9]),(.val,[10]),(.val,[11])]
  (Qfj [(8,Qzy qa ra),(9,Qzy qa ra),(10,fun v w A=>Qjo A w v (Qac qa)),(11,fun v w A=>Qjo A w v (Qac ra)),(12,fun v w A=>Qjo A w v (Qac qa)),(13,fun v w A=>Qjo A w v (Qac ra))]) kR ?_ ?_ (by simp) (by simp) kR
 .exact Qbh (by simp[Qzy.keeps,Qol])
 .repeat (refine⟨_,fun f w1 h1=>by(have e2:=ct h1 hb c1;have e4:=ct h1 hb2 d1;go_simp;rfl),?_⟩)
  simp only[Act.put,nrA,nrB,nrC,Nat.reduceAdd];refine⟨fun f w1 A1 h1 hA hN hd K hK=>?_,?_⟩
  .go_simp
   refine(HD _ (hw.below h1) (hw2.below h1)).mono ?_;rintro e w' ⟨v1,v2,rfl,k1,k2,k3⟩;exact hK _ _ k3 ⟨v1,v2,rfl,k1.avoids (hA.below k3),k2.avoids (hA.below k3)⟩
  simp only[Act.put,nrA,nrB,nrC,Nat.reduceAdd];refine⟨fun f w1 A1 h1 hA hN hd K hK=>by
   have h8:Qzy qa ra (f 8) w1 A1:=hd 8 (by simp)
   go_simp
   exact hK _ _ br h8,?_⟩
  simp only[Act.put,nrA,nrB,nrC,Nat.reduceAdd];refine⟨fun f w1 A1 h1 hA hN hd K hK=>by
   obtain⟨v1,v2,e,k1,k2⟩:Qzy qa ra (f 9) w1 A1:=hd 9 (by simp);simp only[e] at hK ⊢
   go_simp
   exact hK _ _ br k1,?_⟩
  simp only[Act.put,nrA,nrB,nrC,Nat.reduceAdd];refine⟨fun f w1 A1 h1 hA hN hd K hK=>by
   obtain⟨v1,v2,e,k1,k2⟩:Qzy qa ra (f 9) w1 A1:=hd 9 (by simp);simp only[e] at hK ⊢
   go_simp
   exact hK _ _ br k2,?_⟩
  simp only[Act.put,nrA,nrB,nrC,Nat.reduceAdd];refine⟨fun f w1 A1 h1 hA hN hd K hK=>by
   have h8:Qjo A1 w1 (f 10) (Qac qa):=hd 10 (by simp)
   go_simp
   exact hK _ _ br h8,?_⟩
  simp only[Act.put,nrA,nrB,nrC,Nat.reduceAdd];refine⟨fun f w1 A1 h1 hA hN hd K hK=>by
   have h8:Qjo A1 w1 (f 11) (Qac ra):=hd 11 (by simp)
   go_simp
   exact hK _ _ br h8,?_⟩
  .intro f w1 h1 hF;have k1:Qjo NoA w1 (f 12) (Qac qa):=hF.1.2;have k2:Qjo NoA w1 (f 13) (Qac ra):=hF.2;have k1:=k1.wsl;have k2:=k2.wsl;clear hF;simp only[Act.put,nrA,nrB,nrC];generalize f 12=v1 at *
   generalize f 13=v2 at *
   generalize f 8=u8;generalize f 9=u9;generalize f 10=u10;generalize f 11=u11;clear c1 d1 hw hw2;have h1':Below w.heap.size w w1:=br.drew.trans h1;have c0:=ct h1 hb c0;have d0:=ct h1 hb2 d0
   go_wp2_with fail
   go_quiet (fail)
   obtain⟨w2,hw2⟩:∃ w2,w2=w1.drewN nq:=⟨_,rfl⟩
   have h2':Below w.heap.size w w2:=by rw[hw2];exact Qbs h1' nq
   have k1':WSl w2 v1 (Qac qa):=by rw[hw2];exact k1.drewN nq
   have k2':WSl w2 v2 (Qac ra):=by rw[hw2];exact k2.drewN nq
   rw[<-hw2];clear hw2 k1 k2 c0 d0 h1 h1'
   go_wp2_with ((refine Qhm rfl _ _ rfl rfl v2 _ rfl rfl k2' (by omega) ?_;intro v3 w3 k3 h3))
   refine(Qir m2 o2 C2 T2 xn (Qac ra) v3 w3 (sgn xn ra) ((h3.block m2 (by have:=h2'.size;omega)).trans ((h2'.block m2 hmlt2).trans HM.out.2.1)) ho2 HM.out.2.2.2 (Qap _) k3 (by omega) (by rw[Qdi,Qaq]) (by rw[Qkm,Qaq])).mono ?_;rintro e w4 ⟨rfl,hp⟩
   go_wp2_with fail
   refine(Qir m o C T (xn != yn) (Qac qa) v1 w4 (sgn (xn != yn) qa) ((hp.1.block m (by have:=h2'.size;have:=h3.size;omega) hmm).trans ((h3.block m (by have:=h2'.size;omega)).trans ((h2'.block m hmlt).trans HM.out.1))) ho HM.out.2.2.1 (Qap _) ((k1'.below h3).mod hp.1 ((h3.block m2 (by have:=h2'.size;omega)).trans ((h2'.block m2 hmlt2).trans HM.out.2.1)) HM.out.2.2.2) (by omega) (by rw[Qdi,Qaq]) (by rw[Qkm,Qaq])).mono ?_;rintro e w5 ⟨rfl,hp5⟩
   go_wp2_with fail
   go_ret2
   exact⟨rfl,w4,hp.below (h2'.trans (h3.mono h2'.size)),hp5⟩
def Qrq(m o:Nat)(C:Array Value)(T:TypeId)(x y:Int)(hy0:y≠0)(vx vy:Value)(A:Nat->Prop)(w:World)(hm:w.heap[m]?=some (.cells C T (0,0)))(ho:o+1<C.size)(hC:NoW (.cells C T (0,0)))(hx:Qce x vx w A)(hy:Qce y vy w A)(hnx:(Qac x.natAbs).length<274877906944) :
  Calls prog 263 #[.pointer (some ⟨m,o,none⟩),vx,vy] w fun e w'=>e=.returned (.pointer (some ⟨m,o,none⟩))/\Put m o C T (x.tdiv y) w w':=by
 have hmlt:m<w.heap.size:=(axa.1 hm).1;have hb:Below w.heap.size w (w.alloc (.cells #[.bool false,.slice none 0 0] 230)):=br.alloc lr _;have hq:=Kkq m o C T w.heap.size 0 _ _ (by omega) x y hy0 vx vy A _ ((hb.block m hmlt).trans hm) ho hC (heap_alloc_new w (.cells #[.bool false,.slice none 0 0] 230)) (by decide) Qbi (hx.below hb) (hy.below hb) hnx;have HQ:=hid hq;clear hq hm hC hx hy
 go_enter func263,Tryz.ntmps263
 go_wp2_with (go_at_call 286;refine HQ.out.mono ?_;rintro e w' ⟨rfl,w2,hp2,hp⟩)
 go_ret
 refine⟨rfl,hp.below ?_⟩;exact hb.trans (hp2.1.below lr (by simp))
def Ufg(m o:Nat)(C:Array Value)(T:TypeId)(x y:Int)(vx vy v1 v2:Value)(A:Nat->Prop)(w:World)(hm:w.heap[m]?=some (.cells C T (0,0)))(ho:o+1<C.size)(hC:NoW (.cells C T (0,0)))(hx:Qce x vx w A)(hy:Qce y vy w A)(hnx:(Qac x.natAbs).length<274877906944)(hny:(Qac y.natAbs).length<274877906944) :
  Calls prog 262 #[.pointer (some ⟨m,o,none⟩),v1,v2,vx,vy] w fun e w'=>e=.returned (.pointer (some ⟨m,o,none⟩))/\Put m o C T (Nat.gcd x.natAbs y.natAbs:Nat) w w':=by
 obtain⟨b,bo,sl,rfl,hb,_,c0,c1,hsl⟩:=hx;obtain⟨b2,bo2,sl2,rfl,hb2,_,d0,d1,hsl2⟩:=hy;have hw:=hsl.wsl;have hw2:=hsl2.wsl;have hmlt:m<w.heap.size:=(axa.1 hm).1;have HM:=hid (And.intro hm hC);clear hm hC;obtain⟨xa,hxa⟩:∃ xa,xa=x.natAbs:=⟨_,rfl⟩
 obtain⟨ya,hya⟩:∃ ya,ya=y.natAbs:=⟨_,rfl⟩
 rw[<-hxa] at hw hnx ⊢;rw[<-hya] at hw2 hny ⊢;clear hxa hya hsl hsl2
 go_enter func262,Tryz.ntmps262
 go_wp2_with fail
 go_quiet (fail)
 go_wp2_with fail
 clear c0 c1 d0 d1
 go_loopg [11,12,13,14] ya (fun g p q _ _ wr=>∃ a,WSl wr p (Qac a)/\WSl wr q (Qac g)/\Hid (Nat.gcd a g=Nat.gcd xa ya)/\Hid ((Qac a).length<274877906944)/\Hid ((Qac g).length<274877906944)/\Below w.heap.size w wr)
 case atStart=>exact⟨xa,hw.drewN _,hw2.drewN _,hid rfl,hid hnx,hid hny,Qbs br _⟩
 case round =>
  obtain⟨a,ha,hg,hgcd,hla,hlg,hB⟩:=hrel;obtain⟨p,cap,rfl,_,_⟩:=id hg
  by_cases hz:gk=0
  .have ea:a=Nat.gcd xa ya:=by rw[<-hgcd.out,hz,Nat.gcd_zero_right]
   rw[ea] at ha hla;subst hz;have HA:=hid (And.intro ha hla.out);have hle:=hid Qay;rw[show(Qac 0).length=0 by rw[Qay];rfl];clear ea hg hgcd ha hla hlg
   go_wp2_with ((refine Qhm rfl _ _ rfl rfl u11 _ rfl rfl HA.out.1 (by have:=HA.out.2;omega) ?_;intro v3 w3 k3 h3))
   refine(Qir m o C T false (Qac (Nat.gcd xa ya)) v3 w3 (Nat.gcd xa ya:Nat) ((h3.block m (by have:=hB.size;omega)).trans ((hB.block m hmlt).trans HM.out.1)) ho HM.out.2 (Qap _) k3 (by have:=HA.out.2;omega) (by rw[Qaq];rfl) (by simp)).mono ?_;rintro e w4 ⟨rfl,hp⟩
   go_wp2_with fail
   go_ret
   exact⟨rfl,hp.below (hB.trans (h3.mono hB.size))⟩
  .have hpos:0<gk:=Nat.pos_of_ne_zero hz;have hlen:0<(Qac gk).length:=List.length_pos_iff.2 (fun h=>hz (Qbz.1 h));have hD:=Qvi a gk u11 _ wr ha hg hpos hla.out;have HD:=hid hD;have hnext:Hid (Nat.gcd gk (a%gk)=Nat.gcd xa ya):=hid (by rw[<-hgcd.out,Nat.gcd_comm a gk,Nat.gcd_rec gk a,Nat.gcd_comm]);have hlt:a%gk<gk:=Nat.mod_lt _ hpos;have hl3:Hid ((Qac (a%gk)).length<274877906944):=hid (axd (Qal (Nat.lt_trans hlt (Qbr gk))) hlg.out);clear hD hz
   go_wp2_with (go_at_call 285;refine HD.out.mono ?_;rintro e w' ⟨q1,q2,rfl,hq1,hq2,hb3⟩)
   go_roundg (a%gk)
   case rel=>exact⟨gk,hg.below hb3,hq2,hnext,hlg,hl3,hB.trans (hb3.mono hB.size)⟩
   case measure=>exact hlt
end Go.Proofs.YtmimficdpfmfgaaGreat
namespace Tr
def bv:List Nat->Nat
 | []=>0
 | x::l=>x+256*bv l
def BOk(l:List Nat):Prop:=∀ x∈l,x<256
def Qds(n:Nat):List Nat:=if h:n=0 then[] else n%256::Qds (n/256)
termination_by n
decreasing_by omega
def Qdb:Qds 0=[]:=by unfold Qds;rfl
def Qdx{n:Nat}(h:n≠0):Qds n=n%256::Qds (n/256):=by rw[Qds,dif_neg h]
def Kox(n:Nat):bv (Qds n)=n:=by
 induction n using Nat.strongRecOn with
 | ind n ih =>
  by_cases h:n=0
  .subst h;rw[Qdb];rfl
  .rw[Qdx h];show n%256+256*bv (Qds (n/256))=n;rw[ih (n/256) (by omega)];omega
def Qve(n:Nat):BOk (Qds n):=by
 induction n using Nat.strongRecOn with
 | ind n ih =>
  by_cases h:n=0
  .subst h;rw[Qdb];intro x hx;cases hx
  .rw[Qdx h];intro x hx;rcases List.mem_cons.1 hx with rfl|hx
   .omega
   .exact ih (n/256) (by omega) x hx
def Kgs{x:Nat}{l:List Nat}:BOk (x::l)↔x<256/\BOk l:=by unfold BOk;simp
def Ufr{l:List Nat}(h:BOk l):bv l<256^l.length:=by
 induction l with
 | nil=>simp[bv]
 | cons x l ih =>
  obtain⟨hx,hl⟩:=Kgs.1 h;have:=ih hl;show x+256*bv l<256^(l.length+1);rw[Nat.pow_succ];omega
def Koz{l:List Nat}(h:BOk l)(hn:∀ l' x,l=l'++[x]->x≠0):Qds (bv l)=l:=by
 induction l with
 | nil=>exact Qdb
 | cons x l ih =>
  obtain⟨hx,hl⟩:=Kgs.1 h;have ih':=ih hl (fun l' y e=>hn (x::l') y (by rw[e];rfl))
  by_cases h0:bv (x::l)=0
  .exfalso;change x+256*bv l=0 at h0;have h2:bv l=0:=by omega
   rw[h2,Qdb] at ih';subst ih';exact hn [] x rfl (by omega)
  .rw[Qdx h0];have e1:bv (x::l)%256=x:=by show(x+256*bv l)%256=x;omega
   have e2:bv (x::l)/256=bv l:=by show(x+256*bv l)/256=bv l;omega
   rw[e1,e2,ih']
def Kdn{n:Nat}:∀ l' x,Qds n=l'++[x]->x≠0:=by
 induction n using Nat.strongRecOn with
 | ind n ih =>
  intro l' x e
  by_cases h:n=0
  .subst h;rw[Qdb] at e;simp at e
  .rw[Qdx h] at e;cases l' with
   | nil =>
    simp at e;have:n/256=0:=by
     rcases axh (n/256) with h0|h0
     .exact h0
     .rw[Qdx (by omega)] at e;simp at e
    omega
   | cons y l' =>
    simp at e;exact ih (n/256) (by omega) l' x e.2
def Qmo{n k:Nat}(h1:n<256^k)(h2:k=0\/256^(k-1)<=n):(Qds n).length=k:=by
 induction k generalizing n with
 | zero=>simp at h1;subst h1;rw[Qdb];rfl
 | succ k ih =>
  have h2':256^k<=n:=by simpa using h2
  have hp:0<256^k:=Nat.pow_pos (by decide);rw[Qdx (by omega),List.length_cons,ih (n:=n/256)]
  .rw[Nat.pow_succ] at h1;exact Nat.div_lt_of_lt_mul (by omega)
  .rcases k with _|k
   .exact .inl rfl
   .refine .inr ?_;simp only[Nat.add_sub_cancel];rw[Nat.le_div_iff_mul_le (by decide),<-Nat.pow_succ];exact h2'
def Kkt{n i:Nat}(h:i<(Qds n).length):(Qds n)[i]=n/256^i%256:=by
 induction i generalizing n with
 | zero =>
  have h0:n≠0:=by intro h0;subst h0;rw[Qdb] at h;simp at h
  simp[Qdx h0]
 | succ i ih =>
  have h0:n≠0:=by intro h0;subst h0;rw[Qdb] at h;simp at h
  have h':i<(Qds (n/256)).length:=by rw[Qdx h0] at h;simpa using h
  have:=ih h';simp only[Qdx h0,List.getElem_cons_succ];rw[this,Nat.div_div_eq_div_mul,Nat.pow_succ,Nat.mul_comm]
def Qio{n k:Nat}(h:n<256^k):(Qds n).length<=k:=by
 induction k generalizing n with
 | zero=>simp at h;subst h;rw[Qdb];simp
 | succ k ih =>
  by_cases h0:n=0
  .subst h0;rw[Qdb];simp
  .rw[Qdx h0,List.length_cons];have:=ih (n:=n/256) (by rw[Nat.pow_succ] at h;exact Nat.div_lt_of_lt_mul (by omega));omega
def Qcg(n:Nat):ByteArray:=⟨((Qds n).reverse.map UInt8.ofNat).toArray⟩
def leS(s:ByteArray):List Nat:=s.data.toList.reverse.map UInt8.toNat
def Qjp(s:ByteArray):Nat:=bv (leS s)
def Qrp(s:ByteArray):Prop:=∀ x l,s.data.toList=x::l->x≠0
def Qxe(s:ByteArray):BOk (leS s):=by
 intro x hx;unfold leS at hx;obtain⟨y,_,rfl⟩:=List.mem_map.1 hx;exact UInt8.toNat_lt y
def Qkt(s:ByteArray):(leS s).length=s.size:=by simp[leS]
def Qxv(n:Nat):leS (Qcg n)=Qds n:=by
 unfold leS Qcg;have h:=Qve n;simp only[List.map_reverse,List.reverse_reverse,List.map_map]
 conv=>rhs;rw[<-List.map_id (Qds n)]
 apply List.map_congr_left;intro x hx;have:=h x hx;simp;omega
def Qdy(n:Nat):Qjp (Qcg n)=n:=by unfold Qjp;rw[Qxv,Kox]
def Qtj{s:ByteArray}(h:Qrp s):Qcg (Qjp s)=s:=by
 have h1:Qds (bv (leS s))=leS s:=Koz (Qxe s) fun l' x e=>by
  unfold leS at e;intro hx;have h2:=congrArg List.reverse e;rw[<-List.map_reverse,List.reverse_reverse,List.reverse_append] at h2;simp at h2;cases hs:s.data.toList with
  | nil=>rw[hs] at h2;simp at h2
  | cons y l =>
   rw[hs] at h2;simp at h2;exact h y l hs (UInt8.toNat_inj.1 (by rw[h2.1,hx];rfl))
 unfold Qcg Qjp;rw[h1];apply ByteArray.ext;apply Array.toList_inj.1;simp[leS,List.map_reverse,Function.comp_def]
def Qge(n:Nat):Qrp (Qcg n):=by
 intro x l e hx;have h:(Qds n).reverse.map UInt8.ofNat=x::l:=by simpa[Qcg] using e
 cases hr:(Qds n).reverse with
 | nil=>rw[hr] at h;simp at h
 | cons y l' =>
  rw[hr] at h;simp at h;have h3:Qds n=l'.reverse++[y]:=by
   have:=congrArg List.reverse hr;simpa using this
  have h4:=Kdn _ _ h3;have h5:y<256:=Qve n y (by rw[h3];simp);have h6:(UInt8.ofNat y).toNat=y:=by simp;omega
  rw[h.1,hx] at h6;exact h4 (by rw[<-h6];rfl)
def Qfk(n:Nat):(Qcg n).size=(Qds n).length:=by
 rw[<-Qkt,Qxv]
def Kef(s:ByteArray):Qjp s<256^s.size:=by
 have:=Ufr (Qxe s);rwa[Qkt] at this
def Qnn{a b:Nat}(h:Qcg a=Qcg b):a=b:=by rw[<-Qdy a,h,Qdy]
def Qpm{l:List Nat}{i:Nat}(h:i<l.length):bv (l.take (i+1))=bv (l.take i)+256^i*l[i]:=by
 induction l generalizing i with
 | nil=>simp at h
 | cons x l ih =>
  cases i with
  | zero=>simp[bv]
  | succ i =>
   have hi:i<l.length:=by simpa using h
   have:=ih (i:=i) hi;simp only[List.take_succ_cons,List.getElem_cons_succ];show x+256*bv (l.take (i+1))=x+256*bv (l.take i)+256^(i+1)*l[i];rw[this,Nat.pow_succ,Nat.mul_add,<-Nat.mul_assoc,Nat.mul_comm 256 (256^i)];omega
def Kgt{l:List Nat}(h:BOk l)(k:Nat):BOk (l.take k):=fun x hx=>h x (List.mem_of_mem_take hx)
def Kca{l:List Nat}{s i x:Nat}(hi:i/4<l.length)(h:wv l=s)(hs:s<256^i):wat l (i/4)<256^(i%4)/\wv (l.set (i/4) (wat l (i/4)+x*256^(i%4)))=s+256^i*x:=by
 have e:256^i=4294967296^(i/4)*256^(i%4):=by
  rw[show(4294967296:Nat)=256^4 by decide,<-Nat.pow_mul,<-Nat.pow_add];congr 1;omega
 have h1:=Qlb hi;have h2:=Qoy hi (wat l (i/4)+x*256^(i%4));have hP:0<4294967296^(i/4):=Nat.pow_pos (by decide);constructor
 .have h3:4294967296^(i/4)*wat l (i/4)<4294967296^(i/4)*256^(i%4):=by
   rw[<-e];refine axd ?_ hs;rw[<-h,h1,Qwt hi,Nat.mul_add];omega
  exact Nat.lt_of_mul_lt_mul_left h3
 .rw[Nat.mul_add,h] at h2;have h4:4294967296^(i/4)*(x*256^(i%4))=256^i*x:=by rw[e,Nat.mul_comm x,Nat.mul_assoc]
  omega
def Kec(s:ByteArray)(k:Nat)(h:k<s.size):(leS s)[k]?=some (s[s.size-1-k].toNat):=by
 unfold leS;rw[List.getElem?_map,List.getElem?_reverse (by simpa using h)];simp only[Option.map_eq_some_iff];refine⟨s[s.size-1-k],?_,rfl⟩;have h2:s.size-1-k<s.data.toList.length:=by simp;omega
 have h3:s.data.toList.length-1-k=s.size-1-k:=by simp
 rw[h3,axi h2];rfl
end Tr
namespace Go.Proofs.YtmimficdpfmfgaaGreat
open Go.RowKit Tr Proofs.Tryz
def BSl(w:World)(v:Value)(s:ByteArray):Prop:=∃ b off cap,v=.slice (some ⟨b,off,none⟩) s.size cap/\b<w.heap.size/\Lib.Bytes w b off s
def Qrt(a b:Nat)(ha:a<4294967296)(hb:b<4294967296):bits .or .u32 (a:Int) (b:Int)=((a ||| b:Nat):Int):=by
 have hx:a ||| b<2^32:=Nat.or_lt_two_pow (by omega) (by omega);have h1:(BitVec.ofInt 32 (a:Int)).toNat=a:=by
  rw[BitVec.ofInt_natCast,BitVec.toNat_ofNat];exact Nat.mod_eq_of_lt (by omega)
 have h2:(BitVec.ofInt 32 (b:Int)).toNat=b:=by
  rw[BitVec.ofInt_natCast,BitVec.toNat_ofNat];exact Nat.mod_eq_of_lt (by omega)
 show IntKind.u32.wrap ((BitVec.ofInt 32 (a:Int) ||| BitVec.ofInt 32 (b:Int)).toNat:Int)=_;rw[BitVec.toNat_or,h1,h2,IntKind.wrap_u32];omega
def Upt{x y k:Nat}(hy:y<2^k)(h:y+x*2^k<4294967296):bits BinOp.or .u32 (y:Int) (IntKind.u32.wrap ((x:Int)*2^k))=((y+x*2^k:Nat):Int):=by
 have e:IntKind.u32.wrap ((x:Int)*2^k)=((x*2^k:Nat):Int):=by
  have:((x*2^k:Nat):Int)=(x:Int)*2^k:=by simp
  rw[<-this];show((x*2^k:Nat):Int)%4294967296=_;omega
 rw[e,Qrt _ _ (by omega) (by omega),Nat.or_comm,Nat.mul_comm,<-Nat.two_pow_add_eq_or_of_lt hy,Nat.add_comm]
def Kbx(m o:Nat)(C:Array Value)(T:TypeId)(s:ByteArray)(n:Nat)(hn:s.size=n)(v:Value)(w:World)(hm:w.heap[m]?=some (.cells C T (0,0)))(ho:o+1<C.size)(hC:NoW (.cells C T (0,0)))(hv:BSl w v s)(hs:n<274877906944) :
  Calls prog 261 #[.pointer (some ⟨m,o,none⟩),v] w fun e w'=>e=.returned (.pointer (some ⟨m,o,none⟩))/\Put m o C T (Qjp s:Nat) w w':=by
 obtain⟨b,off,cap,rfl,hb,hby⟩:=hv;rw[hn];have hmlt:m<w.heap.size:=(axa.1 hm).1;have HM:=hid (And.intro hm hC);have HL:=hid (Qkt s);have HN:=hid hn;have HB:=hid hby
 obtain⟨M,hM⟩:∃ M,(n+3)/4=M:=⟨_,rfl⟩
 have e1:((n:Int)+3)/4=(M:Int):=by omega
 have hmk:=Qgr M (by omega);have HMM:=hid hM;clear hm hC hn hby hM
 go_enter func261,Tryz.ntmps261
 go_wp2_with fail
 rw[e1];clear e1
 go_loopw [6,7,15] (fun _ _ i wr=>∃(k:Nat) (cur:List Nat),k<=n/\i=.int .i64 k/\Hid (cur.length=M)/\WOk cur/\Hid (wv cur=bv ((leS s).take k))/\Blk wr w.heap.size cur/\Below w.heap.size w wr) (fun _ _ i _=>n-(intOf i).toNat)
 case atStart=>exact⟨0,List.replicate M 0,Nat.zero_le _,rfl,hid (by simp),Qbn _,hid (by rw[Qel];simp[bv]),Blk.new _ _,br.alloc lr _⟩
 case round =>
  obtain⟨k,cur,hk,rfl,hlc,oc,hinv,hblk,hB⟩:=hrel
  by_cases hlt:k<n
  .obtain⟨kq,hkq⟩:∃ kq,kq=k/4:=⟨_,rfl⟩
   obtain⟨kr,hkr⟩:∃ kr,kr=k%4:=⟨_,rfl⟩
   have hkr4:kr<4:=by omega
   have hkM:kq<M:=by have:=HMM.out;omega
   have c0:=hblk.cell (i:=kq) (by have:=hlc.out;omega);have f0:=hblk.frozen kq;obtain⟨kj,hkj⟩:∃ kj,kj=n-1-k:=⟨_,rfl⟩
   have hj:kj<s.size:=by have:=HN.out;omega
   have c1:=(hB.cell (p:=⟨b,off+kj,none⟩) hb).trans (HB.out kj hj);have hx:Hid ((leS s)[k]?=some s[kj].toNat):=hid (by have:=Kec s k (by have:=HN.out;omega);simp only[HN.out,<-hkj] at this;exact this);obtain⟨x,hxe⟩:∃ x,x=s[kj].toNat:=⟨_,rfl⟩
   have hx256:x<256:=by rw[hxe];exact UInt8.toNat_lt _
   rw[<-hxe] at hx c1;clear hxe;have hbv:=Ufr (Kgt (Qxe s) k);obtain⟨hd1,hd2⟩:=Kca (x:=x) (i:=k) (by have:=hlc.out;omega) hinv.out (by rw[List.length_take] at hbv;have:=HL.out;have:=HN.out;rwa[Nat.min_eq_left (by omega)] at hbv);rw[<-hkq,<-hkr] at hd1 hd2;obtain⟨y,hy⟩:∃ y,y=wat cur kq:=⟨_,rfl⟩
   rw[show cur[kq]?.getD 0=y from hy.symm] at c0;rw[<-hy] at hd1 hd2;have q1:(k:Int).tdiv 4=(kq:Int):=by rw[Int.tdiv_eq_ediv_of_nonneg (by omega)];omega
   have q2:(k:Int).tmod 4=(kr:Int):=by rw[Int.tmod_eq_emod_of_nonneg (by omega)];omega
   have q1':(k:Int)/4=(kq:Int):=by omega
   have q2':(k:Int)%4=(kr:Int):=by omega
   have q3:(n:Int)-1-(k:Int)=(kj:Int):=by omega
   have q5:(kj:Int)<(n:Int):=by omega
   have q6:(kq:Int)<(M:Int):=by omega
   obtain⟨ks,hks⟩:∃ ks,ks=kr*8:=⟨_,rfl⟩
   have q7:(kr:Int)*8=(ks:Int):=by omega
   have q8:(8:Int)*(kr:Int)=(ks:Int):=by omega
   have q9:ks<32:=by omega
   have w1:IntKind.i64.wrap (kq:Int)=(kq:Int):=IntWalk.i64_in _ (by omega);have w2:IntKind.i64.wrap (kr:Int)=(kr:Int):=IntWalk.i64_in _ (by omega);have w3:IntKind.i64.wrap (ks:Int)=(ks:Int):=IntWalk.i64_in _ (by omega);have w4:IntKind.u32.wrap (x:Int)=(x:Int):=by rw[IntKind.wrap_u32];omega
   have ep:2^ks=256^kr:=by rw[hks,Nat.mul_comm,Nat.pow_mul]
   obtain⟨z,hz⟩:∃ z,z=y+x*2^ks:=⟨_,rfl⟩
   have hpk:2^ks<=2^24:=axg (by decide) (by omega);have hxk:x*2^ks<=255*2^24:=axr (by omega) hpk;have hor:=Upt (x:=x) (y:=y) (k:=ks) (by rw[ep];exact hd1) (by rw[<-ep] at hd1;omega);rw[<-hz] at hor;have hz32:z<4294967296:=by rw[<-ep] at hd1;omega
   have hd2:wv (cur.set kq z)=bv ((leS s).take k)+256^k*x:=by rw[hz,ep];exact hd2
   have hbv2:=Qpm (l:=leS s) (i:=k) (by have:=HL.out;have:=HN.out;omega);have hxg:(leS s)[k]'(by have:=HL.out;have:=HN.out;omega)=x:=by
    have h5:=hx.out;rw[axi (by have:=HL.out;have:=HN.out;omega)] at h5;simpa using h5
   rw[hxg,<-hd2] at hbv2;have HV:=hid hbv2.symm;have HKS:=hid hks;clear hks;have HK:=hid (And.intro hkq hkr);clear hd1 hd2 hbv hy hj hkq hkr hkj hz ep hpk hxk hbv2 hxg
   go_wp2_with fail
   refine Qgi 16 kR kR ?_;simp only[List.take_succ_cons,List.take_zero,List.drop_succ_cons,List.drop_zero]
   repeat still_step
   refine wpStill_nil ?_
   go_wp2_with fail
   go_roundw
   case rel=>exact⟨k+1,cur.set kq z,by omega,by go_num,hid (by have:=hlc.out;simpa using this),Qcv oc _ _ hz32,HV,hblk.set _ _,hB.drew.setCell (p:=⟨w.heap.size,kq,none⟩) lr _⟩
   case measure=>simp[intOf];omega
  .obtain rfl:n=k:=by omega
   have hfin:wv cur=Qjp s:=by rw[hinv.out,axe (by have:=HL.out;have:=HN.out;omega)];rfl
   have hW:=hblk.all;rw[hlc.out] at hW;have his:=Qir m o C T false cur _ wr (Qjp s:Nat) ((hB.block m hmlt).trans HM.out.1) ho HM.out.2 oc hW (by have:=hlc.out;have:=HMM.out;omega) (by rw[hfin];rfl) (by simp);have HI:=hid his;clear his hfin hW
   go_wp2_with (go_at_call 265;refine HI.out.mono ?_;rintro e w' ⟨rfl,hp⟩)
   go_ret
   exact⟨rfl,hp.below hB⟩
end Go.Proofs.YtmimficdpfmfgaaGreat
namespace Tr
def Qvb(n N:Nat):Prop:=n<2^N/\(N=0\/2^(N-1)<=n)
def Kxv{a m k bt:Nat}(hm:(Qac a).length=m)(hm0:0<m)(hbt:bt=(Qac a)[m-1]?.getD 0)(h1:2147483648<=bt*2^k)(h2:bt*2^k<4294967296)(hk:k<=31):Qvb a (32*m-k):=by
 have h3:=Qdq (Qac a) (m-1) (by omega);rw[Qaq,Qck,axj (show(Qac a).length<=m-1+1 by omega)] at h3;rw[show wat (Qac a) (m-1)=bt from hbt.symm] at h3;simp only[wv,Nat.mul_zero,Nat.add_zero] at h3;have h4:=Qgu (Qen (Qap a) (m-1));have h5:((Qac a).take (m-1)).length=m-1:=by simp;omega
 rw[h5] at h4;have hB:(4294967296:Nat)^(m-1)=2^(32*(m-1)):=by rw[show(4294967296:Nat)=2^32 by decide,<-Nat.pow_mul]
 have hp:=Nat.two_pow_pos k;constructor
 .have h6:(bt+1)*2^k<=2^32:=by
   have e:(4294967296:Nat)=2^(32-k)*2^k:=by rw[<-Nat.pow_add,show 32-k+k=32 by omega]
   rw[show(2:Nat)^32=4294967296 by decide,e];rw[e] at h2;exact Nat.mul_le_mul_right _ (Nat.lt_of_mul_lt_mul_right h2)
  have h7:bt+1<=2^(32-k):=by
   have e:(2:Nat)^32=2^(32-k)*2^k:=by rw[<-Nat.pow_add,show 32-k+k=32 by omega]
   rw[e] at h6;exact Nat.le_of_mul_le_mul_right h6 hp
  have h8:a<4294967296^(m-1)*(bt+1):=by rw[Nat.mul_add];omega
  have h9:4294967296^(m-1)*(bt+1)<=4294967296^(m-1)*2^(32-k):=axl _ h7;rw[hB,<-Nat.pow_add,show 32*(m-1)+(32-k)=32*m-k by omega] at h9;rw[hB] at h8;omega
 .right;have h6:2^(31-k)<=bt:=by
   have e:(2147483648:Nat)=2^(31-k)*2^k:=by rw[<-Nat.pow_add,show 31-k+k=31 by omega]
   rw[e] at h1;exact Nat.le_of_mul_le_mul_right h1 hp
  have h9:4294967296^(m-1)*2^(31-k)<=4294967296^(m-1)*bt:=axl _ h6;rw[hB,<-Nat.pow_add,show 32*(m-1)+(31-k)=32*m-k-1 by omega] at h9;rw[hB] at h3;omega
def Kab:Qvb 0 0:=⟨by decide,.inl rfl⟩
def Qxh{n N:Nat}(h:Qvb n N):(Qds n).length=(N+7)/8:=by
 have e:∀ k,(256:Nat)^k=2^(8*k):=fun k=>by rw[show(256:Nat)=2^8 by decide,<-Nat.pow_mul]
 refine Qmo ?_ ?_
 .rw[e];exact axc h.1 (axg (by decide) (by omega))
 .rcases h.2 with h0|h0
  .left;subst h0;rfl
  .rcases axh N with hN|hN
   .left;subst hN;rfl
   .right;rw[e];exact axw (axg (by decide) (by omega)) h0
def Qtq(a q:Nat):wat (Qac a) q=a/4294967296^q%4294967296:=by
 by_cases h:q<=(Qac a).length
 .have h1:=Qwx (Qap a) q h;rw[Qaq,Qck] at h1;rw[h1,Nat.add_mul_mod_self_left,Nat.mod_eq_of_lt (Qci (Qap a) q)]
 .rw[Qhk (by omega),Nat.div_eq_of_lt];exact axc (Qbr a) (axg (by decide) (by omega))
def Qkc(a q r:Nat)(hr:r<4):a/4294967296^q%4294967296/2^(8*r)%256=a/256^(4*q+r)%256:=by
 have e1:(4294967296:Nat)=2^(8*r)*2^(32-8*r):=by rw[<-Nat.pow_add,show 8*r+(32-8*r)=32 by omega]
 have e2:(256:Nat)^(4*q+r)=4294967296^q*2^(8*r):=by
  rw[show(4294967296:Nat)=256^4 by decide,<-Nat.pow_mul,show(2:Nat)^(8*r)=256^r by rw[Nat.pow_mul],<-Nat.pow_add]
 have e3:a/4294967296^q%4294967296/2^(8*r)=a/4294967296^q/2^(8*r)%2^(32-8*r):=by
  conv=>lhs;rw[e1,Nat.mod_mul_right_div_self]
  rw[<-e1]
 rw[e3,Nat.mod_mod_of_dvd,e2,Nat.div_div_eq_div_mul];exact⟨2^(24-8*r),by rw[show(256:Nat)=2^8 by decide,<-Nat.pow_add];congr 1;omega⟩
end Tr
namespace Go.Proofs.YtmimficdpfmfgaaGreat
open Go.RowKit Tr Proofs.Tryz
def Qva(x:Int)(vx:Value)(A:Nat->Prop)(w:World)(hx:Qce x vx w A)(hn:(Qac x.natAbs).length<274877906944) :
  Calls prog 256 #[vx] w fun e w'=>∃ N:Nat,e=.returned (.int .i64 N)/\Hid (Qvb x.natAbs N)/\N<=32*(Qac x.natAbs).length/\Below w.heap.size w w':=by
 obtain⟨b,bo,sl,rfl,hb,_,c0,c1,hsl⟩:=hx;have hw:=hsl.wsl;obtain⟨p,cap,rfl,hcap,hrow⟩:=hw;obtain⟨a,ha⟩:∃ a,a=x.natAbs:=⟨_,rfl⟩
 rw[<-ha] at c1 hn hcap hrow ⊢;clear ha hsl
 by_cases hz:a=0
 .subst hz;rw[Qay] at c1
  go_enter func256,Tryz.ntmps256
  go_wp2
  go_ret
  exact⟨0,rfl,hid Kab,Nat.zero_le _,Below.refl _ _⟩
 .have hm0:0<(Qac a).length:=List.length_pos_iff.2 (fun h=>hz (Qbz.1 h));obtain⟨bb,ob,rfl,hbb,hcell⟩:=hrow (List.length_pos_iff.1 hm0);obtain⟨m,hm⟩:∃ m,(Qac a).length=m:=⟨_,rfl⟩
  rw[hm] at c1 hn hm0 hcap hcell ⊢;have d0:=hcell (m-1) (by omega);obtain⟨bt,hbt⟩:∃ bt,bt=(Qac a)[m-1]?.getD 0:=⟨_,rfl⟩
  have hbt0:0<bt/\bt<4294967296:=by
   have hne:Qac a≠[]:=by intro h;rw[h] at hm;simp at hm;omega
   have h1:=Qjm a _ _ (List.dropLast_concat_getLast hne).symm;have h2:(Qac a)[m-1]?.getD 0=(Qac a).getLast hne:=by
    rw[List.getLast_eq_getElem,axi (by omega)];simp[hm]
   rw[hbt,h2];exact⟨by omega,Qap a _ (List.getLast_mem hne)⟩
  rw[<-hbt] at d0;obtain⟨n0,hn0⟩:∃ n0,n0=32*m:=⟨_,rfl⟩
  have e0:32*(m:Int)=(n0:Int):=by omega
  have e1:(0:Int)<=(m:Int)-1:=by omega
  have e2:(m:Int)-1<(m:Int):=by omega
  have e3:((m:Int)-1).toNat=m-1:=by omega
  have e4:IntKind.i64.wrap ((m:Int)-1)=(m:Int)-1:=IntWalk.i64_in _ (by omega);have hn1:(0:Int)<(n0:Int):=by omega
  have HM:=hid (And.intro hm (And.intro hbt hn0));clear hcell hm hbt hrow hn0 hz
  go_enter func256,Tryz.ntmps256
  go_wp2_with fail
  go_quiet (fail)
  go_wp2_with fail
  go_loop [3,4] (fun u t=>∃ k y:Nat,u=.int .i64 ((n0:Int)-(k:Int))/\t=.int .u32 y/\Hid (y=bt*2^k)/\y<4294967296/\k<=31) (fun u _=>(intOf u).toNat)
  case atStart=>exact⟨0,bt,by simp,rfl,hid (by simp),hbt0.2,by omega⟩
  case round =>
   obtain⟨k,y,rfl,rfl,hy,hy2,hk⟩:=hrel
   by_cases hlt:y<2147483648
   .have hk2:k<31:=by
     rcases Nat.lt_or_ge k 31 with h|h
     .exact h
     .have h1:(2:Nat)^31<=2^k:=axg (by decide) h;have h2:1*2^k<=bt*2^k:=Nat.mul_le_mul_right _ hbt0.1;have:=hy.out;omega
    have hy':Hid (y*2=bt*2^(k+1)):=hid (by rw[hy.out,Nat.pow_succ,Nat.mul_assoc]);have hz:(y:Int)/2147483648=0:=by omega
    have hnk:(k:Int)<(n0:Int):=by have:=HM.out;omega
    go_wp2
    go_round
    case rel=>exact⟨k+1,y*2,by congr 1;omega,by go_num,hy',by omega,by omega⟩
    case measure=>simp[intOf];omega
   .have hz:¬(y:Int)/2147483648=0:=by omega
    have hfin:=hid (Kxv HM.out.1 hm0 HM.out.2.1 (by rw[<-hy.out];omega) (by rw[<-hy.out];omega) hk);clear hlt
    go_wp2
    go_ret
    exact⟨32*m-k,Qfb (by have:=HM.out;omega),hfin,by omega,Qbs br _⟩
def Ucr(l:List Nat):Array Value:=(l.map fun x:Nat=>Value.int .u8 (x:Int)).toArray
def Qzt(w:World)(B:Nat)(l:List Nat):Prop:=w.heap[B]?=some (.cells (Ucr l) 5 (0,0))
def Qzt.cell{w:World}{B:Nat}{l:List Nat}(h:Qzt w B l){i:Nat}(hi:i<l.length):w.cell? ⟨B,i,none⟩=some (.int .u8 (l[i]?.getD 0:Nat)):=by
 unfold Qzt at h;simp[World.cell?,h,Ucr,hi]
def Qzt.frozen{w:World}{B:Nat}{l:List Nat}(h:Qzt w B l)(i:Nat):w.frozen? ⟨B,i,none⟩=false:=by
 unfold Qzt at h;simp[World.frozen?,h]
def Qzt.set{w:World}{B:Nat}{l:List Nat}(h:Qzt w B l)(i x:Nat):Qzt (w.setCell ⟨B,i,none⟩ (.int .u8 (x:Int))) B (l.set i x):=by
 unfold Qzt at *
 simp only[World.setCell,Array.getElem?_modify,if_true,h,Option.map_some];simp[Ucr,List.map_set]
def Qzt.lt{w:World}{B:Nat}{l:List Nat}(h:Qzt w B l):B<w.heap.size:=(axa.1 h).1
def Qzt.new(w:World)(l:List Nat):Qzt (w.alloc (.cells (Ucr l) 5)) w.heap.size l:=heap_alloc_new w _
def Uhg:((prog).info? 5).map (fun i=>(i.zero,i.size,i.bytes))=some (some (.int .u8 0),1,1):=by kernel_rfl
def Kqz(n:Nat):madeCells (Value.int .u8 0).cells (n*1)=Ucr (List.replicate n 0):=by
 apply Array.ext
 .simp[madeCells,Ucr]
 .intro i h1 h2;have e:i%1=0:=Nat.mod_one i;simp[madeCells,Ucr,Value.cells,e]
def Ksr(n:Nat)(hn:n<4398046511104)(w:World):(Instr.makeSlice 257 (.int .i64 (n:Int)) (.int .i64 (n:Int))).run prog w
  = .ok (.slice (some ⟨w.heap.size,0,none⟩) n n) (w.alloc (.cells (Ucr (List.replicate n 0)) 5)):=by
 obtain⟨i,hi,hz,hs,hb⟩:=info_parts Uhg;have:=run_make (P:=prog) w 257 5 i (.int .u8 0) Tryz.underlying257 hi hz .i64 .i64 n n (by omega) (Int.le_refl _) (by rw[hb];omega) (by omega);rw[this,hs,Int.toNat_natCast,Kqz]
def Kjh{a j:Nat}(h:j<(Qcg a).size):((Qcg a)[j].toNat:Nat)=a/256^((Qcg a).size-1-j)%256:=by
 have h1:=Kec (Qcg a) ((Qcg a).size-1-j) (by omega);rw[Qxv] at h1;have h2:(Qcg a).size-1-((Qcg a).size-1-j)=j:=by omega
 simp only[h2] at h1;have h3:(Qcg a).size-1-j<(Qds a).length:=by rw[<-Qfk];omega
 rw[axi h3,Kkt] at h1;simpa using h1.symm
def Qro(x:Int)(vx:Value)(A:Nat->Prop)(w:World)(hx:Qce x vx w A)(hn:(Qac x.natAbs).length<274877906944) :
  Calls prog 211 #[vx] w fun e w'=>∃ v,e=.returned v/\BSl w' v (Qcg x.natAbs)/\Below w.heap.size w w':=by
 have hbl:=Qva x vx A w hx hn;obtain⟨b,bo,sl,rfl,hb,_,c0,c1,hsl⟩:=hx;have hw:=hsl.wsl;obtain⟨p,cap,rfl,hcap,hrow⟩:=hw;obtain⟨a,ha⟩:∃ a,a=x.natAbs:=⟨_,rfl⟩
 rw[<-ha] at c1 hn hcap hrow hbl ⊢;obtain⟨m,hm⟩:∃ m,(Qac a).length=m:=⟨_,rfl⟩
 rw[hm] at c1 hn hcap hrow hbl;have HR:=hid hrow;have HB:=hid hbl;have HM:=hid hm;clear ha hsl hrow hbl hm c0
 go_enter func211,Tryz.ntmps211
 go_wp2_with fail
 refine HB.out.mono ?_;rintro e w1 ⟨N,rfl,hN,hN2,hb1⟩;obtain⟨n,hn'⟩:∃ n,n=(N+7)/8:=⟨_,rfl⟩
 have e1:((N:Int)+7)/8=(n:Int):=by omega
 have hmk:=Ksr n (by omega);have hnb:n<4398046511104:=by omega
 have HN:=hid hn';clear hn'
 go_wp2_with fail
 rw[e1];clear e1;have hlen:Hid ((Qds a).length=n):=hid (by rw[Qxh hN.out,HN.out]);have c1:=(hb1.cell (p:=⟨b,bo+1,none⟩) hb).trans c1;have hb':b<w1.heap.size:=axc hb hb1.size
 go_loopw [5,14] (fun _ i wr=>∃(k:Nat) (cur:List Nat),k<=n/\i=.int .i64 k/\Hid (cur.length=n)/\Hid (∀ j,j<k->cur[n-1-j]?=some (a/256^j%256))/\Qzt wr w1.heap.size cur/\Below w1.heap.size w1 wr) (fun _ i _=>n-(intOf i).toNat)
 case atStart=>exact⟨0,List.replicate n 0,Nat.zero_le _,rfl,hid (by simp),hid (fun j hj=>by omega),Qzt.new _ _,br.alloc lr _⟩
 case round =>
  obtain⟨k,cur,hk,rfl,hlc,hinv,hblk,hB⟩:=hrel
  by_cases hlt:k<n
  .obtain⟨kq,hkq⟩:∃ kq,kq=k/4:=⟨_,rfl⟩
   obtain⟨kr,hkr⟩:∃ kr,kr=k%4:=⟨_,rfl⟩
   obtain⟨kj,hkj⟩:∃ kj,kj=n-1-k:=⟨_,rfl⟩
   obtain⟨ks,hks⟩:∃ ks,ks=8*kr:=⟨_,rfl⟩
   have hkM:kq<m:=by
    have h1:=Qio (n:=a) (k:=4*m) (by have:=Qbr a;rw[HM.out] at this;rw[show(256:Nat)^(4*m)=4294967296^m by rw[Nat.pow_mul]];exact this);have:=hlen.out;omega
   obtain⟨bb,ob,rfl,hbb,hcell⟩:=HR.out (by intro h;have:=HM.out;rw[h] at this;simp at this;omega);have hbb':bb<w1.heap.size:=axc hbb hb1.size;have c2:=(hB.cell (p:=⟨bb,ob+kq,none⟩) hbb').trans ((hb1.cell (p:=⟨bb,ob+kq,none⟩) hbb).trans (hcell kq hkM));have c1':=(hB.cell (p:=⟨b,bo+1,none⟩) hb').trans c1;have c3:=hblk.cell (i:=kj) (by have:=hlc.out;omega);have f3:=hblk.frozen kj;obtain⟨y,hy⟩:∃ y,y=wat (Qac a) kq:=⟨_,rfl⟩
   rw[show(Qac a)[kq]?.getD 0=y from hy.symm] at c2;have hy32:y<4294967296:=by rw[hy];exact Qci (Qap a) kq
   obtain⟨z,hz⟩:∃ z,z=a/256^k%256:=⟨_,rfl⟩
   have hyz:y/2^ks%256=z:=by rw[hy,Qtq,hks,Qkc a kq kr (by omega),hz,show 4*kq+kr=k by omega]
   have q0:(y:Int)/2^ks%256=(z:Int):=by rw[<-hyz];simp
   have q1:(k:Int)/4=(kq:Int):=by omega
   have q2:(k:Int)%4=(kr:Int):=by omega
   have q3:(n:Int)-1-(k:Int)=(kj:Int):=by omega
   have q7:(kr:Int)*8=(ks:Int):=by omega
   have q5:(kj:Int)<(n:Int):=by omega
   have q6:(kq:Int)<(m:Int):=by omega
   have HK:=hid (And.intro hkj hz);clear hkq hkr hkj hks hyz hy hz hcell c1
   go_wp2_with fail
   go_roundw
   case rel =>
    refine⟨k+1,cur.set kj z,by omega,by go_num,hid (by have:=hlc.out;simpa using this),hid (fun j hj=>?_),hblk.set kj z,hB.setCell (p:=⟨w1.heap.size,kj,none⟩) lr _⟩;have h1:=HK.out.1
    by_cases hjk:j=k
    .subst hjk;rw[<-h1,<-HK.out.2,List.getElem?_set_self (by have:=hlc.out;omega)]
    .rw[axp (by omega)];exact hinv.out j (by omega)
   case measure=>simp[intOf];omega
  .obtain rfl:n=k:=by omega
   clear HR c1
   go_wp2
   go_ret
   have hsz:(Qcg a).size=n:=by rw[Qfk];exact hlen.out
   refine⟨.slice (some ⟨w1.heap.size,0,none⟩) n n,rfl,⟨w1.heap.size,0,n,by rw[hsz],hblk.lt,fun i hi=>?_⟩,hb1.trans (hB.mono hb1.size)⟩;rw[Nat.zero_add,hblk.cell (i:=i) (by have:=hlc.out;omega)];have h1:=hinv.out (n-1-i) (by omega);rw[show n-1-(n-1-i)=i by omega] at h1;have h2:=Kjh hi;simp only[hsz] at h2;rw[h1,h2];rfl
end Go.Proofs.YtmimficdpfmfgaaGreat
namespace Tr
def Kmn{l out:List Nat}{k s:Nat}(hl:WOk l)(hs:s<32)(hk:k<l.length)(ho:out.length=k)(h:wv out=wv l/2^s%4294967296^k) :
  wv (out++[(wat l (k+1)*4294967296+wat l k)/2^s%4294967296])=wv l/2^s%4294967296^(k+1):=by
 rw[Qtx,ho,h,Nat.mod_pow_succ];congr 2;rw[Nat.div_div_eq_div_mul,Nat.mul_comm (2^s),<-Nat.div_div_eq_div_mul,Qwx hl k (by omega),Qck,Qck,Qwh hs,Nat.add_comm]
end Tr
namespace Go.Proofs.YtmimficdpfmfgaaGreat
open Go.RowKit Tr Proofs.Tryz
def Uth(w:World)(B:Nat)(v:Value)(l:List Nat):Prop:=w.ownsRow B 268 1 v l.length (l.map fun x:Nat=>Value.int .u32 (x:Int))
def Uth.wsl{w:World}{B:Nat}{v:Value}{l:List Nat}(h:Uth w B v l):WSl w v l:=by
 obtain⟨h1,⟨h2,h2'⟩|⟨g,cap',cur,h2,h3,h4,h5,h6,h7,h8⟩⟩:=h
 .have:=List.eq_nil_of_length_eq_zero h2';subst this;subst h2;exact WSl.nil _
 .refine⟨some ⟨g,0,none⟩,cap',h2,h5,fun _=>⟨g,0,rfl,(axa.1 h4).1,fun j hj=>?_⟩⟩;have h9:(cur.toList.take (l.length*1))[j]?=some (.int .u32 (l[j]?.getD 0:Nat)):=by rw[h8];simp[hj]
  rw[List.getElem?_take_of_lt (by omega)] at h9;simp at h9;simp[World.cell?,h4,h9]
def Kmo(la:List Nat)(n N q s:Nat)(hna:la.length=n)(oa:WOk la)(hq:N/32=q)(hs:N%32=s)(pa:Option Addr)(ca:Nat)(w:World)(ha:WSl w (.slice pa n ca) la)(hn:n<549755813888)(hN:N<1099511627776) :
  Calls prog 293 #[.slice pa n ca,.int .i64 N] w fun e w'=>∃ v,e=.returned v/\WSl w' v (Qac (wv la/2^N))/\Below w.heap.size w w':=by
 have H:=hid hna;have HW:=hid ha;have HA:Hid (Row w pa la):=hid (fun hne=>by
  obtain⟨p,c,e,_,h⟩:=ha;cases e;exact h hne)
 obtain⟨l,hl⟩:∃ l:List Nat,l=la.drop q:=⟨_,rfl⟩
 have ol:WOk l:=by rw[hl];exact Qjn oa q
 have HL:Hid (l.length=n-q/\(∀ k,wat la (q+k)=wat l k)):=hid ⟨by rw[hl];simp;omega,fun k=>by unfold wat;rw[hl,List.getElem?_drop]⟩;have HF:Hid (wv l/2^s=wv la/2^N):=hid (by
  rcases Nat.lt_or_ge la.length q with h|h
  .rw[Qwg oa hq (by omega),hl,axj (by omega),Kjp,Nat.zero_div]
  .rw[hl];exact Kbq oa hq hs h)
 have e1:(N:Int).tdiv 32=(q:Int):=by rw[Int.tdiv_eq_ediv_of_nonneg (by omega)];omega
 have e2:(N:Int).tmod 32=(s:Int):=by rw[Int.tmod_eq_emod_of_nonneg (by omega)];omega
 have HS:=hid hs;have HQ:=hid hq;have hqb:q<549755813888:=by omega
 clear ha hna hl hs hq
 go_enter func293,Tryz.ntmps293
 go_wp2_with fail
 go_loopw [5,6,7] (fun v i _ wr=>∃(k:Nat) (out:List Nat),q+k<=max q n/\i=.int .i64 (q+k:Nat)/\Hid (out.length=k)/\WOk out/\Hid (wv out=wv l/2^s%4294967296^k)/\Uth wr w.heap.size v out/\Below w.heap.size w wr)
  (fun _ i _ _=>n-(intOf i).toNat)
 case atStart =>
  exact⟨0,[],by omega,rfl,hid rfl,Qfz,hid (by simp[wv,Nat.mod_one]),World.ownsRow_nil _ _ _ _,Below.refl _ _⟩
 case round =>
  obtain⟨k,out,hk,rfl,hlo,oo,hinv,hown,hB⟩:=hrel;obtain⟨j,hj⟩:∃ j,j=q+k:=⟨_,rfl⟩
  rw[<-hj]
  by_cases hlt2:j<n
  .obtain⟨b,off,rfl,hbs,hcl⟩:=HA.out (by intro h;have:=H.out;rw[h] at this;simp at this;omega);have c0:=(hB.cell (p:=⟨b,off+j,none⟩) hbs).trans (hcl j (by have:=H.out;omega));obtain⟨x,hx⟩:∃ x:Nat,x=la[j]?.getD 0:=⟨_,rfl⟩
   rw[<-hx] at c0;have hx':x=wat l k:=by rw[hx,<-HL.out.2,<-hj];rfl
   have bx:x<4294967296:=by rw[hx'];exact Qci ol k
   obtain⟨y,hy⟩:∃ y:Nat,y=wat l (k+1):=⟨_,rfl⟩
   have by_:y<4294967296:=by rw[hy];exact Qci ol _
   have hat:=hid (fun m=>by have:=Qow la _ (j+1) (wr.drewN m) oa (HW.out.below (Qbs hB m));rwa[show wat la (j+1)=y by rw[hy,<-HL.out.2];congr 1;omega] at this);have ej:((j+1:Nat):Int)=(j:Int)+1:=by omega
   rw[ej] at hat;have hs32:s<32:=by have:=HS.out;omega
   have hst:=hid (Kmn (s:=s) (k:=k) ol hs32 (by have:=HL.out.1;omega) hlo.out hinv.out);rw[<-hx',<-hy] at hst;obtain⟨t,ht⟩:∃ t:Nat,t=y*4294967296+x:=⟨_,rfl⟩
   have ht1:(y:Int)*4294967296+(x:Int)=(t:Int):=by omega
   have ht2:t<18446744073709551616:=by omega
   rw[<-ht] at hst;obtain⟨u,hu⟩:∃ u:Nat,u=t/2^s:=⟨_,rfl⟩
   have hu1:(t:Int)/2^s=(u:Int):=by rw[hu];simp
   have hu2:u<18446744073709551616:=by rw[hu];exact axd (Nat.div_le_self _ _) ht2
   rw[<-hu] at hst;have hol:=hlo.out;obtain⟨i0,hi,hz0,hz1,hz2⟩:=info_parts Qhx;have HE:Hid ((u:Int)%4294967296=((u%4294967296:Nat):Int)):=hid (by omega);have HJ:=hid hj;clear hcl hx hx' hy ht hu ej hj
   go_wp2_with fail
   go_quiet ((go_at_call 284;exact Uar (hat.out _)))
   go_wp2_with (first|(at_builtin;rw[HE.out];refine wpList_append_own _ rfl (.tmp 30) (.tmp 34) 228 rfl w.heap.size 268 i0 (.int .u32 0) 1 4 Tryz.underlying228 hi hz0 hz1 hz2 rfl (by decide) _ _ _ rfl (World.ownsRow.alloc hown _) ⟨wr.heap.size,0,none⟩ 1 1 [.int .u32 ((u%4294967296:Nat):Int)] rfl rfl (cell_one_new _ _ _) (ints_oneCell .u32 [((u%4294967296:Nat):Int)]) (by unfold maxLen;omega) (by omega) (by have:=hB.size;simp;omega) ?_;intro v4 w4 hown4 hgrow4 _))
   have hB4:Below w.heap.size w w4:=((Qbs hB _).alloc hB.size _).grown hgrow4 (by have:=hB.size;simp;omega) (fun k e=>(World.ownsRow.lt hown k e).1);refine⟨⟨k+1,out++[u%4294967296],by have:=HJ.out;omega,by have:=HJ.out;go_num,hid (by simp;exact hol),?_,hst,by unfold Uth;simpa using hown4,hB4⟩,by simp[intOf];omega⟩;rw[Qgf];exact⟨oo,by rw[Qdz];exact⟨Nat.mod_lt _ (by decide),Qfz⟩⟩
  .have hfin:Hid (wv out=wv la/2^N):=hid (by
    rw[<-HF.out];refine Kbs (n:=n-q) ol HL.out.1 (by have:=hlo.out;omega) ?_;have:=hinv.out;rw[axe (by have:=hlo.out;omega)];rwa[show n-q=k by omega])
   have HJ:=hid hj;have hcut:=hid (Qfm out _ wr oo hown.wsl (by have:=hlo.out;omega));clear hj
   go_wp2_with (refine hcut.out.mono ?_;rintro e w' ⟨v,rfl,hv,rfl⟩)
   go_ret
   exact⟨v,rfl,by rw[<-hfin.out];exact hv,hB⟩
def Ksu(la:List Nat)(N:Nat)(va:Value)(w:World)(oa:WOk la)(ha:WSl w va la)(hn:la.length<549755813888)(hN:N<1099511627776) :
  Calls prog 293 #[va,.int .i64 N] w fun e w'=>∃ v,e=.returned v/\WSl w' v (Qac (wv la/2^N))/\Below w.heap.size w w':=by
 obtain⟨pa,ca,rfl,hca,ha'⟩:=ha;exact Kmo la _ N _ _ rfl oa rfl rfl pa ca w ⟨pa,ca,rfl,hca,ha'⟩ hn hN
def Kez(la:List Nat)(n d:Nat)(hna:la.length=n)(oa:WOk la)(hd:0<d)(hd2:d<4294967296)(pa:Option Addr)(ca:Nat)(w:World)(ha:Row w pa la)(hn:n<1099511627776) :
  Calls prog 291 #[.slice pa n ca,.int .u64 d] w fun e w'=>∃ v,e=.returned (.tuple #[v,.int .u64 (wv la%d:Nat)])/\WSl w' v (Qac (wv la/d))/\Below w.heap.size w w':=by
 have H:=hid hna;have HA:=hid ha;have hmk:=Qgr n (by omega);clear ha hna
 go_enter func291,Tryz.ntmps291
 go_wp2
 go_loopw [7,8] (fun r i wr=>∃(k s:Nat) (out:List Nat),k<=n/\i=.int .i64 ((k:Int)-1)/\r=.int .u64 s/\s<d/\Hid (out.length=n)/\WOk out/\Hid (wv (out.drop k)*d+s=wv (la.drop k))/\Blk wr w.heap.size out/\Below w.heap.size w wr)
  (fun _ i _=>(intOf i+1).toNat)
 case atStart =>
  exact⟨n,0,List.replicate n 0,Nat.le_refl _,rfl,rfl,hd,hid (by simp),Qbn _,hid (by rw[axj (by simp),axj (by have:=H.out;omega)];simp[wv]),Blk.new _ _,br.alloc lr _⟩
 case round =>
  obtain⟨k,s,out,hk,rfl,rfl,hs,hlo,oo,hinv,hblk,hB⟩:=hrel;cases k with
  | zero =>
   have h1:=hinv.out;simp only[List.drop_zero] at h1;have hq:wv out=wv la/d:=by
    rw[<-h1];rw[Nat.add_comm,Nat.add_mul_div_right _ _ hd,Nat.div_eq_of_lt hs];omega
   have hr:s=wv la%d:=by
    rw[<-h1,Nat.add_comm,Nat.add_mul_mod_self_right,Nat.mod_eq_of_lt hs]
   have hcut:=hid (Qfm out _ wr oo (hblk.wsl (k:=n) (cap:=n) (by have:=hlo.out;omega) lr |> fun x=>by rwa[axe (by have:=hlo.out;omega)] at x) (by have:=hlo.out;omega));rw[hq] at hcut;have HR:=hid hr;clear h1 hq hr
   go_wp2_with (refine hcut.out.mono ?_;rintro e w' ⟨v,rfl,hv,rfl⟩)
   go_ret2
   refine⟨v,?_,hv,hB⟩;rw[<-HR.out];rfl
  | succ m =>
   have e:((m+1:Nat):Int)-1=(m:Int):=by omega
   rw[e];clear e;obtain⟨b,off,rfl,hbs,hcl⟩:=HA.out (by intro h;have:=H.out;rw[h] at this;simp at this;omega);have c0:=(hB.cell (p:=⟨b,off+m,none⟩) hbs).trans (hcl m (by have:=H.out;omega));have c1:=hblk.cell (i:=m) (by have:=hlo.out;omega);have c2:=hblk.frozen m;have bx:la[m]?.getD 0<4294967296:=Qci oa m;have hst:=hid (Qwj (d:=d) (by have:=H.out;omega) (by have:=hlo.out;omega) hinv.out);have e1:((s:Int)*4294967296+(la[m]?.getD 0:Nat))%(d:Int)=((s*4294967296+wat la m)%d:Nat):=by simp[wat]
   have e2:((s:Int)*4294967296+(la[m]?.getD 0:Nat))/(d:Int)=((s*4294967296+wat la m)/d:Nat):=by simp[wat]
   have hq:(s*4294967296+wat la m)/d<4294967296:=Kjc hs bx;have e3:(((s*4294967296+wat la m)/d:Nat):Int)%4294967296=((s*4294967296+wat la m)/d:Nat):=by
    generalize (s*4294967296+wat la m)/d=q at *
    omega
   have E:=hid (And.intro e1 (And.intro e2 e3));clear hcl e1 e2 e3
   go_wp2
   go_roundw
   case rel =>
    rw[E.out.1,E.out.2.1,E.out.2.2];exact⟨m,_,_,by omega,rfl,rfl,Nat.mod_lt _ hd,hid (by have:=hlo.out;simpa using this),Qcv oo _ _ hq,hst,hblk.set _ _,hB.setCell (p:=⟨w.heap.size,m,none⟩) lr _⟩
   case measure=>simp[intOf]
def Kmv(la:List Nat)(d:Nat)(va:Value)(w:World)(oa:WOk la)(hd:0<d)(hd2:d<4294967296)(ha:WSl w va la)(hn:la.length<1099511627776) :
  Calls prog 291 #[va,.int .u64 d] w fun e w'=>∃ v,e=.returned (.tuple #[v,.int .u64 (wv la%d:Nat)])/\WSl w' v (Qac (wv la/d))/\Below w.heap.size w w':=by
 obtain⟨pa,ca,rfl,hca,ha⟩:=ha;exact Kez la _ d rfl oa hd hd2 pa ca w ha hn
end Go.Proofs.YtmimficdpfmfgaaGreat
namespace Tr
def Kst{a m k bt:Nat}(hm:(Qac a).length=m)(hm0:0<m)(hbt:bt=(Qac a)[m-1]?.getD 0)(hk:0<k)(h1:2^(k-1)<=bt)(h2:bt<2^k):Qvb a (32*(m-1)+k):=by
 have h3:=Qdq (Qac a) (m-1) (by omega);rw[Qaq,Qck,axj (show(Qac a).length<=m-1+1 by omega),show wat (Qac a) (m-1)=bt from hbt.symm,Kjp,Nat.mul_zero,Nat.add_zero] at h3;have h4:=Qgu (Qen (Qap a) (m-1));have h5:((Qac a).take (m-1)).length=m-1:=by simp;omega
 rw[h5] at h4;have eP:(4294967296:Nat)^(m-1)=2^(32*(m-1)):=by rw[Nat.pow_mul]
 rw[eP] at h3 h4;constructor
 .rw[Nat.pow_add];have h6:2^(32*(m-1))*(bt+1)<=2^(32*(m-1))*2^k:=axl _ h2;rw[Nat.mul_add] at h6;omega
 .refine .inr ?_;rw[show 32*(m-1)+k-1=32*(m-1)+(k-1) by omega,Nat.pow_add];have h6:2^(32*(m-1))*2^(k-1)<=2^(32*(m-1))*bt:=axl _ h1;omega
end Tr
namespace Go.Proofs.YtmimficdpfmfgaaGreat
open Go.RowKit Tr Proofs.Tryz
def Qyr{b m:Nat}(hm:(Qac b).length=m)(hm0:0<m):0<(Qac b)[m-1]?.getD 0/\(Qac b)[m-1]?.getD 0<4294967296:=by
 have hne:Qac b≠[]:=by intro h;rw[h] at hm;simp at hm;omega
 have h1:=Qjm b _ _ (List.dropLast_concat_getLast hne).symm;have h2:(Qac b)[m-1]?.getD 0=(Qac b).getLast hne:=by
  rw[List.getLast_eq_getElem,axi (by omega)];simp[hm]
 rw[h2];exact⟨by omega,Qap b _ (List.getLast_mem hne)⟩
def Kbu(a m:Nat)(hm:(Qac a).length=m)(hm0:0<m)(va:Value)(w:World)(ha:WSl w va (Qac a))(hn:m<549755813888) :
  Calls prog 282 #[va] w fun e w'=>(∃ k,0<k/\k<=32/\2^(k-1)<=(Qac a)[m-1]?.getD 0/\(Qac a)[m-1]?.getD 0<2^k/\e=.returned (.int .i64 (32*(m-1)+k:Nat)))/\w=w':=by
 obtain⟨p,c,rfl,hc,hr⟩:=ha;obtain⟨b,off,rfl,hbs,hcl⟩:=hr (by intro h;rw[h] at hm;simp at hm;omega);have ht:=Qyr hm hm0;have c0:=hcl (m-1) (by omega);obtain⟨bt,hbt⟩:∃ bt,bt=(Qac a)[m-1]?.getD 0:=⟨_,rfl⟩
 rw[<-hbt] at c0 ht ⊢;rw[hm] at hc ⊢;have e0:((m:Int)==0)=false:=by simp;omega
 have e1:((m:Int)-1).toNat=m-1:=by omega
 have i0:(0:Int)<=(m:Int)-1:=by omega
 clear hcl hr hbt hm
 go_enter func282,Tryz.ntmps282
 go_wp2
 go_loop [3,4] (fun n x=>∃ k:Nat,n=.int .i64 (32*(m-1)+k:Nat)/\x=.int .u32 (bt/2^k:Nat)/\Hid (k=0\/2^(k-1)<=bt)/\k<=32) (fun n x=>(intOf x).toNat)
 case atStart=>exact⟨0,by go_num,by simp,hid (.inl rfl),by omega⟩
 case round =>
  obtain⟨k,rfl,rfl,hk,hk32⟩:=hrel;obtain⟨x,hx⟩:∃ x,x=bt/2^k:=⟨_,rfl⟩
  rw[<-hx];have hx2:x<4294967296:=by rw[hx];exact axd (Nat.div_le_self _ _) ht.2
  have HX:=hid hx;clear hx
  by_cases h0:0<x
  .have hle:2^k<=bt:=by
    rcases Nat.lt_or_ge bt (2^k) with h|h
    .have:=HX.out;rw[Nat.div_eq_of_lt h] at this;omega
    .exact h
   have hk31:k<32:=by
    rcases Nat.lt_or_ge k 32 with h|h
    .exact h
    .have:2^32<=2^k:=axg (by decide) h;omega
   have HL:Hid (k+1=0\/2^(k+1-1)<=bt):=hid (.inr (by simpa using hle));have HD:Hid (x/2=bt/2^(k+1)):=hid (by rw[HX.out,Nat.pow_succ,Nat.div_div_eq_div_mul]);clear hle
   go_wp2
   go_round
   case rel=>exact⟨k+1,by go_num,by rw[<-HD.out];go_num,HL,by omega⟩
   case measure=>simp[intOf];omega
  .obtain rfl:x=0:=by omega
   have hlt:bt<2^k:=by
    rcases Nat.lt_or_ge bt (2^k) with h|h
    .exact h
    .have:=Nat.div_pos h (Nat.two_pow_pos k);have:=HX.out;omega
   have hk0:0<k:=by
    rcases axh k with h|h
    .subst h;simp at hlt;omega
    .exact h
   have HR:Hid (2^(k-1)<=bt/\bt<2^k):=hid ⟨hk.out.resolve_left (by omega),hlt⟩;clear hlt
   go_wp2
   go_ret
   exact⟨⟨k,hk0,hk32,HR.out.1,HR.out.2,rfl⟩,rfl⟩
def Ksw(cur:List Nat)(bu L j n g V W:Nat)(hL:cur.length=L)(oc:WOk cur)(hV:(Qac V).length=n)(hj:j+n+1<=L)(hg:g<4294967296)(hW:wv ((cur.drop j).take (n+1))=W)(pv:Option Addr)(cv:Nat)(w:World)(hu:Blk w bu cur)(hv:WSl w (.slice pv n cv) (Qac V))(hn:L<549755813888) :
  Calls prog 292 #[.slice (some ⟨bu,0,none⟩) L L,.slice pv n cv,.int .i64 j,.int .u64 g] w fun e w'=>e=.returned (.bool (decide (g*V<=W)))/\Below w.heap.size w w':=by
 have H:=hid (And.intro hL (And.intro hV hW));have HV:=hid hv;have ow:WOk [g]:=by rw[Qdz];exact⟨hg,Qfz⟩
 have hp:=fun(w1:World) (h1:Below w.heap.size w w1)=>Qic [g] (Qac V) (.slice (some ⟨w1.heap.size,0,none⟩) 1 1) (.slice pv n cv) (w1.alloc (.cells #[.int .u32 (g:Int)] 268)) ow (Qap V) ((Kfh w1 g).wsl (k:=1) (cap:=1) (by simp) (by omega)) ((hv.below h1).below (br.alloc lr _)) (by simp) (by omega)
 have ew:wv [g]=g:=by simp[wv]
 rw[Qaq,ew] at hp;have HP:=hid (hp w br);have gm:(g:Int)%4294967296=(g:Int):=by omega
 have hx:=fun(w1:World) (hb:Blk w1 bu cur)=>Qfm ((cur.drop j).take (n+1)) (.slice (some ⟨bu,j,none⟩) (n+1) (L-j)) w1 (Qen (Qjn oc j) _) (by
  have hl:((cur.drop j).take (n+1)).length=n+1:=by simp;omega
  refine⟨some ⟨bu,j,none⟩,L-j,by rw[hl],by omega,fun _=>⟨bu,j,rfl,hb.lt,fun t ht=>?_⟩⟩;rw[hl] at ht;rw[hb.cell (by omega),List.getElem?_take_of_lt ht,List.getElem?_drop]) (by simp;omega)
 rw[hW] at hx;have HX:=hid hx;have HU:=hid hu;clear hL hV hW hv hp hx hu ow
 go_enter func292,Tryz.ntmps292
 go_wp2_with (refine HP.out.mono ?_;rintro e w1 ⟨v,rfl,hv1,hb1⟩)
 rw[show j+n+1-j=n+1 by omega];have hbW:Below w.heap.size w w1:=(br.alloc lr _).trans (hb1.mono (by simp));refine(HX.out w1 (HU.out.below hbW)).mono ?_;rintro e w2 ⟨v2,rfl,hv2,rfl⟩;have hun:=hid (Qgw (g*V) W v v2 w1 hv1 hv2 (by
  have h1:=Qal (n:=g*V) (k:=1+n) (by
   have h2:=Qbr V;rw[H.out.2.1] at h2;rw[Nat.pow_add,Nat.pow_one];exact Nat.mul_lt_mul'' hg h2)
  omega))
 have HC:Hid (decide (Qdw (g*V) W<=0)=decide (g*V<=W)):=hid (by
  unfold Qdw;rcases Nat.lt_trichotomy (g*V) W with h|h|h
  .rw[if_pos h];simp;omega
  .rw[if_neg (by omega),if_neg (by omega)];simp;omega
  .rw[if_neg (by omega),if_pos h];simp;omega)
 obtain⟨z,hz⟩:∃ z,z=Qdw (g*V) W:=⟨_,rfl⟩
 rw[<-hz] at hun HC;clear hz
 go_wp2_with (refine hun.out.mono ?_;rintro e w' ⟨rfl,d,rfl⟩)
 go_ret
 rw[<-HC.out];exact⟨rfl,Qbs hbW d⟩
