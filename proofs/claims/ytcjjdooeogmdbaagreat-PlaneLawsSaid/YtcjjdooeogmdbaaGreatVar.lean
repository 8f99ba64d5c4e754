/- Laws. -/
import Derived.Test.YtcjjdooeogmdbaaGreatVaq
set_option linter.all false
set_option maxHeartbeats 4000000
set_option maxRecDepth 100000
open Go.Lib (hid)
namespace Tr
def RL(q:Rat)(k:Nat):Prop:=(Qad q.num.natAbs).length<=k/\(Qad q.den).length<=k
def RL.mono{q:Rat}{k l:Nat}(h:RL q k)(hl:k<=l):RL q l:=⟨Nat.le_trans h.1 hl,Nat.le_trans h.2 hl⟩
def Qgt{a b k l:Nat}(ha:(Qad a).length<=k)(hb:(Qad b).length<=l):(Qad (a*b)).length<=k+l:=by
 refine Qak ?_;have h1:=Nat.lt_of_lt_of_le (Qcc a) (Nat.pow_le_pow_right (by decide) ha);have h2:=Nat.lt_of_lt_of_le (Qcc b) (Nat.pow_le_pow_right (by decide) hb);rw[Nat.pow_add];exact Nat.mul_lt_mul'' h1 h2
def Ked{a b k:Nat}(ha:(Qad a).length<=k)(hb:(Qad b).length<=k):(Qad (a+b)).length<=k+1:=by
 refine Qak ?_;have h1:=Nat.lt_of_lt_of_le (Qcc a) (Nat.pow_le_pow_right (by decide) ha);have h2:=Nat.lt_of_lt_of_le (Qcc b) (Nat.pow_le_pow_right (by decide) hb);rw[Nat.pow_succ];omega
def Qfx{a b k:Nat}(h:a<=b)(hb:(Qad b).length<=k):(Qad a).length<=k:=Nat.le_trans (Qak (Nat.lt_of_le_of_lt h (Qcc b))) hb
def Qhy{a b:Int}(hb:b≠0){k:Nat}(h1:(Qad a.natAbs).length<=k)(h2:(Qad b.natAbs).length<=k):RL (Rat.divInt a b) k:=by
 have:=Go.Proofs.YtcjjdooeogmdbaaGreat.divInt_parts (a:=a) hb _ rfl;refine⟨Qfx ?_ h1,Qfx ?_ h2⟩
 .rw[this.1,Int.natAbs_tdiv];exact Nat.div_le_self _ _
 .have h3:(Rat.divInt a b).den=(b.tdiv (if b<0 then -((a.natAbs.gcd b.natAbs:Nat):Int) else((a.natAbs.gcd b.natAbs:Nat):Int))).natAbs:=by rw[<-this.2];simp
  rw[h3,Int.natAbs_tdiv];exact Nat.div_le_self _ _
def Qgr{q:Rat}:(q.den:Int)≠0:=by have:=q.den_nz;omega
def Qpu(x y:Rat):Rat.divInt (x.num*y.num) ((x.den:Int)*(y.den:Int))=x*y:=by
 rw[<-Rat.divInt_mul_divInt,Rat.num_divInt_den,Rat.num_divInt_den]
def Qam{x y:Rat}{k l:Nat}(hx:RL x k)(hy:RL y l):RL (x*y) (k+l):=by
 rw[<-Qpu];refine Qhy (Int.mul_ne_zero Qgr Qgr) ?_ ?_
 .rw[Int.natAbs_mul];exact Qgt hx.1 hy.1
 .rw[Int.natAbs_mul];exact Qgt (by simpa using hx.2) (by simpa using hy.2)
def Qpi(x y:Rat):Rat.divInt (x.num*(y.den:Int)+y.num*(x.den:Int)) ((x.den:Int)*(y.den:Int))=x+y:=by
 rw[<-Rat.divInt_add_divInt _ _ Qgr Qgr,Rat.num_divInt_den,Rat.num_divInt_den]
def Kos(x y:Rat):Rat.divInt (x.num*(y.den:Int)-y.num*(x.den:Int)) ((x.den:Int)*(y.den:Int))=x-y:=by
 rw[Int.sub_eq_add_neg,<-Int.neg_mul,<-Rat.divInt_add_divInt _ _ Qgr Qgr,Rat.num_divInt_den,<-Rat.neg_divInt,Rat.num_divInt_den,Rat.sub_eq_add_neg]
def Qca{x y:Rat}{k l:Nat}(hx:RL x k)(hy:RL y l):RL (x+y) (k+l+1):=by
 rw[<-Qpi];refine Qhy (Int.mul_ne_zero Qgr Qgr) ?_ ?_
 .refine Qfx (Int.natAbs_add_le _ _) (Ked ?_ ?_)
  .rw[Int.natAbs_mul];exact Qgt hx.1 (by simpa using hy.2)
  .rw[Int.natAbs_mul,Nat.add_comm];exact Qgt hy.1 (by simpa using hx.2)
 .rw[Int.natAbs_mul];exact Nat.le_trans (Qgt (by simpa using hx.2) (by simpa using hy.2)) (by omega)
def Qbq{x:Rat}{k:Nat}(h:RL x k):RL (-x) k:=⟨by rw[Rat.neg_num,Int.natAbs_neg];exact h.1,by rw[Rat.neg_den];exact h.2⟩
def Qdc{x y:Rat}{k l:Nat}(hx:RL x k)(hy:RL y l):RL (x-y) (k+l+1):=by rw[Rat.sub_eq_add_neg];exact Qca hx (Qbq hy)
def Qlw(x:Rat):Rat.divInt (x.den:Int) x.num=x⁻¹:=by
 rw[Rat.inv_def]
def Qdn{x:Rat}(h0:x≠0){k:Nat}(h:RL x k):RL x⁻¹ k:=by
 rw[<-Qlw];exact Qhy (fun h1=>h0 (Rat.num_eq_zero.1 h1)) (by simpa using h.2) h.1
end Tr
namespace Go.Proofs.YtcjjdooeogmdbaaGreat
open Go.RowKit Tr Proofs.Tryz
def Qml.ratP{m:Nat}{q:Rat}{w w':World}(h:Qml m q w w'){A:Nat->Prop}(hA:Rcv A w):Qbl q (.pointer (some ⟨m,0,none⟩)) w' (fun b=>A b/\b≠m):=by
 obtain⟨h1,s1,s2,h2,h3,h4⟩:=h;have hlt:=(Array.getElem?_eq_some_iff.1 h2).1;have hA':Rcv (fun b=>A b/\b≠m) w':=fun b hb=>by
  obtain⟨zz,k1,k2⟩:=hA b hb.1;exact⟨zz,(h1.block b (Array.getElem?_eq_some_iff.1 k1).1 hb.2).trans k1,k2⟩
 refine⟨m,rfl,⟨m,0,s1,rfl,hlt,fun h=>h.2 rfl,by simp[World.cell?,h2],by simp[World.cell?,h2],h3.avoids hA'⟩,.inl ⟨m,2,s2,rfl,hlt,fun h=>h.2 rfl,?_,by simp[World.cell?,h2],?_⟩⟩
 .have:decide ((q.den:Int)<0)=false:=by simp
  rw[this];simp[World.cell?,h2]
 .exact WSl.avoids h4 hA'
def Qml.below{m:Nat}{q:Rat}{w w1 w':World}(h:Qml m q w1 w')(hb:Below w.heap.size w w1):Qml m q w w':=⟨(Mod.of_below hb).trans h.1,h.2⟩
def Qfu(q:Rat)(vx:Value)(A:Nat->Prop)(w:World)(hx:Qbl q vx w A)(hA:Rcv A w) :
  Calls prog 192 #[vx] w fun e w'=>∃ v,e=.returned v/\Below w.heap.size w w'/\Qce q.den v w' A:=by
 obtain⟨b,rfl,_,hd⟩:=hx;rcases hd with hd|⟨h0,hd⟩
 .obtain⟨p,n,c,h1,h2,h3,h4⟩:=hd.cells;have hn:n=(Qad q.den).length:=by obtain⟨p',c',e,_⟩:=h4;cases e;simp
  have hpos:((n:Int)==0)=false:=by
   have:(Qad q.den)≠[]:=fun h=>q.den_nz (Qcd.1 h)
   have:=List.length_pos_iff.2 this;simp;omega
  have HD:=hid hd;clear hd h2 h4 hn
  go_enter func192,Tryz.ntmps192
  go_wp2
  go_ret
  exact⟨_,rfl,Below.refl _ _,HD.out⟩
 .obtain⟨p,n,c,h1,h2,h3,h4⟩:=hd.cells;have hn:n=0:=by obtain⟨p',c',e,_⟩:=h4;cases e;simp[Qax]
  subst hn;have hN:=fun w=>Qhx 1 (by decide) (by decide) w
  have HN:=hid hN;have HQ:=hid h0;clear hN hd h2 h4 h0
  go_enter func192,Tryz.ntmps192
  go_wp2_with (go_at_call 228;refine(HN.out _).mono ?_;rintro e w' ⟨v,rfl,hb,hi⟩)
  go_ret
  refine⟨v,rfl,hb,?_⟩;rw[HQ.out];exact hi A hA
def Qxq(q:Rat)(vx:Value)(A:Nat->Prop)(w:World)(hx:Qbl q vx w A)(hl:RL q 137438953472) :
  Calls prog 168 #[vx] w fun e w'=>∃ v,e=.returned v/\Kbh q.num v w w':=by
 obtain⟨b,rfl,hn,_⟩:=hx;have hb:Below w.heap.size w (w.alloc (.cells #[.bool false,.slice none 0 0] 178)):=br.alloc lr _;have hS:=Qnf w.heap.size 0 _ _ q.num _ A _ (heap_alloc_new w (.cells #[.bool false,.slice none 0 0] 178)) (by decide) Qbh (hn.below hb) (by have:=hl.1;omega);have HS:=hid hS;clear hS hn
 go_enter func168,Tryz.ntmps168
 go_wp2_with (go_at_call 216;refine HS.out.mono ?_;rintro e w' ⟨rfl,hp⟩)
 go_ret
 exact⟨_,rfl,hp.new (by decide)⟩
def Qnp(q:Rat)(vx:Value)(A:Nat->Prop)(w:World)(hx:Qbl q vx w A)(hl:RL q 137438953472) :
  Calls prog 170 #[vx] w fun e w'=>∃ v,e=.returned v/\Kbh q.den v w w':=by
 have hx:=hx.noA;have hb:Below w.heap.size w (w.alloc (.cells #[.bool false,.slice none 0 0] 178)):=br.alloc lr _;have hD:=Qfu q vx NoA _ (hx.below hb) (Qbu _);have HD:=hid hD;have hlen:(Qad (q.den:Int).natAbs).length<274877906944:=by have:=hl.2;simp;omega
 clear hD hx
 go_enter func170,Tryz.ntmps170
 go_wp2_with fail
 refine HD.out.mono ?_;rintro e w1 ⟨v,rfl,hb1,hi⟩;have hm:w1.heap[w.heap.size]?=some (.cells #[.bool false,.slice none 0 0] 178 (0,0)):=(hb1.block _ (by simp)).trans (heap_alloc_new w _);have hS:=Qnf w.heap.size 0 _ _ q.den v NoA w1 hm (by decide) Qbh hi hlen;have HS:=hid hS;clear hS hm
 go_wp2_with (go_at_call 216;refine HS.out.mono ?_;rintro e w' ⟨rfl,hp⟩)
 go_ret
 exact⟨_,rfl,(hp.below hb1).new (by decide)⟩
def Qhz(q:Rat)(vx:Value)(A:Nat->Prop)(w:World)(hx:Qbl q vx w A) :
  Calls prog 45 #[vx] w fun e w'=>e=.returned (.int .i64 q.num.sign)/\w=w':=by
 obtain⟨b,rfl,hn,_⟩:=hx;have HS:=hid (Qxt q.num _ A w hn);clear hn
 go_enter func45,Tryz.ntmps45
 go_wp2_with (go_at_call 108;refine HS.out.mono ?_;rintro e w' ⟨rfl,rfl⟩)
 go_ret
 exact⟨rfl,rfl⟩
def Qdp{R:Qcp}(hk:R.Keeps){v:Value}{w w1:World}{A1:Nat->Prop}(h:R v w NoA)(h1:Below w.drew.heap.size w.drew w1)(hN:∀ b,A1 b->w.drew.heap.size<=b):R v w1 A1 :=
 hk v w w1 NoA A1 h1.size (fun b hb _=>⟨h1.block b hb,fun hA=>absurd (hN b hA) (Nat.not_le.2 hb)⟩) h
def Qce.shape{z:Int}{v:Value}{w:World}{A:Nat->Prop}(h:Qce z v w A):∃ b o,v=.pointer (some ⟨b,o,none⟩):=by obtain⟨b,o,_,e,_⟩:=h;exact⟨b,o,e⟩
def Qbl.shape{q:Rat}{v:Value}{w:World}{A:Nat->Prop}(h:Qbl q v w A):∃ b,v=.pointer (some ⟨b,0,none⟩):=by obtain⟨b,e,_⟩:=h;exact⟨b,e⟩
abbrev zI:Obj:=.cells #[.bool false,.slice none 0 0] 178 (0,0)
def Kif(m:Nat)(C:Array Value)(x y:Rat)(vx vy:Value)(A:Nat->Prop)(w:World)(hm:w.heap[m]?=some (.cells C 180 (0,0)))(hC4:C.size=4)(hC:NoW (.cells C 180 (0,0)))(hx:Qbl x vx w A)(hy:Qbl y vy w A)(k l:Nat)(hlx:RL x k)(hly:RL y l)(hkl:k+l<137438953472) :
  Calls prog 161 #[.pointer (some ⟨m,0,none⟩),vx,vy] w fun e w'=>e=.returned (.pointer (some ⟨m,0,none⟩))/\Qml m (x*y) w w':=by
 have hx:=hx.noA;have hy:=hy.noA;obtain⟨b,rfl⟩:=hx.shape;obtain⟨b2,rfl⟩:=hy.shape;have hmlt:m<w.heap.size:=(Array.getElem?_eq_some_iff.1 hm).1;obtain⟨_,eb,hxn,_⟩:=id hx;cases eb;obtain⟨_,eb,hyn,_⟩:=id hy;cases eb;have HM:=hid (And.intro hm hC);clear hm hC
 go_enter func161,Tryz.ntmps161
 go_wp2_with fail
 refine Qat [(.lit,[]),(.new zI,[]),(.lit,[]),(.lit,[]),(.lit,[]),(.lit,[]),(.lit,[]),(.lit,[]),(.on 1 zI,[]),(.new zI,[]),(.lit,[]),(.val,[]),(.lit,[]),(.val,[]),(.on 9 zI,[11,13])]
  (Qfv [(8,Qce (x.num*y.num)),(11,Qce x.den),(13,Qce y.den),(14,Qce ((x.den:Int)*(y.den:Int)))]) (by kernel_rfl) ?_ ?_ (by simp[Qbh]) (by simp) (by kernel_rfl)
 .exact Qbc (by simp[Qce.keeps])
 .refine⟨_,fun f w1 h1=>by go_simp;rfl,?_⟩;refine⟨fun f w1=>by go_simp,?_⟩
  repeat (refine⟨_,fun f w1 h1=>by go_simp;rfl,?_⟩)
  simp only[Act.put,nrA,nrB,nrC,Nat.reduceAdd];refine⟨fun f w1 A1 m1 h1 hA hN hAm hm0 e hz hd K hK=>by
   simp only[e] at hK ⊢
   go_simp
   refine(Qho m1 0 _ _ x.num y.num _ _ A1 w1 hz (by decide) Qbh (Qdp (Qce.keeps _) hxn h1 hN) (Qdp (Qce.keeps _) hyn h1 hN) (by have:=hlx.1;omega) (by have:=hly.1;omega)).mono ?_;rintro e w' ⟨rfl,hp⟩;exact hK _ w' hp.1 (hp.intP (by decide) hA),?_⟩
  refine⟨fun f w1=>by go_simp,?_⟩;refine⟨_,fun f w1 h1=>by go_simp;rfl,?_⟩;simp only[Act.put,nrA,nrB,nrC,Nat.reduceAdd];refine⟨fun f w1 A1 h1 hA hN hd K hK=>by
   go_simp
   refine(Qfu x _ A1 w1 (Qdp (Qbl.keeps _) hx h1 hN) hA).mono ?_;rintro e w' ⟨v,rfl,hb,hi⟩;exact hK _ _ hb hi,?_⟩
  refine⟨_,fun f w1 h1=>by go_simp;rfl,?_⟩;simp only[Act.put,nrA,nrB,nrC,Nat.reduceAdd];refine⟨fun f w1 A1 h1 hA hN hd K hK=>by
   go_simp
   refine(Qfu y _ A1 w1 (Qdp (Qbl.keeps _) hy h1 hN) hA).mono ?_;rintro e w' ⟨v,rfl,hb,hi⟩;exact hK _ _ hb hi,?_⟩
  simp only[Act.put,nrA,nrB,nrC,Nat.reduceAdd];refine⟨fun f w1 A1 m1 h1 hA hN hAm hm0 e hz hd K hK=>by
   simp only[e] at hK ⊢;have i1:Qce x.den (f 11) w1 A1:=hd 11 (by simp);have i2:Qce y.den (f 13) w1 A1:=hd 13 (by simp)
   go_simp
   refine(Qho m1 0 _ _ x.den y.den _ _ A1 w1 hz (by decide) Qbh i1 i2 (by have:=hlx.2;simp;omega) (by have:=hly.2;simp;omega)).mono ?_;rintro e w' ⟨rfl,hp⟩;exact hK _ w' hp.1 (hp.intP (by decide) hA),?_⟩
  intro f w1 h1 hF;have i1:Qce (x.num*y.num) (f 8) w1 NoA:=hF.1.1.1.2;have i2:Qce ((x.den:Int)*(y.den:Int)) (f 14) w1 NoA:=hF.2;clear hF;simp only[Act.put,nrA,nrB,nrC];generalize f 8=v8 at *
  generalize f 14=v14 at *
  have hbw:Below w.heap.size w w1:=br.drew.trans h1;have hS:=Qfb m C _ _ (Int.mul_ne_zero Qgr Qgr) _ _ NoA w1 ((h1.block m hmlt).trans HM.out.1) hC4 HM.out.2 i1 i2 (by rw[Int.natAbs_mul];have:=Qgt hlx.1 hly.1;omega) (by rw[Int.natAbs_mul];have:=Qgt (a:=(x.den:Int).natAbs) (b:=(y.den:Int).natAbs) (by simpa using hlx.2) (by simpa using hly.2);omega);rw[Qpu] at hS;have HS:=hid hS;clear hS i1 i2 hx hy hxn hyn
  go_wp2_with (go_at_call 188;refine HS.out.mono ?_;rintro e w' ⟨rfl,hp⟩)
  go_ret
  exact⟨rfl,hp.below hbw⟩
def Kql(base:Nat)(z:Int):Qcp:=fun v w A=>∃ m sl,v=.pointer (some ⟨m,0,none⟩)/\base<=m/\¬A m/\w.heap[m]?=some (.cells #[.bool (decide (z<0)),sl] 178 (0,0))/\Qkv A w sl (Qad z.natAbs)
def Kql.keeps(base:Nat)(z:Int):(Kql base z).Keeps:=by
 intro v w w' A A' hs hk ⟨m,sl,h1,h2,h3,h4,h5⟩;obtain⟨k1,k2⟩:=hk m (Array.getElem?_eq_some_iff.1 h4).1 h3;exact⟨m,sl,h1,h2,k2,k1.trans h4,h5.keep hs hk⟩
def Put.intB{m base:Nat}{b s:Value}{z:Int}{w w':World}(h:Put m 0 #[b,s] 178 z w w')(hm:base<=m){A:Nat->Prop}(hA:Rcv A w):Kql base z (.pointer (some ⟨m,0,none⟩)) w' (fun b=>A b/\b≠m):=by
 have h0:=h.intP (by simp) hA;obtain⟨h1,sl,h2,h3⟩:=h;refine⟨m,sl,rfl,hm,fun h=>h.2 rfl,h2,h3.avoids fun b hb=>?_⟩;obtain⟨zz,k1,k2⟩:=hA b hb.1;exact⟨zz,(h1.block b (Array.getElem?_eq_some_iff.1 k1).1 hb.2).trans k1,k2⟩
def Kql.parts{base:Nat}{z:Int}{v:Value}{w:World}{A:Nat->Prop}(h:Kql base z v w A):∃ m C,v=.pointer (some ⟨m,0,none⟩)/\base<=m/\w.heap[m]?=some (.cells C 178 (0,0))/\C.size=2/\NoW (.cells C 178 (0,0))/\Qce z (.pointer (some ⟨m,0,none⟩)) w A:=by
 obtain⟨m,sl,h1,h2,h3,h4,h5⟩:=h;refine⟨m,_,h1,h2,h4,rfl,?_,m,0,sl,rfl,(Array.getElem?_eq_some_iff.1 h4).1,h3,by simp[World.cell?,h4],by simp[World.cell?,h4],h5⟩;obtain⟨p,c,rfl,_⟩:=h5;intro cs T fr e i k x;cases e;rcases i with _|_|i<;>simp
def natAbs_sub_le(a b:Int):(a-b).natAbs<=a.natAbs+b.natAbs:=by omega
def Qlu(m:Nat)(C:Array Value)(x y:Rat)(vx vy:Value)(A:Nat->Prop)(w:World)(hm:w.heap[m]?=some (.cells C 180 (0,0)))(hC4:C.size=4)(hC:NoW (.cells C 180 (0,0)))(hx:Qbl x vx w A)(hy:Qbl y vy w A)(k l:Nat)(hlx:RL x k)(hly:RL y l)(hkl:k+l<137438953472) :
  Calls prog 109 #[.pointer (some ⟨m,0,none⟩),vx,vy] w fun e w'=>e=.returned (.pointer (some ⟨m,0,none⟩))/\Qml m (x+y) w w':=by
 have hx:=hx.noA;have hy:=hy.noA;obtain⟨b,rfl⟩:=hx.shape;obtain⟨b2,rfl⟩:=hy.shape;have hmlt:m<w.heap.size:=(Array.getElem?_eq_some_iff.1 hm).1;obtain⟨_,eb,hxn,_⟩:=id hx;cases eb;obtain⟨_,eb,hyn,_⟩:=id hy;cases eb;have HM:=hid (And.intro hm hC);clear hm hC
 go_enter func109,Tryz.ntmps109
 go_wp2_with fail
 refine Qat [(.new zI,[]),(.lit,[]),(.lit,[]),(.lit,[]),(.lit,[]),(.val,[]),(.on 0 zI,[5])]
  (Qfv [(5,Qce y.den),(6,Kql w.heap.size (x.num*(y.den:Int)))]) (by kernel_rfl) ?_ ?_ (by simp[Qbh]) (by simp) (by kernel_rfl)
 .exact Qbc (by simp[Qce.keeps,Kql.keeps])
 .refine⟨fun f w1=>by go_simp,?_⟩
  repeat (refine⟨_,fun f w1 h1=>by go_simp;rfl,?_⟩)
  simp only[Act.put,nrA,nrB,nrC,Nat.reduceAdd];refine⟨fun f w1 A1 h1 hA hN hd K hK=>by
   go_simp
   refine(Qfu y _ A1 w1 (Qdp (Qbl.keeps _) hy h1 hN) hA).mono ?_;rintro e w' ⟨v,rfl,hb,hi⟩;exact hK _ _ hb hi,?_⟩
  simp only[Act.put,nrA,nrB,nrC,Nat.reduceAdd];refine⟨fun f w1 A1 m1 h1 hA hN hAm hm0 e hz hd K hK=>by
   simp only[e] at hK ⊢;have i1:Qce y.den (f 5) w1 A1:=hd 5 (by simp)
   go_simp
   refine(Qho m1 0 _ _ x.num y.den _ _ A1 w1 hz (by decide) Qbh (Qdp (Qce.keeps _) hxn h1 hN) i1 (by have:=hlx.1;omega) (by have:=hly.2;simp;omega)).mono ?_;rintro e w' ⟨rfl,hp⟩;exact hK _ w' hp.1 (hp.intB hm0 hA),?_⟩
  intro f w1 h1 hF;have i1:Kql w.heap.size (x.num*(y.den:Int)) (f 6) w1 NoA:=hF.2;clear hF;simp only[Act.put,nrA,nrB,nrC];obtain⟨mn,Cn,e6,hmn,hbn,hCn,hnn,hin⟩:=i1.parts;rw[e6];generalize f 5=v5;have hbw:Below w.heap.size w w1:=br.drew.trans h1;have hx1:=hx.below hbw;have hyn1:=hyn.below hbw;have HW:=hid (And.intro hbw (And.intro hbn (And.intro hnn (And.intro hx hy))));clear hxn hyn hx hy h1 hbw hbn hnn e6 i1
  go_wp2_with fail
  refine Qat [(.lit,[]),(.lit,[]),(.new zI,[]),(.lit,[]),(.lit,[]),(.lit,[]),(.lit,[]),(.val,[]),(.on 2 zI,[7])]
   (Qfv [(7,Qce x.den),(8,Qce (y.num*(x.den:Int)))]) (by kernel_rfl) ?_ ?_ (by simp[Qbh]) (by simp) (by kernel_rfl)
  .exact Qbc (by simp[Qce.keeps])
  .refine⟨_,fun f w1 h1=>by go_simp;rfl,?_⟩;refine⟨_,fun f w1 h1=>by go_simp;rfl,?_⟩;refine⟨fun f w1=>by go_simp,?_⟩
   repeat (refine⟨_,fun f w1 h1=>by go_simp;rfl,?_⟩)
   simp only[Act.put,nrA,nrB,nrC,Nat.reduceAdd];refine⟨fun f w2 A1 h1 hA hN hd K hK=>by
    go_simp
    refine(Qfu x _ A1 w2 (Qdp (Qbl.keeps _) hx1 h1 hN) hA).mono ?_;rintro e w' ⟨v,rfl,hb,hi⟩;exact hK _ _ hb hi,?_⟩
   simp only[Act.put,nrA,nrB,nrC,Nat.reduceAdd];refine⟨fun f w2 A1 m1 h1 hA hN hAm hm0 e hz hd K hK=>by
    simp only[e] at hK ⊢;have i1:Qce x.den (f 7) w2 A1:=hd 7 (by simp)
    go_simp
    refine(Qho m1 0 _ _ y.num x.den _ _ A1 w2 hz (by decide) Qbh (Qdp (Qce.keeps _) hyn1 h1 hN) i1 (by have:=hly.1;omega) (by have:=hlx.2;simp;omega)).mono ?_;rintro e w' ⟨rfl,hp⟩;exact hK _ w' hp.1 (hp.intP (by decide) hA),?_⟩
   intro f w2 h2 hF;have i2:Qce (y.num*(x.den:Int)) (f 8) w2 NoA:=hF.2;clear hF;simp only[Act.put,nrA,nrB,nrC];generalize f 7=v7;generalize f 8=v8 at *
   have hbw2:Below w1.heap.size w1 w2:=br.drew.trans h2;have l1:(Qad (x.num*(y.den:Int)).natAbs).length<=k+l:=by rw[Int.natAbs_mul];exact Qgt hlx.1 (by simpa using hly.2)
   have l2:(Qad (y.num*(x.den:Int)).natAbs).length<=k+l:=by rw[Int.natAbs_mul,Nat.add_comm];exact Qgt hly.1 (by simpa using hlx.2)
   have l4:(Qad ((x.num*(y.den:Int))+(y.num*(x.den:Int))).natAbs).length<=k+l+1:=Qfx (Int.natAbs_add_le _ _) (Ked l1 l2);have l5:(Qad ((x.den:Int)*(y.den:Int)).natAbs).length<=k+l:=by rw[Int.natAbs_mul];exact Qgt (by simpa using hlx.2) (by simpa using hly.2)
   have hmn1:mn<w1.heap.size:=(Array.getElem?_eq_some_iff.1 HW.out.2.1).1;have hA:=Kqk mn 0 Cn _ _ _ _ v8 NoA w2 ((hbw2.block mn hmn1).trans HW.out.2.1) (by omega) HW.out.2.2.1 (hin.below hbw2) i2 (by omega) (by omega);have HA:=hid hA;clear hA i2 hyn1 hx1
   go_wp2_with fail
   refine HA.out.mono ?_;rintro e w3 ⟨rfl,hp3⟩;have hb3:Below w.heap.size w w3:=HW.out.1.trans ((hbw2.mono HW.out.1.size).trans (hp3.1.below hmn (Nat.le_trans HW.out.1.size hbw2.size)));have in3:=(hp3.intP (by omega) (Qbu _)).noA
   -- the denominators' product,and the fraction
   let w4:=w3.alloc (.cells #[.bool false,.slice none 0 0] 178);have h34:Below w3.heap.size w3 w4:=br.alloc lr _;have hD1:=hid (Qfu x _ NoA w4 ((HW.out.2.2.2.1.below hb3).below h34) (Qbu _));clear hin hbw2 h2 HA
   go_wp2_with fail
   refine hD1.out.mono ?_;rintro e w5 ⟨vd,rfl,hb5,id5⟩;have hb45:Below w3.heap.size w3 w5:=h34.trans (hb5.mono (by simp[w4]));have hD2:=hid (Qfu y _ NoA w5 ((HW.out.2.2.2.2.below hb3).below hb45) (Qbu _))
   go_wp2_with fail
   refine hD2.out.mono ?_;rintro e w6 ⟨ve,rfl,hb6,ie6⟩;have hb36:Below w3.heap.size w3 w6:=hb45.trans (hb6.mono hb45.size);have hm6:w6.heap[w3.heap.size]?=some (.cells #[.bool false,.slice none 0 0] 178 (0,0)):=(hb6.block _ (by have:=hb5.size;simp[w4] at this;omega)).trans ((hb5.block _ (by simp[w4])).trans (heap_alloc_new w3 _));have hMu:=hid (Qho w3.heap.size 0 _ _ x.den y.den _ _ NoA w6 hm6 (by decide) Qbh (id5.below hb6) ie6 (by have:=hlx.2;simp;omega) (by have:=hly.2;simp;omega))
   go_wp2_with fail
   refine hMu.out.mono ?_;rintro e w7 ⟨rfl,hp7⟩;have ip7:=(hp7.intP (by decide) (Qbu _)).noA;have hb37:Below w3.heap.size w3 w7:=hb36.trans (hp7.1.below lr hb36.size);have hbw7:Below w.heap.size w w7:=hb3.trans (hb37.mono hb3.size);have hS:=Qfb m C _ _ (Int.mul_ne_zero Qgr Qgr) _ _ NoA w7 ((hbw7.block m hmlt).trans HM.out.1) hC4 HM.out.2 (in3.below hb37) ip7 (by omega) (by omega);rw[Qpi] at hS;have HS:=hid hS;clear hS ip7 in3 hm6 id5 ie6 hMu hD1 hD2
   go_wp2_with (go_at_call 188;refine HS.out.mono ?_;rintro e w' ⟨rfl,hp⟩)
   go_ret
   exact⟨rfl,hp.below hbw7⟩
def Qrl(m:Nat)(C:Array Value)(x y:Rat)(vx vy:Value)(A:Nat->Prop)(w:World)(hm:w.heap[m]?=some (.cells C 180 (0,0)))(hC4:C.size=4)(hC:NoW (.cells C 180 (0,0)))(hx:Qbl x vx w A)(hy:Qbl y vy w A)(k l:Nat)(hlx:RL x k)(hly:RL y l)(hkl:k+l<137438953472) :
  Calls prog 160 #[.pointer (some ⟨m,0,none⟩),vx,vy] w fun e w'=>e=.returned (.pointer (some ⟨m,0,none⟩))/\Qml m (x-y) w w':=by
 have hx:=hx.noA;have hy:=hy.noA;obtain⟨b,rfl⟩:=hx.shape;obtain⟨b2,rfl⟩:=hy.shape;have hmlt:m<w.heap.size:=(Array.getElem?_eq_some_iff.1 hm).1;obtain⟨_,eb,hxn,_⟩:=id hx;cases eb;obtain⟨_,eb,hyn,_⟩:=id hy;cases eb;have HM:=hid (And.intro hm hC);clear hm hC
 go_enter func160,Tryz.ntmps160
 go_wp2_with fail
 refine Qat [(.new zI,[]),(.lit,[]),(.lit,[]),(.lit,[]),(.lit,[]),(.val,[]),(.on 0 zI,[5])]
  (Qfv [(5,Qce y.den),(6,Kql w.heap.size (x.num*(y.den:Int)))]) (by kernel_rfl) ?_ ?_ (by simp[Qbh]) (by simp) (by kernel_rfl)
 .exact Qbc (by simp[Qce.keeps,Kql.keeps])
 .refine⟨fun f w1=>by go_simp,?_⟩
  repeat (refine⟨_,fun f w1 h1=>by go_simp;rfl,?_⟩)
  simp only[Act.put,nrA,nrB,nrC,Nat.reduceAdd];refine⟨fun f w1 A1 h1 hA hN hd K hK=>by
   go_simp
   refine(Qfu y _ A1 w1 (Qdp (Qbl.keeps _) hy h1 hN) hA).mono ?_;rintro e w' ⟨v,rfl,hb,hi⟩;exact hK _ _ hb hi,?_⟩
  simp only[Act.put,nrA,nrB,nrC,Nat.reduceAdd];refine⟨fun f w1 A1 m1 h1 hA hN hAm hm0 e hz hd K hK=>by
   simp only[e] at hK ⊢;have i1:Qce y.den (f 5) w1 A1:=hd 5 (by simp)
   go_simp
   refine(Qho m1 0 _ _ x.num y.den _ _ A1 w1 hz (by decide) Qbh (Qdp (Qce.keeps _) hxn h1 hN) i1 (by have:=hlx.1;omega) (by have:=hly.2;simp;omega)).mono ?_;rintro e w' ⟨rfl,hp⟩;exact hK _ w' hp.1 (hp.intB hm0 hA),?_⟩
  intro f w1 h1 hF;have i1:Kql w.heap.size (x.num*(y.den:Int)) (f 6) w1 NoA:=hF.2;clear hF;simp only[Act.put,nrA,nrB,nrC];obtain⟨mn,Cn,e6,hmn,hbn,hCn,hnn,hin⟩:=i1.parts;rw[e6];generalize f 5=v5;have hbw:Below w.heap.size w w1:=br.drew.trans h1;have hx1:=hx.below hbw;have hyn1:=hyn.below hbw;have HW:=hid (And.intro hbw (And.intro hbn (And.intro hnn (And.intro hx hy))));clear hxn hyn hx hy h1 hbw hbn hnn e6 i1
  go_wp2_with fail
  refine Qat [(.lit,[]),(.lit,[]),(.new zI,[]),(.lit,[]),(.lit,[]),(.lit,[]),(.lit,[]),(.val,[]),(.on 2 zI,[7])]
   (Qfv [(7,Qce x.den),(8,Qce (y.num*(x.den:Int)))]) (by kernel_rfl) ?_ ?_ (by simp[Qbh]) (by simp) (by kernel_rfl)
  .exact Qbc (by simp[Qce.keeps])
  .refine⟨_,fun f w1 h1=>by go_simp;rfl,?_⟩;refine⟨_,fun f w1 h1=>by go_simp;rfl,?_⟩;refine⟨fun f w1=>by go_simp,?_⟩
   repeat (refine⟨_,fun f w1 h1=>by go_simp;rfl,?_⟩)
   simp only[Act.put,nrA,nrB,nrC,Nat.reduceAdd];refine⟨fun f w2 A1 h1 hA hN hd K hK=>by
    go_simp
    refine(Qfu x _ A1 w2 (Qdp (Qbl.keeps _) hx1 h1 hN) hA).mono ?_;rintro e w' ⟨v,rfl,hb,hi⟩;exact hK _ _ hb hi,?_⟩
   simp only[Act.put,nrA,nrB,nrC,Nat.reduceAdd];refine⟨fun f w2 A1 m1 h1 hA hN hAm hm0 e hz hd K hK=>by
    simp only[e] at hK ⊢;have i1:Qce x.den (f 7) w2 A1:=hd 7 (by simp)
    go_simp
    refine(Qho m1 0 _ _ y.num x.den _ _ A1 w2 hz (by decide) Qbh (Qdp (Qce.keeps _) hyn1 h1 hN) i1 (by have:=hly.1;omega) (by have:=hlx.2;simp;omega)).mono ?_;rintro e w' ⟨rfl,hp⟩;exact hK _ w' hp.1 (hp.intP (by decide) hA),?_⟩
   intro f w2 h2 hF;have i2:Qce (y.num*(x.den:Int)) (f 8) w2 NoA:=hF.2;clear hF;simp only[Act.put,nrA,nrB,nrC];generalize f 7=v7;generalize f 8=v8 at *
   have hbw2:Below w1.heap.size w1 w2:=br.drew.trans h2;have l1:(Qad (x.num*(y.den:Int)).natAbs).length<=k+l:=by rw[Int.natAbs_mul];exact Qgt hlx.1 (by simpa using hly.2)
   have l2:(Qad (y.num*(x.den:Int)).natAbs).length<=k+l:=by rw[Int.natAbs_mul,Nat.add_comm];exact Qgt hly.1 (by simpa using hlx.2)
   have l4:(Qad ((x.num*(y.den:Int))-(y.num*(x.den:Int))).natAbs).length<=k+l+1:=Qfx (natAbs_sub_le _ _) (Ked l1 l2);have l5:(Qad ((x.den:Int)*(y.den:Int)).natAbs).length<=k+l:=by rw[Int.natAbs_mul];exact Qgt (by simpa using hlx.2) (by simpa using hly.2)
   have hmn1:mn<w1.heap.size:=(Array.getElem?_eq_some_iff.1 HW.out.2.1).1;have hA:=Uey mn 0 Cn _ _ _ _ v8 NoA w2 ((hbw2.block mn hmn1).trans HW.out.2.1) (by omega) HW.out.2.2.1 (hin.below hbw2) i2 (by omega) (by omega);have HA:=hid hA;clear hA i2 hyn1 hx1
   go_wp2_with fail
   refine HA.out.mono ?_;rintro e w3 ⟨rfl,hp3⟩;have hb3:Below w.heap.size w w3:=HW.out.1.trans ((hbw2.mono HW.out.1.size).trans (hp3.1.below hmn (Nat.le_trans HW.out.1.size hbw2.size)));have in3:=(hp3.intP (by omega) (Qbu _)).noA
   -- the denominators' product,and the fraction
   let w4:=w3.alloc (.cells #[.bool false,.slice none 0 0] 178);have h34:Below w3.heap.size w3 w4:=br.alloc lr _;have hD1:=hid (Qfu x _ NoA w4 ((HW.out.2.2.2.1.below hb3).below h34) (Qbu _));clear hin hbw2 h2 HA
   go_wp2_with fail
   refine hD1.out.mono ?_;rintro e w5 ⟨vd,rfl,hb5,id5⟩;have hb45:Below w3.heap.size w3 w5:=h34.trans (hb5.mono (by simp[w4]));have hD2:=hid (Qfu y _ NoA w5 ((HW.out.2.2.2.2.below hb3).below hb45) (Qbu _))
   go_wp2_with fail
   refine hD2.out.mono ?_;rintro e w6 ⟨ve,rfl,hb6,ie6⟩;have hb36:Below w3.heap.size w3 w6:=hb45.trans (hb6.mono hb45.size);have hm6:w6.heap[w3.heap.size]?=some (.cells #[.bool false,.slice none 0 0] 178 (0,0)):=(hb6.block _ (by have:=hb5.size;simp[w4] at this;omega)).trans ((hb5.block _ (by simp[w4])).trans (heap_alloc_new w3 _));have hMu:=hid (Qho w3.heap.size 0 _ _ x.den y.den _ _ NoA w6 hm6 (by decide) Qbh (id5.below hb6) ie6 (by have:=hlx.2;simp;omega) (by have:=hly.2;simp;omega))
   go_wp2_with fail
   refine hMu.out.mono ?_;rintro e w7 ⟨rfl,hp7⟩;have ip7:=(hp7.intP (by decide) (Qbu _)).noA;have hb37:Below w3.heap.size w3 w7:=hb36.trans (hp7.1.below lr hb36.size);have hbw7:Below w.heap.size w w7:=hb3.trans (hb37.mono hb3.size);have hS:=Qfb m C _ _ (Int.mul_ne_zero Qgr Qgr) _ _ NoA w7 ((hbw7.block m hmlt).trans HM.out.1) hC4 HM.out.2 (in3.below hb37) ip7 (by omega) (by omega);rw[Kos] at hS;have HS:=hid hS;clear hS ip7 in3 hm6 id5 ie6 hMu hD1 hD2
   go_wp2_with (go_at_call 188;refine HS.out.mono ?_;rintro e w' ⟨rfl,hp⟩)
   go_ret
   exact⟨rfl,hp.below hbw7⟩
def Kie(m:Nat)(C:Array Value)(x:Rat)(h0:x≠0)(vx:Value)(A:Nat->Prop)(w:World)(hm:w.heap[m]?=some (.cells C 180 (0,0)))(hC4:C.size=4)(hC:NoW (.cells C 180 (0,0)))(hx:Qbl x vx w A)(k:Nat)(hlx:RL x k)(hk:k<137438953472) :
  Calls prog 119 #[.pointer (some ⟨m,0,none⟩),vx] w fun e w'=>e=.returned (.pointer (some ⟨m,0,none⟩))/\Qml m x⁻¹ w w':=by
 have hx:=hx.noA;obtain⟨b,rfl⟩:=hx.shape;have hmlt:m<w.heap.size:=(Array.getElem?_eq_some_iff.1 hm).1;obtain⟨_,eb,hxn,_⟩:=id hx;cases eb;have hn0:x.num≠0:=fun h=>h0 (Rat.num_eq_zero.1 h)
 have HM:=hid (And.intro hm hC);clear hm hC
 go_enter func119,Tryz.ntmps119
 go_wp2_with fail
 refine Qat [(.lit,[]),(.lit,[]),(.val,[]),(.lit,[]),(.lit,[]),(.lit,[])]
  (Qfv [(2,Qce x.den)]) (by kernel_rfl) ?_ ?_ (by simp) (by simp) (by kernel_rfl)
 .exact Qbc (by simp[Qce.keeps])
 .repeat (refine⟨_,fun f w1 h1=>by go_simp;rfl,?_⟩)
  simp only[Act.put,nrA,nrB,nrC,Nat.reduceAdd];refine⟨fun f w1 A1 h1 hA hN hd K hK=>by
   go_simp
   refine(Qfu x _ A1 w1 (Qdp (Qbl.keeps _) hx h1 hN) hA).mono ?_;rintro e w' ⟨v,rfl,hb,hi⟩;exact hK _ _ hb hi,?_⟩
  repeat (refine⟨_,fun f w1 h1=>by go_simp;rfl,?_⟩)
  intro f w1 h1 hF;have i1:Qce x.den (f 2) w1 NoA:=hF.2;clear hF;simp only[Act.put,nrA,nrB,nrC];generalize f 2=v2 at *
  have hbw:Below w.heap.size w w1:=br.drew.trans h1;have hS:=Qfb m C _ _ hn0 _ _ NoA w1 ((h1.block m hmlt).trans HM.out.1) hC4 HM.out.2 i1 (hxn.below hbw) (by have:=hlx.2;simp;omega) (by have:=hlx.1;omega);rw[Qlw] at hS;have HS:=hid hS;clear hS i1 hx hxn
  go_wp2_with (go_at_call 188;refine HS.out.mono ?_;rintro e w' ⟨rfl,hp⟩)
  go_ret
  exact⟨rfl,hp.below hbw⟩
def Kkl{m:Nat}{C:Array Value}{q:Rat}{W:World}{nb:Bool}{p1 p2:Option Addr}{n1 c1 n2 c2:Nat}(hm:W.heap[m]?=some (.cells C 180 (0,0)))(hC4:C.size=4)(hC:NoW (.cells C 180 (0,0)))(hnb:nb=decide (q.num<0))(h1:WSl W (.slice p1 n1 c1) (Qad q.num.natAbs))(h2:WSl W (.slice p2 n2 c2) (Qad q.den)) :
  Qml m q W ((((W.setCell ⟨m,0,none⟩ (.bool nb)).setCell ⟨m,1,none⟩ (.slice p1 n1 c1)).setCell ⟨m,2,none⟩ (.bool false)).setCell ⟨m,3,none⟩ (.slice p2 n2 c2)):=by
 have hmod:Mod m W ((((W.setCell ⟨m,0,none⟩ (.bool nb)).setCell ⟨m,1,none⟩ (.slice p1 n1 c1)).setCell ⟨m,2,none⟩ (.bool false)).setCell ⟨m,3,none⟩ (.slice p2 n2 c2)):=(((((Mod.refl m W).setCell 0 _).setCell 1 _).setCell 2 _).setCell 3 _)
 obtain⟨x0,x1,x2,x3,rfl⟩:∃ x0 x1 x2 x3,C=#[x0,x1,x2,x3]:=by
  obtain⟨l⟩:=C
  match l,hC4 with
  | [x0,x1,x2,x3],_=>exact⟨x0,x1,x2,x3,rfl⟩
 refine⟨hmod,.slice p1 n1 c1,.slice p2 n2 c2,?_,WSl.mod h1 hmod hm hC,WSl.mod h2 hmod hm hC⟩;rw[<-hnb];exact Qdd (i:=3) (Qdd (i:=2) (Qdd (i:=1) (Qdd (i:=0) hm)))
def Qml.drewN{m:Nat}{q:Rat}{w w':World}(h:Qml m q w w')(n:Nat):Qml m q w (w'.drewN n):=⟨h.1.drewN n,h.2⟩
def Qwf{w:World}{m:Nat}{C:Array Value}{T:TypeId}(hm:w.heap[m]?=some (.cells C T (0,0)))(hC4:C.size=4):∃ x0 x1 x2 x3,w.cell? ⟨m,0,none⟩=some x0/\w.cell? ⟨m,1,none⟩=some x1/\w.cell? ⟨m,2,none⟩=some x2/\w.cell? ⟨m,3,none⟩=some x3/\w.frozen? ⟨m,0,none⟩=false/\w.frozen? ⟨m,1,none⟩=false/\w.frozen? ⟨m,2,none⟩=false/\w.frozen? ⟨m,3,none⟩=false:=by
 obtain⟨x0,x1,x2,x3,rfl⟩:∃ x0 x1 x2 x3,C=#[x0,x1,x2,x3]:=by
  obtain⟨l⟩:=C
  match l,hC4 with
  | [x0,x1,x2,x3],_=>exact⟨x0,x1,x2,x3,rfl⟩
 refine⟨x0,x1,x2,x3,?_⟩;simp[World.cell?,World.frozen?,hm]
def Kxx(m:Nat)(C:Array Value)(x:Rat)(vx:Value)(A:Nat->Prop)(w:World)(hm:w.heap[m]?=some (.cells C 180 (0,0)))(hC4:C.size=4)(hC:NoW (.cells C 180 (0,0)))(hx:Qbl x vx w A)(hlx:RL x 137438953472) :
  Calls prog 194 #[.pointer (some ⟨m,0,none⟩),vx] w fun e w'=>e=.returned (.pointer (some ⟨m,0,none⟩))/\Qml m x w w':=by
 have hx:=hx.noA;obtain⟨b,rfl⟩:=hx.shape;have hmlt:m<w.heap.size:=(Array.getElem?_eq_some_iff.1 hm).1;obtain⟨_,eb,hxn,_⟩:=id hx;cases eb;have hal:Below w.heap.size w (w.alloc (.cells #[.bool false,.slice none 0 0] 178)):=br.alloc lr _;have HS1:=hid (Qnf w.heap.size 0 _ _ x.num _ NoA _ (heap_alloc_new w (.cells #[.bool false,.slice none 0 0] 178)) (by decide) Qbh (hxn.below hal) (by have:=hlx.1;omega));have HM:=hid (And.intro hm (And.intro hC hx));have hld:(Qad (x.den:Int).natAbs).length<274877906944:=by have:=hlx.2;simp;omega
 clear hm hC hx hxn hal
 go_enter func194,Tryz.ntmps194
 go_wp2_with fail
 refine HS1.out.mono ?_;rintro e w1 ⟨rfl,hp1⟩;have hn1:Kbh x.num (.pointer (some ⟨w.heap.size,0,none⟩)) w w1:=hp1.new (by decide);have hal:Below w1.heap.size w1 (w1.alloc (.cells #[.bool false,.slice none 0 0] 178)):=br.alloc lr _;have HD:=hid (Qfu x _ NoA _ ((HM.out.2.2.below hn1.1).below hal) (Qbu _));clear hal HS1
 go_wp2_with fail
 refine HD.out.mono ?_;rintro e w2 ⟨vd,rfl,hb2,hi2⟩;have hm2:w2.heap[w1.heap.size]?=some (.cells #[.bool false,.slice none 0 0] 178 (0,0)):=(hb2.block _ (by simp)).trans (heap_alloc_new w1 _);have HS2:=hid (Qnf w1.heap.size 0 _ _ x.den vd NoA w2 hm2 (by decide) Qbh hi2 hld);clear hm2 hi2 HD
 go_wp2_with fail
 refine HS2.out.mono ?_;rintro e w3 ⟨rfl,hp3⟩;have hn3:Kbh x.den (.pointer (some ⟨w1.heap.size,0,none⟩)) w1 w3:=(hp3.below hb2).new (by decide);have hb3:Below w.heap.size w w3:=hn1.1.trans (hn3.1.mono hn1.1.size);obtain⟨p1,n1,c1,b1,e1,e2,e3⟩:=((hn1.2 NoA (Qbu _)).below hn3.1).cells;obtain⟨p2,n2,c2,b2,e4,e5,e6⟩:=(hn3.2 NoA (Qbu _)).cells;have hm3:=(hb3.block m hmlt).trans HM.out.1;have hne1:w.heap.size≠m:=by omega
 have hne2:w1.heap.size≠m:=by have:=hn1.1.size;omega
 have hd0:decide ((x.den:Int)<0)=false:=by simp
 rw[hd0] at e4;obtain⟨nb,hnb⟩:∃ nb,nb=decide (x.num<0):=⟨_,rfl⟩
 rw[<-hnb] at e1;obtain⟨x0,x1,x2,x3,f0,f1,f2,f3,g0,g1,g2,g3⟩:=Qwf hm3 hC4;have HW:=hid (And.intro hb3 (And.intro hm3 (And.intro e3 (And.intro e6 hnb))));clear hn1 hn3 hp1 hp3 hb2 hb3 hm3 e3 e6 hd0 hnb HS2
 go_wp2_with fail
 go_region
 go_wp2
 go_ret
 have h5:=Kkl HW.out.2.1 hC4 HM.out.2.1 HW.out.2.2.2.2 HW.out.2.2.1 (by have:=HW.out.2.2.2.1;simpa using this);exact⟨rfl,(h5.drewN 1).below HW.out.1⟩
def Qxr(m:Nat)(C:Array Value)(x:Rat)(vx:Value)(A:Nat->Prop)(w:World)(hm:w.heap[m]?=some (.cells C 180 (0,0)))(hC4:C.size=4)(hC:NoW (.cells C 180 (0,0)))(hx:Qbl x vx w A)(hlx:RL x 137438953472) :
  Calls prog 110 #[.pointer (some ⟨m,0,none⟩),vx] w fun e w'=>e=.returned (.pointer (some ⟨m,0,none⟩))/\Qml m (-x) w w':=by
 have HS:=hid (Kxx m C x vx A w hm hC4 hC hx hlx);obtain⟨b,rfl⟩:=hx.shape;have hmlt:m<w.heap.size:=(Array.getElem?_eq_some_iff.1 hm).1;clear hm hC hx
 go_enter func110,Tryz.ntmps110
 go_wp2_with fail
 refine HS.out.mono ?_;rintro e w1 ⟨rfl,hp⟩;obtain⟨hmod,s1,s2,h2,h3,h4⟩:=id hp;obtain⟨p2,c2,rfl,_⟩:=id h4;obtain⟨p1,c1,rfl,_⟩:=id h3;have hx1:=(hp.ratP (Qbu _)).noA;obtain⟨_,eb,hxn,_⟩:=hx1;cases eb;have hnw:NoW (.cells #[.bool (decide (x.num<0)),.slice p1 (Qad x.num.natAbs).length c1,.bool false,.slice p2 (Qad x.den).length c2] 180 (0,0)):=by
  intro cs T fr e i k x;cases e;rcases i with _|_|_|_|i<;>simp
 have hmlt1:m<w1.heap.size:=(Array.getElem?_eq_some_iff.1 h2).1;have HW:=hid (And.intro hmod (And.intro h2 (And.intro h4 (And.intro hnw hxn))));clear hp hmod h2 h3 h4 hnw hxn HS
 go_wp2_with fail
 refine Qat [(.lit,[]),(.lit,[]),(.lit,[]),(.lit,[]),(.lit,[]),(.lit,[])] (Qfv []) (by kernel_rfl) ?_ ?_ (by simp) (by simp) (by kernel_rfl)
 .exact Qbc (by simp)
 .repeat (refine⟨_,fun f w1 h1=>by go_simp;rfl,?_⟩)
  intro f w2 h2 _;simp only[Act.put,nrA,nrB,nrC];have hbw:Below w1.heap.size w1 w2:=br.drew.trans h2;have hN:=Qxp m 0 _ _ x.num _ NoA w2 ((hbw.block m hmlt1).trans HW.out.2.1) (by simp) HW.out.2.2.2.1 (HW.out.2.2.2.2.below hbw) (by have:=hlx.1;omega);have HN:=hid hN;clear hN
  go_wp2_with (go_at_call 195;refine HN.out.mono ?_;rintro e w' ⟨rfl,hp⟩)
  go_ret
  obtain⟨hm3,sl,h5,h6⟩:=hp;refine⟨rfl,(HW.out.1.trans (Mod.of_below hbw)).trans hm3,sl,.slice p2 (Qad x.den).length c2,?_,?_,?_⟩
  .rw[h5,Rat.neg_num];simp
  .rw[Rat.neg_num];exact h6
  .rw[Rat.neg_den];exact WSl.mod (HW.out.2.2.1.below hbw) hm3 ((hbw.block m hmlt1).trans HW.out.2.1) HW.out.2.2.2.1
def Kfc (m : Nat) (C : Array Value) (x : Int) (vx : Value) (A : Nat -> Prop) (w : World) (hm : w.heap[m]? = some (.cells C 180 (0,0))) (hC4 : C.size = 4) (hC : NoW (.cells C 180 (0,0))) (hx : Qce x vx w A) (hlx : (Qad x.natAbs).length < 274877906944) :
    Calls prog 243 #[.pointer (some ⟨m,0,none⟩),vx] w fun e w'=>e=.returned (.pointer (some ⟨m,0,none⟩))/\Qml m (x:Rat) w w':=by
  have hx:=hx.noA;obtain⟨b,o,rfl⟩:=hx.shape;have hmlt:m<w.heap.size:=(Array.getElem?_eq_some_iff.1 hm).1;have HM:=hid (And.intro hm (And.intro hC hx));obtain⟨x0,x1,x2,x3,f0,f1,f2,f3,g0,g1,g2,g3⟩:=Qwf hm hC4;obtain⟨nb,hnb⟩:∃ nb,nb=decide (x<0):=⟨_,rfl⟩
  have HNB:=hid hnb;clear hnb;clear hm hC hx
  go_enter func243,Tryz.ntmps243
  go_wp2_with fail
  have hm0:((w.alloc (.cells #[.bool false,.slice none 0 0] 178)).drew).heap[w.heap.size]?=some (.cells #[.bool false,.slice none 0 0] 178 (0,0)):=heap_alloc_new w _;have hS0:=Qnf w.heap.size 0 _ _ x _ NoA ((w.alloc (.cells #[.bool false,.slice none 0 0] 178)).drew) hm0 (by decide) Qbh (HM.out.2.2.below ((br.alloc lr _).drew)) hlx;have HS0:=hid hS0;have HN0:=hid (fun w=>Qhx 1 (by decide) (by decide) w);clear hS0 hm0
  go_region_with (first
    | (go_at_call 216
       refine HS0.out.mono ?_;rintro e w1 ⟨rfl,hp1⟩;have hn1:Kbh x (.pointer (some ⟨w.heap.size,0,none⟩)) w w1:=(hp1.below (w:=w.alloc (.cells #[.bool false,.slice none 0 0] 178)) br.drew).new (by decide);have f0:=(hn1.1.cell (p:=⟨m,0,none⟩) hmlt).trans f0;have f1:=(hn1.1.cell (p:=⟨m,1,none⟩) hmlt).trans f1;have f2:=(hn1.1.cell (p:=⟨m,2,none⟩) hmlt).trans f2;have f3:=(hn1.1.cell (p:=⟨m,3,none⟩) hmlt).trans f3;have g0:=(hn1.1.frozen (p:=⟨m,0,none⟩) hmlt).trans g0;have g1:=(hn1.1.frozen (p:=⟨m,1,none⟩) hmlt).trans g1;have g2:=(hn1.1.frozen (p:=⟨m,2,none⟩) hmlt).trans g2;have g3:=(hn1.1.frozen (p:=⟨m,3,none⟩) hmlt).trans g3;obtain⟨p1,n1,c1,b1,e1,e2,e3⟩:=(hn1.2 NoA (Qbu _)).cells;rw[<-HNB.out] at e1;have H1:=hid (And.intro hn1 e3);clear hn1 hp1 e3)
    | (go_at_call 228
       refine(HN0.out _).mono ?_;rintro e w2 ⟨v2,rfl,hn2⟩;have hmlt1:m<w1.heap.size:=Nat.lt_of_lt_of_le hmlt H1.out.1.1.size;have f0:=(hn2.1.cell (p:=⟨m,0,none⟩) hmlt1).trans f0;have f1:=(hn2.1.cell (p:=⟨m,1,none⟩) hmlt1).trans f1;have f2:=(hn2.1.cell (p:=⟨m,2,none⟩) hmlt1).trans f2;have f3:=(hn2.1.cell (p:=⟨m,3,none⟩) hmlt1).trans f3;have g0:=(hn2.1.frozen (p:=⟨m,0,none⟩) hmlt1).trans g0;have g1:=(hn2.1.frozen (p:=⟨m,1,none⟩) hmlt1).trans g1;have g2:=(hn2.1.frozen (p:=⟨m,2,none⟩) hmlt1).trans g2;have g3:=(hn2.1.frozen (p:=⟨m,3,none⟩) hmlt1).trans g3;have e1:=(hn2.1.cell (p:=⟨w.heap.size,0,none⟩) b1).trans e1;have e2:=(hn2.1.cell (p:=⟨w.heap.size,1,none⟩) b1).trans e2;obtain⟨b3,o3,rfl⟩:=(hn2.2 NoA (Qbu _)).shape;obtain⟨p2,n2,c2,b2,e4,e5,e6⟩:=(hn2.2 NoA (Qbu _)).cells;rw[show decide ((1:Int)<0)=false from rfl] at e4;have H2:=hid (And.intro hn2 e6);clear hn2 e6))
  all_goals
    go_wp2
    go_ret
    have hbw:Below w.heap.size w w2:=H1.out.1.1.trans (H2.out.1.1.mono H1.out.1.1.size);have h5:=Kkl (nb:=nb) (q:=(x:Rat)) ((hbw.block m hmlt).trans HM.out.1) hC4 HM.out.2.1 (by rw[Rat.num_intCast];exact HNB.out) (by rw[Rat.num_intCast];exact H1.out.2.below H2.out.1.1) (by rw[Rat.den_intCast];exact H2.out.2);exact⟨rfl,h5.below hbw⟩
def Qxs(m:Nat)(C:Array Value)(n:Int)(h0:-9223372036854775808<=n)(h1:n<9223372036854775808)(w:World)(hm:w.heap[m]?=some (.cells C 180 (0,0)))(hC4:C.size=4)(hC:NoW (.cells C 180 (0,0))) :
  Calls prog 219 #[.pointer (some ⟨m,0,none⟩),.int .i64 n] w fun e w'=>e=.returned (.pointer (some ⟨m,0,none⟩))/\Qml m (n:Rat) w w':=by
 have hmlt:m<w.heap.size:=(Array.getElem?_eq_some_iff.1 hm).1;have HN:=hid (Qhx n h0 h1 w);have HM:=hid (And.intro hm hC);have hln:(Qad n.natAbs).length<274877906944:=Nat.lt_of_le_of_lt (Qak (k:=2) (by omega)) (by decide);clear hm hC
 go_enter func219,Tryz.ntmps219
 go_wp2_with fail
 refine HN.out.mono ?_;rintro e w1 ⟨v,rfl,hn⟩;have HS:=hid (Kfc m C n v NoA w1 ((hn.1.block m hmlt).trans HM.out.1) hC4 HM.out.2 (hn.2 NoA (Qbu _)) hln)
 go_wp2_with (go_at_call 243;refine HS.out.mono ?_;rintro e w' ⟨rfl,hp⟩)
 go_ret
 exact⟨rfl,hp.below hn.1⟩
def Uch(q:Rat)(v:Value)(w w':World):Prop:=Below w.heap.size w w'/\∀ A,Rcv A w->Qbl q v w' A
def Qbl.wider{q:Rat}{v:Value}{w:World}{A A':Nat->Prop}(h:Qbl q v w A)(hA:∀ b,A' b->A b):Qbl q v w A' :=
 Qbl.keeps q v w w A A' lr (fun b _ hna=>⟨rfl,fun h=>hna (hA b h)⟩) h
def Qml.new{q:Rat}{w w':World}{ob:Obj}(h:Qml w.heap.size q (w.alloc ob) w'):Uch q (.pointer (some ⟨w.heap.size,0,none⟩)) w w':=by
 refine⟨Qhi h.1,fun A hA=>?_⟩;have hA':Rcv A (w.alloc ob):=hA.below (br.alloc lr _);exact(h.ratP hA').wider fun b hb=>⟨hb,fun e=>by have:=hA.lt hb;omega⟩
def Uch.of_below{q:Rat}{v:Value}{w w1 w':World}(h:Uch q v w1 w')(hb:Below w.heap.size w w1):Uch q v w w':=⟨hb.trans (h.1.mono hb.size),fun A hA=>h.2 A (hA.below hb)⟩
abbrev zR:Obj:=.cells #[.bool false,.slice none 0 0,.bool false,.slice none 0 0] 180 (0,0)
