/- Laws. -/
import Derived.Test.YtcjjdooeogmdbaaGreatVar
set_option linter.all false
set_option maxHeartbeats 4000000
set_option maxRecDepth 100000
open Go.Lib (hid)
namespace Go.Proofs.YtcjjdooeogmdbaaGreat
open Go.RowKit Tr Proofs.Tryz
def Qfh(z:Int):Value:=.agg #[.bool (decide (z<0)),.string (Qcj z.natAbs)]
def Qgf(q:Rat):Value:=.agg #[.bool (decide (q.num<0)),.string (Qcj q.num.natAbs),.bool false,.string (Qcj q.den)]
def Qlc(neg:Bool)(s:ByteArray):Prop:=(s.size=0->neg=false)/\Qsc s
def Qgw{s:ByteArray}(h:Qsc s):Qgm s=0↔s.size=0:=by
 rw[<-Qts h,Qdq,Qgg];constructor
 .intro h0;rw[h0,Qdg];rfl
 .intro h0;have:=List.eq_nil_of_length_eq_zero h0;rcases Nat.eq_zero_or_pos (Qgm s) with h1|h1
  .exact h1
  .rw[Qef (by omega)] at this;cases this
def Qlc.enc{neg:Bool}{s:ByteArray}(h:Qlc neg s):Value.agg #[.bool neg,.string s]=Qfh (sgn neg (Qgm s)):=by
 unfold Qfh;rw[Qck,Qts h.2,Qlp];have:(neg&&decide (Qgm s≠0))=neg:=by
  cases hn:neg
  .rfl
  .have:s.size≠0:=fun h0=>by have:=h.1 h0;rw[hn] at this;cases this
   have h2:Qgm s≠0:=fun h0=>this ((Qgw h.2).1 h0)
   simp[h2]
 rw[this]
def Qsg(w:World)(e:TypeId)(s:ByteArray):Below w.heap.size w (Lib.bytesWorld w e s):=by
 refine⟨?_,?_,?_,?_,fun k hk=>Lib.bytesWorld_at_old w e s k hk⟩
 .simp[Lib.bytesWorld,World.freeze,World.alloc,World.drew,-World.alloc_eq,-World.drew_eq]
 .simp[Lib.bytesWorld,World.freeze,World.alloc,World.drew,-World.alloc_eq,-World.drew_eq]
 .simp[Lib.bytesWorld,World.freeze,World.alloc,World.drew,-World.alloc_eq,-World.drew_eq]
 .rw[Lib.bytesWorld_size];omega
def Kbl(w:World)(s:ByteArray):BSl (Lib.bytesWorld w 5 s) (.slice (some ⟨w.heap.size,0,none⟩) s.size (grownCap w s.size 0 5)) s:=by
 refine⟨w.heap.size,0,_,rfl,by rw[Lib.bytesWorld_size];omega,fun i hi=>?_⟩;rw[Nat.zero_add,Lib.bytesWorld_cell w _ s i hi];simp[List.getD,hi];rfl
def Put.newAt{m o:Nat}{C:Array Value}{T:TypeId}{z:Int}{w w1 w':World}(h:Put m o C T z w1 w')(ho:o+1<C.size)(hb:Below w.heap.size w w1)(hm:w.heap.size<=m):Kbh z (.pointer (some ⟨m,o,none⟩)) w w':=by
 refine⟨hb.trans (h.1.below hm hb.size),fun A hA=>?_⟩;exact(h.intP ho (hA.below hb)).wider fun b hb'=>⟨hb',fun e=>by have:=hA.lt hb';omega⟩
def Qml.newAt{m:Nat}{q:Rat}{w w1 w':World}(h:Qml m q w1 w')(hb:Below w.heap.size w w1)(hm:w.heap.size<=m):Uch q (.pointer (some ⟨m,0,none⟩)) w w':=by
 refine⟨hb.trans (h.1.below hm hb.size),fun A hA=>?_⟩;exact(h.ratP (hA.below hb)).wider fun b hb'=>⟨hb',fun e=>by have:=hA.lt hb';omega⟩
def Qwr(neg:Bool)(s:ByteArray)(hs:s.size<274877906944)(w:World) :
  Calls prog 242 #[.agg #[.bool neg,.string s]] w fun e w'=>∃ v,e=.returned v/\Kbh (sgn neg (Qgm s)) v w w':=by
 have kc:=fun w=>Lib.run_convert_string_bytes (P:=prog) w 9 220 5 s Tryz.underlying9 Tryz.underlying220 Tryz.underlying5
 have hlen:(Qad (Qgm s)).length<274877906944:=Nat.lt_of_le_of_lt (Qak (k:=s.size) (Nat.lt_of_lt_of_le (Qmz s) (Nat.pow_le_pow_left (by decide) _))) hs;have HL:=hid hlen;clear hlen
 go_enter func242,Tryz.ntmps242
 go_wp2_with fail
 clear kc;obtain⟨W,hW⟩:∃ W,W=(w.alloc (.cells #[.bool neg,.string s] 24)).alloc (.cells #[.bool false,.slice none 0 0] 178):=⟨_,rfl⟩
 have hBW:Below w.heap.size w W:=by rw[hW];exact(br.alloc lr _).alloc (by simp) _
 have hsz:w.heap.size+1+1=W.heap.size:=by rw[hW];simp
 have hm:W.heap[w.heap.size+1]?=some (.cells #[.bool false,.slice none 0 0] 178 (0,0)):=by
  rw[hW];have:=heap_alloc_new (w.alloc (.cells #[.bool neg,.string s] 24)) (.cells #[.bool false,.slice none 0 0] 178);simpa using this
 have hc:W.cell? ⟨w.heap.size,0,none⟩=some (.bool neg):=by
  rw[hW];simp[go_sem]
 rw[<-hW,hsz];have hb1:=Qsg W 5 s;have hb2:Below w.heap.size w (Lib.bytesWorld W 5 s):=hBW.trans (hb1.mono hBW.size);have hm2:=(hb1.block _ (by omega)).trans hm;have hc2:=(hb1.cell (p:=⟨w.heap.size,0,none⟩) (by show w.heap.size<_;omega)).trans hc;have HS:=hid (Qqv (w.heap.size+1) 0 _ _ s _ rfl _ _ hm2 (by decide) Qbh (Kbl W s) hs);have HB:=hid hb2;have hlt:w.heap.size<(Lib.bytesWorld W 5 s).heap.size:=by rw[Lib.bytesWorld_size];omega
 clear hW hBW hm hc hb1 hm2 hb2 hsz;refine HS.out.mono ?_;rintro e w1 ⟨rfl,hp⟩;have hc1:=(World.cell?_of_block (w:=Lib.bytesWorld W 5 s) (a:=⟨w.heap.size,0,none⟩) (hp.1.block w.heap.size hlt (by omega))).trans hc2;clear HS hc2;cases neg
 .go_wp2
  go_ret
  exact⟨_,rfl,hp.newAt (by decide) HB.out (by omega)⟩
 .obtain⟨C1,hm3,hs3,hn3⟩:=Qzl hp;have hin:=(hp.intP (by decide) (Qbu _)).noA;have HN:=hid (Qxp (w.heap.size+1) 0 C1 _ _ _ NoA w1 hm3 (by rw[hs3];decide) (hn3 Qbh) hin (by simpa using HL.out));have HP:=hid hp;have H3:=hid hs3;clear hm3 hin hn3 hp hs3
  go_wp2_with fail
  refine HN.out.mono ?_;rintro e w2 ⟨rfl,hp2⟩
  go_wp2_with fail
  go_ret
  refine⟨_,rfl,hp2.newAt (by rw[H3.out];decide) (HB.out.trans (HP.out.1.below (by omega) (by omega))) (by omega)⟩
def Qvx(neg:Bool)(s:ByteArray)(hs:s.size<274877906944)(w:World) :
  Calls prog 187 #[.agg #[.bool neg,.string s]] w fun e w'=>∃ v,e=.returned v/\Kbh (sgn neg (Qgm s)) v w w':=by
 have kc:=fun w=>Lib.run_convert_string_bytes (P:=prog) w 9 220 5 s Tryz.underlying9 Tryz.underlying220 Tryz.underlying5
 have hlen:(Qad (Qgm s)).length<274877906944:=Nat.lt_of_le_of_lt (Qak (k:=s.size) (Nat.lt_of_lt_of_le (Qmz s) (Nat.pow_le_pow_left (by decide) _))) hs;have HL:=hid hlen;clear hlen
 go_enter func187,Tryz.ntmps187
 go_wp2_with fail
 clear kc;obtain⟨W,hW⟩:∃ W,W=(w.alloc (.cells #[.bool neg,.string s] 24)).alloc (.cells #[.bool false,.slice none 0 0] 178):=⟨_,rfl⟩
 have hBW:Below w.heap.size w W:=by rw[hW];exact(br.alloc lr _).alloc (by simp) _
 have hsz:w.heap.size+1+1=W.heap.size:=by rw[hW];simp
 have hm:W.heap[w.heap.size+1]?=some (.cells #[.bool false,.slice none 0 0] 178 (0,0)):=by
  rw[hW];have:=heap_alloc_new (w.alloc (.cells #[.bool neg,.string s] 24)) (.cells #[.bool false,.slice none 0 0] 178);simpa using this
 have hc:W.cell? ⟨w.heap.size,0,none⟩=some (.bool neg):=by
  rw[hW];simp[go_sem]
 rw[<-hW,hsz];have hb1:=Qsg W 5 s;have hb2:Below w.heap.size w (Lib.bytesWorld W 5 s):=hBW.trans (hb1.mono hBW.size);have hm2:=(hb1.block _ (by omega)).trans hm;have hc2:=(hb1.cell (p:=⟨w.heap.size,0,none⟩) (by show w.heap.size<_;omega)).trans hc;have HS:=hid (Qqv (w.heap.size+1) 0 _ _ s _ rfl _ _ hm2 (by decide) Qbh (Kbl W s) hs);have HB:=hid hb2;have hlt:w.heap.size<(Lib.bytesWorld W 5 s).heap.size:=by rw[Lib.bytesWorld_size];omega
 clear hW hBW hm hc hb1 hm2 hb2 hsz;refine HS.out.mono ?_;rintro e w1 ⟨rfl,hp⟩;have hc1:=(World.cell?_of_block (w:=Lib.bytesWorld W 5 s) (a:=⟨w.heap.size,0,none⟩) (hp.1.block w.heap.size hlt (by omega))).trans hc2;clear HS hc2;cases neg
 .go_wp2
  go_ret
  exact⟨_,rfl,hp.newAt (by decide) HB.out (by omega)⟩
 .obtain⟨C1,hm3,hs3,hn3⟩:=Qzl hp;have hin:=(hp.intP (by decide) (Qbu _)).noA;have HN:=hid (Qxp (w.heap.size+1) 0 C1 _ _ _ NoA w1 hm3 (by rw[hs3];decide) (hn3 Qbh) hin (by simpa using HL.out));have HP:=hid hp;have H3:=hid hs3;clear hm3 hin hn3 hp hs3
  go_wp2_with fail
  refine HN.out.mono ?_;rintro e w2 ⟨rfl,hp2⟩
  go_wp2_with fail
  go_ret
  refine⟨_,rfl,hp2.newAt (by rw[H3.out];decide) (HB.out.trans (HP.out.1.below (by omega) (by omega))) (by omega)⟩
def Qce.avoid{z:Int}{b o:Nat}{w:World}{A:Nat->Prop}(h:Qce z (.pointer (some ⟨b,o,none⟩)) w NoA)(hA:Rcv A w)(hb:¬A b):Qce z (.pointer (some ⟨b,o,none⟩)) w A:=by
 obtain⟨b',o',sl,e,h1,_,h3,h4,h5⟩:=h;cases e;exact⟨b,o,sl,rfl,h1,hb,h3,h4,h5.wsl.avoids hA⟩
def Qbl.avoid{q:Rat}{m:Nat}{w:World}{A:Nat->Prop}(h:Qbl q (.pointer (some ⟨m,0,none⟩)) w NoA)(hA:Rcv A w)(hm:¬A m):Qbl q (.pointer (some ⟨m,0,none⟩)) w A:=by
 obtain⟨b,e,h1,h2⟩:=h;cases e;exact⟨m,rfl,h1.avoid hA hm,h2.imp (fun h=>h.avoid hA hm) (fun h=>⟨h.1,h.2.avoid hA hm⟩)⟩
def Kya(base:Nat)(q:Rat):Qcp:=fun v w A=>∃ m,v=.pointer (some ⟨m,0,none⟩)/\base<=m/\Qbl q v w A
def Kya.keeps(base:Nat)(q:Rat):(Kya base q).Keeps:=by
 intro v w w' A A' hs hk ⟨m,h1,h2,h3⟩;exact⟨m,h1,h2,Qbl.keeps q v w w' A A' hs hk h3⟩
def Qml.ratM{m base:Nat}{q:Rat}{w w':World}(h:Qml m q w w')(hm:base<=m){A:Nat->Prop}(hA:Rcv A w):Kya base q (.pointer (some ⟨m,0,none⟩)) w' (fun b=>A b/\b≠m):=⟨m,rfl,hm,h.ratP hA⟩
def Kya.new{q:Rat}{v:Value}{w w':World}{base:Nat}(h:Kya base q v w' NoA)(hb:Below w.heap.size w w')(hw:w.heap.size<=base):Uch q v w w':=by
 obtain⟨m,rfl,h2,h3⟩:=h;exact⟨hb,fun A hA=>h3.avoid (hA.below hb) (fun hm=>by have:=hA.lt hm;omega)⟩
end Go.Proofs.YtcjjdooeogmdbaaGreat
namespace Tr
def Kgr{s:ByteArray}{l:List Nat}(hl:l.length=(s.size+3)/4)(ol:WOk l)(hv:wv l=Qgm s)(hn:Qsc s):l=Qad (Qgm s):=by
 rcases Nat.eq_zero_or_pos s.size with h0|h0
 .have h1:l=[]:=List.eq_nil_of_length_eq_zero (by omega);subst h1;rw[<-hv,Kvr,Qax]
 .have hge:256^(s.size-1)<=Qgm s:=by
   rcases Nat.lt_or_ge (Qgm s) (256^(s.size-1)) with h|h
   .have h1:=Qjj h;have h2:(Qec (Qgm s)).length=s.size:=by rw[<-Qgg,Qts hn]
    omega
   .exact h
  have hgt:(s.size-1)/4<(Qad (Qgm s)).length:=by
   refine Qtz (Nat.le_trans ?_ hge);rw[show(4294967296:Nat)=256^4 by decide,<-Nat.pow_mul];exact Nat.pow_le_pow_right (by decide) (by omega)
  have h3:=Qxi ol;rw[hv,List.take_of_length_le (by omega)] at h3;exact h3.symm
end Tr
namespace Go.Proofs.YtcjjdooeogmdbaaGreat
open Go.RowKit Tr Proofs.Tryz
def Kou(s:ByteArray)(n:Nat)(hn:s.size=n)(w:World)(hs:n<274877906944) :
  Calls prog 209 #[.string s] w fun e w'=>∃ v l,e=.returned v/\WSl w' v l/\WOk l/\wv l=Qgm s/\l.length=(n+3)/4/\Below w.heap.size w w':=by
 have HL:=hid (Qlx s);have HN:=hid hn;obtain⟨M,hM⟩:∃ M,(n+3)/4=M:=⟨_,rfl⟩
 have e1:((n:Int)+3)/4=(M:Int):=by omega
 have hmk:=Qhs M (by omega);have HMM:=hid hM;have hlen:(s.size:Int)=(n:Int):=by omega
 clear hM hn
 go_enter func209,Tryz.ntmps209
 go_wp2_with fail
 rw[e1]
 go_loopw [4,5] (fun i _ wr=>∃(k:Nat) (cur:List Nat),k<=n/\i=.int .i64 k/\Hid (cur.length=M)/\WOk cur/\Hid (wv cur=bv ((leS s).take k))/\Blk wr w.heap.size cur/\Below w.heap.size w wr) (fun i _ _=>n-(intOf i).toNat)
 case atStart=>exact⟨0,List.replicate M 0,Nat.zero_le _,rfl,hid (by simp),Qbr _,hid (by rw[Qfa];simp[bv]),Blk.new _ _,br.alloc lr _⟩
 case round =>
  obtain⟨k,cur,hk,rfl,hlc,oc,hinv,hblk,hB⟩:=hrel
  by_cases hlt:k<n
  .obtain⟨kq,hkq⟩:∃ kq,kq=k/4:=⟨_,rfl⟩
   obtain⟨kr,hkr⟩:∃ kr,kr=k%4:=⟨_,rfl⟩
   have hkr4:kr<4:=by omega
   have hkM:kq<M:=by have:=HMM.out;omega
   have c0:=hblk.cell (i:=kq) (by have:=hlc.out;omega);have f0:=hblk.frozen kq;obtain⟨kj,hkj⟩:∃ kj,kj=n-1-k:=⟨_,rfl⟩
   have hj:kj<s.size:=by have:=HN.out;omega
   obtain⟨x,hxe⟩:∃ x,x=s[kj].toNat:=⟨_,rfl⟩
   have hx:Hid ((leS s)[k]?=some x):=hid (by have:=Kfw s k (by have:=HN.out;omega);simp only[HN.out,<-hkj] at this;rw[this,hxe]);have hx256:x<256:=by rw[hxe];exact UInt8.toNat_lt _
   have hix:∀ w,(Instr.index 9 (.string s) (.int .i64 (kj:Int))).run prog w=.ok (.int .u8 (x:Int)) w:=fun w=>by
    rw[run_index_string w 9 s .i64 kj Tryz.underlying9,dif_pos ⟨by omega,by omega⟩,hxe];simp
   clear hxe;have hbv:=Ufc (Kik (Qxv s) k);obtain⟨hd1,hd2⟩:=Kdr (x:=x) (i:=k) (by have:=hlc.out;omega) hinv.out (by rw[List.length_take] at hbv;have:=HL.out;have:=HN.out;rwa[Nat.min_eq_left (by omega)] at hbv);rw[<-hkq,<-hkr] at hd1 hd2;obtain⟨y,hy⟩:∃ y,y=wat cur kq:=⟨_,rfl⟩
   rw[show cur[kq]?.getD 0=y from hy.symm] at c0;rw[<-hy] at hd1 hd2;have q1:(k:Int).tdiv 4=(kq:Int):=by rw[Int.tdiv_eq_ediv_of_nonneg (by omega)];omega
   have q2:(k:Int).tmod 4=(kr:Int):=by rw[Int.tmod_eq_emod_of_nonneg (by omega)];omega
   have q1':(k:Int)/4=(kq:Int):=by omega
   have q2':(k:Int)%4=(kr:Int):=by omega
   have q3:(n:Int)-1-(k:Int)=(kj:Int):=by omega
   have q5:(kj:Int)<(n:Int):=by omega
   have q6:(kq:Int)<(M:Int):=by omega
   obtain⟨ks,hks⟩:∃ ks,ks=kr*8:=⟨_,rfl⟩
   have q7:(kr:Int)*8=(ks:Int):=by omega
   have q8:(8:Int)*(kr:Int)=(ks:Int):=by omega
   have q9:ks<32:=by omega
   have w1:IntKind.i64.wrap (kq:Int)=(kq:Int):=IntWalk.i64_in _ (by omega);have w2:IntKind.i64.wrap (kr:Int)=(kr:Int):=IntWalk.i64_in _ (by omega);have w3:IntKind.i64.wrap (ks:Int)=(ks:Int):=IntWalk.i64_in _ (by omega);have w4:IntKind.u32.wrap (x:Int)=(x:Int):=by rw[IntKind.wrap_u32];omega
   have ep:2^ks=256^kr:=by rw[hks,Nat.mul_comm,Nat.pow_mul]
   obtain⟨z,hz⟩:∃ z,z=y+x*2^ks:=⟨_,rfl⟩
   have hpk:2^ks<=2^24:=Nat.pow_le_pow_right (by decide) (by omega);have hxk:x*2^ks<=255*2^24:=Nat.mul_le_mul (by omega) hpk;obtain⟨u,hu⟩:∃ u,u=x*2^ks:=⟨_,rfl⟩
   have w5:IntKind.u32.wrap ((x:Int)*2^ks)=(u:Int):=by
    rw[show(x:Int)*2^ks=(u:Int) by rw[hu];simp,IntKind.wrap_u32];omega
   have w6:(y:Int)+(u:Int)=(z:Int):=by omega
   have hz32:z<4294967296:=by rw[hz];rw[<-ep] at hd1;omega
   have hd2:wv (cur.set kq z)=bv ((leS s).take k)+256^k*x:=by rw[hz,ep];exact hd2
   have hbv2:=Qqk (l:=leS s) (i:=k) (by have:=HL.out;have:=HN.out;omega);have hxg:(leS s)[k]'(by have:=HL.out;have:=HN.out;omega)=x:=by
    have h5:=hx.out;rw[List.getElem?_eq_getElem (by have:=HL.out;have:=HN.out;omega)] at h5;simpa using h5
   rw[hxg,<-hd2] at hbv2;have HV:=hid hbv2.symm;have HKS:=hid hks;clear hks;have HK:=hid (And.intro hkq hkr);clear hd1 hd2 hbv hy hj hkq hkr hkj hz ep hpk hxk hbv2 hxg hu
   go_wp2_with fail
   refine Qhj 18 (by kernel_rfl) (by kernel_rfl) ?_;simp only[List.take_succ_cons,List.take_zero,List.drop_succ_cons,List.drop_zero]
   repeat still_step
   refine wpStill_nil ?_
   go_wp2_with fail
   go_roundw
   case rel=>exact⟨k+1,cur.set kq z,by omega,by go_num,hid (by have:=hlc.out;simpa using this),Qdb oc _ _ hz32,HV,hblk.set _ _,hB.drew.setCell (p:=⟨w.heap.size,kq,none⟩) lr _⟩
   case measure=>simp[intOf];omega
  .obtain rfl:n=k:=by omega
   have hfin:wv cur=Qgm s:=by rw[hinv.out,List.take_of_length_le (by have:=HL.out;have:=HN.out;omega)];rfl
   have HF:=hid hfin;have hW:WSl wr (.slice (some ⟨w.heap.size,0,none⟩) M M) cur:=⟨_,M,by rw[hlc.out],by rw[hlc.out];exact Nat.le_refl _,hblk.row⟩
   clear hfin
   go_wp2
   go_ret
   exact⟨_,cur,rfl,hW,oc,HF.out,by rw[hlc.out,HMM.out],hB⟩
def Kot(n:Nat)(hs:(Qcj n).size<274877906944)(w:World) :
  Calls prog 209 #[.string (Qcj n)] w fun e w'=>∃ v,e=.returned v/\WSl w' v (Qad n)/\Below w.heap.size w w':=by
 refine(Kou (Qcj n) _ rfl w hs).mono ?_;rintro e w' ⟨v,l,rfl,hv,ol,hw,hl,hb⟩;have:=Kgr hl ol hw (Qgl n);rw[Qdq] at this;rw[this] at hv;exact⟨v,rfl,hv,hb⟩
def Qiz(w:World)(v:Value)(s:ByteArray)(h:BSl w v s):(convert 220 9 v).run prog w=.ok (.string s) w:=by
 obtain⟨b,off,cap,rfl,_,hb⟩:=h;exact Lib.run_convert_whole w 220 5 9 Tryz.underlying220 Tryz.underlying5 Tryz.underlying9 b off s hb cap
def Kud(z:Int):decide (z.sign<0)=decide (z<0):=by
 rcases Int.lt_trichotomy z 0 with h|h|h
 .rw[Int.sign_eq_neg_one_of_neg h];simp[h]
 .subst h;rfl
 .rw[Int.sign_eq_one_of_pos h];have:¬z<0:=by omega
  simp[this]
def Qid(w:World)(x y:Value)(T:TypeId){w1:World}(h:Below (w.alloc (.cells #[x,y] T)).heap.size (w.alloc (.cells #[x,y] T)) w1):w1.cell? ⟨w.heap.size,0,none⟩=some x/\w1.cell? ⟨w.heap.size,1,none⟩=some y/\w1.frozen? ⟨w.heap.size,0,none⟩=false/\w1.frozen? ⟨w.heap.size,1,none⟩=false:=by
 have e:=(h.block w.heap.size (by simp)).trans (heap_alloc_new w _);simp[World.cell?,World.frozen?,e]
def Kih(z:Int)(vx:Value)(A:Nat->Prop)(w:World)(hx:Qce z vx w A)(hn:(Qad z.natAbs).length<274877906944) :
  Calls prog 241 #[vx] w fun e w'=>e=.returned (Qfh z)/\Below w.heap.size w w':=by
 have hal:Below w.heap.size w (w.alloc (.cells #[.bool false,.string ⟨#[]⟩] 24)):=br.alloc lr _;obtain⟨sg,hsg⟩:∃ sg,sg=z.sign:=⟨_,rfl⟩
 have HS:=hid (Qxt z vx A _ (hx.below hal));have HB:=hid (Qsa z vx A _ (hx.below hal) hn);rw[<-hsg] at HS;have HG:Hid (decide (sg<0)=decide (z<0)):=hid (by rw[hsg,Kud]);clear hsg hx hal
 go_enter func241,Tryz.ntmps241
 go_wp2_with fail
 refine HS.out.mono ?_;rintro e w0 ⟨rfl,rfl⟩
 go_wp2_with fail
 refine HB.out.mono ?_;rintro e w1 ⟨v,rfl,hv,hb⟩;obtain⟨e0,e1,f0,f1⟩:=Qid w _ _ _ hb;have hr:=Qiz w1 v _ hv;have hbw:Below w.heap.size w w1:=(br.alloc lr _).trans (hb.mono (by simp));obtain⟨st,hst⟩:∃ st,st=Qcj z.natAbs:=⟨_,rfl⟩
 rw[<-hst] at hr;have HST:=hid hst;clear hb hv hst HS HB
 go_wp2_with fail
 refine bodyPost_ret (v:=.agg #[.bool (decide (sg<0)),.string st]) (by simp[results,Tryz.results241,go_sem,e0,e1]) rfl ⟨?_,?_⟩
 .rw[HG.out,HST.out];rfl
 .exact((hbw.setCell (p:=⟨w.heap.size,0,none⟩) lr _).setCell (p:=⟨w.heap.size,1,none⟩) lr _)
def Qgi(w:World)(x y z u:Value)(T:TypeId){w1:World}(h:Below (w.alloc (.cells #[x,y,z,u] T)).heap.size (w.alloc (.cells #[x,y,z,u] T)) w1):w1.cell? ⟨w.heap.size,0,none⟩=some x/\w1.cell? ⟨w.heap.size,1,none⟩=some y/\w1.cell? ⟨w.heap.size,2,none⟩=some z/\w1.cell? ⟨w.heap.size,3,none⟩=some u/\w1.frozen? ⟨w.heap.size,0,none⟩=false/\w1.frozen? ⟨w.heap.size,1,none⟩=false/\w1.frozen? ⟨w.heap.size,2,none⟩=false/\w1.frozen? ⟨w.heap.size,3,none⟩=false:=by
 have e:=(h.block w.heap.size (by simp)).trans (heap_alloc_new w _);simp[World.cell?,World.frozen?,e]
def Klf(q:Rat)(vx:Value)(A:Nat->Prop)(w:World)(hx:Qbl q vx w A)(hl:RL q 137438953472) :
  Calls prog 214 #[vx] w fun e w'=>e=.returned (Qgf q)/\Below w.heap.size w w':=by
 have hal:Below w.heap.size w (w.alloc (.cells #[.bool false,.string ⟨#[]⟩,.bool false,.string ⟨#[]⟩] 26)):=br.alloc lr _;have HX:=hid (hx.below hal);have HN:=hid (Qxq q vx A _ HX.out hl);have hln:(Qad q.num.natAbs).length<274877906944:=by have:=hl.1;omega
 have hld:(Qad (q.den:Int).natAbs).length<274877906944:=by have:=hl.2;simp;omega
 clear hx hal
 go_enter func214,Tryz.ntmps214
 go_wp2_with fail
 refine HN.out.mono ?_;rintro e w1 ⟨v1,rfl,hn1⟩;have HK:=hid (Kih q.num v1 NoA w1 (hn1.2 NoA (Qbu _)) hln)
 go_wp2_with fail
 refine HK.out.mono ?_;rintro e w2 ⟨rfl,hb2⟩;have HD:=hid (Qnp q vx A w2 ((HX.out.below hn1.1).below hb2) hl)
 go_wp2_with fail
 refine HD.out.mono ?_;rintro e w3 ⟨v3,rfl,hn3⟩;have HK2:=hid (Kih q.den v3 NoA w3 (hn3.2 NoA (Qbu _)) hld)
 go_wp2_with fail
 refine HK2.out.mono ?_;rintro e w4 ⟨rfl,hb4⟩;have hb13:=hn1.1.trans ((hb2.trans ((hn3.1.trans (hb4.mono hn3.1.size)).mono hb2.size)).mono hn1.1.size);obtain⟨e0,e1,e2,e3,f0,f1,f2,f3⟩:=Qgi w _ _ _ _ _ hb13;have hbw:Below w.heap.size w w4:=(br.alloc lr _).trans (hb13.mono (by simp));obtain⟨b1,hb1⟩:∃ b1,b1=decide (q.num<0):=⟨_,rfl⟩
 obtain⟨b2,hb2'⟩:∃ b2,b2=decide ((q.den:Int)<0):=⟨_,rfl⟩
 obtain⟨s1,hs1⟩:∃ s1,s1=Qcj q.num.natAbs:=⟨_,rfl⟩
 obtain⟨s2,hs2⟩:∃ s2,s2=Qcj (q.den:Int).natAbs:=⟨_,rfl⟩
 have ez1:Qfh q.num=.agg #[.bool b1,.string s1]:=by rw[hb1,hs1];rfl
 have ez2:Qfh (q.den:Int)=.agg #[.bool b2,.string s2]:=by rw[hb2',hs2];rfl
 have HE:=hid (show Qgf q=.agg #[.bool b1,.string s1,.bool b2,.string s2] by unfold Qgf;rw[hb1,hb2',hs1,hs2];simp);rw[ez1,ez2];clear hn1 hb2 hn3 hb4 hb13 hb1 hb2' hs1 hs2 ez1 ez2 HK HK2 HD HN
 go_wp2_with fail
 refine bodyPost_ret (v:=.agg #[.bool b1,.string s1,.bool b2,.string s2]) (by simp[results,Tryz.results214,go_sem,e0,e1,e2,e3]) rfl ⟨?_,?_⟩
 .rw[HE.out]
 .exact((((hbw.setCell (p:=⟨w.heap.size,0,none⟩) lr _).setCell (p:=⟨w.heap.size,1,none⟩) lr _).setCell (p:=⟨w.heap.size,2,none⟩) lr _).setCell (p:=⟨w.heap.size,3,none⟩) lr _)
def Ugy(n1 n2:Bool)(s1 s2:ByteArray)(hd0:Qgm s2≠0)(h1:s1.size<274877906944)(h2:s2.size<274877906944)(w:World) :
  Calls prog 215 #[.agg #[.bool n1,.string s1,.bool n2,.string s2]] w fun e w'=>∃ v,e=.returned v/\Uch (Rat.divInt (sgn n1 (Qgm s1)) (sgn n2 (Qgm s2))) v w w':=by
 have hdz:sgn n2 (Qgm s2)≠0:=by unfold sgn;cases n2<;>simp<;>omega
 have HZ:=hid hdz;have l1:(Qad (sgn n1 (Qgm s1)).natAbs).length<274877906944:=by rw[Qck];exact Nat.lt_of_le_of_lt (Qak (k:=s1.size) (Nat.lt_of_lt_of_le (Qmz s1) (Nat.pow_le_pow_left (by decide) _))) h1
 have l2:(Qad (sgn n2 (Qgm s2)).natAbs).length<274877906944:=by rw[Qck];exact Nat.lt_of_le_of_lt (Qak (k:=s2.size) (Nat.lt_of_lt_of_le (Qmz s2) (Nat.pow_le_pow_left (by decide) _))) h2
 have HL:=hid (And.intro l1 l2);clear hdz hd0 l1 l2
 go_enter func215,Tryz.ntmps215
 go_wp2_with fail
 obtain⟨W,hW⟩:∃ W,W=w.alloc (.cells #[.bool n1,.string s1,.bool n2,.string s2] 26):=⟨_,rfl⟩
 have hB:Below w.heap.size w W:=by rw[hW];exact br.alloc lr _
 have hWs:w.heap.size<W.heap.size:=by rw[hW];simp
 obtain⟨e0,e1,e2,e3,_⟩:=Qgi w (.bool n1) (.string s1) (.bool n2) (.string s2) 26 br;rw[<-hW] at e0 e1 e2 e3 ⊢;clear hW;refine Qat [(.new zR,[]),(.lit,[]),(.lit,[]),(.val,[]),(.lit,[]),(.lit,[]),(.val,[]),(.on 0 zR,[3,6])]
  (Qfv [(3,Qce (sgn n1 (Qgm s1))),(6,Qce (sgn n2 (Qgm s2))),(7,Kya W.heap.size (Rat.divInt (sgn n1 (Qgm s1)) (sgn n2 (Qgm s2))))]) (by kernel_rfl) ?_ ?_ (by simp[Qcy]) (by simp) (by kernel_rfl)
 .exact Qbc (by simp[Qce.keeps,Kya.keeps])
 .refine⟨fun f w1=>by go_simp,?_⟩
  repeat (refine⟨_,fun f w1 h1=>by(have d0:=ct h1 hWs e0;have d1:=ct h1 hWs e1;have d2:=ct h1 hWs e2;have d3:=ct h1 hWs e3;go_simp;rfl),?_⟩)
  simp only[Act.put,nrA,nrB,nrC,Nat.reduceAdd];refine⟨fun f w1 A1 k1 hA hN hd K hK=>by
   go_simp
   refine(Qwr n1 s1 h1 w1).mono ?_;rintro e w' ⟨v,rfl,hn⟩;exact hK _ _ hn.1 (hn.2 A1 hA),?_⟩
  repeat (refine⟨_,fun f w1 h1=>by(have d0:=ct h1 hWs e0;have d1:=ct h1 hWs e1;have d2:=ct h1 hWs e2;have d3:=ct h1 hWs e3;go_simp;rfl),?_⟩)
  simp only[Act.put,nrA,nrB,nrC,Nat.reduceAdd];refine⟨fun f w1 A1 k1 hA hN hd K hK=>by
   go_simp
   refine(Qwr n2 s2 h2 w1).mono ?_;rintro e w' ⟨v,rfl,hn⟩;exact hK _ _ hn.1 (hn.2 A1 hA),?_⟩
  simp only[Act.put,nrA,nrB,nrC,Nat.reduceAdd];refine⟨fun f w1 A1 m1 k1 hA hN hAm hm0 e hz hd K hK=>by
   simp only[e] at hK ⊢;have i1:Qce (sgn n1 (Qgm s1)) (f 3) w1 A1:=hd 3 (by simp);have i2:Qce (sgn n2 (Qgm s2)) (f 6) w1 A1:=hd 6 (by simp)
   go_simp
   refine(Qfb m1 _ _ _ HZ.out _ _ A1 w1 hz (by decide) Qcy i1 i2 HL.out.1 HL.out.2).mono ?_;rintro e w' ⟨rfl,hp⟩;exact hK _ w' hp.1 (hp.ratM hm0 hA),?_⟩
  intro f w1 k1 hF;have i1:Kya W.heap.size (Rat.divInt (sgn n1 (Qgm s1)) (sgn n2 (Qgm s2))) (f 7) w1 NoA:=hF.2;clear hF;simp only[Act.put,nrA,nrB,nrC];generalize f 3=v3;generalize f 6=v6;generalize f 7=v7 at *
  have hbw:Below W.heap.size W w1:=br.drew.trans k1;have hn:=i1.new (hB.trans (hbw.mono hB.size)) hB.size;have HN:=hid hn;clear hn i1
  go_wp2
  go_ret
  exact⟨v7,rfl,HN.out⟩
end Go.Proofs.YtcjjdooeogmdbaaGreat
namespace Tr
def Ufd{a j:Nat}(h:a<256^(j+1))(h0:a/256^j%256≠0):(Qec a).length=j+1:=by
 refine Qnq h (.inr ?_);simp only[Nat.add_sub_cancel];rcases Nat.lt_or_ge a (256^j) with h1|h1
 .rw[Nat.div_eq_of_lt h1] at h0;simp at h0
 .exact h1
def Ukp{a j:Nat}(h:a<256^(j+1))(h0:a/256^j%256=0):a<256^j:=by
 have hp:0<256^j:=Nat.pow_pos (by decide);have h1:a/256^j<256:=by rw[Nat.div_lt_iff_lt_mul hp,Nat.mul_comm,<-Nat.pow_succ];exact h
 rw[Nat.mod_eq_of_lt h1] at h0;rcases Nat.lt_or_ge a (256^j) with h2|h2
 .exact h2
 .have:=Nat.div_pos h2 hp;omega
end Tr
namespace Go.Proofs.YtcjjdooeogmdbaaGreat
open Go.RowKit Tr Proofs.Tryz
def Kym(neg:Bool)(a:Nat)(h:a≠0):Qfh (sgn neg a)=.agg #[.bool neg,.string (Qcj a)]:=by
 unfold Qfh;rw[Qck,Qlp];simp[h]
def Qso:Qfh 0=.agg #[.bool false,.string ⟨#[]⟩]:=by
 unfold Qfh;have:Qcj (0:Int).natAbs=⟨#[]⟩:=by unfold Qcj;simp[Qdg]
 rw[this];rfl
def Kug(neg:Bool)(l:List Nat)(v:Value)(a:Nat)(ha:wv l=a)(ha0:a≠0)(w:World)(ol:WOk l)(hl:WSl w v l)(hm:l.length<274877906944) :
  Calls prog 179 #[.bool neg,v] w fun e w'=>e=.returned (.agg #[.bool neg,.string (Qcj a)])/\Below w.heap.size w w':=by
 have hcut:=fun(w1:World) (hb:Below w.heap.size w w1)=>Qgk l v w1 ol (hl.below hb) (by omega)
 rw[ha] at hcut;have hlen:(Qad a).length<274877906944:=by rw[<-ha];exact Nat.lt_of_le_of_lt (Qak (Qil ol)) hm
 have HC:=hid hcut;have HA:=hid ha0;obtain⟨m,hmw⟩:∃ m,(Qad a).length=m:=⟨_,rfl⟩
 have hm0:0<m:=by
  rw[<-hmw];exact List.length_pos_iff.2 (fun h=>ha0 (Qcd.1 h))
 rw[hmw] at hlen;have HM:=hid hmw;have e0:((m:Int)==0)=false:=by simp;omega
 clear hcut ha ha0 hl hm ol hmw
 go_enter func179,Tryz.ntmps179
 go_wp2_with fail
 refine(HC.out _ (br.alloc lr _)).mono ?_;rintro e w1 ⟨v1,rfl,hv1,rfl⟩;obtain⟨p1,c1,rfl,hc1,hr1⟩:=hv1;rw[HM.out];obtain⟨bb,ob,rfl,hbb,hcell⟩:=hr1 (by intro h;have:=HM.out;rw[h] at this;simp at this;omega);have HR:=hid hcell;obtain⟨wo,hwo⟩:∃ wo,wo=w.alloc (.cells #[.bool false,.string ⟨#[]⟩] 24):=⟨_,rfl⟩
 have hz4:wo.heap[w.heap.size]?=some (.cells #[.bool false,.string ⟨#[]⟩] 24 (0,0)):=by rw[hwo];exact heap_alloc_new w _
 have hB0:Below w.heap.size w wo:=by rw[hwo];exact br.alloc lr _
 have hlt0:w.heap.size<wo.heap.size:=(Array.getElem?_eq_some_iff.1 hz4).1;rw[<-hwo] at HR hbb ⊢;clear hr1 hcell hwo
 go_wp2_with fail
 go_loop [5] (fun n=>∃ k:Nat,n=.int .i64 k/\k<=4*m/\Hid (a<256^k)) (fun n=>(intOf n).toNat)
 case atStart =>
  refine⟨4*m,by go_num,Nat.le_refl _,hid ?_⟩;have:=Qcc a;rw[HM.out] at this;rw[show(256:Nat)^(4*m)=4294967296^m by rw[Nat.pow_mul]];exact this
 case round =>
  obtain⟨k,rfl,hk,hlt⟩:=hrel;cases k with
  | zero=>exact absurd hlt.out (by have:=HA.out;omega)
  | succ j =>
   obtain⟨kq,hkq⟩:∃ kq,kq=j/4:=⟨_,rfl⟩
   obtain⟨kr,hkr⟩:∃ kr,kr=j%4:=⟨_,rfl⟩
   obtain⟨ks,hks⟩:∃ ks,ks=8*kr:=⟨_,rfl⟩
   have hkM:kq<m:=by omega
   have c2:=HR.out kq (by have:=HM.out;omega);obtain⟨y,hy⟩:∃ y,y=wat (Qad a) kq:=⟨_,rfl⟩
   rw[show(Qad a)[kq]?.getD 0=y from hy.symm] at c2;have hy32:y<4294967296:=by rw[hy];exact Qci (Qas a) kq
   obtain⟨z,hz⟩:∃ z,z=a/256^j%256:=⟨_,rfl⟩
   have hyz:y/2^ks%256=z:=by rw[hy,Qtx,hks,Qle a kq kr (by omega),hz,show 4*kq+kr=j by omega]
   have q0:((y:Int)/2^ks).tmod 256=(z:Int):=by
    rw[show(y:Int)/2^ks=((y/2^ks:Nat):Int) by simp,Int.tmod_eq_emod_of_nonneg (Int.natCast_nonneg _),<-hyz];simp
   have hz8:z<256:=by rw[<-hyz];exact Nat.mod_lt _ (by decide)
   have q4:((j+1:Nat):Int)=(j:Int)+1:=by omega
   have q5:(j:Int)+1-1=(j:Int):=by omega
   have q1:(j:Int)/4=(kq:Int):=by omega
   have q2:(j:Int)%4=(kr:Int):=by omega
   have q7:(8:Int)*(kr:Int)=(ks:Int):=by omega
   have q6:(kq:Int)<(m:Int):=by omega
   have q9:ks<32:=by omega
   have HZ:=hid hz;clear hkq hkr hks hyz hy hz;rw[q4];clear q4
   by_cases h0:z=0
   .have HL:Hid (a<256^j):=hid (Ukp hlt.out (by rw[<-HZ.out,h0]));have hb:((z:Int)==0)=true:=by rw[h0];rfl
    clear h0
    go_wp2_with fail
    go_round
    case rel=>exact⟨j,rfl,by omega,HL⟩
    case measure=>simp[intOf]
   .have HL:Hid ((Qec a).length=j+1):=hid (Ufd hlt.out (by rw[<-HZ.out];exact h0));have hb:((z:Int)==0)=false:=by simp;exact h0
    obtain⟨n,hn⟩:∃ n,n=j+1:=⟨_,rfl⟩
    have hjn:(j:Int)+1=(n:Int):=by omega
    have hn1:(n:Int)-1=(j:Int):=by omega
    have hn4:n<=4*m:=by omega
    rw[<-hn] at HL;rw[hjn];clear h0 hn q5;have hmk:=Ktx n (by omega)
    go_wp2_with fail
    go_loopw [7] (fun i wr=>∃(k:Nat) (cur:List Nat),k<=n/\i=.int .i64 k/\Hid (cur.length=n)/\Hid (∀ j,j<k->cur[n-1-j]?=some (a/256^j%256))/\Kba wr wo.heap.size cur/\Below wo.heap.size wo wr) (fun i _=>n-(intOf i).toNat)
    case atStart=>exact⟨0,List.replicate n 0,Nat.zero_le _,rfl,hid (by simp),hid (fun j hj=>by omega),Kba.new _ _,br.alloc lr _⟩
    case round =>
     obtain⟨k,cur,hk,rfl,hlc,hinv,hblk,hB⟩:=hrel
     by_cases hlt:k<n
     .obtain⟨kq,hkq⟩:∃ kq,kq=k/4:=⟨_,rfl⟩
      obtain⟨kr,hkr⟩:∃ kr,kr=k%4:=⟨_,rfl⟩
      obtain⟨kj,hkj⟩:∃ kj,kj=n-1-k:=⟨_,rfl⟩
      obtain⟨ks,hks⟩:∃ ks,ks=8*kr:=⟨_,rfl⟩
      have hkM:kq<m:=by omega
      have c2:=(hB.cell (p:=⟨bb,ob+kq,none⟩) hbb).trans (HR.out kq (by have:=HM.out;omega));have c3:=hblk.cell (i:=kj) (by have:=hlc.out;omega);have f3:=hblk.frozen kj;obtain⟨y,hy⟩:∃ y,y=wat (Qad a) kq:=⟨_,rfl⟩
      rw[show(Qad a)[kq]?.getD 0=y from hy.symm] at c2;have hy32:y<4294967296:=by rw[hy];exact Qci (Qas a) kq
      obtain⟨z,hz⟩:∃ z,z=a/256^k%256:=⟨_,rfl⟩
      have hyz:y/2^ks%256=z:=by rw[hy,Qtx,hks,Qle a kq kr (by omega),hz,show 4*kq+kr=k by omega]
      have q0:(y:Int)/2^ks%256=(z:Int):=by rw[<-hyz];simp
      have q1:(k:Int)/4=(kq:Int):=by omega
      have q2:(k:Int)%4=(kr:Int):=by omega
      have q3:(j:Int)-(k:Int)=(kj:Int):=by omega
      have q7:(8:Int)*(kr:Int)=(ks:Int):=by omega
      have q9:ks<32:=by omega
      have q5:(kj:Int)<(n:Int):=by omega
      have q6:(kq:Int)<(m:Int):=by omega
      have HK:=hid (And.intro hkj hz);clear hkq hkr hkj hks hyz hy hz
      go_wp2_with fail
      go_roundw
      case rel =>
       refine⟨k+1,cur.set kj z,by omega,by go_num,hid (by have:=hlc.out;simpa using this),hid (fun j hj=>?_),hblk.set kj z,hB.setCell (p:=⟨wo.heap.size,kj,none⟩) lr _⟩;have h1:=HK.out.1
       by_cases hjk:j=k
       .subst hjk;rw[<-h1,<-HK.out.2,List.getElem?_set_self (by have:=hlc.out;omega)]
       .rw[List.getElem?_set_ne (by omega)];exact hinv.out j (by omega)
      case measure=>simp[intOf];omega
     .obtain rfl:n=k:=by omega
      have hsz:(Qcj a).size=n:=by rw[Qgg];exact HL.out
      have hbs:BSl wr (.slice (some ⟨wo.heap.size,0,none⟩) n n) (Qcj a):=⟨wo.heap.size,0,n,by rw[hsz],hblk.lt,fun i hi=>by
       rw[Nat.zero_add,hblk.cell (i:=i) (by have:=hlc.out;omega)];have h1:=hinv.out (n-1-i) (by rw[hsz] at hi;omega);rw[show n-1-(n-1-i)=i by rw[hsz] at hi;omega] at h1;have h2:=Klc hi;simp only[hsz] at h2;rw[h1,h2];rfl⟩
      have hcv:=Qiz wr _ _ hbs;have hz5:=(hB.block _ hlt0).trans hz4;have hBw:=hB0.trans (hB.mono hB0.size);clear hbs hsz
      go_wp2_with (refine wpList_store_row rfl 24 _ _ rfl w.heap.size _ rfl rfl 24 _ hz5 (by kernel_rfl) (by kernel_rfl) (by kernel_rfl) ?_)
      refine bodyPost_ret (v:=.agg #[.bool neg,.string (Qcj a)]) (by exact results_cell_row Tryz.results179 _ _ w.heap.size 24 #[.bool neg,.string (Qcj a)] (0,0) _ rfl (setRow_heap _ _ _ _ _ _ hz5) Tryz.underlying24 rfl (by kernel_rfl)) rfl ⟨rfl,?_⟩;exact below_setRow hBw lr _
def Kdv(neg:Bool)(l:List Nat)(v:Value)(w:World)(ol:WOk l)(hl:WSl w v l)(hm:l.length<274877906944) :
  Calls prog 179 #[.bool neg,v] w fun e w'=>e=.returned (Qfh (sgn neg (wv l)))/\Below w.heap.size w w':=by
 by_cases ha0:wv l=0
 .have hcut:=fun(w1:World) (hb:Below w.heap.size w w1)=>Qgk l v w1 ol (hl.below hb) (by omega)
  rw[ha0,Qax] at hcut;have hz:Qfh (sgn neg 0)=.agg #[.bool false,.string ⟨#[]⟩]:=by rw[show sgn neg 0=0 by cases neg<;>rfl];exact Qso
  rw[ha0,hz];have HC:=hid hcut;clear hcut hl ol ha0 hz hm
  go_enter func179,Tryz.ntmps179
  go_wp2_with fail
  refine(HC.out _ (br.alloc lr _)).mono ?_;rintro e w1 ⟨v1,rfl,⟨p1,c1,rfl,hc1,hr1⟩,rfl⟩;have hz4:=heap_alloc_new w (.cells #[.bool false,.string ⟨#[]⟩] 24);have hB0:Below w.heap.size w (w.alloc (.cells #[.bool false,.string ⟨#[]⟩] 24)):=br.alloc lr _;clear hr1
  go_wp2_with (refine wpList_store_row rfl 24 _ _ rfl w.heap.size _ rfl rfl 24 _ hz4 (by kernel_rfl) (by kernel_rfl) (by kernel_rfl) ?_)
  refine bodyPost_ret (v:=.agg #[.bool false,.string ⟨#[]⟩]) (by exact results_cell_row Tryz.results179 _ _ w.heap.size 24 #[.bool false,.string ⟨#[]⟩] (0,0) _ rfl (setRow_heap _ _ _ _ _ _ hz4) Tryz.underlying24 rfl (by kernel_rfl)) rfl ⟨rfl,?_⟩;exact below_setRow hB0 lr _
 .rw[Kym neg _ ha0];exact Kug neg l v _ rfl ha0 w ol hl hm
