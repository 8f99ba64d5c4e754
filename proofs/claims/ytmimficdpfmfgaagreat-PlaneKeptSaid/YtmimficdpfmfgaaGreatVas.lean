/- Laws for the walk. -/
import Derived.Test.YtmimficdpfmfgaaGreatVar
set_option linter.unusedVariables false
set_option maxHeartbeats 4000000
set_option maxRecDepth 100000
namespace Go.Proofs.YtmimficdpfmfgaaGreat
open Go.RowKit Tr
def Qei(z:Int):Value:=.agg #[.bool (decide (z<0)),.string (Qck z.natAbs)]
def Qfh(q:Rat):Value:=.agg #[.bool (decide (q.num<0)),.string (Qck q.num.natAbs),.bool false,.string (Qck q.den)]
def WForm(neg:Bool)(s:ByteArray):Prop:=(s.size=0→neg=false)∧NoLead s
theorem numS_zero{s:ByteArray}(h:NoLead s):numS s=0↔s.size=0:=by
 rw[←strN_numS h,Qdr,Qey]
 constructor
 ·intro h0; rw[h0,Qcw]; rfl
 ·intro h0
  have:=List.eq_nil_of_length_eq_zero h0
  rcases Nat.eq_zero_or_pos (numS s) with h1|h1
  ·exact h1
  ·rw[Qdp (by omega)] at this; cases this
theorem WForm.enc{neg:Bool}{s:ByteArray}(h:WForm neg s):Value.agg #[.bool neg,.string s]=Qei (sgn neg (numS s)):=by
 unfold Qei
 rw[Qdd,strN_numS h.2,sgn_neg]
 have:(neg && decide (numS s≠0))=neg:=by
  cases hn:neg
  ·rfl
  ·have:s.size≠0:=fun h0=>by have:=h.1 h0; rw[hn] at this; cases this
   have h2:numS s≠0:=fun h0=>this ((numS_zero h.2).1 h0)
   simp[h2]
 rw[this]
theorem below_bytes(w:World)(e:TypeId)(s:ByteArray):Below w.heap.size w (Lib.bytesWorld w e s):=by
 refine⟨?_,?_,?_,?_,fun k hk=>Lib.bytesWorld_at_old w e s k hk⟩
 ·simp[Lib.bytesWorld,World.freeze,World.alloc,World.drew,-World.alloc_eq,-World.drew_eq]
 ·simp[Lib.bytesWorld,World.freeze,World.alloc,World.drew,-World.alloc_eq,-World.drew_eq]
 ·simp[Lib.bytesWorld,World.freeze,World.alloc,World.drew,-World.alloc_eq,-World.drew_eq]
 ·rw[Lib.bytesWorld_size]; omega
theorem bsl_bytes(w:World)(s:ByteArray):BSl (Lib.bytesWorld w 5 s) (.slice (some ⟨w.heap.size,0,none⟩) s.size (grownCap w s.size 0 5)) s:=by
 refine⟨w.heap.size,0,_,rfl,by rw[Lib.bytesWorld_size]; omega,fun i hi=>?_⟩
 rw[Nat.zero_add,Lib.bytesWorld_cell w _ s i hi]
 simp[List.getD,hi]
 rfl
theorem Put.newAt{m o:Nat}{C:Array Value}{T:TypeId}{z:Int}{w w1 w':World}(h:Put m o C T z w1 w')(ho:o+1<C.size)(hb:Below w.heap.size w w1)(hm:w.heap.size≤m):NewI z (.pointer (some ⟨m,o,none⟩)) w w':=by
 refine⟨hb.trans (h.1.below hm hb.size),fun A hA=>?_⟩
 exact(h.intP ho (hA.below hb)).wider fun b hb'=>⟨hb',fun e=>by have:=hA.lt hb'; omega⟩
theorem PutR.newAt{m:Nat}{q:Rat}{w w1 w':World}(h:PutR m q w1 w')(hb:Below w.heap.size w w1)(hm:w.heap.size≤m):NewR q (.pointer (some ⟨m,0,none⟩)) w w':=by
 refine⟨hb.trans (h.1.below hm hb.size),fun A hA=>?_⟩
 exact(h.ratP (hA.below hb)).wider fun b hb'=>⟨hb',fun e=>by have:=hA.lt hb'; omega⟩
theorem ewhole_any(neg:Bool)(s:ByteArray)(hs:s.size<274877906944)(w:World) :
  Calls Tryz.prog 222 #[.agg #[.bool neg,.string s]] w fun e w'=>∃ v,e=.returned v∧NewI (sgn neg (numS s)) v w w':=by
 have kc:=fun w=>Lib.run_convert_string_bytes (P:=Tryz.prog) w 9 257 5 s Tryz.underlying9 Tryz.underlying257 Tryz.underlying5
 have hlen:(Qac (numS s)).length<274877906944:=Nat.lt_of_le_of_lt (Qak (k:=s.size) (Nat.lt_of_lt_of_le (numS_lt s) (Nat.pow_le_pow_left (by decide) _))) hs
 have HL:=Lib.hid hlen
 clear hlen
 go_enter Tryz.func222,Tryz.ntmps222
 go_wp2_with fail
 clear kc
 obtain⟨W,hW⟩:∃ W,W=(w.alloc (.cells #[.bool neg,.string s] 24)).alloc (.cells #[.bool false,.slice none 0 0] 230):=⟨_,rfl⟩
 have hBW:Below w.heap.size w W:=by rw[hW]; exact(br.alloc (Nat.le_refl _) _).alloc (by simp) _
 have hsz:w.heap.size+1+1=W.heap.size:=by rw[hW]; simp
 have hm:W.heap[w.heap.size+1]?=some (.cells #[.bool false,.slice none 0 0] 230 (0,0)):=by
  rw[hW]; have:=heap_alloc_new (w.alloc (.cells #[.bool neg,.string s] 24)) (.cells #[.bool false,.slice none 0 0] 230); simpa using this
 have hc:W.cell? ⟨w.heap.size,0,none⟩=some (.bool neg):=by
  rw[hW]; simp[go_sem]
 rw[←hW,hsz]
 have hb1:=below_bytes W 5 s
 have hb2:Below w.heap.size w (Lib.bytesWorld W 5 s):=hBW.trans (hb1.mono hBW.size)
 have hm2:=(hb1.block _ (by omega)).trans hm
 have hc2:=(hb1.cell (p:=⟨w.heap.size,0,none⟩) (by show w.heap.size<_; omega)).trans hc
 have HS:=Lib.hid (setBytes_any (w.heap.size+1) 0 _ _ s _ rfl _ _ hm2 (by decide) Qaz (bsl_bytes W s) hs)
 have HB:=Lib.hid hb2
 have hlt:w.heap.size<(Lib.bytesWorld W 5 s).heap.size:=by rw[Lib.bytesWorld_size]; omega
 clear hW hBW hm hc hb1 hm2 hb2 hsz
 refine HS.out.mono ?_
 rintro e w1 ⟨rfl,hp⟩
 have hc1:=(World.cell?_of_block (w:=Lib.bytesWorld W 5 s) (a:=⟨w.heap.size,0,none⟩) (hp.1.block w.heap.size hlt (by omega))).trans hc2
 clear HS hc2
 cases neg
 ·go_wp2
  go_ret
  exact⟨_,rfl,hp.newAt (by decide) HB.out (by omega)⟩
 ·obtain⟨C1,hm3,hs3,hn3⟩:=put_heap hp
  have hin:=(hp.intP (by decide) (Qbm _)).noA
  have HN:=Lib.hid (Neg_any (w.heap.size+1) 0 C1 _ _ _ NoA w1 hm3 (by rw[hs3]; decide) (hn3 Qaz) hin (by simpa using HL.out))
  have HP:=Lib.hid hp
  have H3:=Lib.hid hs3
  clear hm3 hin hn3 hp hs3
  go_wp2_with fail
  refine HN.out.mono ?_
  rintro e w2 ⟨rfl,hp2⟩
  go_wp2_with fail
  go_ret
  refine⟨_,rfl,hp2.newAt (by rw[H3.out]; decide) (HB.out.trans (HP.out.1.below (by omega) (by omega))) (by omega)⟩
theorem Qcb.avoid{z:Int}{b o:Nat}{w:World}{A:Nat→Prop}(h:Qcb z (.pointer (some ⟨b,o,none⟩)) w NoA)(hA:Rcv A w)(hb:¬A b):Qcb z (.pointer (some ⟨b,o,none⟩)) w A:=by
 obtain⟨b',o',sl,e,h1,_,h3,h4,h5⟩:=h
 cases e
 exact⟨b,o,sl,rfl,h1,hb,h3,h4,h5.wsl.avoids hA⟩
theorem Qbb.avoid{q:Rat}{m:Nat}{w:World}{A:Nat→Prop}(h:Qbb q (.pointer (some ⟨m,0,none⟩)) w NoA)(hA:Rcv A w)(hm:¬A m):Qbb q (.pointer (some ⟨m,0,none⟩)) w A:=by
 obtain⟨b,e,h1,h2⟩:=h
 cases e
 exact⟨m,rfl,h1.avoid hA hm,h2.imp (fun h=>h.avoid hA hm) (fun h=>⟨h.1,h.2.avoid hA hm⟩)⟩
def RatM(base:Nat)(q:Rat):Qcl:=fun v w A=>∃ m,v=.pointer (some ⟨m,0,none⟩)∧base≤m∧Qbb q v w A
theorem RatM.keeps(base:Nat)(q:Rat):(RatM base q).Keeps:=by
 intro v w w' A A' hs hk ⟨m,h1,h2,h3⟩
 exact⟨m,h1,h2,Qbb.keeps q v w w' A A' hs hk h3⟩
theorem RatM.new{q:Rat}{v:Value}{w w':World}{base:Nat}(h:RatM base q v w' NoA)(hb:Below w.heap.size w w')(hw:w.heap.size≤base):NewR q v w w':=by
 obtain⟨m,rfl,h2,h3⟩:=h
 exact⟨hb,fun A hA=>h3.avoid (hA.below hb) (fun hm=>by have:=hA.lt hm; omega)⟩
end Go.Proofs.YtmimficdpfmfgaaGreat
namespace Tr
theorem swords_norm{s:ByteArray}{l:List Nat}(hl:l.length=(s.size+3) / 4)(ol:WOk l)(hv:wv l=numS s)(hn:NoLead s):l=Qac (numS s):=by
 rcases Nat.eq_zero_or_pos s.size with h0|h0
 ·have h1:l=[]:=List.eq_nil_of_length_eq_zero (by omega)
  subst h1
  rw[←hv,wv_nil,Qaq]
 ·have hge:256 ^ (s.size - 1)≤numS s:=by
   rcases Nat.lt_or_ge (numS s) (256 ^ (s.size - 1)) with h|h
   ·have h1:=Qip h
    have h2:(Qdj (numS s)).length=s.size:=by rw[←Qey,strN_numS hn]
    omega
   ·exact h
  have hgt:(s.size - 1) / 4<(Qac (numS s)).length:=by
   refine words_length_gt (Nat.le_trans ?_ hge)
   rw[show(4294967296:Nat)=256 ^ 4 by decide,←Nat.pow_mul]
   exact Nat.pow_le_pow_right (by decide) (by omega)
  have h3:=words_take ol
  rw[hv,List.take_of_length_le (by omega)] at h3
  exact h3.symm
end Tr
namespace Go.Proofs.YtmimficdpfmfgaaGreat
open Go.RowKit Tr
theorem swords_row(s:ByteArray)(n:Nat)(hn:s.size=n)(w:World)(hs:n<274877906944) :
  Calls Tryz.prog 236 #[.string s] w fun e w'=>∃ v l,e=.returned v∧WSl w' v l∧WOk l∧wv l=numS s∧l.length=(n+3) / 4∧Below w.heap.size w w':=by
 have HL:=Lib.hid (leS_length s)
 have HN:=Lib.hid hn
 obtain⟨M,hM⟩:∃ M,(n+3) / 4=M:=⟨_,rfl⟩
 have e1:((n:Int)+3) / 4=(M:Int):=by omega
 have hmk:=Qgl M (by omega)
 have HMM:=Lib.hid hM
 have hlen:(s.size:Int)=(n:Int):=by omega
 clear hM hn
 go_enter Tryz.func236,Tryz.ntmps236
 go_wp2_with fail
 rw[e1]
 go_loopw [4,5] (fun i _ wr=>∃(k:Nat) (cur:List Nat),k≤n∧i=.int .i64 k∧Hid (cur.length=M)∧WOk cur∧Hid (wv cur=bv ((leS s).take k))∧Blk wr w.heap.size cur∧Below w.heap.size w wr) (fun i _ _=>n - (intOf i).toNat)
 case atStart=>exact⟨0,List.replicate M 0,Nat.zero_le _,rfl,Lib.hid (by simp),Qbf _,Lib.hid (by rw[Qeb]; simp[bv]),Blk.new _ _,br.alloc (Nat.le_refl _) _⟩
 case round =>
  obtain⟨k,cur,hk,rfl,hlc,oc,hinv,hblk,hB⟩:=hrel
  by_cases hlt:k<n
  ·obtain⟨kq,hkq⟩:∃ kq,kq=k / 4:=⟨_,rfl⟩
   obtain⟨kr,hkr⟩:∃ kr,kr=k % 4:=⟨_,rfl⟩
   have hkr4:kr<4:=by omega
   have hkM:kq<M:=by have:=HMM.out; omega
   have c0:=hblk.cell (i:=kq) (by have:=hlc.out; omega)
   have f0:=hblk.frozen kq
   obtain⟨kj,hkj⟩:∃ kj,kj=n - 1 - k:=⟨_,rfl⟩
   have hj:kj<s.size:=by have:=HN.out; omega
   obtain⟨x,hxe⟩:∃ x,x=s[kj].toNat:=⟨_,rfl⟩
   have hx:Hid ((leS s)[k]?=some x):=Lib.hid (by have:=leS_get s k (by have:=HN.out; omega); simp only[HN.out,←hkj] at this; rw[this,hxe])
   have hx256:x<256:=by rw[hxe]; exact UInt8.toNat_lt _
   have hix:∀ w,(Instr.index 9 (.string s) (.int .i64 (kj:Int))).run Tryz.prog w=.ok (.int .u8 (x:Int)) w:=fun w=>by
    rw[run_index_string w 9 s .i64 kj Tryz.underlying9,dif_pos ⟨by omega,by omega⟩,hxe]
    simp
   clear hxe
   have hbv:=bv_lt (bok_take (bok_leS s) k)
   obtain⟨hd1,hd2⟩:=setb_step (x:=x) (i:=k) (by have:=hlc.out; omega) hinv.out (by rw[List.length_take] at hbv; have:=HL.out; have:=HN.out; rwa[Nat.min_eq_left (by omega)] at hbv)
   rw[←hkq,←hkr] at hd1 hd2
   obtain⟨y,hy⟩:∃ y,y=wat cur kq:=⟨_,rfl⟩
   rw[show cur[kq]?.getD 0=y from hy.symm] at c0
   rw[←hy] at hd1 hd2
   have q1:(k:Int).tdiv 4=(kq:Int):=by rw[Int.tdiv_eq_ediv_of_nonneg (by omega)]; omega
   have q2:(k:Int).tmod 4=(kr:Int):=by rw[Int.tmod_eq_emod_of_nonneg (by omega)]; omega
   have q1':(k:Int) / 4=(kq:Int):=by omega
   have q2':(k:Int) % 4=(kr:Int):=by omega
   have q3:(n:Int) - 1 - (k:Int)=(kj:Int):=by omega
   have q5:(kj:Int)<(n:Int):=by omega
   have q6:(kq:Int)<(M:Int):=by omega
   obtain⟨ks,hks⟩:∃ ks,ks=kr*8:=⟨_,rfl⟩
   have q7:(kr:Int)*8=(ks:Int):=by omega
   have q8:(8:Int)*(kr:Int)=(ks:Int):=by omega
   have q9:ks<32:=by omega
   have w1:IntKind.i64.wrap (kq:Int)=(kq:Int):=IntWalk.i64_in _ (by omega)
   have w2:IntKind.i64.wrap (kr:Int)=(kr:Int):=IntWalk.i64_in _ (by omega)
   have w3:IntKind.i64.wrap (ks:Int)=(ks:Int):=IntWalk.i64_in _ (by omega)
   have w4:IntKind.u32.wrap (x:Int)=(x:Int):=by rw[IntKind.wrap_u32]; omega
   have ep:2 ^ ks=256 ^ kr:=by rw[hks,Nat.mul_comm,Nat.pow_mul]
   obtain⟨z,hz⟩:∃ z,z=y+x*2 ^ ks:=⟨_,rfl⟩
   have hpk:2 ^ ks≤2 ^ 24:=Nat.pow_le_pow_right (by decide) (by omega)
   have hxk:x*2 ^ ks≤255*2 ^ 24:=Nat.mul_le_mul (by omega) hpk
   obtain⟨u,hu⟩:∃ u,u=x*2 ^ ks:=⟨_,rfl⟩
   have w5:IntKind.u32.wrap ((x:Int)*2 ^ ks)=(u:Int):=by
    rw[show(x:Int)*2 ^ ks=(u:Int) by rw[hu]; simp,IntKind.wrap_u32]; omega
   have w6:(y:Int)+(u:Int)=(z:Int):=by omega
   have hz32:z<4294967296:=by rw[hz]; rw[←ep] at hd1; omega
   have hd2:wv (cur.set kq z)=bv ((leS s).take k)+256 ^ k*x:=by rw[hz,ep]; exact hd2
   have hbv2:=bv_take_succ (l:=leS s) (i:=k) (by have:=HL.out; have:=HN.out; omega)
   have hxg:(leS s)[k]'(by have:=HL.out; have:=HN.out; omega)=x:=by
    have h5:=hx.out
    rw[List.getElem?_eq_getElem (by have:=HL.out; have:=HN.out; omega)] at h5
    simpa using h5
   rw[hxg,←hd2] at hbv2
   have HV:=Lib.hid hbv2.symm
   have HKS:=Lib.hid hks
   clear hks
   have HK:=Lib.hid (And.intro hkq hkr)
   clear hd1 hd2 hbv hy hj hkq hkr hkj hz ep hpk hxk hbv2 hxg hu
   go_wp2_with fail
   refine Qga 18 (by kernel_rfl) (by kernel_rfl) ?_
   simp only[List.take_succ_cons,List.take_zero,List.drop_succ_cons,List.drop_zero]
   repeat still_step
   refine wpStill_nil ?_
   go_wp2_with fail
   go_roundw
   case rel=>exact⟨k+1,cur.set kq z,by omega,by go_num,Lib.hid (by have:=hlc.out; simpa using this),Qcs oc _ _ hz32,HV,hblk.set _ _,hB.drew.setCell (p:=⟨w.heap.size,kq,none⟩) (Nat.le_refl _) _⟩
   case measure=>simp[intOf]; omega
  ·obtain rfl:n=k:=by omega
   have hfin:wv cur=numS s:=by rw[hinv.out,List.take_of_length_le (by have:=HL.out; have:=HN.out; omega)]; rfl
   have HF:=Lib.hid hfin
   have hW:WSl wr (.slice (some ⟨w.heap.size,0,none⟩) M M) cur:=⟨_,M,by rw[hlc.out],by rw[hlc.out]; exact Nat.le_refl _,hblk.row⟩
   clear hfin
   go_wp2
   go_ret
   exact⟨_,cur,rfl,hW,oc,HF.out,by rw[hlc.out,HMM.out],hB⟩
theorem swords_any(n:Nat)(hs:(Qck n).size<274877906944)(w:World) :
  Calls Tryz.prog 236 #[.string (Qck n)] w fun e w'=>∃ v,e=.returned v∧WSl w' v (Qac n)∧Below w.heap.size w w':=by
 refine(swords_row (Qck n) _ rfl w hs).mono ?_
 rintro e w' ⟨v,l,rfl,hv,ol,hw,hl,hb⟩
 have:=swords_norm hl ol hw (Qfu n)
 rw[Qdr] at this
 rw[this] at hv
 exact⟨v,rfl,hv,hb⟩
theorem Qid(w:World)(v:Value)(s:ByteArray)(h:BSl w v s):(convert 257 9 v).run Tryz.prog w=.ok (.string s) w:=by
 obtain⟨b,off,cap,rfl,_,hb⟩:=h
 exact Lib.run_convert_whole w 257 5 9 Tryz.underlying257 Tryz.underlying5 Tryz.underlying9 b off s hb cap
theorem sign_lt(z:Int):decide (z.sign<0)=decide (z<0):=by
 rcases Int.lt_trichotomy z 0 with h|h|h
 ·rw[Int.sign_eq_neg_one_of_neg h]; simp[h]
 ·subst h; rfl
 ·rw[Int.sign_eq_one_of_pos h]; have:¬z<0:=by omega
  simp[this]
theorem Qii(w:World)(x y:Value)(T:TypeId){w1:World}(h:Below (w.alloc (.cells #[x,y] T)).heap.size (w.alloc (.cells #[x,y] T)) w1):w1.cell? ⟨w.heap.size,0,none⟩=some x∧w1.cell? ⟨w.heap.size,1,none⟩=some y∧w1.frozen? ⟨w.heap.size,0,none⟩=false∧w1.frozen? ⟨w.heap.size,1,none⟩=false:=by
 have e:=(h.block w.heap.size (by simp)).trans (heap_alloc_new w _)
 simp[World.cell?,World.frozen?,e]
theorem back_any(z:Int)(vx:Value)(A:Nat→Prop)(w:World)(hx:Qcb z vx w A)(hn:(Qac z.natAbs).length<274877906944) :
  Calls Tryz.prog 267 #[vx] w fun e w'=>e=.returned (Qei z)∧Below w.heap.size w w':=by
 have hal:Below w.heap.size w (w.alloc (.cells #[.bool false,.string ⟨#[]⟩] 24)):=br.alloc (Nat.le_refl _) _
 obtain⟨sg,hsg⟩:∃ sg,sg=z.sign:=⟨_,rfl⟩
 have HS:=Lib.hid (Sign_any z vx A _ (hx.below hal))
 have HB:=Lib.hid (Bytes_any z vx A _ (hx.below hal) hn)
 rw[←hsg] at HS
 have HG:Hid (decide (sg<0)=decide (z<0)):=Lib.hid (by rw[hsg,sign_lt])
 clear hsg hx hal
 go_enter Tryz.func267,Tryz.ntmps267
 go_wp2_with fail
 refine HS.out.mono ?_
 rintro e w0 ⟨rfl,rfl⟩
 go_wp2_with fail
 refine HB.out.mono ?_
 rintro e w1 ⟨v,rfl,hv,hb⟩
 obtain⟨e0,e1,f0,f1⟩:=Qii w _ _ _ hb
 have hr:=Qid w1 v _ hv
 have hbw:Below w.heap.size w w1:=(br.alloc (Nat.le_refl _) _).trans (hb.mono (by simp))
 obtain⟨st,hst⟩:∃ st,st=Qck z.natAbs:=⟨_,rfl⟩
 rw[←hst] at hr
 have HST:=Lib.hid hst
 clear hb hv hst HS HB
 go_wp2_with fail
 refine bodyPost_ret (v:=.agg #[.bool (decide (sg<0)),.string st]) (by simp[results,Tryz.results267,go_sem,e0,e1]) rfl ⟨?_,?_⟩
 ·rw[HG.out,HST.out]; rfl
 ·exact((hbw.setCell (p:=⟨w.heap.size,0,none⟩) (Nat.le_refl _) _).setCell (p:=⟨w.heap.size,1,none⟩) (Nat.le_refl _) _)
theorem new_four(w:World)(x y z u:Value)(T:TypeId){w1:World}(h:Below (w.alloc (.cells #[x,y,z,u] T)).heap.size (w.alloc (.cells #[x,y,z,u] T)) w1):w1.cell? ⟨w.heap.size,0,none⟩=some x∧w1.cell? ⟨w.heap.size,1,none⟩=some y∧w1.cell? ⟨w.heap.size,2,none⟩=some z∧w1.cell? ⟨w.heap.size,3,none⟩=some u∧w1.frozen? ⟨w.heap.size,0,none⟩=false∧w1.frozen? ⟨w.heap.size,1,none⟩=false∧w1.frozen? ⟨w.heap.size,2,none⟩=false∧w1.frozen? ⟨w.heap.size,3,none⟩=false:=by
 have e:=(h.block w.heap.size (by simp)).trans (heap_alloc_new w _)
 simp[World.cell?,World.frozen?,e]
theorem told_any(q:Rat)(vx:Value)(A:Nat→Prop)(w:World)(hx:Qbb q vx w A)(hl:RL q 137438953472) :
  Calls Tryz.prog 230 #[vx] w fun e w'=>e=.returned (Qfh q)∧Below w.heap.size w w':=by
 have hal:Below w.heap.size w (w.alloc (.cells #[.bool false,.string ⟨#[]⟩,.bool false,.string ⟨#[]⟩] 26)):=br.alloc (Nat.le_refl _) _
 have HX:=Lib.hid (hx.below hal)
 have HN:=Lib.hid (Num_any q vx A _ HX.out hl)
 have hln:(Qac q.num.natAbs).length<274877906944:=by have:=hl.1; omega
 have hld:(Qac (q.den:Int).natAbs).length<274877906944:=by have:=hl.2; simp; omega
 clear hx hal
 go_enter Tryz.func230,Tryz.ntmps230
 go_wp2_with fail
 refine HN.out.mono ?_
 rintro e w1 ⟨v1,rfl,hn1⟩
 have HK:=Lib.hid (back_any q.num v1 NoA w1 (hn1.2 NoA (Qbm _)) hln)
 go_wp2_with fail
 refine HK.out.mono ?_
 rintro e w2 ⟨rfl,hb2⟩
 have HD:=Lib.hid (Denom_any q vx A w2 ((HX.out.below hn1.1).below hb2) hl)
 go_wp2_with fail
 refine HD.out.mono ?_
 rintro e w3 ⟨v3,rfl,hn3⟩
 have HK2:=Lib.hid (back_any q.den v3 NoA w3 (hn3.2 NoA (Qbm _)) hld)
 go_wp2_with fail
 refine HK2.out.mono ?_
 rintro e w4 ⟨rfl,hb4⟩
 have hb13:=hn1.1.trans ((hb2.trans ((hn3.1.trans (hb4.mono hn3.1.size)).mono hb2.size)).mono hn1.1.size)
 obtain⟨e0,e1,e2,e3,f0,f1,f2,f3⟩:=new_four w _ _ _ _ _ hb13
 have hbw:Below w.heap.size w w4:=(br.alloc (Nat.le_refl _) _).trans (hb13.mono (by simp))
 obtain⟨b1,hb1⟩:∃ b1,b1=decide (q.num<0):=⟨_,rfl⟩
 obtain⟨b2,hb2'⟩:∃ b2,b2=decide ((q.den:Int)<0):=⟨_,rfl⟩
 obtain⟨s1,hs1⟩:∃ s1,s1=Qck q.num.natAbs:=⟨_,rfl⟩
 obtain⟨s2,hs2⟩:∃ s2,s2=Qck (q.den:Int).natAbs:=⟨_,rfl⟩
 have ez1:Qei q.num=.agg #[.bool b1,.string s1]:=by rw[hb1,hs1]; rfl
 have ez2:Qei (q.den:Int)=.agg #[.bool b2,.string s2]:=by rw[hb2',hs2]; rfl
 have HE:=Lib.hid (show Qfh q=.agg #[.bool b1,.string s1,.bool b2,.string s2] by unfold Qfh; rw[hb1,hb2',hs1,hs2]; simp)
 rw[ez1,ez2]
 clear hn1 hb2 hn3 hb4 hb13 hb1 hb2' hs1 hs2 ez1 ez2 HK HK2 HD HN
 go_wp2_with fail
 refine bodyPost_ret (v:=.agg #[.bool b1,.string s1,.bool b2,.string s2]) (by simp[results,Tryz.results230,go_sem,e0,e1,e2,e3]) rfl ⟨?_,?_⟩
 ·rw[HE.out]
 ·exact((((hbw.setCell (p:=⟨w.heap.size,0,none⟩) (Nat.le_refl _) _).setCell (p:=⟨w.heap.size,1,none⟩) (Nat.le_refl _) _).setCell (p:=⟨w.heap.size,2,none⟩) (Nat.le_refl _) _).setCell (p:=⟨w.heap.size,3,none⟩) (Nat.le_refl _) _)
end Go.Proofs.YtmimficdpfmfgaaGreat
namespace Tr
theorem byte_nz{a j:Nat}(h:a<256 ^ (j+1))(h0:a / 256 ^ j % 256≠0):(Qdj a).length=j+1:=by
 refine byteLE_length h (.inr ?_)
 simp only[Nat.add_sub_cancel]
 rcases Nat.lt_or_ge a (256 ^ j) with h1|h1
 ·rw[Nat.div_eq_of_lt h1] at h0; simp at h0
 ·exact h1
theorem byte_z{a j:Nat}(h:a<256 ^ (j+1))(h0:a / 256 ^ j % 256=0):a<256 ^ j:=by
 have hp:0<256 ^ j:=Nat.pow_pos (by decide)
 have h1:a / 256 ^ j<256:=by rw[Nat.div_lt_iff_lt_mul hp,Nat.mul_comm,←Nat.pow_succ]; exact h
 rw[Nat.mod_eq_of_lt h1] at h0
 rcases Nat.lt_or_ge a (256 ^ j) with h2|h2
 ·exact h2
 ·have:=Nat.div_pos h2 hp; omega
end Tr
namespace Go.Proofs.YtmimficdpfmfgaaGreat
open Go.RowKit Tr
theorem encZ_sgn(neg:Bool)(a:Nat)(h:a≠0):Qei (sgn neg a)=.agg #[.bool neg,.string (Qck a)]:=by
 unfold Qei
 rw[Qdd,sgn_neg]
 simp[h]
theorem encZ_zero:Qei 0=.agg #[.bool false,.string ⟨#[]⟩]:=by
 unfold Qei
 have:Qck (0:Int).natAbs=⟨#[]⟩:=by unfold Qck; simp[Qcw]
 rw[this]; rfl
theorem smade_pos(neg:Bool)(l:List Nat)(v:Value)(a:Nat)(ha:wv l=a)(ha0:a≠0)(w:World)(ol:WOk l)(hl:WSl w v l)(hm:l.length<274877906944) :
  Calls Tryz.prog 220 #[.bool neg,v] w fun e w'=>e=.returned (.agg #[.bool neg,.string (Qck a)])∧Below w.heap.size w w':=by
 have hcut:=fun(w1:World) (hb:Below w.heap.size w w1)=>Qfa l v w1 ol (hl.below hb) (by omega)
 rw[ha] at hcut
 have hlen:(Qac a).length<274877906944:=by rw[←ha]; exact Nat.lt_of_le_of_lt (Qak (Qhm ol)) hm
 have HC:=Lib.hid hcut
 have HA:=Lib.hid ha0
 obtain⟨m,hmw⟩:∃ m,(Qac a).length=m:=⟨_,rfl⟩
 have hm0:0<m:=by
  rw[←hmw]; exact List.length_pos_iff.2 (fun h=>ha0 (Qbw.1 h))
 rw[hmw] at hlen
 have HM:=Lib.hid hmw
 have e0:((m:Int) == 0)=false:=by simp; omega
 clear hcut ha ha0 hl hm ol hmw
 go_enter Tryz.func220,Tryz.ntmps220
 go_wp2_with fail
 refine(HC.out _ (br.alloc (Nat.le_refl _) _)).mono ?_
 rintro e w1 ⟨v1,rfl,hv1,rfl⟩
 obtain⟨p1,c1,rfl,hc1,hr1⟩:=hv1
 rw[HM.out]
 obtain⟨bb,ob,rfl,hbb,hcell⟩:=hr1 (by intro h; have:=HM.out; rw[h] at this; simp at this; omega)
 have HR:=Lib.hid hcell
 obtain⟨wo,hwo⟩:∃ wo,wo=w.alloc (.cells #[.bool false,.string ⟨#[]⟩] 24):=⟨_,rfl⟩
 have hz4:wo.heap[w.heap.size]?=some (.cells #[.bool false,.string ⟨#[]⟩] 24 (0,0)):=by rw[hwo]; exact heap_alloc_new w _
 have hB0:Below w.heap.size w wo:=by rw[hwo]; exact br.alloc (Nat.le_refl _) _
 have hlt0:w.heap.size<wo.heap.size:=(Array.getElem?_eq_some_iff.1 hz4).1
 rw[←hwo] at HR hbb ⊢
 clear hr1 hcell hwo
 go_wp2_with fail
 go_loop [5] (fun n=>∃ k:Nat,n=.int .i64 k∧k≤4*m∧Hid (a<256 ^ k)) (fun n=>(intOf n).toNat)
 case atStart =>
  refine⟨4*m,by go_num,Nat.le_refl _,Lib.hid ?_⟩
  have:=Qbu a
  rw[HM.out] at this
  rw[show(256:Nat) ^ (4*m)=4294967296 ^ m by rw[Nat.pow_mul]]; exact this
 case round =>
  obtain⟨k,rfl,hk,hlt⟩:=hrel
  cases k with
  | zero=>exact absurd hlt.out (by have:=HA.out; omega)
  | succ j =>
   obtain⟨kq,hkq⟩:∃ kq,kq=j / 4:=⟨_,rfl⟩
   obtain⟨kr,hkr⟩:∃ kr,kr=j % 4:=⟨_,rfl⟩
   obtain⟨ks,hks⟩:∃ ks,ks=8*kr:=⟨_,rfl⟩
   have hkM:kq<m:=by omega
   have c2:=HR.out kq (by have:=HM.out; omega)
   obtain⟨y,hy⟩:∃ y,y=wat (Qac a) kq:=⟨_,rfl⟩
   rw[show(Qac a)[kq]?.getD 0=y from hy.symm] at c2
   have hy32:y<4294967296:=by rw[hy]; exact Qce (Qan a) kq
   obtain⟨z,hz⟩:∃ z,z=a / 256 ^ j % 256:=⟨_,rfl⟩
   have hyz:y / 2 ^ ks % 256=z:=by rw[hy,wat_words,hks,byte_of_word a kq kr (by omega),hz,show 4*kq+kr=j by omega]
   have q0:((y:Int) / 2 ^ ks).tmod 256=(z:Int):=by
    rw[show(y:Int) / 2 ^ ks=((y / 2 ^ ks:Nat):Int) by simp,Int.tmod_eq_emod_of_nonneg (Int.natCast_nonneg _),←hyz]; simp
   have hz8:z<256:=by rw[←hyz]; exact Nat.mod_lt _ (by decide)
   have q4:((j+1:Nat):Int)=(j:Int)+1:=by omega
   have q5:(j:Int)+1 - 1=(j:Int):=by omega
   have q1:(j:Int) / 4=(kq:Int):=by omega
   have q2:(j:Int) % 4=(kr:Int):=by omega
   have q7:(8:Int)*(kr:Int)=(ks:Int):=by omega
   have q6:(kq:Int)<(m:Int):=by omega
   have q9:ks<32:=by omega
   have HZ:=Lib.hid hz
   clear hkq hkr hks hyz hy hz
   rw[q4]
   clear q4
   by_cases h0:z=0
   ·have HL:Hid (a<256 ^ j):=Lib.hid (byte_z hlt.out (by rw[←HZ.out,h0]))
    have hb:((z:Int) == 0)=true:=by rw[h0]; rfl
    clear h0
    go_wp2_with fail
    go_round
    case rel=>exact⟨j,rfl,by omega,HL⟩
    case measure=>simp[intOf]
   ·have HL:Hid ((Qdj a).length=j+1):=Lib.hid (byte_nz hlt.out (by rw[←HZ.out]; exact h0))
    have hb:((z:Int) == 0)=false:=by simp; exact h0
    obtain⟨n,hn⟩:∃ n,n=j+1:=⟨_,rfl⟩
    have hjn:(j:Int)+1=(n:Int):=by omega
    have hn1:(n:Int) - 1=(j:Int):=by omega
    have hn4:n≤4*m:=by omega
    rw[←hn] at HL
    rw[hjn]
    clear h0 hn q5
    have hmk:=run_mkB n (by omega)
    go_wp2_with fail
    go_loopw [7] (fun i wr=>∃(k:Nat) (cur:List Nat),k≤n∧i=.int .i64 k∧Hid (cur.length=n)∧Hid (∀ j,j<k→cur[n - 1 - j]?=some (a / 256 ^ j % 256))∧BlkB wr wo.heap.size cur∧Below wo.heap.size wo wr) (fun i _=>n - (intOf i).toNat)
    case atStart=>exact⟨0,List.replicate n 0,Nat.zero_le _,rfl,Lib.hid (by simp),Lib.hid (fun j hj=>by omega),BlkB.new _ _,br.alloc (Nat.le_refl _) _⟩
    case round =>
     obtain⟨k,cur,hk,rfl,hlc,hinv,hblk,hB⟩:=hrel
     by_cases hlt:k<n
     ·obtain⟨kq,hkq⟩:∃ kq,kq=k / 4:=⟨_,rfl⟩
      obtain⟨kr,hkr⟩:∃ kr,kr=k % 4:=⟨_,rfl⟩
      obtain⟨kj,hkj⟩:∃ kj,kj=n - 1 - k:=⟨_,rfl⟩
      obtain⟨ks,hks⟩:∃ ks,ks=8*kr:=⟨_,rfl⟩
      have hkM:kq<m:=by omega
      have c2:=(hB.cell (p:=⟨bb,ob+kq,none⟩) hbb).trans (HR.out kq (by have:=HM.out; omega))
      have c3:=hblk.cell (i:=kj) (by have:=hlc.out; omega)
      have f3:=hblk.frozen kj
      obtain⟨y,hy⟩:∃ y,y=wat (Qac a) kq:=⟨_,rfl⟩
      rw[show(Qac a)[kq]?.getD 0=y from hy.symm] at c2
      have hy32:y<4294967296:=by rw[hy]; exact Qce (Qan a) kq
      obtain⟨z,hz⟩:∃ z,z=a / 256 ^ k % 256:=⟨_,rfl⟩
      have hyz:y / 2 ^ ks % 256=z:=by rw[hy,wat_words,hks,byte_of_word a kq kr (by omega),hz,show 4*kq+kr=k by omega]
      have q0:(y:Int) / 2 ^ ks % 256=(z:Int):=by rw[←hyz]; simp
      have q1:(k:Int) / 4=(kq:Int):=by omega
      have q2:(k:Int) % 4=(kr:Int):=by omega
      have q3:(j:Int) - (k:Int)=(kj:Int):=by omega
      have q7:(8:Int)*(kr:Int)=(ks:Int):=by omega
      have q9:ks<32:=by omega
      have q5:(kj:Int)<(n:Int):=by omega
      have q6:(kq:Int)<(m:Int):=by omega
      have HK:=Lib.hid (And.intro hkj hz)
      clear hkq hkr hkj hks hyz hy hz
      go_wp2_with fail
      go_roundw
      case rel =>
       refine⟨k+1,cur.set kj z,by omega,by go_num,Lib.hid (by have:=hlc.out; simpa using this),Lib.hid (fun j hj=>?_),hblk.set kj z,hB.setCell (p:=⟨wo.heap.size,kj,none⟩) (Nat.le_refl _) _⟩
       have h1:=HK.out.1
       by_cases hjk:j=k
       ·subst hjk
        rw[←h1,←HK.out.2,List.getElem?_set_self (by have:=hlc.out; omega)]
       ·rw[List.getElem?_set_ne (by omega)]; exact hinv.out j (by omega)
      case measure=>simp[intOf]; omega
     ·obtain rfl:n=k:=by omega
      have hsz:(Qck a).size=n:=by rw[Qey]; exact HL.out
      have hbs:BSl wr (.slice (some ⟨wo.heap.size,0,none⟩) n n) (Qck a):=⟨wo.heap.size,0,n,by rw[hsz],hblk.lt,fun i hi=>by
       rw[Nat.zero_add,hblk.cell (i:=i) (by have:=hlc.out; omega)]
       have h1:=hinv.out (n - 1 - i) (by rw[hsz] at hi; omega)
       rw[show n - 1 - (n - 1 - i)=i by rw[hsz] at hi; omega] at h1
       have h2:=strN_get hi
       simp only[hsz] at h2
       rw[h1,h2]; rfl⟩
      have hcv:=Qid wr _ _ hbs
      have hz5:=(hB.block _ hlt0).trans hz4
      have hBw:=hB0.trans (hB.mono hB0.size)
      clear hbs hsz
      go_wp2_with (refine wpList_store_row rfl 24 _ _ rfl w.heap.size _ rfl rfl 24 _ hz5 (by kernel_rfl) (by kernel_rfl) (by kernel_rfl) ?_)
      refine bodyPost_ret (v:=.agg #[.bool neg,.string (Qck a)]) (by exact results_cell_row Tryz.results220 _ _ w.heap.size 24 #[.bool neg,.string (Qck a)] (0,0) _ rfl (setRow_heap _ _ _ _ _ _ hz5) Tryz.underlying24 rfl (by kernel_rfl)) rfl ⟨rfl,?_⟩
      exact below_setRow hBw (Nat.le_refl _) _
theorem smade_any(neg:Bool)(l:List Nat)(v:Value)(w:World)(ol:WOk l)(hl:WSl w v l)(hm:l.length<274877906944) :
  Calls Tryz.prog 220 #[.bool neg,v] w fun e w'=>e=.returned (Qei (sgn neg (wv l)))∧Below w.heap.size w w':=by
 by_cases ha0:wv l=0
 ·have hcut:=fun(w1:World) (hb:Below w.heap.size w w1)=>Qfa l v w1 ol (hl.below hb) (by omega)
  rw[ha0,Qaq] at hcut
  have hz:Qei (sgn neg 0)=.agg #[.bool false,.string ⟨#[]⟩]:=by rw[show sgn neg 0=0 by cases neg<;>rfl]; exact encZ_zero
  rw[ha0,hz]
  have HC:=Lib.hid hcut
  clear hcut hl ol ha0 hz hm
  go_enter Tryz.func220,Tryz.ntmps220
  go_wp2_with fail
  refine(HC.out _ (br.alloc (Nat.le_refl _) _)).mono ?_
  rintro e w1 ⟨v1,rfl,⟨p1,c1,rfl,hc1,hr1⟩,rfl⟩
  have hz4:=heap_alloc_new w (.cells #[.bool false,.string ⟨#[]⟩] 24)
  have hB0:Below w.heap.size w (w.alloc (.cells #[.bool false,.string ⟨#[]⟩] 24)):=br.alloc (Nat.le_refl _) _
  clear hr1
  go_wp2_with (refine wpList_store_row rfl 24 _ _ rfl w.heap.size _ rfl rfl 24 _ hz4 (by kernel_rfl) (by kernel_rfl) (by kernel_rfl) ?_)
  refine bodyPost_ret (v:=.agg #[.bool false,.string ⟨#[]⟩]) (by exact results_cell_row Tryz.results220 _ _ w.heap.size 24 #[.bool false,.string ⟨#[]⟩] (0,0) _ rfl (setRow_heap _ _ _ _ _ _ hz4) Tryz.underlying24 rfl (by kernel_rfl)) rfl ⟨rfl,?_⟩
  exact below_setRow hB0 (Nat.le_refl _) _
 ·rw[encZ_sgn neg _ ha0]
  exact smade_pos neg l v _ rfl ha0 w ol hl hm
end Go.Proofs.YtmimficdpfmfgaaGreat
namespace Tr
open Go Go.RowKit
section
variable{P:Program}{L:List GF}
def isIndex(t:TypeId)(o:Oper):Bool:=match o.op with|.index u _ _=>u == t|_=>false
def isConv(s d:TypeId)(o:Oper):Bool:=match o.op with|.convert a b _=>a == s && b == d|_=>false
def isNeg(o:Oper):Bool:=match o.op with|.unOp .neg _ _=>true|_=>false
def isLen(t:TypeId)(o:Oper):Bool:=match o.op with|.call c=>(match c.callee with|.builtin .len=>(match c.argTypes.toList,c.args.toList with|[u],[_]=>u == t|_,_=>false)|_=>false)|_=>false
def goIndex(t:TypeId)(x i:AR)(res:AC){vx vi v:Value}(h:∀ w,(Instr.index t vx vi).run P w=.ok v w)(hx:x.gv L=some vx:=by rfl)(hi:i.gv L=some vi:=by rfl)(hr:res.gv L=some v:=by rfl):GO P L :=
 ⟨{ same:=isIndex t,args:=[x,i],res:=.r (.c res) },fun o ho σ ρ w A ha=>by
  obtain⟨dst,op,ty,pos,after,guard⟩:=o
  unfold isIndex at ho
  cases op<;>simp at ho
  subst ho
  rename_i a b
  have h1:ρ a=vx:=(AR.gv_ok hx).1 ha.1
  have h2:ρ b=vi:=(AR.gv_ok hi).1 ha.2.1
  exact⟨v,by simp[execOp,h1,h2,h w],(AC.gv_ok hr).2 rfl⟩⟩
def goConv(s d:TypeId)(x:AR)(res:AC){vx v:Value}(h:∀ w,(convert s d vx).run P w=.ok v w)(hx:x.gv L=some vx:=by rfl)(hr:res.gv L=some v:=by rfl):GO P L :=
 ⟨{ same:=isConv s d,args:=[x],res:=.r (.c res) },fun o ho σ ρ w A ha=>by
  obtain⟨dst,op,ty,pos,after,guard⟩:=o
  unfold isConv at ho
  cases op<;>simp at ho
  obtain⟨rfl,rfl⟩:=ho
  rename_i a
  have h1:ρ a=vx:=(AR.gv_ok hx).1 ha.1
  exact⟨v,by simp[execOp,h1,h w],(AC.gv_ok hr).2 rfl⟩⟩
def goNeg(x:AR)(res:AC){vx v:Value}(h:∀ w,(Op.unary .neg vx).run P w=.ok v w)(hx:x.gv L=some vx:=by rfl)(hr:res.gv L=some v:=by rfl):GO P L :=
 ⟨{ same:=isNeg,args:=[x],res:=.r (.c res) },fun o ho σ ρ w A ha=>by
  obtain⟨dst,op,ty,pos,after,guard⟩:=o
  unfold isNeg at ho
  cases op<;>simp at ho
  rename_i u t a
  cases u<;>simp at ho
  have h1:ρ a=vx:=(AR.gv_ok hx).1 ha.1
  exact⟨v,by simp[execOp,h1,h w],(AC.gv_ok hr).2 rfl⟩⟩
def goLenG(t:TypeId)(x:AR)(res:AC){v:Value}(h:∀(w:World) (A:Nat→Prop) (u:Value) (ty:TypeId),x.ok (gT L) σ0 u w A→(Builtin.len_ #[t] ty #[u]).run P w=.ok v w)(hx:x.noown=true:=by rfl)(hr:res.gv L=some v:=by rfl):GO P L :=
 ⟨{ same:=isLen t,args:=[x],res:=.r (.c res) },fun o ho σ ρ w A ha=>by
  obtain⟨dst,op,ty,pos,after,guard⟩:=o
  unfold isLen at ho
  cases op<;>simp only[Bool.false_eq_true] at ho
  rename_i c
  obtain⟨callee,args,ats⟩:=c
  cases callee<;>simp only[Bool.false_eq_true] at ho
  rename_i b
  cases b<;>simp only[Bool.false_eq_true] at ho
  split at ho
  ·rename_i u y h1 h2
   have e1:ats=#[t]:=by apply Array.toList_inj.1; rw[h1]; simpa using ho
   have e2:args=#[y]:=by apply Array.toList_inj.1; rw[h2]
   subst e1; subst e2
   have h3:=h w A (ρ y) ty (AR.ok_noown hx ha.1)
   exact⟨v,by simp[execOp,resolve,invoke,builtin,h3],(AC.gv_ok hr).2 rfl⟩
  ·cases ho⟩
theorem toList_emp(a:ByteArray):(a.toList == (⟨#[]⟩:ByteArray).toList)=decide (a=⟨#[]⟩):=by
 have h0:(⟨#[]⟩:ByteArray).toList=[]:=(toList_nil_iff_emptyBytes _).2 rfl
 rw[h0,Bool.eq_iff_iff]
 simp only[beq_iff_eq,decide_eq_true_eq]
 exact toList_nil_iff_emptyBytes a
theorem str_eql(t:TypeId)(a:ByteArray)(c:Bool)(hc:decide (a=⟨#[]⟩)=c):∀(xo yo:Operand) (w:World),(do eqGuard .eql t xo yo (.string a) (.string ⟨#[]⟩); binOp .eql t (.string a) (.string ⟨#[]⟩):Sem Value).run P w=.ok (.bool c) w:=by
 intro xo yo w
 rw[←hc,←toList_emp]
 simp[eqGuard,binOp,Op.stringOp]
theorem str_neq(t:TypeId)(a:ByteArray)(c:Bool)(hc:decide (a=⟨#[]⟩)=!c):∀(xo yo:Operand) (w:World),(do eqGuard .neq t xo yo (.string a) (.string ⟨#[]⟩); binOp .neq t (.string a) (.string ⟨#[]⟩):Sem Value).run P w=.ok (.bool c) w:=by
 intro xo yo w
 rw[←toList_emp] at hc
 have:c=!(a.toList == (⟨#[]⟩:ByteArray).toList):=by rw[hc]; simp
 rw[this]
 simp[eqGuard,binOp,Op.stringOp]
theorem eqGuard_bool(op:BinOp)(t:TypeId)(xo yo:Operand)(a b:Bool)(w:World):(eqGuard op t xo yo (.bool a) (.bool b)).run P w=.ok () w:=by
 cases op<;>rfl
theorem bool_eql{t:TypeId}(ht:P.underlying t=some .bool)(a b c:Bool)(hc:(a == b)=c):∀(xo yo:Operand) (w:World),(do eqGuard .eql t xo yo (.bool a) (.bool b); binOp .eql t (.bool a) (.bool b):Sem Value).run P w=.ok (.bool c) w:=by
 intro xo yo w
 have e:binOp .eql t (.bool a) (.bool b)=(do pure (.bool (←Op.equal t (.bool a) (.bool b)))):=rfl
 rw[Sem.run_bind,eqGuard_bool,Result.andThen_ok,e,Sem.run_bind,run_equal_bool _ t a b ht,Result.andThen_ok,hc]
 rfl
theorem bool_neq{t:TypeId}(ht:P.underlying t=some .bool)(a b c:Bool)(hc:(a != b)=c):∀(xo yo:Operand) (w:World),(do eqGuard .neq t xo yo (.bool a) (.bool b); binOp .neq t (.bool a) (.bool b):Sem Value).run P w=.ok (.bool c) w:=by
 intro xo yo w
 have e:binOp .neq t (.bool a) (.bool b)=(do pure (.bool (!(←Op.equal t (.bool a) (.bool b))))):=rfl
 rw[Sem.run_bind,eqGuard_bool,Result.andThen_ok,e,Sem.run_bind,run_equal_bool _ t a b ht,Result.andThen_ok]
 rw[←hc]
 rfl
def Qed(op:BinOp)(a b:Int):Option Bool:=match op with
 | .eql=>some (a == b)|.neq=>some (a != b)|.lss=>some (decide (a<b))|.leq=>some (decide (a≤b))|.gtr=>some (decide (a>b))|.geq=>some (decide (a≥b))|_=>none
theorem int_cmp(op:BinOp)(t:TypeId)(k:IntKind)(a b:Int)(c:Bool)(hc:Qed op a b=some c):∀(xo yo:Operand) (w:World),(do eqGuard op t xo yo (.int k a) (.int k b); binOp op t (.int k a) (.int k b):Sem Value).run P w=.ok (.bool c) w:=by
 intro xo yo w
 cases op<;>simp only[Qed,Option.some.injEq] at hc<;>first|(cases hc; done)|(subst hc; simp[eqGuard,binOp,Op.intCmp])
def gbInt(op:BinOp)(t:TypeId)(k:IntKind)(x y:AC)(a b:Int)(c:Bool)(h:Qed op a b=some c)(hx:x.gv L=some (.int k a):=by rfl)(hy:y.gv L=some (.int k b):=by rfl):GB P L:=gb op t (.c x) (.c y) (.lit (.bool c)) (int_cmp op t k a b c h) hx hy rfl
def gbNeb(t:TypeId)(ht:P.underlying t=some .bool)(a b:Bool):GB P L:=gb .neq t (.c (.lit (.bool a))) (.c (.lit (.bool b))) (.lit (.bool (a != b))) (bool_neq ht a b _ rfl) rfl rfl rfl
end
end Tr
namespace Go.Proofs.YtmimficdpfmfgaaGreat
open Go.RowKit Tr
theorem strN_emp{n:Nat}:decide (Qck n=⟨#[]⟩)=decide (n=0):=by
 by_cases h:n=0
 ·subst h; simp[Qck,Qcw]
 ·have h1:Qck n≠⟨#[]⟩:=fun e=>by
   have h2:=Qey n
   rw[e] at h2
   have h3:(Qdj n).length=0:=h2.symm
   rw[Qdp (by omega)] at h3
   simp at h3
  simp[h,h1]
def gbEmp{P:Program}{L:List GF}(t:TypeId)(i n:Nat)(c:Bool)(h:decide (n=0)=c)(hx:(AC.sym i).gv L=some (.string (Qck n)):=by rfl):GB P L:=gb .eql t (.c (.sym i)) (.c (.lit .str0)) (.lit (.bool c)) (str_eql t (Qck n) c (by rw[strN_emp]; exact h)) hx rfl rfl
def gbNemp{P:Program}{L:List GF}(t:TypeId)(i n:Nat)(c:Bool)(h:decide (n=0)=!c)(hx:(AC.sym i).gv L=some (.string (Qck n)):=by rfl):GB P L:=gb .neq t (.c (.sym i)) (.c (.lit .str0)) (.lit (.bool c)) (str_neq t (Qck n) c (by rw[strN_emp]; exact h)) hx rfl rfl
def gbEmp0{P:Program}{L:List GF}(t:TypeId):GB P L:=gb .eql t (.c (.lit .str0)) (.c (.lit .str0)) (.lit (.bool true)) (str_eql t ⟨#[]⟩ true (by simp)) rfl rfl rfl
theorem encZ_neg{z:Int}(h:z<0):Qei z=.agg #[.bool true,.string (Qck z.natAbs)]:=by unfold Qei; simp[h]
theorem encZ_pos{z:Int}(h:0≤z):Qei z=.agg #[.bool false,.string (Qck z.natAbs)]:=by unfold Qei; simp; omega
theorem ssign(z:Int):PureC Tryz.prog 193 [Qei z] (.int .i64 z.sign):=by
 rcases Int.lt_trichotomy z 0 with h|h|h
 ·rw[encZ_neg h,Int.sign_eq_neg_one_of_neg h]
  exact Qbi (hp:=false) (L:=[gx (.string (Qck z.natAbs))]) Qae Qai [] [gbEmp 9 0 z.natAbs false (by simp; omega)] []
   Tryz.func193 60 [.row [.lit (.bool true),.sym 0]] (.r (.c (.lit (.int .i64 (-1))))) (by kernel_rfl)
 ·subst h
  rw[encZ_zero]
  exact Qbi (hp:=false) (L:=[]) Qae Qai [] [gbEmp0 9] [] Tryz.func193 60 [.row [.lit (.bool false),.lit .str0]] (.r (.c (.lit (.int .i64 0)))) (by kernel_rfl)
 ·rw[encZ_pos (by omega),Int.sign_eq_one_of_pos h]
  exact Qbi (hp:=false) (L:=[gx (.string (Qck z.natAbs))]) Qae Qai [] [gbEmp 9 0 z.natAbs false (by simp; omega)] []
   Tryz.func193 60 [.row [.lit (.bool false),.sym 0]] (.r (.c (.lit (.int .i64 1)))) (by kernel_rfl)
theorem sformed(neg:Bool)(s:ByteArray)(b:Bool)(hb:b=true↔WForm neg s):PureC Tryz.prog 233 [.agg #[.bool neg,.string s]] (.bool b):=by
  by_cases h0:s.size=0
  · have e : s = ⟨#[]⟩ := by
      cases s with|mk d=>have:d=#[]:=Array.eq_empty_of_size_eq_zero h0; rw[this]
    subst e
    have e2:b=!neg:=by
      rw[Bool.eq_iff_iff,hb]
      constructor
      · intro h; have:=h.1 h0; simp[this]
      · intro h; simp at h; exact⟨fun _=>h,fun x l e=>by cases e⟩
    subst e2
    cases neg
    · exact Qbi (hp:=false) (L:=[]) Qae Qai [] [gbEmp0 9] [] Tryz.func233 60 [.row [.lit (.bool false),.lit .str0]] (.r (.c (.lit (.bool true)))) (by kernel_rfl)
    · exact Qbi (hp:=false) (L:=[]) Qae Qai [] [gbEmp0 9] [] Tryz.func233 60 [.row [.lit (.bool true),.lit .str0]] (.r (.c (.lit (.bool false)))) (by kernel_rfl)
  · have hs:0<s.size:=by omega
    have e2:b=!((s[0].toNat:Int) == 0):=by
      rw[Bool.eq_iff_iff,hb]
      obtain⟨x,l,hx⟩:∃ x l,s.data.toList=x :: l:=by
        cases hq:s.data.toList with
        | nil => have h9 : s.data.size = 0 := by rw [← Array.length_toList,hq]; rfl
                 exact absurd h9 h0
        | cons x l=>exact⟨x,l,rfl⟩
      have e3:s[0]=x:=by
        have h9:s.data.toList[0]?=some x:=by rw[hx]; rfl
        have h8:s.data[0]?=some x:=by simpa using h9
        have h7:s.data[0]'hs=x:=(Array.getElem?_eq_some_iff.1 h8).2
        exact h7
      rw[e3]
      constructor
      · intro h
        have:=h.2 x l hx
        simp only[Bool.not_eq_true',beq_eq_false_iff_ne,ne_eq]
        intro e; apply this
        apply UInt8.toNat_inj.1; simp at e ⊢; omega
      · intro h
        refine⟨fun h'=>absurd h' h0,fun y m e=>?_⟩
        rw[hx] at e
        cases e
        intro e; subst e; simp at h
    exact Qbi (hp:=false) (L:=[gx (.string s),gx (.bool neg),gx (.int .u8 s[0].toNat),gx (.bool b)]) Qae Qai []
      [gb .eql 9 (.c (.sym 0)) (.c (.lit .str0)) (.lit (.bool false)) (str_eql _ s false (by simp only[decide_eq_false_iff_not]; intro e; subst e; exact h0 rfl)) rfl rfl rfl,gb .neq 5 (.c (.sym 2)) (.c (.lit (.int .u8 0))) (.sym 3) (int_cmp .neq _ .u8 _ _ _ (by rw[e2]; rfl)) rfl rfl rfl]
      [goIndex 9 (.c (.sym 0)) (.c (.lit (.int .i64 0))) (.sym 2) (fun w=>by
        show(Instr.index 9 (.string s) (.int .i64 0)).run _ w=_
        rw[run_index_string w 9 s .i64 0 Tryz.underlying9,dif_pos ⟨by omega,by omega⟩]; rfl) rfl rfl rfl]
      Tryz.func233 60 [.row [.sym 1,.sym 0]] (.r (.c (.sym 3))) (by kernel_rfl)
end Go.Proofs.YtmimficdpfmfgaaGreat
