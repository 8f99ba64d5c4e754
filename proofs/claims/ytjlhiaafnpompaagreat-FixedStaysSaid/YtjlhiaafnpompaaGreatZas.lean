/- Laws for the walk. -/
import Derived.Test.YtjlhiaafnpompaaGreatZar
set_option linter.unusedVariables false
set_option maxHeartbeats 4000000
namespace Go.Proofs.YtjlhiaafnpompaaGreat
open Go.RowKit Tr
def encZ(z:Int):Value:=.agg #[.bool (decide (z<0)),.string (strN z.natAbs)]
def encF(q:Rat):Value:=.agg #[.bool (decide (q.num<0)),.string (strN q.num.natAbs),.bool false,.string (strN q.den)]
def WForm(neg:Bool)(s:ByteArray):Prop:=(s.size=0→neg=false)∧NoLead s
theorem numS_zero{s:ByteArray}(h:NoLead s):numS s=0↔s.size=0:=by
 rw[←strN_numS h,numS_strN,size_strN]
 constructor
 ·intro h0; rw[h0,byteLE_zero]; rfl
 ·intro h0
  have:=List.eq_nil_of_length_eq_zero h0
  rcases Nat.eq_zero_or_pos (numS s) with h1|h1
  ·exact h1
  ·rw[byteLE_pos (by omega)] at this; cases this
theorem WForm.enc{neg:Bool}{s:ByteArray}(h:WForm neg s):Value.agg #[.bool neg,.string s]=encZ (sgn neg (numS s)):=by
 unfold encZ
 rw[natAbs_sgn,strN_numS h.2,sgn_neg]
 have:(neg && decide (numS s≠0))=neg:=by
  cases hn:neg
  ·rfl
  ·have:s.size≠0:=fun h0=>by have:=h.1 h0; rw[hn] at this; cases this
   have h2:numS s≠0:=fun h0=>this ((numS_zero h.2).1 h0)
   simp[h2]
 rw[this]
theorem below_bytes(w:World)(e:TypeId)(s:ByteArray):Below w.heap.size w (Lib.bytesWorld w e s):=by
 refine⟨?_,?_,?_,?_,fun k hk=>Lib.bytesWorld_at_old w e s k hk⟩
 ·simp[Lib.bytesWorld,World.freeze,World.alloc,World.drew,-World.alloc_eq,-World.drew_eq]
 ·simp[Lib.bytesWorld,World.freeze,World.alloc,World.drew,-World.alloc_eq,-World.drew_eq]
 ·simp[Lib.bytesWorld,World.freeze,World.alloc,World.drew,-World.alloc_eq,-World.drew_eq]
 ·rw[Lib.bytesWorld_size]; omega
theorem bsl_bytes(w:World)(s:ByteArray):BSl (Lib.bytesWorld w 5 s) (.slice (some ⟨w.heap.size,0,none⟩) s.size (grownCap w s.size 0 5)) s:=by
 refine⟨w.heap.size,0,_,rfl,by rw[Lib.bytesWorld_size]; omega,fun i hi=>?_⟩
 rw[Nat.zero_add,Lib.bytesWorld_cell w _ s i hi]
 simp[List.getD,hi]
 rfl
theorem Put.newAt{m o:Nat}{C:Array Value}{T:TypeId}{z:Int}{w w1 w':World}(h:Put m o C T z w1 w')(ho:o+1<C.size)(hb:Below w.heap.size w w1)(hm:w.heap.size≤m):NewI z (.pointer (some ⟨m,o,none⟩)) w w':=by
 refine⟨hb.trans (h.1.below hm hb.size),fun A hA=>?_⟩
 exact(h.intP ho (hA.below hb)).wider fun b hb'=>⟨hb',fun e=>by have:=hA.lt hb'; omega⟩
theorem PutR.newAt{m:Nat}{q:Rat}{w w1 w':World}(h:PutR m q w1 w')(hb:Below w.heap.size w w1)(hm:w.heap.size≤m):NewR q (.pointer (some ⟨m,0,none⟩)) w w':=by
 refine⟨hb.trans (h.1.below hm hb.size),fun A hA=>?_⟩
 exact(h.ratP (hA.below hb)).wider fun b hb'=>⟨hb',fun e=>by have:=hA.lt hb'; omega⟩
set_option maxRecDepth 100000 in
theorem number_any(neg:Bool)(s:ByteArray)(hs:s.size<274877906944)(w:World) :
  Calls Tryz.prog 143 #[.agg #[.bool neg,.string s]] w fun e w'=>∃ v,e=.returned v∧NewI (sgn neg (numS s)) v w w':=by
 have kc:=fun w=>Lib.run_convert_string_bytes (P:=Tryz.prog) w 9 153 5 s Tryz.underlying9 Tryz.underlying153 Tryz.underlying5
 have hlen:(words (numS s)).length<274877906944:=Nat.lt_of_le_of_lt (words_length_le (k:=s.size) (Nat.lt_of_lt_of_le (numS_lt s) (Nat.pow_le_pow_left (by decide) _))) hs
 have HL:=Lib.hid hlen
 clear hlen
 go_enter Tryz.func143,Tryz.ntmps143
 go_wp2_with fail
 clear kc
 obtain⟨W,hW⟩:∃ W,W=(w.alloc (.cells #[.bool neg,.string s] 23)).alloc (.cells #[.bool false,.slice none 0 0] 127):=⟨_,rfl⟩
 have hBW:Below w.heap.size w W:=by rw[hW]; exact(br.alloc (Nat.le_refl _) _).alloc (by simp) _
 have hsz:w.heap.size+1+1=W.heap.size:=by rw[hW]; simp
 have hm:W.heap[w.heap.size+1]?=some (.cells #[.bool false,.slice none 0 0] 127 (0,0)):=by
  rw[hW]; have:=heap_alloc_new (w.alloc (.cells #[.bool neg,.string s] 23)) (.cells #[.bool false,.slice none 0 0] 127); simpa using this
 have hc:W.cell? ⟨w.heap.size,0,none⟩=some (.bool neg):=by
  rw[hW]; simp[go_sem]
 rw[←hW,hsz]
 have hb1:=below_bytes W 5 s
 have hb2:Below w.heap.size w (Lib.bytesWorld W 5 s):=hBW.trans (hb1.mono hBW.size)
 have hm2:=(hb1.block _ (by omega)).trans hm
 have hc2:=(hb1.cell (p:=⟨w.heap.size,0,none⟩) (by show w.heap.size<_; omega)).trans hc
 have HS:=Lib.hid (setBytes_any (w.heap.size+1) 0 _ _ s _ rfl _ _ hm2 (by decide) noW_zInt (bsl_bytes W s) hs)
 have HB:=Lib.hid hb2
 have hlt:w.heap.size<(Lib.bytesWorld W 5 s).heap.size:=by rw[Lib.bytesWorld_size]; omega
 clear hW hBW hm hc hb1 hm2 hb2 hsz
 refine HS.out.mono ?_
 rintro e w1 ⟨rfl,hp⟩
 have hc1:=(World.cell?_of_block (w:=Lib.bytesWorld W 5 s) (a:=⟨w.heap.size,0,none⟩) (hp.1.block w.heap.size hlt (by omega))).trans hc2
 clear HS hc2
 cases neg
 ·go_wp2
  go_ret
  exact⟨_,rfl,hp.newAt (by decide) HB.out (by omega)⟩
 ·obtain⟨C1,hm3,hs3,hn3⟩:=put_heap hp
  have hin:=(hp.intP (by decide) (rcv_noA _)).noA
  have HN:=Lib.hid (Neg_any (w.heap.size+1) 0 C1 _ _ _ NoA w1 hm3 (by rw[hs3]; decide) (hn3 noW_zInt) hin (by simpa using HL.out))
  have HP:=Lib.hid hp
  have H3:=Lib.hid hs3
  clear hm3 hin hn3 hp hs3
  go_wp2_with fail
  refine HN.out.mono ?_
  rintro e w2 ⟨rfl,hp2⟩
  go_wp2_with fail
  go_ret
  refine⟨_,rfl,hp2.newAt (by rw[H3.out]; decide) (HB.out.trans (HP.out.1.below (by omega) (by omega))) (by omega)⟩
set_option maxRecDepth 100000 in
theorem xnumber_any(neg:Bool)(s:ByteArray)(hs:s.size<274877906944)(w:World) :
  Calls Tryz.prog 120 #[.agg #[.bool neg,.string s]] w fun e w'=>∃ v,e=.returned v∧NewI (sgn neg (numS s)) v w w':=by
 have kc:=fun w=>Lib.run_convert_string_bytes (P:=Tryz.prog) w 9 153 5 s Tryz.underlying9 Tryz.underlying153 Tryz.underlying5
 have hlen:(words (numS s)).length<274877906944:=Nat.lt_of_le_of_lt (words_length_le (k:=s.size) (Nat.lt_of_lt_of_le (numS_lt s) (Nat.pow_le_pow_left (by decide) _))) hs
 have HL:=Lib.hid hlen
 clear hlen
 go_enter Tryz.func120,Tryz.ntmps120
 go_wp2_with fail
 clear kc
 obtain⟨W,hW⟩:∃ W,W=(w.alloc (.cells #[.bool neg,.string s] 23)).alloc (.cells #[.bool false,.slice none 0 0] 127):=⟨_,rfl⟩
 have hBW:Below w.heap.size w W:=by rw[hW]; exact(br.alloc (Nat.le_refl _) _).alloc (by simp) _
 have hsz:w.heap.size+1+1=W.heap.size:=by rw[hW]; simp
 have hm:W.heap[w.heap.size+1]?=some (.cells #[.bool false,.slice none 0 0] 127 (0,0)):=by
  rw[hW]; have:=heap_alloc_new (w.alloc (.cells #[.bool neg,.string s] 23)) (.cells #[.bool false,.slice none 0 0] 127); simpa using this
 have hc:W.cell? ⟨w.heap.size,0,none⟩=some (.bool neg):=by
  rw[hW]; simp[go_sem]
 rw[←hW,hsz]
 have hb1:=below_bytes W 5 s
 have hb2:Below w.heap.size w (Lib.bytesWorld W 5 s):=hBW.trans (hb1.mono hBW.size)
 have hm2:=(hb1.block _ (by omega)).trans hm
 have hc2:=(hb1.cell (p:=⟨w.heap.size,0,none⟩) (by show w.heap.size<_; omega)).trans hc
 have HS:=Lib.hid (setBytes_any (w.heap.size+1) 0 _ _ s _ rfl _ _ hm2 (by decide) noW_zInt (bsl_bytes W s) hs)
 have HB:=Lib.hid hb2
 have hlt:w.heap.size<(Lib.bytesWorld W 5 s).heap.size:=by rw[Lib.bytesWorld_size]; omega
 clear hW hBW hm hc hb1 hm2 hb2 hsz
 refine HS.out.mono ?_
 rintro e w1 ⟨rfl,hp⟩
 have hc1:=(World.cell?_of_block (w:=Lib.bytesWorld W 5 s) (a:=⟨w.heap.size,0,none⟩) (hp.1.block w.heap.size hlt (by omega))).trans hc2
 clear HS hc2
 cases neg
 ·go_wp2
  go_ret
  exact⟨_,rfl,hp.newAt (by decide) HB.out (by omega)⟩
 ·obtain⟨C1,hm3,hs3,hn3⟩:=put_heap hp
  have hin:=(hp.intP (by decide) (rcv_noA _)).noA
  have HN:=Lib.hid (Neg_any (w.heap.size+1) 0 C1 _ _ _ NoA w1 hm3 (by rw[hs3]; decide) (hn3 noW_zInt) hin (by simpa using HL.out))
  have HP:=Lib.hid hp
  have H3:=Lib.hid hs3
  clear hm3 hin hn3 hp hs3
  go_wp2_with fail
  refine HN.out.mono ?_
  rintro e w2 ⟨rfl,hp2⟩
  go_wp2_with fail
  go_ret
  refine⟨_,rfl,hp2.newAt (by rw[H3.out]; decide) (HB.out.trans (HP.out.1.below (by omega) (by omega))) (by omega)⟩
set_option maxRecDepth 100000 in
theorem ewhole_any(neg:Bool)(s:ByteArray)(hs:s.size<274877906944)(w:World) :
  Calls Tryz.prog 118 #[.agg #[.bool neg,.string s]] w fun e w'=>∃ v,e=.returned v∧NewI (sgn neg (numS s)) v w w':=by
 have kc:=fun w=>Lib.run_convert_string_bytes (P:=Tryz.prog) w 9 153 5 s Tryz.underlying9 Tryz.underlying153 Tryz.underlying5
 have hlen:(words (numS s)).length<274877906944:=Nat.lt_of_le_of_lt (words_length_le (k:=s.size) (Nat.lt_of_lt_of_le (numS_lt s) (Nat.pow_le_pow_left (by decide) _))) hs
 have HL:=Lib.hid hlen
 clear hlen
 go_enter Tryz.func118,Tryz.ntmps118
 go_wp2_with fail
 clear kc
 obtain⟨W,hW⟩:∃ W,W=(w.alloc (.cells #[.bool neg,.string s] 23)).alloc (.cells #[.bool false,.slice none 0 0] 127):=⟨_,rfl⟩
 have hBW:Below w.heap.size w W:=by rw[hW]; exact(br.alloc (Nat.le_refl _) _).alloc (by simp) _
 have hsz:w.heap.size+1+1=W.heap.size:=by rw[hW]; simp
 have hm:W.heap[w.heap.size+1]?=some (.cells #[.bool false,.slice none 0 0] 127 (0,0)):=by
  rw[hW]; have:=heap_alloc_new (w.alloc (.cells #[.bool neg,.string s] 23)) (.cells #[.bool false,.slice none 0 0] 127); simpa using this
 have hc:W.cell? ⟨w.heap.size,0,none⟩=some (.bool neg):=by
  rw[hW]; simp[go_sem]
 rw[←hW,hsz]
 have hb1:=below_bytes W 5 s
 have hb2:Below w.heap.size w (Lib.bytesWorld W 5 s):=hBW.trans (hb1.mono hBW.size)
 have hm2:=(hb1.block _ (by omega)).trans hm
 have hc2:=(hb1.cell (p:=⟨w.heap.size,0,none⟩) (by show w.heap.size<_; omega)).trans hc
 have HS:=Lib.hid (setBytes_any (w.heap.size+1) 0 _ _ s _ rfl _ _ hm2 (by decide) noW_zInt (bsl_bytes W s) hs)
 have HB:=Lib.hid hb2
 have hlt:w.heap.size<(Lib.bytesWorld W 5 s).heap.size:=by rw[Lib.bytesWorld_size]; omega
 clear hW hBW hm hc hb1 hm2 hb2 hsz
 refine HS.out.mono ?_
 rintro e w1 ⟨rfl,hp⟩
 have hc1:=(World.cell?_of_block (w:=Lib.bytesWorld W 5 s) (a:=⟨w.heap.size,0,none⟩) (hp.1.block w.heap.size hlt (by omega))).trans hc2
 clear HS hc2
 cases neg
 ·go_wp2
  go_ret
  exact⟨_,rfl,hp.newAt (by decide) HB.out (by omega)⟩
 ·obtain⟨C1,hm3,hs3,hn3⟩:=put_heap hp
  have hin:=(hp.intP (by decide) (rcv_noA _)).noA
  have HN:=Lib.hid (Neg_any (w.heap.size+1) 0 C1 _ _ _ NoA w1 hm3 (by rw[hs3]; decide) (hn3 noW_zInt) hin (by simpa using HL.out))
  have HP:=Lib.hid hp
  have H3:=Lib.hid hs3
  clear hm3 hin hn3 hp hs3
  go_wp2_with fail
  refine HN.out.mono ?_
  rintro e w2 ⟨rfl,hp2⟩
  go_wp2_with fail
  go_ret
  refine⟨_,rfl,hp2.newAt (by rw[H3.out]; decide) (HB.out.trans (HP.out.1.below (by omega) (by omega))) (by omega)⟩
theorem IntP.avoid{z:Int}{b o:Nat}{w:World}{A:Nat→Prop}(h:IntP z (.pointer (some ⟨b,o,none⟩)) w NoA)(hA:Rcv A w)(hb:¬A b):IntP z (.pointer (some ⟨b,o,none⟩)) w A:=by
 obtain⟨b',o',sl,e,h1,_,h3,h4,h5⟩:=h
 cases e
 exact⟨b,o,sl,rfl,h1,hb,h3,h4,h5.wsl.avoids hA⟩
theorem RatP.avoid{q:Rat}{m:Nat}{w:World}{A:Nat→Prop}(h:RatP q (.pointer (some ⟨m,0,none⟩)) w NoA)(hA:Rcv A w)(hm:¬A m):RatP q (.pointer (some ⟨m,0,none⟩)) w A:=by
 obtain⟨b,e,h1,h2⟩:=h
 cases e
 exact⟨m,rfl,h1.avoid hA hm,h2.imp (fun h=>h.avoid hA hm) (fun h=>⟨h.1,h.2.avoid hA hm⟩)⟩
def RatM(base:Nat)(q:Rat):Fact:=fun v w A=>∃ m,v=.pointer (some ⟨m,0,none⟩)∧base≤m∧RatP q v w A
theorem RatM.keeps(base:Nat)(q:Rat):(RatM base q).Keeps:=by
 intro v w w' A A' hs hk ⟨m,h1,h2,h3⟩
 exact⟨m,h1,h2,RatP.keeps q v w w' A A' hs hk h3⟩
theorem PutR.ratM{m base:Nat}{q:Rat}{w w':World}(h:PutR m q w w')(hm:base≤m){A:Nat→Prop}(hA:Rcv A w):RatM base q (.pointer (some ⟨m,0,none⟩)) w' (fun b=>A b∧b≠m):=⟨m,rfl,hm,h.ratP hA⟩
theorem RatM.new{q:Rat}{v:Value}{w w':World}{base:Nat}(h:RatM base q v w' NoA)(hb:Below w.heap.size w w')(hw:w.heap.size≤base):NewR q v w w':=by
 obtain⟨m,rfl,h2,h3⟩:=h
 exact⟨hb,fun A hA=>h3.avoid (hA.below hb) (fun hm=>by have:=hA.lt hm; omega)⟩
end Go.Proofs.YtjlhiaafnpompaaGreat
namespace Tr
end Tr
namespace Go.Proofs.YtjlhiaafnpompaaGreat
open Go.RowKit Tr
end Go.Proofs.YtjlhiaafnpompaaGreat
namespace Go.Proofs.YtjlhiaafnpompaaGreat
open Go.RowKit Tr
theorem run_conv_str(w:World)(v:Value)(s:ByteArray)(h:BSl w v s):(convert 153 9 v).run Tryz.prog w=.ok (.string s) w:=by
 obtain⟨b,off,cap,rfl,_,hb⟩:=h
 exact Lib.run_convert_whole w 153 5 9 Tryz.underlying153 Tryz.underlying5 Tryz.underlying9 b off s hb cap
theorem sign_lt(z:Int):decide (z.sign<0)=decide (z<0):=by
 rcases Int.lt_trichotomy z 0 with h|h|h
 ·rw[Int.sign_eq_neg_one_of_neg h]; simp[h]
 ·subst h; rfl
 ·rw[Int.sign_eq_one_of_pos h]; have:¬z<0:=by omega
  simp[this]
theorem new_two(w:World)(x y:Value)(T:TypeId){w1:World}(h:Below (w.alloc (.cells #[x,y] T)).heap.size (w.alloc (.cells #[x,y] T)) w1):w1.cell? ⟨w.heap.size,0,none⟩=some x∧w1.cell? ⟨w.heap.size,1,none⟩=some y∧w1.frozen? ⟨w.heap.size,0,none⟩=false∧w1.frozen? ⟨w.heap.size,1,none⟩=false:=by
 have e:=(h.block w.heap.size (by simp)).trans (heap_alloc_new w _)
 simp[World.cell?,World.frozen?,e]
set_option maxRecDepth 100000 in
theorem back_any(z:Int)(vx:Value)(A:Nat→Prop)(w:World)(hx:IntP z vx w A)(hn:(words z.natAbs).length<274877906944) :
  Calls Tryz.prog 114 #[vx] w fun e w'=>e=.returned (encZ z)∧Below w.heap.size w w':=by
 have hal:Below w.heap.size w (w.alloc (.cells #[.bool false,.string ⟨#[]⟩] 23)):=br.alloc (Nat.le_refl _) _
 obtain⟨sg,hsg⟩:∃ sg,sg=z.sign:=⟨_,rfl⟩
 have HS:=Lib.hid (Sign_any z vx A _ (hx.below hal))
 have HB:=Lib.hid (Bytes_any z vx A _ (hx.below hal) hn)
 rw[←hsg] at HS
 have HG:Hid (decide (sg<0)=decide (z<0)):=Lib.hid (by rw[hsg,sign_lt])
 clear hsg hx hal
 go_enter Tryz.func114,Tryz.ntmps114
 go_wp2_with fail
 refine HS.out.mono ?_
 rintro e w0 ⟨rfl,rfl⟩
 go_wp2_with fail
 refine HB.out.mono ?_
 rintro e w1 ⟨v,rfl,hv,hb⟩
 obtain⟨e0,e1,f0,f1⟩:=new_two w _ _ _ hb
 have hr:=run_conv_str w1 v _ hv
 have hbw:Below w.heap.size w w1:=(br.alloc (Nat.le_refl _) _).trans (hb.mono (by simp))
 obtain⟨st,hst⟩:∃ st,st=strN z.natAbs:=⟨_,rfl⟩
 rw[←hst] at hr
 have HST:=Lib.hid hst
 clear hb hv hst HS HB
 go_wp2_with fail
 refine bodyPost_ret (v:=.agg #[.bool (decide (sg<0)),.string st]) (by simp[results,Tryz.results114,go_sem,e0,e1]) rfl ⟨?_,?_⟩
 ·rw[HG.out,HST.out]; rfl
 ·exact((hbw.setCell (p:=⟨w.heap.size,0,none⟩) (Nat.le_refl _) _).setCell (p:=⟨w.heap.size,1,none⟩) (Nat.le_refl _) _)
theorem new_four(w:World)(x y z u:Value)(T:TypeId){w1:World}(h:Below (w.alloc (.cells #[x,y,z,u] T)).heap.size (w.alloc (.cells #[x,y,z,u] T)) w1):w1.cell? ⟨w.heap.size,0,none⟩=some x∧w1.cell? ⟨w.heap.size,1,none⟩=some y∧w1.cell? ⟨w.heap.size,2,none⟩=some z∧w1.cell? ⟨w.heap.size,3,none⟩=some u∧w1.frozen? ⟨w.heap.size,0,none⟩=false∧w1.frozen? ⟨w.heap.size,1,none⟩=false∧w1.frozen? ⟨w.heap.size,2,none⟩=false∧w1.frozen? ⟨w.heap.size,3,none⟩=false:=by
 have e:=(h.block w.heap.size (by simp)).trans (heap_alloc_new w _)
 simp[World.cell?,World.frozen?,e]
set_option maxRecDepth 100000 in
theorem told_any(q:Rat)(vx:Value)(A:Nat→Prop)(w:World)(hx:RatP q vx w A)(hl:RL q 137438953472) :
  Calls Tryz.prog 90 #[vx] w fun e w'=>e=.returned (encF q)∧Below w.heap.size w w':=by
 have hal:Below w.heap.size w (w.alloc (.cells #[.bool false,.string ⟨#[]⟩,.bool false,.string ⟨#[]⟩] 25)):=br.alloc (Nat.le_refl _) _
 have HX:=Lib.hid (hx.below hal)
 have HN:=Lib.hid (Num_any q vx A _ HX.out hl)
 have hln:(words q.num.natAbs).length<274877906944:=by have:=hl.1; omega
 have hld:(words (q.den:Int).natAbs).length<274877906944:=by have:=hl.2; simp; omega
 clear hx hal
 go_enter Tryz.func90,Tryz.ntmps90
 go_wp2_with fail
 refine HN.out.mono ?_
 rintro e w1 ⟨v1,rfl,hn1⟩
 have HK:=Lib.hid (back_any q.num v1 NoA w1 (hn1.2 NoA (rcv_noA _)) hln)
 go_wp2_with fail
 refine HK.out.mono ?_
 rintro e w2 ⟨rfl,hb2⟩
 have HD:=Lib.hid (Denom_any q vx A w2 ((HX.out.below hn1.1).below hb2) hl)
 go_wp2_with fail
 refine HD.out.mono ?_
 rintro e w3 ⟨v3,rfl,hn3⟩
 have HK2:=Lib.hid (back_any q.den v3 NoA w3 (hn3.2 NoA (rcv_noA _)) hld)
 go_wp2_with fail
 refine HK2.out.mono ?_
 rintro e w4 ⟨rfl,hb4⟩
 have hb13:=hn1.1.trans ((hb2.trans ((hn3.1.trans (hb4.mono hn3.1.size)).mono hb2.size)).mono hn1.1.size)
 obtain⟨e0,e1,e2,e3,f0,f1,f2,f3⟩:=new_four w _ _ _ _ _ hb13
 have hbw:Below w.heap.size w w4:=(br.alloc (Nat.le_refl _) _).trans (hb13.mono (by simp))
 obtain⟨b1,hb1⟩:∃ b1,b1=decide (q.num<0):=⟨_,rfl⟩
 obtain⟨b2,hb2'⟩:∃ b2,b2=decide ((q.den:Int)<0):=⟨_,rfl⟩
 obtain⟨s1,hs1⟩:∃ s1,s1=strN q.num.natAbs:=⟨_,rfl⟩
 obtain⟨s2,hs2⟩:∃ s2,s2=strN (q.den:Int).natAbs:=⟨_,rfl⟩
 have ez1:encZ q.num=.agg #[.bool b1,.string s1]:=by rw[hb1,hs1]; rfl
 have ez2:encZ (q.den:Int)=.agg #[.bool b2,.string s2]:=by rw[hb2',hs2]; rfl
 have HE:=Lib.hid (show encF q=.agg #[.bool b1,.string s1,.bool b2,.string s2] by unfold encF; rw[hb1,hb2',hs1,hs2]; simp)
 rw[ez1,ez2]
 clear hn1 hb2 hn3 hb4 hb13 hb1 hb2' hs1 hs2 ez1 ez2 HK HK2 HD HN
 go_wp2_with fail
 refine bodyPost_ret (v:=.agg #[.bool b1,.string s1,.bool b2,.string s2]) (by simp[results,Tryz.results90,go_sem,e0,e1,e2,e3]) rfl ⟨?_,?_⟩
 ·rw[HE.out]
 ·exact((((hbw.setCell (p:=⟨w.heap.size,0,none⟩) (Nat.le_refl _) _).setCell (p:=⟨w.heap.size,1,none⟩) (Nat.le_refl _) _).setCell (p:=⟨w.heap.size,2,none⟩) (Nat.le_refl _) _).setCell (p:=⟨w.heap.size,3,none⟩) (Nat.le_refl _) _)
set_option maxRecDepth 100000 in
theorem rat_any(n1 n2:Bool)(s1 s2:ByteArray)(hd0:numS s2≠0)(h1:s1.size<274877906944)(h2:s2.size<274877906944)(w:World) :
  Calls Tryz.prog 133 #[.agg #[.bool n1,.string s1,.bool n2,.string s2]] w fun e w'=>∃ v,e=.returned v∧NewR (Rat.divInt (sgn n1 (numS s1)) (sgn n2 (numS s2))) v w w':=by
 have hdz:sgn n2 (numS s2)≠0:=by unfold sgn; cases n2<;>simp<;>omega
 have HZ:=Lib.hid hdz
 have l1:(words (sgn n1 (numS s1)).natAbs).length<274877906944:=by rw[natAbs_sgn]; exact Nat.lt_of_le_of_lt (words_length_le (k:=s1.size) (Nat.lt_of_lt_of_le (numS_lt s1) (Nat.pow_le_pow_left (by decide) _))) h1
 have l2:(words (sgn n2 (numS s2)).natAbs).length<274877906944:=by rw[natAbs_sgn]; exact Nat.lt_of_le_of_lt (words_length_le (k:=s2.size) (Nat.lt_of_lt_of_le (numS_lt s2) (Nat.pow_le_pow_left (by decide) _))) h2
 have HL:=Lib.hid (And.intro l1 l2)
 clear hdz hd0 l1 l2
 go_enter Tryz.func133,Tryz.ntmps133
 go_wp2_with fail
 obtain⟨W,hW⟩:∃ W,W=w.alloc (.cells #[.bool n1,.string s1,.bool n2,.string s2] 25):=⟨_,rfl⟩
 have hB:Below w.heap.size w W:=by rw[hW]; exact br.alloc (Nat.le_refl _) _
 have hWs:w.heap.size<W.heap.size:=by rw[hW]; simp
 obtain⟨e0,e1,e2,e3,_⟩:=new_four w (.bool n1) (.string s1) (.bool n2) (.string s2) 25 br
 rw[←hW] at e0 e1 e2 e3 ⊢
 clear hW
 refine wp_region_inv [(.new zR,[]),(.lit,[]),(.lit,[]),(.val,[]),(.lit,[]),(.lit,[]),(.val,[]),(.on 0 zR,[3,6])]
  (pickF [(3,IntP (sgn n1 (numS s1))),(6,IntP (sgn n2 (numS s2))),(7,RatM W.heap.size (Rat.divInt (sgn n1 (numS s1)) (sgn n2 (numS s2))))]) (by kernel_rfl) ?_ ?_ (by simp[noW_zRat]) (by simp) (by kernel_rfl)
 ·exact keeps_pick (by simp[IntP.keeps,RatM.keeps])
 ·refine⟨fun f w1=>by go_simp,?_⟩
  repeat (refine⟨_,fun f w1 h1=>by(have d0:=ct h1 hWs e0; have d1:=ct h1 hWs e1; have d2:=ct h1 hWs e2; have d3:=ct h1 hWs e3; go_simp; rfl),?_⟩)
  simp only[Act.put,nrA,nrB,nrC,Nat.reduceAdd]
  refine⟨fun f w1 A1 k1 hA hN hd K hK=>by
   go_simp
   refine(number_any n1 s1 h1 w1).mono ?_
   rintro e w' ⟨v,rfl,hn⟩
   exact hK _ _ hn.1 (hn.2 A1 hA),?_⟩
  repeat (refine⟨_,fun f w1 h1=>by(have d0:=ct h1 hWs e0; have d1:=ct h1 hWs e1; have d2:=ct h1 hWs e2; have d3:=ct h1 hWs e3; go_simp; rfl),?_⟩)
  simp only[Act.put,nrA,nrB,nrC,Nat.reduceAdd]
  refine⟨fun f w1 A1 k1 hA hN hd K hK=>by
   go_simp
   refine(number_any n2 s2 h2 w1).mono ?_
   rintro e w' ⟨v,rfl,hn⟩
   exact hK _ _ hn.1 (hn.2 A1 hA),?_⟩
  simp only[Act.put,nrA,nrB,nrC,Nat.reduceAdd]
  refine⟨fun f w1 A1 m1 k1 hA hN hAm hm0 e hz hd K hK=>by
   simp only[e] at hK ⊢
   have i1:IntP (sgn n1 (numS s1)) (f 3) w1 A1:=hd 3 (by simp)
   have i2:IntP (sgn n2 (numS s2)) (f 6) w1 A1:=hd 6 (by simp)
   go_simp
   refine(SetFrac_any m1 _ _ _ HZ.out _ _ A1 w1 hz (by decide) noW_zRat i1 i2 HL.out.1 HL.out.2).mono ?_
   rintro e w' ⟨rfl,hp⟩
   exact hK _ w' hp.1 (hp.ratM hm0 hA),?_⟩
  intro f w1 k1 hF
  have i1:RatM W.heap.size (Rat.divInt (sgn n1 (numS s1)) (sgn n2 (numS s2))) (f 7) w1 NoA:=hF.2
  clear hF
  simp only[Act.put,nrA,nrB,nrC]
  generalize f 3=v3
  generalize f 6=v6
  generalize f 7=v7 at *
  have hbw:Below W.heap.size W w1:=br.drew.trans k1
  have hn:=i1.new (hB.trans (hbw.mono hB.size)) hB.size
  have HN:=Lib.hid hn
  clear hn i1
  go_wp2
  go_ret
  exact⟨v7,rfl,HN.out⟩
end Go.Proofs.YtjlhiaafnpompaaGreat
namespace Tr
end Tr
namespace Go.Proofs.YtjlhiaafnpompaaGreat
open Go.RowKit Tr
end Go.Proofs.YtjlhiaafnpompaaGreat
namespace Tr
open Go Go.RowKit
section
variable{P:Program}{L:List GF}
def isLen(t:TypeId)(o:Oper):Bool:=match o.op with|.call c=>(match c.callee with|.builtin .len=>(match c.argTypes.toList,c.args.toList with|[u],[_]=>u == t|_,_=>false)|_=>false)|_=>false
def goLenG(t:TypeId)(x:AR)(res:AC){v:Value}(h:∀(w:World) (A:Nat→Prop) (u:Value) (ty:TypeId),x.ok (gT L) σ0 u w A→(Builtin.len_ #[t] ty #[u]).run P w=.ok v w)(hx:x.noown=true:=by rfl)(hr:res.gv L=some v:=by rfl):GO P L :=
 ⟨{ same:=isLen t,args:=[x],res:=.r (.c res) },fun o ho σ ρ w A ha=>by
  obtain⟨dst,op,ty,pos,after,guard⟩:=o
  unfold isLen at ho
  cases op<;>simp only[Bool.false_eq_true] at ho
  rename_i c
  obtain⟨callee,args,ats⟩:=c
  cases callee<;>simp only[Bool.false_eq_true] at ho
  rename_i b
  cases b<;>simp only[Bool.false_eq_true] at ho
  split at ho
  ·rename_i u y h1 h2
   have e1:ats=#[t]:=by apply Array.toList_inj.1; rw[h1]; simpa using ho
   have e2:args=#[y]:=by apply Array.toList_inj.1; rw[h2]
   subst e1; subst e2
   have h3:=h w A (ρ y) ty (AR.ok_noown hx ha.1)
   exact⟨v,by simp[execOp,resolve,invoke,builtin,h3],(AC.gv_ok hr).2 rfl⟩
  ·cases ho⟩
theorem eqGuard_bool(op:BinOp)(t:TypeId)(xo yo:Operand)(a b:Bool)(w:World):(eqGuard op t xo yo (.bool a) (.bool b)).run P w=.ok () w:=by
 cases op<;>rfl
theorem bool_eql{t:TypeId}(ht:P.underlying t=some .bool)(a b c:Bool)(hc:(a == b)=c):∀(xo yo:Operand) (w:World),(do eqGuard .eql t xo yo (.bool a) (.bool b); binOp .eql t (.bool a) (.bool b):Sem Value).run P w=.ok (.bool c) w:=by
 intro xo yo w
 have e:binOp .eql t (.bool a) (.bool b)=(do pure (.bool (←Op.equal t (.bool a) (.bool b)))):=rfl
 rw[Sem.run_bind,eqGuard_bool,Result.andThen_ok,e,Sem.run_bind,run_equal_bool _ t a b ht,Result.andThen_ok,hc]
 rfl
theorem bool_neq{t:TypeId}(ht:P.underlying t=some .bool)(a b c:Bool)(hc:(a != b)=c):∀(xo yo:Operand) (w:World),(do eqGuard .neq t xo yo (.bool a) (.bool b); binOp .neq t (.bool a) (.bool b):Sem Value).run P w=.ok (.bool c) w:=by
 intro xo yo w
 have e:binOp .neq t (.bool a) (.bool b)=(do pure (.bool (!(←Op.equal t (.bool a) (.bool b))))):=rfl
 rw[Sem.run_bind,eqGuard_bool,Result.andThen_ok,e,Sem.run_bind,run_equal_bool _ t a b ht,Result.andThen_ok]
 rw[←hc]
 rfl
def cmpB(op:BinOp)(a b:Int):Option Bool:=match op with
 | .eql=>some (a == b)|.neq=>some (a != b)|.lss=>some (decide (a<b))|.leq=>some (decide (a≤b))|.gtr=>some (decide (a>b))|.geq=>some (decide (a≥b))|_=>none
theorem int_cmp(op:BinOp)(t:TypeId)(k:IntKind)(a b:Int)(c:Bool)(hc:cmpB op a b=some c):∀(xo yo:Operand) (w:World),(do eqGuard op t xo yo (.int k a) (.int k b); binOp op t (.int k a) (.int k b):Sem Value).run P w=.ok (.bool c) w:=by
 intro xo yo w
 cases op<;>simp only[cmpB,Option.some.injEq] at hc<;>first|(cases hc; done)|(subst hc; simp[eqGuard,binOp,Op.intCmp])
def gbInt(op:BinOp)(t:TypeId)(k:IntKind)(x y:AC)(a b:Int)(c:Bool)(h:cmpB op a b=some c)(hx:x.gv L=some (.int k a):=by rfl)(hy:y.gv L=some (.int k b):=by rfl):GB P L:=gb op t (.c x) (.c y) (.lit (.bool c)) (int_cmp op t k a b c h) hx hy rfl
def gbEqb(t:TypeId)(ht:P.underlying t=some .bool)(a b:Bool):GB P L:=gb .eql t (.c (.lit (.bool a))) (.c (.lit (.bool b))) (.lit (.bool (a == b))) (bool_eql ht a b _ rfl) rfl rfl rfl
def gbNeb(t:TypeId)(ht:P.underlying t=some .bool)(a b:Bool):GB P L:=gb .neq t (.c (.lit (.bool a))) (.c (.lit (.bool b))) (.lit (.bool (a != b))) (bool_neq ht a b _ rfl) rfl rfl rfl
end
end Tr
namespace Go.Proofs.YtjlhiaafnpompaaGreat
open Go.RowKit Tr
end Go.Proofs.YtjlhiaafnpompaaGreat
namespace Tr
open Go Go.RowKit
end Tr
namespace Go.Proofs.YtjlhiaafnpompaaGreat
open Go.RowKit Tr
def WL(n k:Nat):Prop:=(words n).length≤k
theorem WL.mono{n j k:Nat}(h:WL n j)(hk:j≤k):WL n k:=Nat.le_trans h hk
theorem WL.size{n k:Nat}(h:WL n k):(strN n).size≤4*k:=by
 rw[size_strN]
 refine byteLE_le (Nat.lt_of_lt_of_le (lt_words n) ?_)
 rw[show(256:Nat) ^ (4*k)=4294967296 ^ k by rw[Nat.pow_mul]]
 exact Nat.pow_le_pow_right (by decide) h
def cz(z:Int):List GF:=[gx (.bool (decide (z<0))),gx (.string (strN z.natAbs))]
end Go.Proofs.YtjlhiaafnpompaaGreat
namespace Go.Proofs.YtjlhiaafnpompaaGreat
open Go.RowKit Tr
end Go.Proofs.YtjlhiaafnpompaaGreat
namespace Tr
open Go Go.RowKit
end Tr
namespace Go.Proofs.YtjlhiaafnpompaaGreat
open Go.RowKit Tr
end Go.Proofs.YtjlhiaafnpompaaGreat
namespace Go.Proofs.YtjlhiaafnpompaaGreat
open Go.RowKit Tr
end Go.Proofs.YtjlhiaafnpompaaGreat
namespace Tr
open Go Go.RowKit Go.Proofs.YtjlhiaafnpompaaGreat
theorem RL.wd{q:Rat}{k:Nat}(h:RL q k):WL q.den k:=h.2
end Tr
namespace Go.Proofs.YtjlhiaafnpompaaGreat
open Go.RowKit Tr
theorem WL.i{n k:Nat}(h:WL n k):WL (n:Int).natAbs k:=by rw[Int.natAbs_natCast]; exact h
theorem WL.mul{x y:Int}{j k:Nat}(hx:WL x.natAbs j)(hy:WL y.natAbs k):WL (x*y).natAbs (j+k):=by rw[Int.natAbs_mul]; exact wl_mul hx hy
theorem WL.add{x y:Int}{k:Nat}(hx:WL x.natAbs k)(hy:WL y.natAbs k):WL (x+y).natAbs (k+1):=wl_mono (Int.natAbs_add_le x y) (wl_add hx hy)
theorem WL.neg{x:Int}{k:Nat}(hx:WL x.natAbs k):WL (-x).natAbs k:=by rw[Int.natAbs_neg]; exact hx
end Go.Proofs.YtjlhiaafnpompaaGreat
namespace Go.Proofs.YtjlhiaafnpompaaGreat
open Go.RowKit Tr
theorem size_nil{s:ByteArray}(h:s.size=0):s=⟨#[]⟩:=by
 apply ByteArray.ext
 apply Array.eq_empty_of_size_eq_zero
 exact h
set_option maxRecDepth 100000 in
theorem check_nil(neg:Bool)(w:World) :
  Calls Tryz.prog 130 #[.agg #[.bool neg,.string ⟨#[]⟩]] w fun e w'=>e=.returned (.int .i64 (if neg then 2 else 0))∧Below w.heap.size w w':=by
 cases neg
 ·go_enter Tryz.func130,Tryz.ntmps130
  go_wp2
  go_ret
  exact⟨rfl,br.alloc (Nat.le_refl _) _⟩
 ·go_enter Tryz.func130,Tryz.ntmps130
  go_wp2
  go_ret
  exact⟨rfl,br.alloc (Nat.le_refl _) _⟩
set_option maxRecDepth 100000 in
theorem check_some(neg:Bool)(s:ByteArray)(hs:0<s.size)(r:Int)(hr:r=if s[0].toNat=0∨16384<s.size then 2 else 0)(w:World) :
  Calls Tryz.prog 130 #[.agg #[.bool neg,.string s]] w fun e w'=>e=.returned (.int .i64 r)∧Below w.heap.size w w':=by
 have hne:¬s.toList=[]:=fun h=>by
  have h2:s.toList.length=s.size:=by rw[ByteArray.toList_eq]; simp
  rw[h] at h2; simp at h2; omega
 have hne2:(!s.toList.isEmpty)=true:=by simpa using hne
 by_cases hx:s[0].toNat=0
 ·rw[if_pos (.inl hx)] at hr
  subst hr
  have hb:(((s[0].toNat:Nat):Int) == 0)=true:=by rw[hx]; rfl
  go_enter Tryz.func130,Tryz.ntmps130
  go_wp2
  all_goals go_ret
  all_goals exact⟨rfl,br.alloc (Nat.le_refl _) _⟩
 ·have hb:(((s[0].toNat:Nat):Int) == 0)=false:=by simpa using hx
  by_cases hl:16384<s.size
  ·rw[if_pos (.inr hl)] at hr
   subst hr
   have hl2:(16384:Int)<(s.size:Int):=by omega
   go_enter Tryz.func130,Tryz.ntmps130
   go_wp2
   all_goals go_ret
   all_goals exact⟨rfl,br.alloc (Nat.le_refl _) _⟩
  ·rw[if_neg (by omega)] at hr
   subst hr
   have hl2:¬(16384:Int)<(s.size:Int):=by omega
   go_enter Tryz.func130,Tryz.ntmps130
   go_wp2
   all_goals go_ret
   all_goals exact⟨rfl,br.alloc (Nat.le_refl _) _⟩
def OkW(neg:Bool)(s:ByteArray):Prop:=WForm neg s∧s.size≤16384
theorem noLead_nil:NoLead ⟨#[]⟩:=fun x l h=>by simp at h
theorem lead_head{s:ByteArray}(hs:0<s.size):NoLead s↔s[0].toNat≠0:=by
  have e:s.data.toList=s[0] :: s.data.toList.tail:=by
    cases h:s.data.toList with
    | nil => have : s.data.toList.length = s.size := by simp
             rw[h] at this; simp at this; omega
    | cons x l =>
      have h0:s.data[0]?=some x:=by rw[←Array.getElem?_toList,h]; rfl
      have h1:s[0]=x:=by
        have h2:s.data[0]?=some s[0]:=Array.getElem?_eq_getElem hs
        rw[h2] at h0; simpa using h0
      rw[h1]; rfl
  constructor
  · intro h hx
    exact h _ _ e (UInt8.toNat_inj.1 hx)
  · intro h x l hl hx
    rw[e] at hl
    simp at hl
    rw[←hl.1] at hx
    exact h (by rw[hx]; rfl)
theorem check_ok{neg:Bool}{s:ByteArray}(h:OkW neg s)(w:World):Calls Tryz.prog 130 #[.agg #[.bool neg,.string s]] w fun e w'=>e=.returned (.int .i64 0)∧Below w.heap.size w w':=by
 rcases Nat.eq_zero_or_pos s.size with h0|h0
 ·have:=h.1.1 h0
  subst this
  rw[size_nil h0]
  exact check_nil false w
 ·exact check_some neg s h0 0 (by rw[if_neg]; have:=(lead_head h0).1 h.1.2; have:=h.2; omega) w
theorem check_bad{neg:Bool}{s:ByteArray}(h:¬OkW neg s)(w:World):Calls Tryz.prog 130 #[.agg #[.bool neg,.string s]] w fun e w'=>e=.returned (.int .i64 2)∧Below w.heap.size w w':=by
 rcases Nat.eq_zero_or_pos s.size with h0|h0
 ·have hs:=size_nil h0
  subst hs
  cases neg
  ·exact absurd ⟨⟨fun _=>rfl,noLead_nil⟩,by decide⟩ h
  ·exact check_nil true w
 ·refine check_some neg s h0 2 ?_ w
  rw[if_pos]
  by_cases h1:s[0].toNat=0
  ·exact .inl h1
  ·right
   rcases Nat.lt_or_ge 16384 s.size with h2|h2
   ·exact h2
   ·exact absurd ⟨⟨fun h3=>by omega,(lead_head h0).2 h1⟩,h2⟩ h
set_option maxRecDepth 100000 in
theorem wsign_ok{neg:Bool}{s:ByteArray}(h:OkW neg s)(w:World):Calls Tryz.prog 132 #[.agg #[.bool neg,.string s]] w fun e w'=>e=.returned (.int .i64 (sgn neg (numS s)).sign)∧Below w.heap.size w w':=by
 have HC:=Lib.hid (fun w=>check_ok h w)
 obtain⟨r,hr⟩:∃ r,r=(sgn neg (numS s)).sign:=⟨_,rfl⟩
 rw[←hr]
 have HR:=Lib.hid (And.intro hr h)
 clear hr h
 have arm:∀(w1:World),Below (w.alloc (.cells #[.bool neg,.string s] 23)).heap.size (w.alloc (.cells #[.bool neg,.string s] 23)) w1→w1.cell? ⟨w.heap.size,0,none⟩=some (.bool neg)∧w1.cell? ⟨w.heap.size,1,none⟩=some (.string s)∧Below w.heap.size w w1:=fun w1 hb=>by
  obtain⟨e0,e1,_⟩:=new_two w _ _ _ hb
  exact⟨e0,e1,(br.alloc (Nat.le_refl _) _).trans (hb.mono (by simp))⟩
 have HA:=Lib.hid arm
 clear arm
 rcases Nat.eq_zero_or_pos s.size with h0|h0
 ·obtain rfl:neg=false:=HR.out.2.1.1 h0
  obtain rfl:=size_nil h0
  have h1:r=0:=by rw[HR.out.1,(numS_zero noLead_nil).2 rfl]; rfl
  subst h1
  clear h0
  go_enter Tryz.func132,Tryz.ntmps132
  go_wp2_with (go_at_call 130; refine(HC.out _).mono ?_; rintro e w1 ⟨rfl,hb⟩; obtain⟨e0,e1,hbw⟩:=HA.out w1 hb; clear hb)
  go_ret
  exact⟨rfl,hbw⟩
 ·have hne:¬s.toList=[]:=fun h=>by
   have h2:s.toList.length=s.size:=by rw[ByteArray.toList_eq]; simp
   rw[h] at h2; simp at h2; omega
  have hne2:(!s.toList.isEmpty)=true:=by simpa using hne
  have hn0:numS s≠0:=fun h=>by have:=(numS_zero HR.out.2.1.2).1 h; omega
  cases neg
  ·have h1:r=1:=by rw[HR.out.1]; unfold sgn; exact Int.sign_eq_one_of_pos (by simp; omega)
   subst h1
   clear hn0
   go_enter Tryz.func132,Tryz.ntmps132
   go_wp2_with (go_at_call 130; refine(HC.out _).mono ?_; rintro e w1 ⟨rfl,hb⟩; obtain⟨e0,e1,hbw⟩:=HA.out w1 hb; clear hb)
   go_ret
   exact⟨rfl,hbw⟩
  ·have h1:r=-1:=by rw[HR.out.1]; unfold sgn; exact Int.sign_eq_neg_one_of_neg (by simp; omega)
   subst h1
   clear hn0
   go_enter Tryz.func132,Tryz.ntmps132
   go_wp2_with (go_at_call 130; refine(HC.out _).mono ?_; rintro e w1 ⟨rfl,hb⟩; obtain⟨e0,e1,hbw⟩:=HA.out w1 hb; clear hb)
   go_ret
   exact⟨rfl,hbw⟩
set_option maxRecDepth 100000 in
theorem short_ok(neg:Bool)(s:ByteArray)(b:Bool)(hb:b=decide ((s.size:Int)≤1024))(w:World):Calls Tryz.prog 131 #[.agg #[.bool neg,.string s]] w fun e w'=>e=.returned (.bool b)∧Below w.heap.size w w':=by
 subst hb
 go_enter Tryz.func131,Tryz.ntmps131
 go_wp2
 go_ret
 exact⟨rfl,br.alloc (Nat.le_refl _) _⟩
end Go.Proofs.YtjlhiaafnpompaaGreat
