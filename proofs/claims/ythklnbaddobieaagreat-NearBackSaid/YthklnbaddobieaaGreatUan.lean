/- Laws for the walk. -/
import Derived.Test.YthklnbaddobieaaGreatUam
set_option linter.unusedVariables false
set_option maxHeartbeats 4000000
namespace Go.Proofs.YthklnbaddobieaaGreat
open Go.RowKit Tr
def encZ(z:Int):Value:=.agg #[.bool (decide (z<0)),.string (strN z.natAbs)]
def encF(q:Rat):Value:=.agg #[.bool (decide (q.num<0)),.string (strN q.num.natAbs),.bool false,.string (strN q.den)]
def WForm(neg:Bool)(s:ByteArray):Prop:=(s.size=0→neg=false)∧NoLead s
theorem numS_zero{s:ByteArray}(h:NoLead s):numS s=0↔s.size=0:=by
 rw[←strN_numS h,numS_strN,size_strN]
 constructor
 ·intro h0; rw[h0,byteLE_zero]; rfl
 ·intro h0
  have:=List.eq_nil_of_length_eq_zero h0
  rcases Nat.eq_zero_or_pos (numS s) with h1|h1
  ·exact h1
  ·rw[byteLE_pos (by omega)] at this; cases this
theorem WForm.enc{neg:Bool}{s:ByteArray}(h:WForm neg s):Value.agg #[.bool neg,.string s]=encZ (sgn neg (numS s)):=by
 unfold encZ
 rw[natAbs_sgn,strN_numS h.2,sgn_neg]
 have:(neg && decide (numS s≠0))=neg:=by
  cases hn:neg
  ·rfl
  ·have:s.size≠0:=fun h0=>by have:=h.1 h0; rw[hn] at this; cases this
   have h2:numS s≠0:=fun h0=>this ((numS_zero h.2).1 h0)
   simp[h2]
 rw[this]
theorem below_bytes(w:World)(e:TypeId)(s:ByteArray):Below w.heap.size w (Lib.bytesWorld w e s):=by
 refine⟨?_,?_,?_,?_,fun k hk=>Lib.bytesWorld_at_old w e s k hk⟩
 ·simp[Lib.bytesWorld,World.freeze,World.alloc,World.drew,-World.alloc_eq,-World.drew_eq]
 ·simp[Lib.bytesWorld,World.freeze,World.alloc,World.drew,-World.alloc_eq,-World.drew_eq]
 ·simp[Lib.bytesWorld,World.freeze,World.alloc,World.drew,-World.alloc_eq,-World.drew_eq]
 ·rw[Lib.bytesWorld_size]; omega
theorem bsl_bytes(w:World)(s:ByteArray):BSl (Lib.bytesWorld w 5 s) (.slice (some ⟨w.heap.size,0,none⟩) s.size (grownCap w s.size 0 5)) s:=by
 refine⟨w.heap.size,0,_,rfl,by rw[Lib.bytesWorld_size]; omega,fun i hi=>?_⟩
 rw[Nat.zero_add,Lib.bytesWorld_cell w _ s i hi]
 simp[List.getD,hi]
 rfl
theorem Put.newAt{m o:Nat}{C:Array Value}{T:TypeId}{z:Int}{w w1 w':World}(h:Put m o C T z w1 w')(ho:o+1<C.size)(hb:Below w.heap.size w w1)(hm:w.heap.size≤m):NewI z (.pointer (some ⟨m,o,none⟩)) w w':=by
 refine⟨hb.trans (h.1.below hm hb.size),fun A hA=>?_⟩
 exact(h.intP ho (hA.below hb)).wider fun b hb'=>⟨hb',fun e=>by have:=hA.lt hb'; omega⟩
theorem PutR.newAt{m:Nat}{q:Rat}{w w1 w':World}(h:PutR m q w1 w')(hb:Below w.heap.size w w1)(hm:w.heap.size≤m):NewR q (.pointer (some ⟨m,0,none⟩)) w w':=by
 refine⟨hb.trans (h.1.below hm hb.size),fun A hA=>?_⟩
 exact(h.ratP (hA.below hb)).wider fun b hb'=>⟨hb',fun e=>by have:=hA.lt hb'; omega⟩
set_option maxRecDepth 100000 in
theorem number_any(neg:Bool)(s:ByteArray)(hs:s.size<274877906944)(w:World) :
  Calls Tryz.prog 122 #[.agg #[.bool neg,.string s]] w fun e w'=>∃ v,e=.returned v∧NewI (sgn neg (numS s)) v w w':=by
 have kc:=fun w=>Lib.run_convert_string_bytes (P:=Tryz.prog) w 9 159 5 s Tryz.underlying9 Tryz.underlying159 Tryz.underlying5
 have hlen:(words (numS s)).length<274877906944:=Nat.lt_of_le_of_lt (words_length_le (k:=s.size) (Nat.lt_of_lt_of_le (numS_lt s) (Nat.pow_le_pow_left (by decide) _))) hs
 have HL:=Lib.hid hlen
 clear hlen
 go_enter Tryz.func122,Tryz.ntmps122
 go_wp2_with fail
 clear kc
 obtain⟨W,hW⟩:∃ W,W=(w.alloc (.cells #[.bool neg,.string s] 23)).alloc (.cells #[.bool false,.slice none 0 0] 131):=⟨_,rfl⟩
 have hBW:Below w.heap.size w W:=by rw[hW]; exact(br.alloc (Nat.le_refl _) _).alloc (by simp) _
 have hsz:w.heap.size+1+1=W.heap.size:=by rw[hW]; simp
 have hm:W.heap[w.heap.size+1]?=some (.cells #[.bool false,.slice none 0 0] 131 (0,0)):=by
  rw[hW]; have:=heap_alloc_new (w.alloc (.cells #[.bool neg,.string s] 23)) (.cells #[.bool false,.slice none 0 0] 131); simpa using this
 have hc:W.cell? ⟨w.heap.size,0,none⟩=some (.bool neg):=by
  rw[hW]; simp[go_sem]
 rw[←hW,hsz]
 have hb1:=below_bytes W 5 s
 have hb2:Below w.heap.size w (Lib.bytesWorld W 5 s):=hBW.trans (hb1.mono hBW.size)
 have hm2:=(hb1.block _ (by omega)).trans hm
 have hc2:=(hb1.cell (p:=⟨w.heap.size,0,none⟩) (by show w.heap.size<_; omega)).trans hc
 have HS:=Lib.hid (setBytes_any (w.heap.size+1) 0 _ _ s _ rfl _ _ hm2 (by decide) noW_zInt (bsl_bytes W s) hs)
 have HB:=Lib.hid hb2
 have hlt:w.heap.size<(Lib.bytesWorld W 5 s).heap.size:=by rw[Lib.bytesWorld_size]; omega
 clear hW hBW hm hc hb1 hm2 hb2 hsz
 refine HS.out.mono ?_
 rintro e w1 ⟨rfl,hp⟩
 have hc1:=(World.cell?_of_block (w:=Lib.bytesWorld W 5 s) (a:=⟨w.heap.size,0,none⟩) (hp.1.block w.heap.size hlt (by omega))).trans hc2
 clear HS hc2
 cases neg
 ·go_wp2
  go_ret
  exact⟨_,rfl,hp.newAt (by decide) HB.out (by omega)⟩
 ·obtain⟨C1,hm3,hs3,hn3⟩:=put_heap hp
  have hin:=(hp.intP (by decide) (rcv_noA _)).noA
  have HN:=Lib.hid (Neg_any (w.heap.size+1) 0 C1 _ _ _ NoA w1 hm3 (by rw[hs3]; decide) (hn3 noW_zInt) hin (by simpa using HL.out))
  have HP:=Lib.hid hp
  have H3:=Lib.hid hs3
  clear hm3 hin hn3 hp hs3
  go_wp2_with fail
  refine HN.out.mono ?_
  rintro e w2 ⟨rfl,hp2⟩
  go_wp2_with fail
  go_ret
  refine⟨_,rfl,hp2.newAt (by rw[H3.out]; decide) (HB.out.trans (HP.out.1.below (by omega) (by omega))) (by omega)⟩
set_option maxRecDepth 100000 in
theorem xnumber_any(neg:Bool)(s:ByteArray)(hs:s.size<274877906944)(w:World) :
  Calls Tryz.prog 81 #[.agg #[.bool neg,.string s]] w fun e w'=>∃ v,e=.returned v∧NewI (sgn neg (numS s)) v w w':=by
 have kc:=fun w=>Lib.run_convert_string_bytes (P:=Tryz.prog) w 9 159 5 s Tryz.underlying9 Tryz.underlying159 Tryz.underlying5
 have hlen:(words (numS s)).length<274877906944:=Nat.lt_of_le_of_lt (words_length_le (k:=s.size) (Nat.lt_of_lt_of_le (numS_lt s) (Nat.pow_le_pow_left (by decide) _))) hs
 have HL:=Lib.hid hlen
 clear hlen
 go_enter Tryz.func81,Tryz.ntmps81
 go_wp2_with fail
 clear kc
 obtain⟨W,hW⟩:∃ W,W=(w.alloc (.cells #[.bool neg,.string s] 23)).alloc (.cells #[.bool false,.slice none 0 0] 131):=⟨_,rfl⟩
 have hBW:Below w.heap.size w W:=by rw[hW]; exact(br.alloc (Nat.le_refl _) _).alloc (by simp) _
 have hsz:w.heap.size+1+1=W.heap.size:=by rw[hW]; simp
 have hm:W.heap[w.heap.size+1]?=some (.cells #[.bool false,.slice none 0 0] 131 (0,0)):=by
  rw[hW]; have:=heap_alloc_new (w.alloc (.cells #[.bool neg,.string s] 23)) (.cells #[.bool false,.slice none 0 0] 131); simpa using this
 have hc:W.cell? ⟨w.heap.size,0,none⟩=some (.bool neg):=by
  rw[hW]; simp[go_sem]
 rw[←hW,hsz]
 have hb1:=below_bytes W 5 s
 have hb2:Below w.heap.size w (Lib.bytesWorld W 5 s):=hBW.trans (hb1.mono hBW.size)
 have hm2:=(hb1.block _ (by omega)).trans hm
 have hc2:=(hb1.cell (p:=⟨w.heap.size,0,none⟩) (by show w.heap.size<_; omega)).trans hc
 have HS:=Lib.hid (setBytes_any (w.heap.size+1) 0 _ _ s _ rfl _ _ hm2 (by decide) noW_zInt (bsl_bytes W s) hs)
 have HB:=Lib.hid hb2
 have hlt:w.heap.size<(Lib.bytesWorld W 5 s).heap.size:=by rw[Lib.bytesWorld_size]; omega
 clear hW hBW hm hc hb1 hm2 hb2 hsz
 refine HS.out.mono ?_
 rintro e w1 ⟨rfl,hp⟩
 have hc1:=(World.cell?_of_block (w:=Lib.bytesWorld W 5 s) (a:=⟨w.heap.size,0,none⟩) (hp.1.block w.heap.size hlt (by omega))).trans hc2
 clear HS hc2
 cases neg
 ·go_wp2
  go_ret
  exact⟨_,rfl,hp.newAt (by decide) HB.out (by omega)⟩
 ·obtain⟨C1,hm3,hs3,hn3⟩:=put_heap hp
  have hin:=(hp.intP (by decide) (rcv_noA _)).noA
  have HN:=Lib.hid (Neg_any (w.heap.size+1) 0 C1 _ _ _ NoA w1 hm3 (by rw[hs3]; decide) (hn3 noW_zInt) hin (by simpa using HL.out))
  have HP:=Lib.hid hp
  have H3:=Lib.hid hs3
  clear hm3 hin hn3 hp hs3
  go_wp2_with fail
  refine HN.out.mono ?_
  rintro e w2 ⟨rfl,hp2⟩
  go_wp2_with fail
  go_ret
  refine⟨_,rfl,hp2.newAt (by rw[H3.out]; decide) (HB.out.trans (HP.out.1.below (by omega) (by omega))) (by omega)⟩
theorem IntP.avoid{z:Int}{b o:Nat}{w:World}{A:Nat→Prop}(h:IntP z (.pointer (some ⟨b,o,none⟩)) w NoA)(hA:Rcv A w)(hb:¬A b):IntP z (.pointer (some ⟨b,o,none⟩)) w A:=by
 obtain⟨b',o',sl,e,h1,_,h3,h4,h5⟩:=h
 cases e
 exact⟨b,o,sl,rfl,h1,hb,h3,h4,h5.wsl.avoids hA⟩
theorem RatP.avoid{q:Rat}{m:Nat}{w:World}{A:Nat→Prop}(h:RatP q (.pointer (some ⟨m,0,none⟩)) w NoA)(hA:Rcv A w)(hm:¬A m):RatP q (.pointer (some ⟨m,0,none⟩)) w A:=by
 obtain⟨b,e,h1,h2⟩:=h
 cases e
 exact⟨m,rfl,h1.avoid hA hm,h2.imp (fun h=>h.avoid hA hm) (fun h=>⟨h.1,h.2.avoid hA hm⟩)⟩
def RatM(base:Nat)(q:Rat):Fact:=fun v w A=>∃ m,v=.pointer (some ⟨m,0,none⟩)∧base≤m∧RatP q v w A
theorem RatM.keeps(base:Nat)(q:Rat):(RatM base q).Keeps:=by
 intro v w w' A A' hs hk ⟨m,h1,h2,h3⟩
 exact⟨m,h1,h2,RatP.keeps q v w w' A A' hs hk h3⟩
theorem PutR.ratM{m base:Nat}{q:Rat}{w w':World}(h:PutR m q w w')(hm:base≤m){A:Nat→Prop}(hA:Rcv A w):RatM base q (.pointer (some ⟨m,0,none⟩)) w' (fun b=>A b∧b≠m):=⟨m,rfl,hm,h.ratP hA⟩
theorem RatM.new{q:Rat}{v:Value}{w w':World}{base:Nat}(h:RatM base q v w' NoA)(hb:Below w.heap.size w w')(hw:w.heap.size≤base):NewR q v w w':=by
 obtain⟨m,rfl,h2,h3⟩:=h
 exact⟨hb,fun A hA=>h3.avoid (hA.below hb) (fun hm=>by have:=hA.lt hm; omega)⟩
end Go.Proofs.YthklnbaddobieaaGreat
namespace Go.Proofs.YthklnbaddobieaaGreat
open Go.RowKit Tr
theorem ownI_new(w:World):OwnI w.heap.size 0 (w.alloc (.cells #[.bool false,.slice none 0 0] 131)):=by
 refine⟨_,heap_alloc_new w _,by decide,noW_zInt,w.heap.size,0,.slice none 0 0,rfl,by simp,fun h=>h,?_,?_,none,0,?_,?_,?_⟩
 ·unfold World.cell?; simp only[heap_alloc_new w (.cells #[.bool false,.slice none 0 0] 131)]; rfl
 ·unfold World.cell?; simp only[heap_alloc_new w (.cells #[.bool false,.slice none 0 0] 131)]; rfl
 ·simp[words_zero]
 ·simp[words_zero]
 ·intro h; simp[words_zero] at h
theorem OwnI.noW{B:Nat}{z:Int}{w:World}(h:OwnI B z w):Rcv (fun b=>b=B) w:=by
 obtain⟨C,a1,a2,a3,a4⟩:=h
 intro b hb
 subst hb
 exact⟨_,a1,a3⟩
theorem OwnI.mod{B m:Nat}{z y:Int}{w w':World}(h:OwnI B z w)(hm:OwnI m y w)(hne:B≠m)(hmod:Mod m w w'):OwnI B z w':=by
 have hl:=h.lt
 have hn:=hm.noW
 obtain⟨C,a1,a2,a3,a4⟩:=h
 refine⟨C,(hmod.block B hl hne).trans a1,a2,a3,?_⟩
 have h2:=a4.avoid hn hne
 exact(IntP.keeps z _ _ _ _ _ hmod.size (fun b hb hA=>⟨hmod.block b hb hA,hA⟩) h2).noA
theorem OwnI.ptr{m:Nat}{z:Int}{v:Value}{w w':World}(h:IntP z v w (fun b=>b=m))(hmod:Mod m w w'):IntP z v w' (fun b=>b=m) :=
 IntP.keeps z _ _ _ _ _ hmod.size (fun b hb hA=>⟨hmod.block b hb hA,hA⟩) h
theorem OwnI.abs{B:Nat}{z x:Int}{vx:Value}{w:World}(h:OwnI B z w)(hx:IntP x vx w NoA)(hl:(words x.natAbs).length<274877906944) :
  Calls Tryz.prog 83 #[.pointer (some ⟨B,0,none⟩),vx] w fun e w'=>e=.returned (.pointer (some ⟨B,0,none⟩))∧OwnI B (x.natAbs:Int) w'∧Mod B w w':=by
 obtain⟨C,a1,a2,a3,a4⟩:=h
 refine(Abs_any B 0 C _ x _ NoA w a1 a2 a3 hx hl).mono ?_
 rintro e w' ⟨rfl,hp⟩
 exact⟨rfl,hp.own a2 a3,hp.1⟩
theorem OwnI.lshOf{B N:Nat}{z x:Int}{vx:Value}{w:World}(h:OwnI B z w)(hx:IntP x vx w NoA)(hl:(words x.natAbs).length<1000000)(hN:N<1000000)(hl2:(words (x.natAbs*2 ^ N)).length<1000000) :
  Calls Tryz.prog 86 #[.pointer (some ⟨B,0,none⟩),vx,.int .u64 N] w fun e w'=>e=.returned (.pointer (some ⟨B,0,none⟩))∧OwnI B (x*2 ^ N) w'∧Mod B w w':=by
 obtain⟨C,a1,a2,a3,a4⟩:=h
 refine(Lsh_any B 0 C _ x _ N NoA w a1 a2 a3 hx (by omega) (by omega) (by omega)).mono ?_
 rintro e w' ⟨rfl,hp⟩
 exact⟨rfl,hp.own a2 a3,hp.1⟩
theorem OwnI.rshOf{B N n:Nat}{z:Int}{vx:Value}{w:World}(h:OwnI B z w)(hx:IntP (n:Int) vx w NoA)(hl:(words n).length<1000000)(hN:N<1000000) :
  Calls Tryz.prog 88 #[.pointer (some ⟨B,0,none⟩),vx,.int .u64 N] w fun e w'=>e=.returned (.pointer (some ⟨B,0,none⟩))∧OwnI B ((n / 2 ^ N:Nat):Int) w'∧Mod B w w':=by
 obtain⟨C,a1,a2,a3,a4⟩:=h
 refine(Rsh_any B 0 C _ n _ N NoA w a1 a2 a3 hx (by omega) (by omega)).mono ?_
 rintro e w' ⟨rfl,hp⟩
 exact⟨rfl,hp.own a2 a3,hp.1⟩
theorem OwnI.subOf{B:Nat}{z x y:Int}{vx vy:Value}{w:World}(h:OwnI B z w)(hx:IntP x vx w NoA)(hy:IntP y vy w NoA)(hl:(words x.natAbs).length<1000000)(hl2:(words y.natAbs).length<1000000) :
  Calls Tryz.prog 89 #[.pointer (some ⟨B,0,none⟩),vx,vy] w fun e w'=>e=.returned (.pointer (some ⟨B,0,none⟩))∧OwnI B (x - y) w'∧Mod B w w':=by
 obtain⟨C,a1,a2,a3,a4⟩:=h
 refine(Sub_any B 0 C _ x y _ _ NoA w a1 a2 a3 hx hy (by omega) (by omega)).mono ?_
 rintro e w' ⟨rfl,hp⟩
 exact⟨rfl,hp.own a2 a3,hp.1⟩
theorem OwnI.addOf{B:Nat}{z x y:Int}{vx vy:Value}{w:World}(h:OwnI B z w)(hx:IntP x vx w NoA)(hy:IntP y vy w NoA)(hl:(words x.natAbs).length<1000000)(hl2:(words y.natAbs).length<1000000) :
  Calls Tryz.prog 94 #[.pointer (some ⟨B,0,none⟩),vx,vy] w fun e w'=>e=.returned (.pointer (some ⟨B,0,none⟩))∧OwnI B (x+y) w'∧Mod B w w':=by
 obtain⟨C,a1,a2,a3,a4⟩:=h
 refine(Add_any B 0 C _ x y _ _ NoA w a1 a2 a3 hx hy (by omega) (by omega)).mono ?_
 rintro e w' ⟨rfl,hp⟩
 exact⟨rfl,hp.own a2 a3,hp.1⟩
theorem OwnI.quoOf{B B2 n d:Nat}{z z2:Int}{vx vy:Value}{w:World}(h:OwnI B z w)(h2:OwnI B2 z2 w)(hne:B≠B2)(hx:IntP (n:Int) vx w NoA)(hy:IntP (d:Int) vy w NoA)(hd:0<d)(hl:(words n).length<1000000) :
  Calls Tryz.prog 87 #[.pointer (some ⟨B,0,none⟩),vx,vy,.pointer (some ⟨B2,0,none⟩)] w fun e w'=>e=.returned (.tuple #[.pointer (some ⟨B,0,none⟩),.pointer (some ⟨B2,0,none⟩)])∧OwnI B ((n / d:Nat):Int) w'∧OwnI B2 ((n % d:Nat):Int) w'∧∃ w2,Mod B2 w w2∧Mod B w2 w':=by
 have h':=h
 have h2':=h2
 obtain⟨C,a1,a2,a3,a4⟩:=h
 obtain⟨C2,b1,b2,b3,b4⟩:=h2
 refine(QuoRem_any B 0 C _ B2 0 C2 _ hne (n:Int) (d:Int) (by omega) _ _ NoA w a1 a2 a3 b1 b2 b3 hx hy (by rw[Int.natAbs_natCast]; omega)).mono ?_
 rintro e w' ⟨rfl,w2,hp2,hp⟩
 have k2:=hp2.own b2 b3
 have k1:=hp.own a2 a3
 have kB:OwnI B z w2:=h'.mod h2' hne hp2.1
 have k3:=k2.mod kB (fun e=>hne e.symm) hp.1
 rw[show((n:Int)).tdiv (d:Int)=((n / d:Nat):Int) from rfl] at k1
 rw[show((n:Int)).tmod (d:Int)=((n % d:Nat):Int) from rfl] at k3
 exact⟨rfl,k1,k3,w2,hp2.1,hp.1⟩
theorem OwnI.at{B:Nat}{z y:Int}{w:World}(h:OwnI B z w)(e:z=y):OwnI B y w:=e▸h
theorem len_bits{n K:Nat}(h:n<2 ^ K)(hK:K≤1000000):(words n).length<1000000:=by
 obtain⟨j,hj⟩:∃ j,j=K / 32+1:=⟨_,rfl⟩
 refine Nat.lt_of_le_of_lt (words_length_le (k:=j) ?_) (by omega)
 rw[show(4294967296:Nat)=2 ^ 32 by decide,←Nat.pow_mul]
 exact Nat.lt_of_lt_of_le h (Nat.pow_le_pow_right (by decide) (by omega))
theorem lt_bits{n j:Nat}(h:(words n).length≤j):n<2 ^ (32*j):=by
 have h1:=lt_words n
 rw[show(4294967296:Nat)=2 ^ 32 by decide,←Nat.pow_mul] at h1
 exact Nat.lt_of_lt_of_le h1 (Nat.pow_le_pow_right (by decide) (by omega))
theorem bits_le{n N K:Nat}(h:BitsOf n N)(hn:n<2 ^ K):N≤K:=by
 rcases h.2 with h0|h0
 ·omega
 ·rcases Nat.lt_or_ge K N with c|c
  ·exfalso
   have:=Nat.pow_le_pow_right (show 0<2 by decide) (show K≤N - 1 by omega)
   omega
  ·exact c
end Go.Proofs.YthklnbaddobieaaGreat
