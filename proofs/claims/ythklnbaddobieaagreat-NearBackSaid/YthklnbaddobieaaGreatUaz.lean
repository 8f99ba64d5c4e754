/- Laws for the walk. -/
import Derived.Test.YthklnbaddobieaaGreatUay
set_option linter.unusedVariables false
set_option maxHeartbeats 4000000
namespace Go.Proofs.YthklnbaddobieaaGreat
open Go.RowKit Tr
theorem run_conv_str(w:World)(v:Value)(s:ByteArray)(h:BSl w v s):(convert 159 9 v).run Tryz.prog w=.ok (.string s) w:=by
 obtain⟨b,off,cap,rfl,_,hb⟩:=h
 exact Lib.run_convert_whole w 159 5 9 Tryz.underlying159 Tryz.underlying5 Tryz.underlying9 b off s hb cap
theorem sign_lt(z:Int):decide (z.sign<0)=decide (z<0):=by
 rcases Int.lt_trichotomy z 0 with h|h|h
 ·rw[Int.sign_eq_neg_one_of_neg h]; simp[h]
 ·subst h; rfl
 ·rw[Int.sign_eq_one_of_pos h]; have:¬z<0:=by omega
  simp[this]
theorem new_two(w:World)(x y:Value)(T:TypeId){w1:World}(h:Below (w.alloc (.cells #[x,y] T)).heap.size (w.alloc (.cells #[x,y] T)) w1):w1.cell? ⟨w.heap.size,0,none⟩=some x∧w1.cell? ⟨w.heap.size,1,none⟩=some y∧w1.frozen? ⟨w.heap.size,0,none⟩=false∧w1.frozen? ⟨w.heap.size,1,none⟩=false:=by
 have e:=(h.block w.heap.size (by simp)).trans (heap_alloc_new w _)
 simp[World.cell?,World.frozen?,e]
set_option maxRecDepth 100000 in
theorem back_any(z:Int)(vx:Value)(A:Nat→Prop)(w:World)(hx:IntP z vx w A)(hn:(words z.natAbs).length<274877906944) :
  Calls Tryz.prog 121 #[vx] w fun e w'=>e=.returned (encZ z)∧Below w.heap.size w w':=by
 have hal:Below w.heap.size w (w.alloc (.cells #[.bool false,.string ⟨#[]⟩] 23)):=br.alloc (Nat.le_refl _) _
 obtain⟨sg,hsg⟩:∃ sg,sg=z.sign:=⟨_,rfl⟩
 have HS:=Lib.hid (Sign_any z vx A _ (hx.below hal))
 have HB:=Lib.hid (Bytes_any z vx A _ (hx.below hal) hn)
 rw[←hsg] at HS
 have HG:Hid (decide (sg<0)=decide (z<0)):=Lib.hid (by rw[hsg,sign_lt])
 clear hsg hx hal
 go_enter Tryz.func121,Tryz.ntmps121
 go_wp2_with fail
 refine HS.out.mono ?_
 rintro e w0 ⟨rfl,rfl⟩
 go_wp2_with fail
 refine HB.out.mono ?_
 rintro e w1 ⟨v,rfl,hv,hb⟩
 obtain⟨e0,e1,f0,f1⟩:=new_two w _ _ _ hb
 have hr:=run_conv_str w1 v _ hv
 have hbw:Below w.heap.size w w1:=(br.alloc (Nat.le_refl _) _).trans (hb.mono (by simp))
 obtain⟨st,hst⟩:∃ st,st=strN z.natAbs:=⟨_,rfl⟩
 rw[←hst] at hr
 have HST:=Lib.hid hst
 clear hb hv hst HS HB
 go_wp2_with fail
 refine bodyPost_ret (v:=.agg #[.bool (decide (sg<0)),.string st]) (by simp[results,Tryz.results121,go_sem,e0,e1]) rfl ⟨?_,?_⟩
 ·rw[HG.out,HST.out]; rfl
 ·exact((hbw.setCell (p:=⟨w.heap.size,0,none⟩) (Nat.le_refl _) _).setCell (p:=⟨w.heap.size,1,none⟩) (Nat.le_refl _) _)
theorem new_four(w:World)(x y z u:Value)(T:TypeId){w1:World}(h:Below (w.alloc (.cells #[x,y,z,u] T)).heap.size (w.alloc (.cells #[x,y,z,u] T)) w1):w1.cell? ⟨w.heap.size,0,none⟩=some x∧w1.cell? ⟨w.heap.size,1,none⟩=some y∧w1.cell? ⟨w.heap.size,2,none⟩=some z∧w1.cell? ⟨w.heap.size,3,none⟩=some u∧w1.frozen? ⟨w.heap.size,0,none⟩=false∧w1.frozen? ⟨w.heap.size,1,none⟩=false∧w1.frozen? ⟨w.heap.size,2,none⟩=false∧w1.frozen? ⟨w.heap.size,3,none⟩=false:=by
 have e:=(h.block w.heap.size (by simp)).trans (heap_alloc_new w _)
 simp[World.cell?,World.frozen?,e]
set_option maxRecDepth 100000 in
theorem told_any(q:Rat)(vx:Value)(A:Nat→Prop)(w:World)(hx:RatP q vx w A)(hl:RL q 137438953472) :
  Calls Tryz.prog 60 #[vx] w fun e w'=>e=.returned (encF q)∧Below w.heap.size w w':=by
 have hal:Below w.heap.size w (w.alloc (.cells #[.bool false,.string ⟨#[]⟩,.bool false,.string ⟨#[]⟩] 25)):=br.alloc (Nat.le_refl _) _
 have HX:=Lib.hid (hx.below hal)
 have HN:=Lib.hid (Num_any q vx A _ HX.out hl)
 have hln:(words q.num.natAbs).length<274877906944:=by have:=hl.1; omega
 have hld:(words (q.den:Int).natAbs).length<274877906944:=by have:=hl.2; simp; omega
 clear hx hal
 go_enter Tryz.func60,Tryz.ntmps60
 go_wp2_with fail
 refine HN.out.mono ?_
 rintro e w1 ⟨v1,rfl,hn1⟩
 have HK:=Lib.hid (back_any q.num v1 NoA w1 (hn1.2 NoA (rcv_noA _)) hln)
 go_wp2_with fail
 refine HK.out.mono ?_
 rintro e w2 ⟨rfl,hb2⟩
 have HD:=Lib.hid (Denom_any q vx A w2 ((HX.out.below hn1.1).below hb2) hl)
 go_wp2_with fail
 refine HD.out.mono ?_
 rintro e w3 ⟨v3,rfl,hn3⟩
 have HK2:=Lib.hid (back_any q.den v3 NoA w3 (hn3.2 NoA (rcv_noA _)) hld)
 go_wp2_with fail
 refine HK2.out.mono ?_
 rintro e w4 ⟨rfl,hb4⟩
 have hb13:=hn1.1.trans ((hb2.trans ((hn3.1.trans (hb4.mono hn3.1.size)).mono hb2.size)).mono hn1.1.size)
 obtain⟨e0,e1,e2,e3,f0,f1,f2,f3⟩:=new_four w _ _ _ _ _ hb13
 have hbw:Below w.heap.size w w4:=(br.alloc (Nat.le_refl _) _).trans (hb13.mono (by simp))
 obtain⟨b1,hb1⟩:∃ b1,b1=decide (q.num<0):=⟨_,rfl⟩
 obtain⟨b2,hb2'⟩:∃ b2,b2=decide ((q.den:Int)<0):=⟨_,rfl⟩
 obtain⟨s1,hs1⟩:∃ s1,s1=strN q.num.natAbs:=⟨_,rfl⟩
 obtain⟨s2,hs2⟩:∃ s2,s2=strN (q.den:Int).natAbs:=⟨_,rfl⟩
 have ez1:encZ q.num=.agg #[.bool b1,.string s1]:=by rw[hb1,hs1]; rfl
 have ez2:encZ (q.den:Int)=.agg #[.bool b2,.string s2]:=by rw[hb2',hs2]; rfl
 have HE:=Lib.hid (show encF q=.agg #[.bool b1,.string s1,.bool b2,.string s2] by unfold encF; rw[hb1,hb2',hs1,hs2]; simp)
 rw[ez1,ez2]
 clear hn1 hb2 hn3 hb4 hb13 hb1 hb2' hs1 hs2 ez1 ez2 HK HK2 HD HN
 go_wp2_with fail
 refine bodyPost_ret (v:=.agg #[.bool b1,.string s1,.bool b2,.string s2]) (by simp[results,Tryz.results60,go_sem,e0,e1,e2,e3]) rfl ⟨?_,?_⟩
 ·rw[HE.out]
 ·exact((((hbw.setCell (p:=⟨w.heap.size,0,none⟩) (Nat.le_refl _) _).setCell (p:=⟨w.heap.size,1,none⟩) (Nat.le_refl _) _).setCell (p:=⟨w.heap.size,2,none⟩) (Nat.le_refl _) _).setCell (p:=⟨w.heap.size,3,none⟩) (Nat.le_refl _) _)
set_option maxRecDepth 100000 in
theorem rat_any(n1 n2:Bool)(s1 s2:ByteArray)(hd0:numS s2≠0)(h1:s1.size<274877906944)(h2:s2.size<274877906944)(w:World) :
  Calls Tryz.prog 61 #[.agg #[.bool n1,.string s1,.bool n2,.string s2]] w fun e w'=>∃ v,e=.returned v∧NewR (Rat.divInt (sgn n1 (numS s1)) (sgn n2 (numS s2))) v w w':=by
 have hdz:sgn n2 (numS s2)≠0:=by unfold sgn; cases n2<;>simp<;>omega
 have HZ:=Lib.hid hdz
 have l1:(words (sgn n1 (numS s1)).natAbs).length<274877906944:=by rw[natAbs_sgn]; exact Nat.lt_of_le_of_lt (words_length_le (k:=s1.size) (Nat.lt_of_lt_of_le (numS_lt s1) (Nat.pow_le_pow_left (by decide) _))) h1
 have l2:(words (sgn n2 (numS s2)).natAbs).length<274877906944:=by rw[natAbs_sgn]; exact Nat.lt_of_le_of_lt (words_length_le (k:=s2.size) (Nat.lt_of_lt_of_le (numS_lt s2) (Nat.pow_le_pow_left (by decide) _))) h2
 have HL:=Lib.hid (And.intro l1 l2)
 clear hdz hd0 l1 l2
 go_enter Tryz.func61,Tryz.ntmps61
 go_wp2_with fail
 obtain⟨W,hW⟩:∃ W,W=w.alloc (.cells #[.bool n1,.string s1,.bool n2,.string s2] 25):=⟨_,rfl⟩
 have hB:Below w.heap.size w W:=by rw[hW]; exact br.alloc (Nat.le_refl _) _
 have hWs:w.heap.size<W.heap.size:=by rw[hW]; simp
 obtain⟨e0,e1,e2,e3,_⟩:=new_four w (.bool n1) (.string s1) (.bool n2) (.string s2) 25 br
 rw[←hW] at e0 e1 e2 e3 ⊢
 clear hW
 refine wp_region_inv [(.new zR,[]),(.lit,[]),(.lit,[]),(.val,[]),(.lit,[]),(.lit,[]),(.val,[]),(.on 0 zR,[3,6])]
  (pickF [(3,IntP (sgn n1 (numS s1))),(6,IntP (sgn n2 (numS s2))),(7,RatM W.heap.size (Rat.divInt (sgn n1 (numS s1)) (sgn n2 (numS s2))))]) (by kernel_rfl) ?_ ?_ (by simp[noW_zRat]) (by simp) (by kernel_rfl)
 ·exact keeps_pick (by simp[IntP.keeps,RatM.keeps])
 ·refine⟨fun f w1=>by go_simp,?_⟩
  repeat (refine⟨_,fun f w1 h1=>by(have d0:=ct h1 hWs e0; have d1:=ct h1 hWs e1; have d2:=ct h1 hWs e2; have d3:=ct h1 hWs e3; go_simp; rfl),?_⟩)
  simp only[Act.put,nrA,nrB,nrC,Nat.reduceAdd]
  refine⟨fun f w1 A1 k1 hA hN hd K hK=>by
   go_simp
   refine(number_any n1 s1 h1 w1).mono ?_
   rintro e w' ⟨v,rfl,hn⟩
   exact hK _ _ hn.1 (hn.2 A1 hA),?_⟩
  repeat (refine⟨_,fun f w1 h1=>by(have d0:=ct h1 hWs e0; have d1:=ct h1 hWs e1; have d2:=ct h1 hWs e2; have d3:=ct h1 hWs e3; go_simp; rfl),?_⟩)
  simp only[Act.put,nrA,nrB,nrC,Nat.reduceAdd]
  refine⟨fun f w1 A1 k1 hA hN hd K hK=>by
   go_simp
   refine(number_any n2 s2 h2 w1).mono ?_
   rintro e w' ⟨v,rfl,hn⟩
   exact hK _ _ hn.1 (hn.2 A1 hA),?_⟩
  simp only[Act.put,nrA,nrB,nrC,Nat.reduceAdd]
  refine⟨fun f w1 A1 m1 k1 hA hN hAm hm0 e hz hd K hK=>by
   simp only[e] at hK ⊢
   have i1:IntP (sgn n1 (numS s1)) (f 3) w1 A1:=hd 3 (by simp)
   have i2:IntP (sgn n2 (numS s2)) (f 6) w1 A1:=hd 6 (by simp)
   go_simp
   refine(SetFrac_any m1 _ _ _ HZ.out _ _ A1 w1 hz (by decide) noW_zRat i1 i2 HL.out.1 HL.out.2).mono ?_
   rintro e w' ⟨rfl,hp⟩
   exact hK _ w' hp.1 (hp.ratM hm0 hA),?_⟩
  intro f w1 k1 hF
  have i1:RatM W.heap.size (Rat.divInt (sgn n1 (numS s1)) (sgn n2 (numS s2))) (f 7) w1 NoA:=hF.2
  clear hF
  simp only[Act.put,nrA,nrB,nrC]
  generalize f 3=v3
  generalize f 6=v6
  generalize f 7=v7 at *
  have hbw:Below W.heap.size W w1:=br.drew.trans k1
  have hn:=i1.new (hB.trans (hbw.mono hB.size)) hB.size
  have HN:=Lib.hid hn
  clear hn i1
  go_wp2
  go_ret
  exact⟨v7,rfl,HN.out⟩
end Go.Proofs.YthklnbaddobieaaGreat
namespace Tr
theorem byte_nz{a j:Nat}(h:a<256 ^ (j+1))(h0:a / 256 ^ j % 256≠0):(byteLE a).length=j+1:=by
 refine byteLE_length h (.inr ?_)
 simp only[Nat.add_sub_cancel]
 rcases Nat.lt_or_ge a (256 ^ j) with h1|h1
 ·rw[Nat.div_eq_of_lt h1] at h0; simp at h0
 ·exact h1
theorem byte_z{a j:Nat}(h:a<256 ^ (j+1))(h0:a / 256 ^ j % 256=0):a<256 ^ j:=by
 have hp:0<256 ^ j:=Nat.pow_pos (by decide)
 have h1:a / 256 ^ j<256:=by rw[Nat.div_lt_iff_lt_mul hp,Nat.mul_comm,←Nat.pow_succ]; exact h
 rw[Nat.mod_eq_of_lt h1] at h0
 rcases Nat.lt_or_ge a (256 ^ j) with h2|h2
 ·exact h2
 ·have:=Nat.div_pos h2 hp; omega
end Tr
namespace Go.Proofs.YthklnbaddobieaaGreat
open Go.RowKit Tr
theorem encZ_sgn(neg:Bool)(a:Nat)(h:a≠0):encZ (sgn neg a)=.agg #[.bool neg,.string (strN a)]:=by
 unfold encZ
 rw[natAbs_sgn,sgn_neg]
 simp[h]
theorem encZ_zero:encZ 0=.agg #[.bool false,.string ⟨#[]⟩]:=by
 unfold encZ
 have:strN (0:Int).natAbs=⟨#[]⟩:=by unfold strN; simp[byteLE_zero]
 rw[this]; rfl
set_option maxRecDepth 100000 in
theorem smade_pos(neg:Bool)(l:List Nat)(v:Value)(a:Nat)(ha:wv l=a)(ha0:a≠0)(w:World)(ol:WOk l)(hl:WSl w v l)(hm:l.length<274877906944) :
  Calls Tryz.prog 144 #[.bool neg,v] w fun e w'=>e=.returned (.agg #[.bool neg,.string (strN a)])∧Below w.heap.size w w':=by
 have hcut:=fun(w1:World) (hb:Below w.heap.size w w1)=>scut_any l v w1 ol (hl.below hb) (by omega)
 rw[ha] at hcut
 have hlen:(words a).length<274877906944:=by rw[←ha]; exact Nat.lt_of_le_of_lt (words_length_le (wv_lt ol)) hm
 have HC:=Lib.hid hcut
 have HA:=Lib.hid ha0
 obtain⟨m,hmw⟩:∃ m,(words a).length=m:=⟨_,rfl⟩
 have hm0:0<m:=by
  rw[←hmw]; exact List.length_pos_iff.2 (fun h=>ha0 (words_eq_nil.1 h))
 rw[hmw] at hlen
 have HM:=Lib.hid hmw
 have e0:((m:Int) == 0)=false:=by simp; omega
 clear hcut ha ha0 hl hm ol hmw
 go_enter Tryz.func144,Tryz.ntmps144
 go_wp2_with fail
 refine(HC.out _ (br.alloc (Nat.le_refl _) _)).mono ?_
 rintro e w1 ⟨v1,rfl,hv1,rfl⟩
 obtain⟨p1,c1,rfl,hc1,hr1⟩:=hv1
 rw[HM.out]
 obtain⟨bb,ob,rfl,hbb,hcell⟩:=hr1 (by intro h; have:=HM.out; rw[h] at this; simp at this; omega)
 have HR:=Lib.hid hcell
 obtain⟨wo,hwo⟩:∃ wo,wo=w.alloc (.cells #[.bool false,.string ⟨#[]⟩] 23):=⟨_,rfl⟩
 have hz4:wo.heap[w.heap.size]?=some (.cells #[.bool false,.string ⟨#[]⟩] 23 (0,0)):=by rw[hwo]; exact heap_alloc_new w _
 have hB0:Below w.heap.size w wo:=by rw[hwo]; exact br.alloc (Nat.le_refl _) _
 have hlt0:w.heap.size<wo.heap.size:=(Array.getElem?_eq_some_iff.1 hz4).1
 rw[←hwo] at HR hbb ⊢
 clear hr1 hcell hwo
 go_wp2_with fail
 go_loop [5] (fun n=>∃ k:Nat,n=.int .i64 k∧k≤4*m∧Hid (a<256 ^ k)) (fun n=>(intOf n).toNat)
 case atStart =>
  refine⟨4*m,by go_num,Nat.le_refl _,Lib.hid ?_⟩
  have:=lt_words a
  rw[HM.out] at this
  rw[show(256:Nat) ^ (4*m)=4294967296 ^ m by rw[Nat.pow_mul]]; exact this
 case round =>
  obtain⟨k,rfl,hk,hlt⟩:=hrel
  cases k with
  | zero=>exact absurd hlt.out (by have:=HA.out; omega)
  | succ j =>
   obtain⟨kq,hkq⟩:∃ kq,kq=j / 4:=⟨_,rfl⟩
   obtain⟨kr,hkr⟩:∃ kr,kr=j % 4:=⟨_,rfl⟩
   obtain⟨ks,hks⟩:∃ ks,ks=8*kr:=⟨_,rfl⟩
   have hkM:kq<m:=by omega
   have c2:=HR.out kq (by have:=HM.out; omega)
   obtain⟨y,hy⟩:∃ y,y=wat (words a) kq:=⟨_,rfl⟩
   rw[show(words a)[kq]?.getD 0=y from hy.symm] at c2
   have hy32:y<4294967296:=by rw[hy]; exact wat_lt (wok_words a) kq
   obtain⟨z,hz⟩:∃ z,z=a / 256 ^ j % 256:=⟨_,rfl⟩
   have hyz:y / 2 ^ ks % 256=z:=by rw[hy,wat_words,hks,byte_of_word a kq kr (by omega),hz,show 4*kq+kr=j by omega]
   have q0:((y:Int) / 2 ^ ks).tmod 256=(z:Int):=by
    rw[show(y:Int) / 2 ^ ks=((y / 2 ^ ks:Nat):Int) by simp,Int.tmod_eq_emod_of_nonneg (Int.natCast_nonneg _),←hyz]; simp
   have hz8:z<256:=by rw[←hyz]; exact Nat.mod_lt _ (by decide)
   have q4:((j+1:Nat):Int)=(j:Int)+1:=by omega
   have q5:(j:Int)+1 - 1=(j:Int):=by omega
   have q1:(j:Int) / 4=(kq:Int):=by omega
   have q2:(j:Int) % 4=(kr:Int):=by omega
   have q7:(8:Int)*(kr:Int)=(ks:Int):=by omega
   have q6:(kq:Int)<(m:Int):=by omega
   have q9:ks<32:=by omega
   have HZ:=Lib.hid hz
   clear hkq hkr hks hyz hy hz
   rw[q4]
   clear q4
   by_cases h0:z=0
   ·have HL:Hid (a<256 ^ j):=Lib.hid (byte_z hlt.out (by rw[←HZ.out,h0]))
    have hb:((z:Int) == 0)=true:=by rw[h0]; rfl
    clear h0
    go_wp2_with fail
    go_round
    case rel=>exact⟨j,rfl,by omega,HL⟩
    case measure=>simp[intOf]
   ·have HL:Hid ((byteLE a).length=j+1):=Lib.hid (byte_nz hlt.out (by rw[←HZ.out]; exact h0))
    have hb:((z:Int) == 0)=false:=by simp; exact h0
    obtain⟨n,hn⟩:∃ n,n=j+1:=⟨_,rfl⟩
    have hjn:(j:Int)+1=(n:Int):=by omega
    have hn1:(n:Int) - 1=(j:Int):=by omega
    have hn4:n≤4*m:=by omega
    rw[←hn] at HL
    rw[hjn]
    clear h0 hn q5
    have hmk:=run_mkB n (by omega)
    go_wp2_with fail
    go_loopw [7] (fun i wr=>∃(k:Nat) (cur:List Nat),k≤n∧i=.int .i64 k∧Hid (cur.length=n)∧Hid (∀ j,j<k→cur[n - 1 - j]?=some (a / 256 ^ j % 256))∧BlkB wr wo.heap.size cur∧Below wo.heap.size wo wr) (fun i _=>n - (intOf i).toNat)
    case atStart=>exact⟨0,List.replicate n 0,Nat.zero_le _,rfl,Lib.hid (by simp),Lib.hid (fun j hj=>by omega),BlkB.new _ _,br.alloc (Nat.le_refl _) _⟩
    case round =>
     obtain⟨k,cur,hk,rfl,hlc,hinv,hblk,hB⟩:=hrel
     by_cases hlt:k<n
     ·obtain⟨kq,hkq⟩:∃ kq,kq=k / 4:=⟨_,rfl⟩
      obtain⟨kr,hkr⟩:∃ kr,kr=k % 4:=⟨_,rfl⟩
      obtain⟨kj,hkj⟩:∃ kj,kj=n - 1 - k:=⟨_,rfl⟩
      obtain⟨ks,hks⟩:∃ ks,ks=8*kr:=⟨_,rfl⟩
      have hkM:kq<m:=by omega
      have c2:=(hB.cell (p:=⟨bb,ob+kq,none⟩) hbb).trans (HR.out kq (by have:=HM.out; omega))
      have c3:=hblk.cell (i:=kj) (by have:=hlc.out; omega)
      have f3:=hblk.frozen kj
      obtain⟨y,hy⟩:∃ y,y=wat (words a) kq:=⟨_,rfl⟩
      rw[show(words a)[kq]?.getD 0=y from hy.symm] at c2
      have hy32:y<4294967296:=by rw[hy]; exact wat_lt (wok_words a) kq
      obtain⟨z,hz⟩:∃ z,z=a / 256 ^ k % 256:=⟨_,rfl⟩
      have hyz:y / 2 ^ ks % 256=z:=by rw[hy,wat_words,hks,byte_of_word a kq kr (by omega),hz,show 4*kq+kr=k by omega]
      have q0:(y:Int) / 2 ^ ks % 256=(z:Int):=by rw[←hyz]; simp
      have q1:(k:Int) / 4=(kq:Int):=by omega
      have q2:(k:Int) % 4=(kr:Int):=by omega
      have q3:(j:Int) - (k:Int)=(kj:Int):=by omega
      have q7:(8:Int)*(kr:Int)=(ks:Int):=by omega
      have q9:ks<32:=by omega
      have q5:(kj:Int)<(n:Int):=by omega
      have q6:(kq:Int)<(m:Int):=by omega
      have HK:=Lib.hid (And.intro hkj hz)
      clear hkq hkr hkj hks hyz hy hz
      go_wp2_with fail
      go_roundw
      case rel =>
       refine⟨k+1,cur.set kj z,by omega,by go_num,Lib.hid (by have:=hlc.out; simpa using this),Lib.hid (fun j hj=>?_),hblk.set kj z,hB.setCell (p:=⟨wo.heap.size,kj,none⟩) (Nat.le_refl _) _⟩
       have h1:=HK.out.1
       by_cases hjk:j=k
       ·subst hjk
        rw[←h1,←HK.out.2,List.getElem?_set_self (by have:=hlc.out; omega)]
       ·rw[List.getElem?_set_ne (by omega)]; exact hinv.out j (by omega)
      case measure=>simp[intOf]; omega
     ·obtain rfl:n=k:=by omega
      have hsz:(strN a).size=n:=by rw[size_strN]; exact HL.out
      have hbs:BSl wr (.slice (some ⟨wo.heap.size,0,none⟩) n n) (strN a):=⟨wo.heap.size,0,n,by rw[hsz],hblk.lt,fun i hi=>by
       rw[Nat.zero_add,hblk.cell (i:=i) (by have:=hlc.out; omega)]
       have h1:=hinv.out (n - 1 - i) (by rw[hsz] at hi; omega)
       rw[show n - 1 - (n - 1 - i)=i by rw[hsz] at hi; omega] at h1
       have h2:=strN_get hi
       simp only[hsz] at h2
       rw[h1,h2]; rfl⟩
      have hcv:=run_conv_str wr _ _ hbs
      have hz5:=(hB.block _ hlt0).trans hz4
      have hBw:=hB0.trans (hB.mono hB0.size)
      clear hbs hsz
      go_wp2_with (refine wpList_store_row rfl 23 _ _ rfl w.heap.size _ rfl rfl 23 _ hz5 (by kernel_rfl) (by kernel_rfl) (by kernel_rfl) ?_)
      refine bodyPost_ret (v:=.agg #[.bool neg,.string (strN a)]) (by exact results_cell_row Tryz.results144 _ _ w.heap.size 23 #[.bool neg,.string (strN a)] (0,0) _ rfl (setRow_heap _ _ _ _ _ _ hz5) Tryz.underlying23 rfl (by kernel_rfl)) rfl ⟨rfl,?_⟩
      exact below_setRow hBw (Nat.le_refl _) _
set_option maxRecDepth 100000 in
theorem smade_any(neg:Bool)(l:List Nat)(v:Value)(w:World)(ol:WOk l)(hl:WSl w v l)(hm:l.length<274877906944) :
  Calls Tryz.prog 144 #[.bool neg,v] w fun e w'=>e=.returned (encZ (sgn neg (wv l)))∧Below w.heap.size w w':=by
 by_cases ha0:wv l=0
 ·have hcut:=fun(w1:World) (hb:Below w.heap.size w w1)=>scut_any l v w1 ol (hl.below hb) (by omega)
  rw[ha0,words_zero] at hcut
  have hz:encZ (sgn neg 0)=.agg #[.bool false,.string ⟨#[]⟩]:=by rw[show sgn neg 0=0 by cases neg<;>rfl]; exact encZ_zero
  rw[ha0,hz]
  have HC:=Lib.hid hcut
  clear hcut hl ol ha0 hz hm
  go_enter Tryz.func144,Tryz.ntmps144
  go_wp2_with fail
  refine(HC.out _ (br.alloc (Nat.le_refl _) _)).mono ?_
  rintro e w1 ⟨v1,rfl,⟨p1,c1,rfl,hc1,hr1⟩,rfl⟩
  have hz4:=heap_alloc_new w (.cells #[.bool false,.string ⟨#[]⟩] 23)
  have hB0:Below w.heap.size w (w.alloc (.cells #[.bool false,.string ⟨#[]⟩] 23)):=br.alloc (Nat.le_refl _) _
  clear hr1
  go_wp2_with (refine wpList_store_row rfl 23 _ _ rfl w.heap.size _ rfl rfl 23 _ hz4 (by kernel_rfl) (by kernel_rfl) (by kernel_rfl) ?_)
  refine bodyPost_ret (v:=.agg #[.bool false,.string ⟨#[]⟩]) (by exact results_cell_row Tryz.results144 _ _ w.heap.size 23 #[.bool false,.string ⟨#[]⟩] (0,0) _ rfl (setRow_heap _ _ _ _ _ _ hz4) Tryz.underlying23 rfl (by kernel_rfl)) rfl ⟨rfl,?_⟩
  exact below_setRow hB0 (Nat.le_refl _) _
 ·rw[encZ_sgn neg _ ha0]
  exact smade_pos neg l v _ rfl ha0 w ol hl hm
end Go.Proofs.YthklnbaddobieaaGreat
namespace Tr
open Go Go.RowKit
section
variable{P:Program}{L:List GF}
def isConv(s d:TypeId)(o:Oper):Bool:=match o.op with|.convert a b _=>a == s && b == d|_=>false
def isNeg(o:Oper):Bool:=match o.op with|.unOp .neg _ _=>true|_=>false
def isLen(t:TypeId)(o:Oper):Bool:=match o.op with|.call c=>(match c.callee with|.builtin .len=>(match c.argTypes.toList,c.args.toList with|[u],[_]=>u == t|_,_=>false)|_=>false)|_=>false
def goConv(s d:TypeId)(x:AR)(res:AC){vx v:Value}(h:∀ w,(convert s d vx).run P w=.ok v w)(hx:x.gv L=some vx:=by rfl)(hr:res.gv L=some v:=by rfl):GO P L :=
 ⟨{ same:=isConv s d,args:=[x],res:=.r (.c res) },fun o ho σ ρ w A ha=>by
  obtain⟨dst,op,ty,pos,after,guard⟩:=o
  unfold isConv at ho
  cases op<;>simp at ho
  obtain⟨rfl,rfl⟩:=ho
  rename_i a
  have h1:ρ a=vx:=(AR.gv_ok hx).1 ha.1
  exact⟨v,by simp[execOp,h1,h w],(AC.gv_ok hr).2 rfl⟩⟩
def goNeg(x:AR)(res:AC){vx v:Value}(h:∀ w,(Op.unary .neg vx).run P w=.ok v w)(hx:x.gv L=some vx:=by rfl)(hr:res.gv L=some v:=by rfl):GO P L :=
 ⟨{ same:=isNeg,args:=[x],res:=.r (.c res) },fun o ho σ ρ w A ha=>by
  obtain⟨dst,op,ty,pos,after,guard⟩:=o
  unfold isNeg at ho
  cases op<;>simp at ho
  rename_i u t a
  cases u<;>simp at ho
  have h1:ρ a=vx:=(AR.gv_ok hx).1 ha.1
  exact⟨v,by simp[execOp,h1,h w],(AC.gv_ok hr).2 rfl⟩⟩
def goLenG(t:TypeId)(x:AR)(res:AC){v:Value}(h:∀(w:World) (A:Nat→Prop) (u:Value) (ty:TypeId),x.ok (gT L) σ0 u w A→(Builtin.len_ #[t] ty #[u]).run P w=.ok v w)(hx:x.noown=true:=by rfl)(hr:res.gv L=some v:=by rfl):GO P L :=
 ⟨{ same:=isLen t,args:=[x],res:=.r (.c res) },fun o ho σ ρ w A ha=>by
  obtain⟨dst,op,ty,pos,after,guard⟩:=o
  unfold isLen at ho
  cases op<;>simp only[Bool.false_eq_true] at ho
  rename_i c
  obtain⟨callee,args,ats⟩:=c
  cases callee<;>simp only[Bool.false_eq_true] at ho
  rename_i b
  cases b<;>simp only[Bool.false_eq_true] at ho
  split at ho
  ·rename_i u y h1 h2
   have e1:ats=#[t]:=by apply Array.toList_inj.1; rw[h1]; simpa using ho
   have e2:args=#[y]:=by apply Array.toList_inj.1; rw[h2]
   subst e1; subst e2
   have h3:=h w A (ρ y) ty (AR.ok_noown hx ha.1)
   exact⟨v,by simp[execOp,resolve,invoke,builtin,h3],(AC.gv_ok hr).2 rfl⟩
  ·cases ho⟩
theorem toList_emp(a:ByteArray):(a.toList == (⟨#[]⟩:ByteArray).toList)=decide (a=⟨#[]⟩):=by
 have h0:(⟨#[]⟩:ByteArray).toList=[]:=(toList_nil_iff_emptyBytes _).2 rfl
 rw[h0,Bool.eq_iff_iff]
 simp only[beq_iff_eq,decide_eq_true_eq]
 exact toList_nil_iff_emptyBytes a
theorem str_eql(t:TypeId)(a:ByteArray)(c:Bool)(hc:decide (a=⟨#[]⟩)=c):∀(xo yo:Operand) (w:World),(do eqGuard .eql t xo yo (.string a) (.string ⟨#[]⟩); binOp .eql t (.string a) (.string ⟨#[]⟩):Sem Value).run P w=.ok (.bool c) w:=by
 intro xo yo w
 rw[←hc,←toList_emp]
 simp[eqGuard,binOp,Op.stringOp]
theorem str_neq(t:TypeId)(a:ByteArray)(c:Bool)(hc:decide (a=⟨#[]⟩)=!c):∀(xo yo:Operand) (w:World),(do eqGuard .neq t xo yo (.string a) (.string ⟨#[]⟩); binOp .neq t (.string a) (.string ⟨#[]⟩):Sem Value).run P w=.ok (.bool c) w:=by
 intro xo yo w
 rw[←toList_emp] at hc
 have:c=!(a.toList == (⟨#[]⟩:ByteArray).toList):=by rw[hc]; simp
 rw[this]
 simp[eqGuard,binOp,Op.stringOp]
theorem eqGuard_bool(op:BinOp)(t:TypeId)(xo yo:Operand)(a b:Bool)(w:World):(eqGuard op t xo yo (.bool a) (.bool b)).run P w=.ok () w:=by
 cases op<;>rfl
theorem bool_eql{t:TypeId}(ht:P.underlying t=some .bool)(a b c:Bool)(hc:(a == b)=c):∀(xo yo:Operand) (w:World),(do eqGuard .eql t xo yo (.bool a) (.bool b); binOp .eql t (.bool a) (.bool b):Sem Value).run P w=.ok (.bool c) w:=by
 intro xo yo w
 have e:binOp .eql t (.bool a) (.bool b)=(do pure (.bool (←Op.equal t (.bool a) (.bool b)))):=rfl
 rw[Sem.run_bind,eqGuard_bool,Result.andThen_ok,e,Sem.run_bind,run_equal_bool _ t a b ht,Result.andThen_ok,hc]
 rfl
theorem bool_neq{t:TypeId}(ht:P.underlying t=some .bool)(a b c:Bool)(hc:(a != b)=c):∀(xo yo:Operand) (w:World),(do eqGuard .neq t xo yo (.bool a) (.bool b); binOp .neq t (.bool a) (.bool b):Sem Value).run P w=.ok (.bool c) w:=by
 intro xo yo w
 have e:binOp .neq t (.bool a) (.bool b)=(do pure (.bool (!(←Op.equal t (.bool a) (.bool b))))):=rfl
 rw[Sem.run_bind,eqGuard_bool,Result.andThen_ok,e,Sem.run_bind,run_equal_bool _ t a b ht,Result.andThen_ok]
 rw[←hc]
 rfl
def cmpB(op:BinOp)(a b:Int):Option Bool:=match op with
 | .eql=>some (a == b)|.neq=>some (a != b)|.lss=>some (decide (a<b))|.leq=>some (decide (a≤b))|.gtr=>some (decide (a>b))|.geq=>some (decide (a≥b))|_=>none
theorem int_cmp(op:BinOp)(t:TypeId)(k:IntKind)(a b:Int)(c:Bool)(hc:cmpB op a b=some c):∀(xo yo:Operand) (w:World),(do eqGuard op t xo yo (.int k a) (.int k b); binOp op t (.int k a) (.int k b):Sem Value).run P w=.ok (.bool c) w:=by
 intro xo yo w
 cases op<;>simp only[cmpB,Option.some.injEq] at hc<;>first|(cases hc; done)|(subst hc; simp[eqGuard,binOp,Op.intCmp])
def gbInt(op:BinOp)(t:TypeId)(k:IntKind)(x y:AC)(a b:Int)(c:Bool)(h:cmpB op a b=some c)(hx:x.gv L=some (.int k a):=by rfl)(hy:y.gv L=some (.int k b):=by rfl):GB P L:=gb op t (.c x) (.c y) (.lit (.bool c)) (int_cmp op t k a b c h) hx hy rfl
def gbNeb(t:TypeId)(ht:P.underlying t=some .bool)(a b:Bool):GB P L:=gb .neq t (.c (.lit (.bool a))) (.c (.lit (.bool b))) (.lit (.bool (a != b))) (bool_neq ht a b _ rfl) rfl rfl rfl
end
end Tr
namespace Go.Proofs.YthklnbaddobieaaGreat
open Go.RowKit Tr
theorem strN_emp{n:Nat}:decide (strN n=⟨#[]⟩)=decide (n=0):=by
 by_cases h:n=0
 ·subst h; simp[strN,byteLE_zero]
 ·have h1:strN n≠⟨#[]⟩:=fun e=>by
   have h2:=size_strN n
   rw[e] at h2
   have h3:(byteLE n).length=0:=h2.symm
   rw[byteLE_pos (by omega)] at h3
   simp at h3
  simp[h,h1]
def gbEmp{P:Program}{L:List GF}(t:TypeId)(i n:Nat)(c:Bool)(h:decide (n=0)=c)(hx:(AC.sym i).gv L=some (.string (strN n)):=by rfl):GB P L:=gb .eql t (.c (.sym i)) (.c (.lit .str0)) (.lit (.bool c)) (str_eql t (strN n) c (by rw[strN_emp]; exact h)) hx rfl rfl
def gbNemp{P:Program}{L:List GF}(t:TypeId)(i n:Nat)(c:Bool)(h:decide (n=0)=!c)(hx:(AC.sym i).gv L=some (.string (strN n)):=by rfl):GB P L:=gb .neq t (.c (.sym i)) (.c (.lit .str0)) (.lit (.bool c)) (str_neq t (strN n) c (by rw[strN_emp]; exact h)) hx rfl rfl
def gbEmp0{P:Program}{L:List GF}(t:TypeId):GB P L:=gb .eql t (.c (.lit .str0)) (.c (.lit .str0)) (.lit (.bool true)) (str_eql t ⟨#[]⟩ true (by simp)) rfl rfl rfl
theorem encZ_neg{z:Int}(h:z<0):encZ z=.agg #[.bool true,.string (strN z.natAbs)]:=by unfold encZ; simp[h]
theorem encZ_pos{z:Int}(h:0≤z):encZ z=.agg #[.bool false,.string (strN z.natAbs)]:=by unfold encZ; simp; omega
theorem ssign(z:Int):PureC Tryz.prog 106 [encZ z] (.int .i64 z.sign):=by
 rcases Int.lt_trichotomy z 0 with h|h|h
 ·rw[encZ_neg h,Int.sign_eq_neg_one_of_neg h]
  exact ev_pure (hp:=false) (L:=[gx (.string (strN z.natAbs))]) tys_ok mixed [] [gbEmp 9 0 z.natAbs false (by simp; omega)] []
   Tryz.func106 60 [.row [.lit (.bool true),.sym 0]] (.r (.c (.lit (.int .i64 (-1))))) (by kernel_rfl)
 ·subst h
  rw[encZ_zero]
  exact ev_pure (hp:=false) (L:=[]) tys_ok mixed [] [gbEmp0 9] [] Tryz.func106 60 [.row [.lit (.bool false),.lit .str0]] (.r (.c (.lit (.int .i64 0)))) (by kernel_rfl)
 ·rw[encZ_pos (by omega),Int.sign_eq_one_of_pos h]
  exact ev_pure (hp:=false) (L:=[gx (.string (strN z.natAbs))]) tys_ok mixed [] [gbEmp 9 0 z.natAbs false (by simp; omega)] []
   Tryz.func106 60 [.row [.lit (.bool false),.sym 0]] (.r (.c (.lit (.int .i64 1)))) (by kernel_rfl)
end Go.Proofs.YthklnbaddobieaaGreat
namespace Tr
open Go Go.RowKit
section
variable{P:Program}{L:List GF}
def isExt(f:FuncId)(o:Oper):Bool:=match o.op with|.call c=>(match c.callee with|.value (.func g)=>g == f|_=>false)|_=>false
theorem ptrs_nil{σ:Sg}{vs:List Value}(h:ptrs σ [] vs):vs=[]:=by cases vs with|nil=>rfl|cons _ _=>exact h.elim
def goExt(f:FuncId)(args:List AR)(res:AR){vs:List Value}{v:Value}(h:∀ w,(callFunc f vs.toArray).run P w=.ok (.value v) w)(ha:arsV L args=some vs:=by rfl)(hr:res.gv L=some v:=by rfl):GO P L :=
 ⟨{ same:=isExt f,args:=.c (.fn f [] []) :: args,res:=.r res },fun o ho σ ρ w A hu=>by
  obtain⟨dst,op,ty,pos,after,guard⟩:=o
  unfold isExt at ho
  cases op<;>simp only[Bool.false_eq_true] at ho
  rename_i c
  obtain⟨callee,xs,ats⟩:=c
  cases callee<;>simp only[Bool.false_eq_true] at ho
  rename_i x
  cases x<;>simp only[Bool.false_eq_true,beq_iff_eq] at ho
  rename_i g
  subst ho
  have e0:(Op.call { callee:=.value (.func g),args:=xs,argTypes:=ats }).operands.toList.map ρ=ρ (.func g) :: xs.toList.map ρ:=by
   simp only[Op.operands,Call.operands,Array.toList_append,List.map_append,List.map_cons,List.map_nil]; rfl
  rw[e0] at hu
  obtain⟨⟨us,ws,e1,h1,h2⟩,h3⟩:=hu
  rw[ptrs_nil h1,ptrs_nil h2] at e1
  have e2:=(arsV_ok ha).1 h3
  refine⟨v,?_,(AR.gv_ok hr).2 rfl⟩
  have e3:(#[]++xs.map ρ++#[]:Array Value)=vs.toArray:=by
   apply Array.toList_inj.1; simp[e2]
  simp only[execOp,resolve,e1,Deferred.ofValue,Sem.run_bind,Sem.run_pure,Result.andThen_ok,invoke]
  rw[show(([]:List Value).toArray++xs.map ρ++([]:List Value).toArray)=vs.toArray from e3]
  exact h w⟩
end
end Tr
namespace Go.Proofs.YthklnbaddobieaaGreat
open Go.RowKit Tr
theorem fl_cmp(op:BinOp)(t:TypeId)(x y:Nat)(b:Bool)(h:∀ w,(binOp op t (.float .f64 x) (.float .f64 y)).run Tryz.prog w=.ok (.bool b) w)(hop:∀ xo yo,eqGuard op t xo yo (.float .f64 x) (.float .f64 y)=pure ()) :
  ∀(xo yo:Operand) (w:World),(do eqGuard op t xo yo (.float .f64 x) (.float .f64 y); binOp op t (.float .f64 x) (.float .f64 y):Sem Value).run Tryz.prog w=.ok (.bool b) w:=by
 intro xo yo w
 rw[hop]; simp[h]
theorem fl_eql(t:TypeId)(x y:Nat)(b:Bool)(h:(Ieee.double.order x y == some .eq)=b):∀(xo yo:Operand) (w:World),(do eqGuard .eql t xo yo (.float .f64 x) (.float .f64 y); binOp .eql t (.float .f64 x) (.float .f64 y):Sem Value).run Tryz.prog w=.ok (.bool b) w :=
 fl_cmp _ _ _ _ _ (fun w=>by rw[←h]; simp only[binOp_float_cmp_eql]; rfl) (fun _ _=>rfl)
theorem fl_arith(op:BinOp)(t:TypeId)(x y r:Nat)(h:VOp op x y r):∀(xo yo:Operand) (w:World),(do eqGuard op t xo yo (.float .f64 x) (.float .f64 y); binOp op t (.float .f64 x) (.float .f64 y):Sem Value).run Tryz.prog w=.ok (.float .f64 r) w:=by
 intro xo yo w
 have hg:eqGuard op t xo yo (.float .f64 x) (.float .f64 y)=pure ():=by
  unfold VOp floatBits at h
  cases op<;>simp only at h<;>first|rfl|(cases h; done)
 rw[hg]
 simp[h.run]
end Go.Proofs.YthklnbaddobieaaGreat
namespace Tr
open Go Go.RowKit
end Tr
namespace Go.Proofs.YthklnbaddobieaaGreat
open Go.RowKit Tr
def WsF(l:List Nat):Fact:=fun v w A=>WSlA A w v l
def gw(l:List Nat):GF where
 R:=WsF l
 int:=false
 keeps:=fun v w w' A A' hs hk h=>WSlA.keep hs hk h
 cell:=fun v w A ⟨p,c,e,_⟩=>by rw[e]; rfl
 noint:=fun _ v w A ⟨p,c,e,_⟩ k x e2=>by rw[e] at e2; cases e2
 ex:=none
 exact:=fun u e=>by cases e
def WL(n k:Nat):Prop:=(words n).length≤k
theorem WL.mono{n j k:Nat}(h:WL n j)(hk:j≤k):WL n k:=Nat.le_trans h hk
theorem WL.size{n k:Nat}(h:WL n k):(strN n).size≤4*k:=by
 rw[size_strN]
 refine byteLE_le (Nat.lt_of_lt_of_le (lt_words n) ?_)
 rw[show(256:Nat) ^ (4*k)=4294967296 ^ k by rw[Nat.pow_mul]]
 exact Nat.pow_le_pow_right (by decide) h
theorem gWords(n:Nat)(hn:WL n 1073741824)(w:World)(A:Nat→Prop)(u:Value)(hR:true=true→Rcv A w)(hu:u=.string (strN n)) :
  Calls Tryz.prog 169 #[u] w fun r w'=>∃ v,r=.returned v∧WsF (words n) v w' A∧Below w.heap.size w w':=by
 subst hu
 exact(swords_any n (by have:=hn.size; omega) w).mono fun e w' ⟨v,h1,h2,h3⟩=>⟨v,h1,h2.avoids ((hR rfl).below h3),h3⟩
theorem gMade(neg:Bool)(n:Nat)(hn:WL n 8589934592)(w:World)(A:Nat→Prop)(u v:Value)(hR:true=true→Rcv A w)(hu:u=.bool neg)(hv:WsF (words n) v w A) :
  Calls Tryz.prog 144 #[u,v] w fun r w'=>r=.returned (encZ (sgn neg n))∧Below w.heap.size w w':=by
 subst hu
 have:=smade_any neg (words n) v w (wok_words n) hv.wsl (by have h1:(words n).length≤8589934592:=hn; omega)
 rw[wv_words] at this
 exact this
theorem gMore(a b:Nat)(ha:WL a 8589934592)(hb:WL b 8589934592)(w:World)(A:Nat→Prop)(u v:Value)(hR:true=true→Rcv A w)(hu:WsF (words a) u w A)(hv:WsF (words b) v w A) :
  Calls Tryz.prog 176 #[u,v] w fun r w'=>∃ v,r=.returned v∧WsF (words (a+b)) v w' A∧Below w.heap.size w w':=by
 have h1:(words a).length≤8589934592:=ha
 have h2:(words b).length≤8589934592:=hb
 have:=smore_any (words a) (words b) u v w (wok_words a) (wok_words b) hu.wsl hv.wsl (by omega) (by omega)
 rw[wv_words,wv_words] at this
 exact this.mono fun e w' ⟨v,h1,h2,h3⟩=>⟨v,h1,h2.avoids ((hR rfl).below h3),h3⟩
theorem gLess(a b:Nat)(hba:b≤a)(ha:WL a 8589934592)(w:World)(A:Nat→Prop)(u v:Value)(hR:true=true→Rcv A w)(hu:WsF (words a) u w A)(hv:WsF (words b) v w A) :
  Calls Tryz.prog 214 #[u,v] w fun r w'=>∃ v,r=.returned v∧WsF (words (a - b)) v w' A∧Below w.heap.size w w':=by
 have h1:(words a).length≤8589934592:=ha
 have hl:(words b).length≤(words a).length:=words_length_le (Nat.lt_of_le_of_lt hba (lt_words a))
 have:=sless_any (words a) (words b) u v w (wok_words a) (wok_words b) (by rw[wv_words,wv_words]; exact hba) hl hu.wsl hv.wsl (by omega)
 rw[wv_words,wv_words] at this
 exact this.mono fun e w' ⟨v,h1,h2,h3⟩=>⟨v,h1,h2.avoids ((hR rfl).below h3),h3⟩
theorem gUnder(a b:Nat)(ha:WL a 8589934592)(w:World)(A:Nat→Prop)(u v:Value)(hR:true=true→Rcv A w)(hu:WsF (words a) u w A)(hv:WsF (words b) v w A) :
  Calls Tryz.prog 171 #[u,v] w fun r w'=>r=.returned (.int .i64 (cmpZ a b))∧Below w.heap.size w w':=by
 have h1:(words a).length≤8589934592:=ha
 exact(sunder_any a b u v w hu.wsl hv.wsl (by omega)).mono fun e w' ⟨h1,n,h2⟩=>⟨h1,by rw[h2]; exact below_drewN br n⟩
theorem gDivided(a b:Nat)(hb0:0<b)(ha:WL a 8589934592)(w:World)(A:Nat→Prop)(u v:Value)(hR:true=true→Rcv A w)(hu:WsF (words a) u w A)(hv:WsF (words b) v w A) :
  Calls Tryz.prog 170 #[u,v] w fun r w'=>∃ v1 v2,r=.returned (.tuple #[v1,v2])∧WsF (words (a / b)) v1 w' A∧WsF (words (a % b)) v2 w' A∧Below w.heap.size w w':=by
 have h1:(words a).length≤8589934592:=ha
 exact(sdivided_any a b u v w hu.wsl hv.wsl hb0 (by omega)).mono fun e w' ⟨v1,v2,h1,h2,h3,h4⟩=>⟨v1,v2,h1,h2.avoids ((hR rfl).below h4),h3.avoids ((hR rfl).below h4),h4⟩
theorem sneg(z:Int):PureC Tryz.prog 116 [encZ z] (encZ (-z)):=by
 rcases Int.lt_trichotomy z 0 with h|h|h
 ·rw[encZ_neg h,encZ_pos (show 0≤-z by omega),Int.natAbs_neg]
  exact ev_pure (hp:=false) (L:=[gx (.string (strN z.natAbs))]) tys_ok mixed [] [] [] Tryz.func116 60 [.row [.lit (.bool true),.sym 0]] (.r (.row [.lit (.bool false),.sym 0])) (by kernel_rfl)
 ·subst h
  rw[Int.neg_zero,encZ_zero]
  exact ev_pure (hp:=false) (L:=[]) tys_ok mixed [] [gb .neq 9 (.c (.lit .str0)) (.c (.lit .str0)) (.lit (.bool false)) (str_neq _ ⟨#[]⟩ false (by simp)) rfl rfl rfl] [] Tryz.func116 60 [.row [.lit (.bool false),.lit .str0]] (.r (.row [.lit (.bool false),.lit .str0])) (by kernel_rfl)
 ·rw[encZ_pos (show 0≤z by omega),encZ_neg (show -z<0 by omega),Int.natAbs_neg]
  exact ev_pure (hp:=false) (L:=[gx (.string (strN z.natAbs))]) tys_ok mixed [] [gbNemp 9 0 z.natAbs true (by simp; omega)] [] Tryz.func116 60 [.row [.lit (.bool false),.sym 0]] (.r (.row [.lit (.bool true),.sym 0])) (by kernel_rfl)
theorem sabs(z:Int):PureC Tryz.prog 108 [encZ z] (encZ (z.natAbs:Int)):=by
 rw[encZ_pos (show 0≤(z.natAbs:Int) by omega),Int.natAbs_natCast]
 exact ev_pure (hp:=false) (L:=[gx (.bool (decide (z<0))),gx (.string (strN z.natAbs))]) tys_ok mixed [] [] [] Tryz.func108 60 [.row [.sym 0,.sym 1]] (.r (.row [.lit (.bool false),.sym 1])) (by kernel_rfl)
def cz(z:Int):List GF:=[gx (.bool (decide (z<0))),gx (.string (strN z.natAbs))]
def zA(i:Nat):List AC:=[.sym i,.sym (i+1)]
theorem splus_same(neg:Bool)(a b:Nat)(ha:WL a 1073741824)(hb:WL b 1073741824):PureC Tryz.prog 173 [.agg #[.bool neg,.string (strN a)],.agg #[.bool neg,.string (strN b)]] (encZ (sgn neg (a+b))):=by
  have hs:WL (a+b) 8589934592:=by
    have:=wl_add (k:=1073741824) ha hb
    exact Nat.le_trans this (by decide)
  exact ev_pure (hp:=true) (L:=[gx (.bool neg),gx (.string (strN a)),gx (.string (strN b)),gw (words a),gw (words b),gw (words (a+b))]++cz (sgn neg (a+b))) tys_ok mixed
    [gm1 169 (.c (.sym 1)) (.r (.c (.sym 3))) eo169 (gWords a ha),gm1 169 (.c (.sym 2)) (.r (.c (.sym 4))) eo169 (gWords b hb),gm2 176 (.c (.sym 3)) (.c (.sym 4)) (.r (.c (.sym 5))) eo176 (gMore a b (ha.mono (by decide)) (hb.mono (by decide))),gm2x 144 (.c (.sym 0)) (.c (.sym 5)) (.r (.row (zA 6))) eo144 (gMade neg (a+b) hs)]
    [gb .eql 4 (.c (.sym 0)) (.c (.sym 0)) (.lit (.bool true)) (bool_eql Tryz.underlying4 neg neg true (by simp)) rfl rfl rfl] []
    Tryz.func173 100 [.row [.sym 0,.sym 1],.row [.sym 0,.sym 2]] (.r (.row (zA 6))) (by kernel_rfl)
theorem splus_unlike(neg:Bool)(a b:Nat)(ha:WL a 1073741824)(hb:WL b 1073741824)(hba:b≤a):PureC Tryz.prog 173 [.agg #[.bool neg,.string (strN a)],.agg #[.bool !neg,.string (strN b)]] (encZ (sgn neg (a - b))):=by
  have hs:WL (a - b) 8589934592:=Nat.le_trans (wl_mono (Nat.sub_le a b) ha) (by decide)
  exact ev_pure (hp:=true) (L:=[gx (.bool neg),gx (.string (strN a)),gx (.string (strN b)),gw (words a),gw (words b),gw (words (a - b)),gx (.bool !neg),gx (.int .i64 (cmpZ a b))]++cz (sgn neg (a - b))) tys_ok mixed
    [gm1 169 (.c (.sym 1)) (.r (.c (.sym 3))) eo169 (gWords a ha),gm1 169 (.c (.sym 2)) (.r (.c (.sym 4))) eo169 (gWords b hb),gm2x 171 (.c (.sym 3)) (.c (.sym 4)) (.r (.c (.sym 7))) eo171 (gUnder a b (ha.mono (by decide))),gm2 214 (.c (.sym 3)) (.c (.sym 4)) (.r (.c (.sym 5))) eo214 (gLess a b hba (ha.mono (by decide))),gm2x 144 (.c (.sym 0)) (.c (.sym 5)) (.r (.row (zA 8))) eo144 (gMade neg (a - b) hs)]
    [gb .eql 4 (.c (.sym 0)) (.c (.sym 6)) (.lit (.bool false)) (bool_eql Tryz.underlying4 neg (!neg) false (by simp)) rfl rfl rfl,gbInt .geq 3 .i64 (.sym 7) (.lit (.int .i64 0)) (cmpZ a b) 0 true (by have:=cmp_ge hba; simp[cmpB]; omega) rfl rfl] []
    Tryz.func173 100 [.row [.sym 0,.sym 1],.row [.sym 6,.sym 2]] (.r (.row (zA 8))) (by kernel_rfl)
theorem splus_unlike2(neg:Bool)(a b:Nat)(ha:WL a 1073741824)(hb:WL b 1073741824)(hab:a<b):PureC Tryz.prog 173 [.agg #[.bool neg,.string (strN a)],.agg #[.bool !neg,.string (strN b)]] (encZ (sgn (!neg) (b - a))):=by
  have hs:WL (b - a) 8589934592:=Nat.le_trans (wl_mono (Nat.sub_le b a) hb) (by decide)
  exact ev_pure (hp:=true) (L:=[gx (.bool neg),gx (.string (strN a)),gx (.string (strN b)),gw (words a),gw (words b),gw (words (b - a)),gx (.bool !neg),gx (.int .i64 (cmpZ a b))]++cz (sgn (!neg) (b - a))) tys_ok mixed
    [gm1 169 (.c (.sym 1)) (.r (.c (.sym 3))) eo169 (gWords a ha),gm1 169 (.c (.sym 2)) (.r (.c (.sym 4))) eo169 (gWords b hb),gm2x 171 (.c (.sym 3)) (.c (.sym 4)) (.r (.c (.sym 7))) eo171 (gUnder a b (ha.mono (by decide))),gm2 214 (.c (.sym 4)) (.c (.sym 3)) (.r (.c (.sym 5))) eo214 (gLess b a (by omega) (hb.mono (by decide))),gm2x 144 (.c (.sym 6)) (.c (.sym 5)) (.r (.row (zA 8))) eo144 (gMade (!neg) (b - a) hs)]
    [gb .eql 4 (.c (.sym 0)) (.c (.sym 6)) (.lit (.bool false)) (bool_eql Tryz.underlying4 neg (!neg) false (by simp)) rfl rfl rfl,gbInt .geq 3 .i64 (.sym 7) (.lit (.int .i64 0)) (cmpZ a b) 0 false (by have:=cmp_lt hab; simp[cmpB]; omega) rfl rfl] []
    Tryz.func173 100 [.row [.sym 0,.sym 1],.row [.sym 6,.sym 2]] (.r (.row (zA 8))) (by kernel_rfl)
theorem splus(x y:Int)(hx:WL x.natAbs 1073741824)(hy:WL y.natAbs 1073741824):PureC Tryz.prog 173 [encZ x,encZ y] (encZ (x+y)):=by
 unfold encZ
 by_cases h:decide (x<0)=decide (y<0)
 ·rw[←h]
  have:=splus_same (decide (x<0)) x.natAbs y.natAbs hx hy
  have e:sgn (decide (x<0)) (x.natAbs+y.natAbs)=x+y:=by
   unfold sgn
   by_cases hx0:x<0<;>simp[hx0] at h ⊢<;>omega
  rw[e] at this
  exact this
 ·have h':decide (y<0)=!decide (x<0):=by cases hq:decide (x<0)<;>cases hr:decide (y<0)<;>simp_all
  rw[h']
  by_cases hba:y.natAbs≤x.natAbs
  ·have:=splus_unlike (decide (x<0)) x.natAbs y.natAbs hx hy hba
   have e:sgn (decide (x<0)) (x.natAbs - y.natAbs)=x+y:=by
    unfold sgn
    by_cases hx0:x<0<;>simp[hx0] at h' ⊢<;>omega
   rw[e] at this
   exact this
  ·have:=splus_unlike2 (decide (x<0)) x.natAbs y.natAbs hx hy (by omega)
   have e:sgn (!decide (x<0)) (y.natAbs - x.natAbs)=x+y:=by
    unfold sgn
    by_cases hx0:x<0<;>simp[hx0] at h' ⊢<;>omega
   rw[e] at this
   exact this
theorem sminus(x y:Int)(hx:WL x.natAbs 1073741824)(hy:WL y.natAbs 1073741824):PureC Tryz.prog 199 [encZ x,encZ y] (encZ (x - y)) :=
  ev_pure (hp:=false) (L:=cz x++cz y++cz (-y)++cz (x - y)) tys_ok mixed
    [gp 116 [.row (zA 2)] (.r (.row (zA 4))) eo116 (sneg y) rfl rfl,gp 173 [.row (zA 0),.row (zA 4)] (.r (.row (zA 6))) eo173 (splus x (-y) hx (by rw[Int.natAbs_neg]; exact hy)) rfl rfl] [] []
    Tryz.func199 100 [.row (zA 0),.row (zA 2)] (.r (.row (zA 6))) (by kernel_rfl) rfl rfl
end Go.Proofs.YthklnbaddobieaaGreat
