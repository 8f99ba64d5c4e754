/- Laws for the walk. -/
import Derived.Test.YthklnbaddobieaaGreatUaf
import Derived.Laws.CopyOwn
set_option linter.unusedVariables false
set_option maxHeartbeats 4000000
namespace Tr
theorem norm_len{b m k bt:Nat}(hm:(words b).length=m)(hm0:0<m)(hbt:bt=(words b)[m - 1]?.getD 0)(h:bt*2 ^ k<4294967296)(hk:k≤32):(words (b*2 ^ k)).length=m:=by
 apply Nat.le_antisymm
 ·apply words_length_le
  have h1:=wv_take_drop (words b) (m - 1) (by omega)
  rw[wv_words,wv_drop_wat,List.drop_eq_nil_of_le (show(words b).length≤m - 1+1 by omega)] at h1
  have h2:wat (words b) (m - 1)=bt:=hbt.symm
  rw[h2] at h1
  simp only[wv,Nat.mul_zero,Nat.add_zero] at h1
  have h3:=wv_lt (wok_take (wok_words b) (m - 1))
  have h4:((words b).take (m - 1)).length=m - 1:=by simp; omega
  rw[h4] at h3
  have h5:b<4294967296 ^ (m - 1)*(bt+1):=by rw[Nat.mul_add]; omega
  have h6:(bt+1)*2 ^ k≤4294967296:=by
   have e:(4294967296:Nat)=2 ^ (32 - k)*2 ^ k:=by rw[←Nat.pow_add,show 32 - k+k=32 by omega]
   rw[e] at h ⊢
   exact Nat.mul_le_mul_right _ (Nat.lt_of_mul_lt_mul_right h)
  have h7:b*2 ^ k<4294967296 ^ (m - 1)*(bt+1)*2 ^ k:=Nat.mul_lt_mul_of_pos_right h5 (Nat.two_pow_pos k)
  have h8:4294967296 ^ (m - 1)*(bt+1)*2 ^ k≤4294967296 ^ (m - 1)*4294967296:=by
   rw[Nat.mul_assoc]; exact Nat.mul_le_mul_left _ h6
  have h9:4294967296 ^ (m - 1)*4294967296=4294967296 ^ m:=by rw[←Nat.pow_succ]; congr 1; omega
  omega
 ·rcases Nat.lt_or_ge (words (b*2 ^ k)).length m with h1|h1
  ·have:=cmp_shorter (a:=b*2 ^ k) (b:=b) (by omega)
   have h2:b*1≤b*2 ^ k:=Nat.mul_le_mul_left _ (Nat.two_pow_pos k)
   omega
  ·exact h1
theorem long_start{a b M m D k:Nat}(hM:(words a).length=M)(hm:(words b).length=m)(hm0:1≤m∧m≤M)(hD:D=M+1 - m):a*2 ^ k / 4294967296 ^ D<b*2 ^ k:=by
 have hP:0<(4294967296:Nat) ^ D:=Nat.pow_pos (by decide)
 rw[Nat.div_lt_iff_lt_mul hP]
 have h1:=lt_words a
 rw[hM] at h1
 have h2:4294967296 ^ (m - 1)≤b:=by
  rcases Nat.lt_or_ge b (4294967296 ^ (m - 1)) with h|h
  ·have:=words_length_le h; omega
  ·exact h
 have h3:(4294967296:Nat) ^ M=4294967296 ^ (m - 1)*4294967296 ^ D:=by rw[←Nat.pow_add]; congr 1; omega
 have h4:a*2 ^ k<4294967296 ^ M*2 ^ k:=Nat.mul_lt_mul_of_pos_right h1 (Nat.two_pow_pos k)
 have h5:4294967296 ^ M*2 ^ k≤b*2 ^ k*4294967296 ^ D:=by
  rw[h3,Nat.mul_right_comm]
  exact Nat.mul_le_mul_right _ (Nat.mul_le_mul_right _ h2)
 omega
theorem up_len{a M k:Nat}(hM:(words a).length=M)(hk:k≤32):(words (a*2 ^ k)).length≤M+1:=by
 apply words_length_le
 have h1:=lt_words a
 rw[hM] at h1
 have h2:(2:Nat) ^ k≤2 ^ 32:=Nat.pow_le_pow_right (by decide) hk
 have h3:a*2 ^ k<4294967296 ^ M*2 ^ k:=Nat.mul_lt_mul_of_pos_right h1 (Nat.two_pow_pos k)
 have h4:4294967296 ^ M*2 ^ k≤4294967296 ^ M*4294967296:=Nat.mul_le_mul_left _ h2
 rw[Nat.pow_succ]
 omega
theorem wv_take_small{l:List Nat}{m:Nat}(hm:m≤l.length)(h:wv l<4294967296 ^ m):wv (l.take m)=wv l:=by
 have h1:=wv_take_drop l m hm
 have h2:wv (l.drop m)=0:=by
  rcases Nat.eq_zero_or_pos (wv (l.drop m)) with h0|h0
  ·exact h0
  ·have:4294967296 ^ m*1≤4294967296 ^ m*wv (l.drop m):=Nat.mul_le_mul_left _ h0
   omega
 rw[h2,Nat.mul_zero,Nat.add_zero] at h1
 exact h1.symm
theorem words_take{l:List Nat}(ol:WOk l):words (wv l)=l.take (words (wv l)).length:=by
 have hle:(words (wv l)).length≤l.length:=words_length_le (wv_lt ol)
 have h1:=wv_take_small hle (lt_words (wv l))
 have ot:=wok_take ol (words (wv l)).length
 generalize hk:(words (wv l)).length=k at *
 have h2:∀(a b:List Nat),WOk a→WOk b→a.length=b.length→wv a=wv b→a=b:=by
  intro a
  induction a with
  | nil=>intro b _ _ h _; cases b with|nil=>rfl|cons y b=>simp at h
  | cons x a ih =>
   intro b oa ob h hv
   cases b with
   | nil=>simp at h
   | cons y b =>
    rw[wok_cons] at oa ob
    rw[wv_cons,wv_cons] at hv
    simp at h
    have e1:x=y:=by omega
    have e2:wv a=wv b:=by omega
    rw[e1,ih b oa.2 ob.2 h e2]
 refine h2 _ _ (wok_words _) ot ?_ ?_
 ·rw[hk,List.length_take,Nat.min_eq_left hle]
 ·rw[wv_words,h1]
end Tr
namespace Go.Proofs.YthklnbaddobieaaGreat
open Go.RowKit Tr
theorem size_u32:((Tryz.prog).info? 192).map (·.size)=some 1:=by kernel_rfl
theorem Blk.setRow{w:World}{B:Nat}{l0:List Nat}(h:Blk w B l0){arr:Array Value}{l:List Nat}(e:arr=encW l):Blk (w.setRow B arr) B l:=by
 rw[e]; exact setRow_heap w B _ _ _ _ h
theorem copy_enc(l:List Nat)(n:Nat):((encW (List.replicate n 0)).toList.take 0++(l.map fun x:Nat=>Value.int .u32 (x:Int))++(encW (List.replicate n 0)).toList.drop (0+(l.map fun x:Nat=>Value.int .u32 (x:Int)).length)).toArray=encW (l++List.replicate (n - l.length) 0):=by
 simp[encW]
theorem cmp_ge{a b:Nat}(h:b≤a):¬cmpZ a b<0:=by
 unfold cmpZ; rw[if_neg (by omega)]; split<;>decide
theorem Blk.set_ne{w:World}{B C:Nat}{l:List Nat}(h:Blk w B l)(hne:B≠C)(i:Nat)(v:Value):Blk (w.setCell ⟨C,i,none⟩ v) B l:=by
 unfold Blk at *
 rw[Below.heap_setCell _ _ _ _ hne]; exact h
theorem row_set_ne{w:World}{p:Option Addr}{l:List Nat}(h:Row w p l){C:Nat}(hne:∀ b off,p=some ⟨b,off,none⟩→b≠C)(i:Nat)(v:Value):Row (w.setCell ⟨C,i,none⟩ v) p l:=by
 intro hx
 obtain⟨b,off,h1,h2,h3⟩:=h hx
 refine⟨b,off,h1,by simpa[World.setCell] using h2,fun j hj=>?_⟩
 rw[World.cell?_of_block (w:=w) (Below.heap_setCell _ _ _ _ (hne _ _ h1))]
 exact h3 j hj
theorem cut_det(l:List Nat)(n:Nat)(hn:l.length=n)(ol:WOk l)(p:Option Addr)(c:Nat)(w:World)(hl:Row w p l)(hc:n≤c)(hm:n<1099511627776) :
  Calls Tryz.prog 201 #[.slice p n c] w fun e w'=>e=.returned (.slice p (words (wv l)).length c)∧w'=w:=by
 refine(cut_row l n hn ol p c w hl hc hm).mono ?_
 rintro e w' ⟨k,h1,h2,rfl,rfl⟩
 rw[←h2,List.length_take,Nat.min_eq_left (by omega)]
 exact⟨rfl,rfl⟩
theorem cut_wsl(l:List Nat)(n:Nat)(hn:l.length=n)(ol:WOk l)(p:Option Addr)(c:Nat)(w:World)(hl:Row w p l)(hc:n≤c):WSl w (.slice p (words (wv l)).length c) (words (wv l)):=by
 have hle:(words (wv l)).length≤n:=by rw[←hn]; exact words_length_le (wv_lt ol)
 refine⟨p,c,rfl,by omega,fun hne=>?_⟩
 have hne2:l≠[]:=by intro h; rw[h] at hne; simp[wv,words_zero] at hne
 obtain⟨b,off,h1,h2,h3⟩:=hl hne2
 have hw:=words_take ol
 refine⟨b,off,h1,h2,fun j hj=>?_⟩
 rw[h3 j (by omega),hw,List.getElem?_take_of_lt hj]
theorem Blk.row{w:World}{B:Nat}{l:List Nat}(h:Blk w B l):Row w (some ⟨B,0,none⟩) l:=fun _=>⟨B,0,rfl,h.lt,fun j hj=>by rw[Nat.zero_add]; exact h.cell hj⟩
theorem Blk.row_take{w:World}{B:Nat}{l:List Nat}(h:Blk w B l)(k:Nat):Row w (some ⟨B,0,none⟩) (l.take k):=fun _=>⟨B,0,rfl,h.lt,fun j hj=>by
 simp at hj
 rw[Nat.zero_add,h.cell (by omega),List.getElem?_take_of_lt (by omega)]⟩
set_option maxRecDepth 100000 in
theorem divide_long(a b M m:Nat)(hM:(words a).length=M)(hm:(words b).length=m)(hm2:2≤m)(hba:b≤a)(pa pb:Option Addr)(ca cb:Nat)(w:World)(ha:WSl w (.slice pa M ca) (words a))(hb:WSl w (.slice pb m cb) (words b))(hn:M<274877906944) :
  Calls Tryz.prog 152 #[.slice pa M ca,.slice pb m cb] w fun e w'=>∃ v1 v2,e=.returned (.tuple #[v1,v2])∧WSl w' v1 (words (a / b))∧WSl w' v2 (words (a % b))∧Below w.heap.size w w':=by
 have H:=Lib.hid (And.intro hM hm)
 have hmM:m≤M:=by
  rcases Nat.lt_or_ge M m with h|h
  ·have:=cmp_shorter (a:=a) (b:=b) (by omega); omega
  ·exact h
 have hun:=fun w=>under_any a b (.slice pa M ca) (.slice pb m cb) w
 have HC:=Lib.hid (cmp_ge hba)
 have HA:=Lib.hid (And.intro ha hb)
 clear hM hm ha hb
 go_enter Tryz.func152,Tryz.ntmps152
 obtain⟨z,hz⟩:∃ z,z=cmpZ a b:=⟨_,rfl⟩
 have hz0:¬z<0:=by rw[hz]; exact HC.out
 have hm1:¬(m:Int)=1:=by omega
 rw[←hz] at hun
 have HUN:=Lib.hid hun
 clear hz hun
 obtain⟨bt,hbt⟩:∃ bt,bt=(words b)[m - 1]?.getD 0:=⟨_,rfl⟩
 obtain⟨bb,ob,rfl,hbb,hbc⟩:∃ bb ob,pb=some ⟨bb,ob,none⟩∧bb<w.heap.size∧∀ j,j<m→w.cell? ⟨bb,ob+j,none⟩=some (.int .u32 ((words b)[j]?.getD 0:Nat)):=by
  obtain⟨p,c,h1,h2,h3⟩:=HA.out.2
  obtain⟨bb,ob,h4,h5,h6⟩:=h3 (by intro h; have:=H.out.2; rw[h] at this; simp at this; omega)
  injection h1 with e1 e2 e3
  exact⟨bb,ob,by rw[e1,h4],h5,fun j hj=>h6 j (by have:=H.out.2; omega)⟩
 have c0:w.cell? ⟨bb,ob+(m - 1),none⟩=some (.int .u32 bt):=by rw[hbt]; exact hbc _ (by omega)
 have em:((m - 1:Nat):Int)=(m:Int) - 1:=by omega
 have hbt0:0<bt∧bt<4294967296:=by
  have hlen:=H.out.2
  have hne:words b≠[]:=by intro h; rw[h] at hlen; simp at hlen; omega
  have h1:=wnorm_words b _ _ (List.dropLast_concat_getLast hne).symm
  have h2:(words b)[m - 1]?.getD 0=(words b).getLast hne:=by
   rw[List.getLast_eq_getElem,List.getElem?_eq_getElem (by omega)]; simp[hlen]
  rw[hbt,h2]
  exact⟨by omega,wok_words b _ (List.getLast_mem hne)⟩
 have HBT:=Lib.hid hbt
 have HBC:=Lib.hid hbc
 have HEM:=Lib.hid em
 clear hbt hbc em
 go_wp2_with (first|(go_at_call 154; refine(HUN.out _ HA.out.1 HA.out.2 (by have:=H.out; omega)).mono ?_; rintro e w' ⟨rfl,d,rfl⟩))
 have HB0:=Lib.hid (below_drewN (Below.refl w.heap.size w) d)
 go_loopw [8,9] (fun by_ t wr=>∃ k x:Nat,by_=.int .i64 k∧t=.int .u32 x∧Hid (x=bt*2 ^ k)∧x<4294967296∧k≤31∧wr=w.drewN d) (fun by_ _ _=>32 - (intOf by_).toNat)
 case atStart=>exact⟨0,bt,rfl,rfl,Lib.hid (by simp),hbt0.2,by omega,rfl⟩
 case round =>
  obtain⟨k,x,rfl,rfl,hx,hx2,hk,rfl⟩:=hrel
  by_cases hlt:x<2147483648
  ·have hk2:k<31:=by
    rcases Nat.lt_or_ge k 31 with h|h
    ·exact h
    ·have h1:(2:Nat) ^ 31≤2 ^ k:=Nat.pow_le_pow_right (by decide) h
     have h2:1*2 ^ k≤bt*2 ^ k:=Nat.mul_le_mul_right _ hbt0.1
     have:=hx.out
     omega
   have hx':Hid (x*2=bt*2 ^ (k+1)):=Lib.hid (by rw[hx.out,Nat.pow_succ,Nat.mul_assoc])
   have hz:(x:Int) / 2147483648=0:=by omega
   go_wp2
   go_roundw
   case rel=>exact⟨k+1,x*2,by go_num,by go_num,hx',by omega,by omega,by first|trivial|rfl⟩
   case measure=>simp[intOf]; omega
  ·have hz:¬(x:Int) / 2147483648=0:=by omega
   have HX:=Lib.hid (And.intro hx.out hx2)
   clear hx hx2 hlt
   have hnl:=Lib.hid (norm_len (k:=k) H.out.2 (by omega) HBT.out (by have:=HX.out; omega) (by omega))
   have hul:=Lib.hid (up_len (k:=k) H.out.1 (by omega))
   go_wp2_with fail
   refine(left_any (words b) k _ _ (wok_words b) (HA.out.2.drewN d) (by have:=H.out; omega) (by omega)).mono ?_
   rintro e w1 ⟨v,rfl,hv,hb1⟩
   rw[wv_words] at hv
   obtain⟨V,hV⟩:∃ V,V=b*2 ^ k:=⟨_,rfl⟩
   rw[←hV] at hv hnl
   obtain⟨pv,cv,rfl,hcv,hrow⟩:=hv
   rw[hnl.out]
   have HV:=Lib.hid (And.intro hV (And.intro hcv hrow))
   have hb1':=HB0.out.trans (hb1.mono (by simp))
   clear hV hcv hrow
   have hmk:=run_mk (M+1) (by omega)
   have en:((M+1:Nat):Int)=(M:Int)+1:=by omega
   rw[en] at hmk
   clear en
   go_wp2_with fail
   have hb1u:=hb1'.alloc hb1'.size (Obj.cells (encW (List.replicate (M+1) 0)) 192)
   refine(left_any (words a) k _ _ (wok_words a) (HA.out.1.below hb1u) (by have:=H.out; omega) (by omega)).mono ?_
   rintro e w2 ⟨v,rfl,hv,hb2⟩
   rw[wv_words] at hv
   obtain⟨A,hA'⟩:∃ A,A=a*2 ^ k:=⟨_,rfl⟩
   rw[←hA'] at hv hul
   obtain⟨pA,cA,rfl,hcA,hrowA⟩:=hv
   obtain⟨n2,hn2⟩:∃ n2,(words A).length=n2:=⟨_,rfl⟩
   rw[hn2] at hrowA hcA hul ⊢
   have hne:words A≠[]:=by
    intro h
    have h1:=words_eq_nil.1 h
    have h2:0<a:=by
     rcases Nat.eq_zero_or_pos a with h0|h0
     ·have h3:=H.out; rw[show b=0 by omega,words_zero] at h3; simp at h3; omega
     ·exact h0
    have:=Nat.mul_pos h2 (Nat.two_pow_pos k)
    omega
   obtain⟨bA,oA,rfl,hbA,hcellA⟩:=hrowA hne
   have hu2:Blk w2 w1.heap.size (List.replicate (M+1) 0):=(Blk.new w1 _).below hb2
   have hb2':=hb1u.trans (hb2.mono hb1u.size)
   have HAA:=Lib.hid (And.intro hA' hn2)
   have HUL:=Lib.hid hul.out
   have hcs1:((words A).map fun x:Nat=>Value.int .u32 (x:Int)).length=Nat.min n2 (M+1):=by rw[List.length_map,hn2]; exact(Nat.min_eq_left hul.out).symm
   have hcs2:∀(j:Nat) (v:Value),((words A).map fun x:Nat=>Value.int .u32 (x:Int))[j]?=some v→w2.cell? ((⟨bA,oA,none⟩:Addr).add j)=some v:=fun j v hj=>by
    rw[List.getElem?_map] at hj
    obtain⟨y,hy,rfl⟩:=Option.map_eq_some_iff.1 hj
    have hlt:=(List.getElem?_eq_some_iff.1 hy).1
    have h1:=hcellA j (by omega)
    rw[hy] at h1
    rw[Addr.add_lit]; simpa using h1
   have HCS:=Lib.hid (And.intro hcs1 hcs2)
   clear hA' hn2 hul hcs1 hcs2 hrowA hcellA hne
   have hcs4:∀ v∈((words A).map fun x:Nat=>Value.int .u32 (x:Int)),v.oneCell'=true:=by intro v hv; obtain⟨y,_,rfl⟩:=List.mem_map.1 hv; rfl
   have hcs3:0+((words A).map fun x:Nat=>Value.int .u32 (x:Int)).length≤(encW (List.replicate (M+1) 0)).size:=by rw[HCS.out.1,size_encW,List.length_replicate,Nat.zero_add]; exact Nat.min_le_right _ _
   have hcp:=run_copy_row (P:=Tryz.prog) w2 129 129 3 192 w1.heap.size 0 (M+1) (M+1) ⟨bA,oA,none⟩ n2 cA (encW (List.replicate (M+1) 0)) 192 _ Tryz.underlying129 size_u32 hu2 HCS.out.1 HCS.out.2 hcs3 hcs4
   rw[copy_enc] at hcp
   obtain⟨w3,hw3⟩:∃ w3,w3=w2.setRow w1.heap.size (encW (words A++List.replicate (M+1 - (words A).length) 0)):=⟨_,rfl⟩
   rw[←hw3] at hcp
   have hu3:Blk w3 w1.heap.size (words A++List.replicate (M+1 - (words A).length) 0):=by rw[hw3]; exact hu2.setRow rfl
   have hb3':Below w.heap.size w w3:=by rw[hw3]; exact below_setRow hb2' hb1'.size _
   have hv3:Row w3 pv (words V):=by
    intro hne
    obtain⟨b5,o5,h1,h2,h3⟩:=HV.out.2.2 hne
    refine⟨b5,o5,h1,by rw[hw3]; have:=hb2.size; simp[World.setRow] at this ⊢; omega,fun j hj=>?_⟩
    have hb13:Below w1.heap.size w1 w3:=by rw[hw3]; exact below_setRow ((br.alloc (Nat.le_refl _) _).trans (hb2.mono (by simp))) (Nat.le_refl _) _
    exact(hb13.cell (p:=⟨b5,o5+j,none⟩) h2).trans (h3 j (by have:=hnl.out; omega))
   clear hcs3 hcs4 hw3
   have hmk2:=run_mk (M+1 - m) (by omega)
   have en2:((M+1 - m:Nat):Int)=(M:Int)+1 - (m:Int):=by omega
   rw[en2] at hmk2
   clear en2
   go_wp2_with fail
   obtain⟨u0,hu0⟩:∃ u0,u0=words A++List.replicate (M+1 - (words A).length) 0:=⟨_,rfl⟩
   rw[←hu0] at hu3
   have lu0:u0.length=M+1:=by rw[hu0]; have:=HAA.out.2; have:=HUL.out; simp; omega
   have wu0:wv u0=A:=by rw[hu0,wv_append,wv_replicate,wv_words]; simp
   have ou0:WOk u0:=by rw[hu0,wok_append]; exact⟨wok_words A,wok_replicate _⟩
   have H0:=Lib.hid (And.intro lu0 (And.intro wu0 ou0))
   clear hu0 lu0 wu0 ou0 hcp HCS
   obtain⟨bu,hbu⟩:∃ bu,bu=w1.heap.size:=⟨_,rfl⟩
   rw[←hbu] at hu3 ⊢
   have HBU:=Lib.hid hbu
   have hsz1:=hu3.lt
   clear hbu
   obtain⟨D,hD⟩:∃ D,M+1 - m=D:=⟨_,rfl⟩
   have hDm:D+m=M+1:=by omega
   rw[hD] at ⊢
   clear hD
   have hq4:=Blk.new w3 (List.replicate D 0)
   obtain⟨bq,hbq⟩:∃ bq,bq=w3.heap.size:=⟨_,rfl⟩
   have hb4:Below w3.heap.size w3 (w3.alloc (.cells (encW (List.replicate D 0)) 192)):=br.alloc (Nat.le_refl _) _
   have hu4:=hu3.below hb4
   have hb4':=hb3'.trans (hb4.mono hb3'.size)
   have hv4:Row (w3.alloc (.cells (encW (List.replicate D 0)) 192)) pv (words V):=by
    intro hne
    obtain⟨b5,o5,h1,h2,h3⟩:=hv3 hne
    exact⟨b5,o5,h1,by simp; omega,fun j hj=>(hb4.cell (p:=⟨b5,o5+j,none⟩) h2).trans (h3 j hj)⟩
   have hstart:Hid (wv (u0.drop D)<V):=Lib.hid (by
    have h1:D≤u0.length:=by rw[H0.out.1]; omega
    rw[←wv_div H0.out.2.2 D h1,H0.out.2.1,HAA.out.1,HV.out.1]
    exact long_start H.out.1 H.out.2 (by omega) (by omega))
   rw[←hbq] at hq4 ⊢
   have HBQ:=Lib.hid hbq
   have hsz2:bu<bq:=by omega
   clear hb4 hv3 hbq
   obtain⟨w4,hw4⟩:∃ w4,w4=w3.alloc (.cells (encW (List.replicate D 0)) 192):=⟨_,rfl⟩
   rw[←hw4] at hq4 hu4 hb4' hv4 ⊢
   clear hw4 hmk2 hu3
   go_loopw [13,14,15,16] (fun j _ _ _ wr=>∃(i:Nat) (cur quo:List Nat),i≤D∧j=.int .i64 ((i:Int) - 1)∧Hid (cur.length=M+1)∧WOk cur∧Hid (quo.length=D)∧WOk quo∧Hid (∀ t,t<i→cur[t]?=u0[t]?)∧Hid (wv (cur.drop i)=wv (u0.drop i) % V)∧Hid (wv (quo.drop i)=wv (u0.drop i) / V)∧Blk wr bu cur∧Blk wr bq quo∧Hid (Row wr pv (words V))∧Below w.heap.size w wr)
    (fun j _ _ _ _=>(intOf j+1).toNat)
   case atStart =>
    refine⟨D,u0,List.replicate D 0,Nat.le_refl _,?_,Lib.hid H0.out.1,H0.out.2.2,Lib.hid (by simp),wok_replicate _,Lib.hid (fun _ _=>rfl),Lib.hid (Nat.mod_eq_of_lt hstart.out).symm,Lib.hid ?_,hu4,hq4,Lib.hid hv4,hb4'⟩
    ·congr 1; omega
    ·rw[List.drop_eq_nil_of_le (by simp),Nat.div_eq_of_lt hstart.out]; rfl
   case round =>
    obtain⟨i,cur,quo,hi,rfl,hlc,oc,hlq,oq,hsame,hmod,hdiv,hbc,hbq4,hrv,hB4⟩:=hrel
    cases i with
    | zero =>
     have hVp:0<V:=by
      rcases Nat.eq_zero_or_pos V with h0|h0
      ·have h1:=hnl.out; rw[h0,words_zero] at h1; simp at h1; omega
      ·exact h0
     have hcv:=hmod.out
     have hqv:=hdiv.out
     rw[List.drop_zero,List.drop_zero,H0.out.2.1] at hcv hqv
     have hVm:V<4294967296 ^ m:=by have:=lt_words V; rwa[hnl.out] at this
     have hct:wv (cur.take m)=A % V:=by
      rw[wv_take_small (by have:=hlc.out; omega) (by rw[hcv]; exact Nat.lt_trans (Nat.mod_lt _ hVp) hVm),hcv]
     have eA:A % V=a % b*2 ^ k:=by rw[HAA.out.1,HV.out.1,Nat.mul_mod_mul_right]
     have eQ:A / V=a / b:=by rw[HAA.out.1,HV.out.1,Nat.mul_div_mul_right _ _ (Nat.two_pow_pos k)]
     have hlt:(cur.take m).length=m:=by rw[List.length_take,hlc.out]; omega
     have cd1:=cut_det quo D hlq.out oq (some ⟨bq,0,none⟩) D wr.drew hbq4.row (Nat.le_refl _) (by omega)
     have cw1:=cut_wsl quo D hlq.out oq (some ⟨bq,0,none⟩) D wr.drew hbq4.row (Nat.le_refl _)
     have cd2:=cut_det (cur.take m) m hlt (wok_take oc m) (some ⟨bu,0,none⟩) (M+1) wr.drew (hbc.row_take m) (by omega) (by omega)
     have cw2:=cut_wsl (cur.take m) m hlt (wok_take oc m) (some ⟨bu,0,none⟩) (M+1) wr.drew (hbc.row_take m) (by omega)
     rw[hqv,eQ] at cd1 cw1
     rw[hct,eA] at cd2 cw2
     obtain⟨n3,hn3⟩:∃ n3,n3=(words (a / b)).length:=⟨_,rfl⟩
     obtain⟨n4,hn4⟩:∃ n4,n4=(words (a % b*2 ^ k)).length:=⟨_,rfl⟩
     rw[←hn3] at cd1 cw1
     rw[←hn4] at cd2 cw2
     have hle4:n4≤m:=by
      rw[hn4]; refine words_length_le (Nat.lt_trans ?_ hVm)
      rw[←eA]; exact Nat.mod_lt _ hVp
     have hrt:=fun(w9:World) (h:WSl w9 (.slice (some ⟨bu,0,none⟩) n4 (M+1)) (words (a % b*2 ^ k)))=>right_any (words (a % b*2 ^ k)) k _ w9 (wok_words _) h (by omega) (by omega)
     rw[wv_words,Nat.mul_div_cancel _ (Nat.two_pow_pos k)] at hrt
     have HR:=Lib.hid hrt
     have HC1:=Lib.hid cd1
     have HC2:=Lib.hid cd2
     have HE:=Lib.hid (And.intro hn3 hn4)
     clear hrt cd1 cd2 hn3 hn4 hcv hqv hVm hct eA eQ hlt
     rw[show(((0:Nat):Int) - 1)=-1 from rfl]
     have hmM1:(m:Int)≤(M:Int)+1:=by omega
     go_wp2_with fail
     refine wp_region_tail 7 (by kernel_rfl) (by kernel_rfl) ?_
     simp only[List.take_succ_cons,List.take_zero,List.drop_succ_cons,List.drop_zero]
     still_step
     still_call HC1.out
     still_step
     still_step
     still_step
     still_call HC2.out
     still_step
     refine wpStill_nil ?_
     go_wp2_with (go_at_call 153; refine(HR.out _ cw2).mono ?_; rintro e w' ⟨v,rfl,hv,hb9⟩)
     go_ret2
     exact⟨_,_,rfl,cw1.below hb9,hv,hB4.drew.trans (hb9.mono (by have:=hB4.size; simpa using this))⟩
    | succ i =>
     have ei:((i+1:Nat):Int) - 1=(i:Int):=by omega
     rw[ei]
     clear ei
     have hiM:i+m<M+1:=by omega
     have c5:=hbc.cell (i:=i+m) (by have:=hlc.out; omega)
     have c6:=hbc.cell (i:=i+m - 1) (by have:=hlc.out; omega)
     have c7:=hbc.cell (i:=i+m - 2) (by have:=hlc.out; omega)
     have bx1:cur[i+m]?.getD 0<4294967296:=wat_lt oc _
     have bx2:cur[i+m - 1]?.getD 0<4294967296:=wat_lt oc _
     have bx3:cur[i+m - 2]?.getD 0<4294967296:=wat_lt oc _
     obtain⟨x1,hx1⟩:∃ x1,x1=cur[i+m]?.getD 0:=⟨_,rfl⟩
     obtain⟨x2,hx2⟩:∃ x2,x2=cur[i+m - 1]?.getD 0:=⟨_,rfl⟩
     obtain⟨x3,hx3⟩:∃ x3,x3=cur[i+m - 2]?.getD 0:=⟨_,rfl⟩
     rw[←hx1] at c5 bx1
     rw[←hx2] at c6 bx2
     rw[←hx3] at c7 bx3
     have HXX:=Lib.hid (And.intro hx1 (And.intro hx2 hx3))
     have hwt:=window_top (i:=i) hm2 oc (by have:=hlc.out; omega)
     rw[show wat cur (i+m)=x1 from hx1.symm,show wat cur (i+m - 1)=x2 from hx2.symm,show wat cur (i+m - 2)=x3 from hx3.symm] at hwt
     have HWT:=Lib.hid hwt
     clear hwt
     clear hx1 hx2 hx3
     have hor:=or_up32 bx1 bx2
     have hVp:Hid (0<V):=Lib.hid (by
      rcases Nat.eq_zero_or_pos V with h0|h0
      ·have h1:=hnl.out; rw[h0,words_zero] at h1; simp at h1; omega
      ·exact h0)
     have hXV:Hid (wv (cur.drop (i+1))<V):=Lib.hid (by rw[hmod.out]; exact Nat.mod_lt _ hVp.out)
     have HW:Hid (wv ((cur.drop i).take (m+1))=wat cur i+4294967296*wv (cur.drop (i+1))):=Lib.hid (window oc (by have:=hlc.out; omega) (by have h1:=lt_words V; rw[hnl.out] at h1; have:=hXV.out; omega))
     obtain⟨b5,o5,hpv,hb5,hc5⟩:=hrv.out (by intro h; have:=hnl.out; rw[h] at this; simp at this; omega)
     have c8:=hc5 (m - 1) (by have:=hnl.out; omega)
     have c9:=hc5 (m - 2) (by have:=hnl.out; omega)
     have by1:(words V)[m - 1]?.getD 0<4294967296:=wat_lt (wok_words V) _
     have by2:(words V)[m - 2]?.getD 0<4294967296:=wat_lt (wok_words V) _
     obtain⟨y1,hy1⟩:∃ y1,y1=(words V)[m - 1]?.getD 0:=⟨_,rfl⟩
     obtain⟨y2,hy2⟩:∃ y2,y2=(words V)[m - 2]?.getD 0:=⟨_,rfl⟩
     rw[←hy1] at c8 by1
     rw[←hy2] at c9 by2
     have hy0:0<y1:=by
      have hlen:=hnl.out
      have hne:words V≠[]:=by intro h; rw[h] at hlen; simp at hlen; omega
      have h1:=wnorm_words V _ _ (List.dropLast_concat_getLast hne).symm
      have h2:(words V)[m - 1]?.getD 0=(words V).getLast hne:=by
       rw[List.getLast_eq_getElem,List.getElem?_eq_getElem (by omega)]; simp[hlen]
      rw[hy1,h2]; omega
     have HYY:=Lib.hid (And.intro hy1 hy2)
     have hdt:=divisor_top hm2 hnl.out
     rw[show wat (words V) (m - 1)=y1 from hy1.symm,show wat (words V) (m - 2)=y2 from hy2.symm] at hdt
     have HDT:=Lib.hid hdt
     clear hdt
     have HC5:=Lib.hid hc5
     have i6:(0:Int)≤(m:Int) - 1:=by omega
     have i7:((m:Int) - 1).toNat=m - 1:=by omega
     have i8:(0:Int)<(y1:Int):=by omega
     clear hy1 hy2 hc5
     subst hpv
     have i0:(0:Int)≤(i:Int)+(m:Int):=by omega
     have i1:(i:Int)+(m:Int)<(M:Int)+1:=by omega
     have i2:(0:Int)≤(i:Int)+(m:Int) - 1:=by omega
     have i3:(i:Int)+(m:Int) - 1<(M:Int)+1:=by omega
     have i4:((i:Int)+(m:Int)).toNat=i+m:=by omega
     have i5:((i:Int)+(m:Int) - 1).toNat=i+m - 1:=by omega
     go_wp2
     go_quiet (fail)
     go_wp2_with fail
     go_quiet (fail)
     go_wp2_with fail
     obtain⟨wo,hwo⟩:∃ wo:World,wo=wr:=⟨_,rfl⟩
     have hbuw:Hid (w.heap.size≤bu):=Lib.hid (by rw[HBU.out]; exact hb1'.size)
     have hne:Hid (∀ b off,(some ⟨b5,o5,none⟩:Option Addr)=some ⟨b,off,none⟩→b<bu):=Lib.hid (fun b off e=>by
      obtain⟨b6,o6,h1,h2,h3⟩:=HV.out.2.2 (by intro h; have:=hnl.out; rw[h] at this; simp at this; omega)
      cases e; cases h1; have:=HBU.out; omega)
     have hUV:Hid (wat cur i+4294967296*wv (cur.drop (i+1))<4294967296*V):=Lib.hid (long_lt (wat_lt oc i) hXV.out)
     have hdig:Hid ((wat cur i+4294967296*wv (cur.drop (i+1))) / V<4294967296):=Lib.hid (by rw[Nat.div_lt_iff_lt_mul hVp.out]; exact hUV.out)
     go_loopw [15,16] (fun c r_ wr2=>∃(q r:Nat),c=.int .u64 q∧r_=.int .u64 r∧Hid (q*y1+r=x1*4294967296+x2)∧r<4294967296∧q<18446744073709551616∧Hid ((wat cur i+4294967296*wv (cur.drop (i+1))) / V≤q)∧∃ dd,wr2=wo.drewN dd) (fun c _ _=>(intOf c).toNat)
     case atStart =>
      obtain⟨ul,hul1,hul2⟩:=HWT.out
      obtain⟨vl,hvl1,hvl2⟩:=HDT.out
      have hle:(x1*4294967296+x2) / y1≤x1*4294967296+x2:=Nat.div_le_self _ _
      have hmd:=Nat.mod_lt (x1*4294967296+x2) hy0
      refine⟨(x1*4294967296+x2) / y1,(x1*4294967296+x2) % y1,by simp,by simp,Lib.hid ?_,by omega,by omega,Lib.hid ?_,?_⟩
      ·rw[Nat.mul_comm]; exact Nat.div_add_mod _ _
      ·rw[←HW.out]; exact est_start hul2 hul1 bx3 hvl2 hy0
      ·rw[hwo,World.drewN_drewN]; exact⟨_,rfl⟩
     case round =>
      obtain⟨q,r,rfl,rfl,hqr,hr,hq64,hQq,dd,rfl⟩:=hrel
      have i9:(0:Int)≤(m:Int) - 2:=by omega
      have i10:((m:Int) - 2).toNat=m - 2:=by omega
      have i11:(0:Int)≤(i:Int)+(m:Int) - 2:=by omega
      have i12:((i:Int)+(m:Int) - 2).toNat=i+m - 2:=by omega
      have i13:(i:Int)+(m:Int) - 2<(M:Int)+1:=by omega
      have hor3:=or_up32 hr bx3
      subst hwo
      have hnext:=fun h=>guess_next (q:=q) (r:=r) (y2:=y2) HWT.out HDT.out hqr.out (by rw[HW.out]; exact hQq.out) (by rw[HW.out]; exact hdig.out) h
      have hfin:=guess_end (q:=q) (r:=r) HWT.out HDT.out hy0 by2 hqr.out (by rw[HW.out]; exact hUV.out)
      rw[HW.out] at hnext hfin
      have HNX:=Lib.hid (And.intro hnext hfin)
      clear hnext hfin
      by_cases hexit:q<4294967296∧¬r*4294967296+x3<q*y2
      ·obtain⟨hqB,htest⟩:=hexit
       have HT:=Lib.hid htest
       clear htest hor hor3
       have hg:decide ((4294967296:Int)≤(q:Int))=false:=by simp; omega
       go_wp2_with fail
       have hor3:=or_up32 hr bx3
       have hxy:=word_mul hqB by2
       have ht:decide ((r:Int)*4294967296+(x3:Int)<(q:Int)*(y2:Int))=false:=by
        have:¬((r*4294967296+x3:Nat):Int)<((q*y2:Nat):Int):=by have:=HT.out; omega
        simpa using this
       have ht2:¬(r:Int)*4294967296+(x3:Int)<(q:Int)*(y2:Int):=by simpa using ht
       go_quiet (fail)
       rw[World.drewN_drewN]
       clear hor3 hxy ht ht2
       go_wp2_with fail
       rw[show i+m+1 - i=m+1 by omega]
       obtain⟨qf,hqf⟩:∃ qf,qf=q:=⟨_,rfl⟩
       rw[←hqf]
       have hqf1:qf<4294967296:=by omega
       have hqf2:Hid (qf*V≤wat cur i+4294967296*wv (cur.drop (i+1))+V):=Lib.hid (by rw[hqf]; exact HNX.out.2.1 hqB HT.out)
       have hqf3:Hid (wat cur i+4294967296*wv (cur.drop (i+1))<(qf+1)*V):=Lib.hid (by rw[←Nat.div_lt_iff_lt_mul hVp.out,hqf]; exact Nat.lt_succ_of_le hQq.out)
       obtain⟨dz,hdz⟩:∃ dz,dz=dd+nq:=⟨_,rfl⟩
       rw[←hdz]
       clear hqf hdz
       obtain⟨R,hR⟩:∃ R,wv ((cur.drop i).take (m+1)) / wv (words V)=R:=⟨_,rfl⟩
       have hR32:R<4294967296:=by rw[←hR,wv_words,HW.out]; exact hdig.out
       have hstp:=step_walk cur (words V) bu i (m+1) m qf (M+1 - i) cv rfl hnl.out (by have:=hlc.out; omega) oc (wok_words V) (some ⟨b5,o5,none⟩) (wo.drewN dz) (hbc.drewN _) hrv.out (fun b off e=>Nat.ne_of_lt (hne.out b off e)) hqf1 (by rw[wv_words,HW.out]; exact hqf2.out) (by rw[wv_words,HW.out]; exact hqf3.out) (by omega) R hR
       have HS:=Lib.hid hstp
       have HR:=Lib.hid hR
       clear hstp hR
       refine HS.out.mono ?_
       rintro e w5 ⟨l',rfl,hl1,hl2,hl3,hl4,hbl,hgr⟩
       have HL:=Lib.hid (And.intro hl1 (And.intro hl3 hl4))
       clear hl1 hl3 hl4 HS
       have hsz5:wo.heap.size≤w5.heap.size:=hgr.size
       have hbq5:Blk w5 bq quo:=(hgr.block bq hbq4.lt (by intro e; cases e; omega)).trans hbq4
       have hrv5:Hid (Row w5 (some ⟨b5,o5,none⟩) (words V)):=Lib.hid (fun hx=>by
        obtain⟨b6,o6,h1,h2,h3⟩:=hrv.out hx
        refine⟨b6,o6,h1,Nat.lt_of_lt_of_le h2 hsz5,fun j hj=>(grown_cell hgr h2 (Nat.ne_of_lt (hne.out _ _ h1))).trans (h3 j hj)⟩)
       have hB5:Below w.heap.size w w5:=(below_drewN hB4 dz).grown hgr (by have:=hB4.size; simpa using this) (fun k e=>by cases e; exact hbuw.out)
       have cq:=hbq5.cell (i:=i) (by have:=hlq.out; omega)
       have fq:=hbq5.frozen i
       have iR:(R:Int) % 4294967296=(R:Int):=by omega
       clear hrv hb5 HC5 c5 c6 c7 c8 c9 hbc hbq4 hB4
       go_wp2_with fail
       obtain⟨hd1,hd2⟩:=long_digit (V:=V) hVp.out (hsame.out i (by omega)) hmod.out hdiv.out (by have:=hlq.out; omega) (R:=R) (by rw[←HR.out,wv_words,HW.out])
       refine⟨⟨i,l',quo.set i R,by omega,rfl,Lib.hid (HL.out.1.trans hlc.out),hl2,Lib.hid (by have:=hlq.out; simpa using this),wok_set oq _ _ hR32,Lib.hid (fun t ht=>?_),Lib.hid ?_,Lib.hid hd2,hbl.set_ne (by omega) _ _,hbq5.set _ _,Lib.hid (row_set_ne hrv5.out (fun b off e=>by have:=hne.out b off e; omega) _ _),hB5.setCell (p:=⟨bq,i,none⟩) (by have:=hbuw.out; show w.heap.size≤bq; omega) _⟩,?_⟩
       ·rw[HL.out.2.1 t (by omega)]; exact hsame.out t (by omega)
       ·rw[long_round (cur:=cur) (m:=m) (by have:=hlc.out; omega) HL.out.1 HL.out.2.1 (Nat.lt_trans hXV.out (by have:=lt_words V; rwa[hnl.out] at this)),HL.out.2.2,wv_words,HW.out]; exact hd1
       ·simp[intOf]
      ·have hq1:(1:Int)≤(q:Int):=by
        rcases Nat.eq_zero_or_pos q with h0|h0
        ·exfalso; apply hexit; subst h0; simp
        ·omega
       have hor3:=or_up32 hr bx3
       clear hor
       by_cases hqB:q<4294967296
       ·have HT:Hid (r*4294967296+x3<q*y2):=Lib.hid (by
         rcases Nat.lt_or_ge (r*4294967296+x3) (q*y2) with h|h
         ·exact h
         ·exact absurd ⟨hqB,Nat.not_lt.2 h⟩ hexit)
        have HX:=Lib.hid hexit
        clear hexit hor3
        have hg:decide ((4294967296:Int)≤(q:Int))=false:=by simp; omega
        go_wp2_with fail
        have hor3:=or_up32 hr bx3
        have hxy:=word_mul hqB by2
        have ht:(r:Int)*4294967296+(x3:Int)<(q:Int)*(y2:Int):=by
         have:((r*4294967296+x3:Nat):Int)<((q*y2:Nat):Int):=by have:=HT.out; omega
         simpa using this
        go_quiet (fail)
        rw[World.drewN_drewN]
        clear hor3 hxy ht
        by_cases hbig:(r:Int)+(y1:Int)<4294967296
        ·have hb2:decide ((4294967296:Int)≤(r:Int)+(y1:Int))=false:=by simp; omega
         go_wp2_with fail
         obtain⟨hn1,hn2⟩:=HNX.out.1 HX.out
         exact⟨⟨q - 1,r+y1,by congr 1; omega,by congr 1,Lib.hid hn2,by omega,by omega,Lib.hid hn1,_,rfl⟩,by simp[intOf]; omega⟩
        ·have hb2:decide ((4294967296:Int)≤(r:Int)+(y1:Int))=true:=by simp; omega
         go_wp2_with fail
         rw[show i+m+1 - i=m+1 by omega]
         obtain⟨qf,hqf⟩:∃ qf,qf=q - 1:=⟨_,rfl⟩
         rw[show(q:Int) - 1=(qf:Int) by omega]
         have hqb:=HNX.out.2.2 (by omega) (by omega)
         have hqf1:qf<4294967296:=by rw[hqf]; exact hqb.1
         have hqf2:Hid (qf*V≤wat cur i+4294967296*wv (cur.drop (i+1))+V):=Lib.hid (by rw[hqf]; exact hqb.2)
         have hqf3:Hid (wat cur i+4294967296*wv (cur.drop (i+1))<(qf+1)*V):=Lib.hid (by rw[←Nat.div_lt_iff_lt_mul hVp.out,hqf]; exact Nat.lt_succ_of_le (HNX.out.1 HX.out).1)
         obtain⟨dz,hdz⟩:∃ dz,dz=dd+nq:=⟨_,rfl⟩
         rw[←hdz]
         clear hqf hdz hqb hb2
         obtain⟨R,hR⟩:∃ R,wv ((cur.drop i).take (m+1)) / wv (words V)=R:=⟨_,rfl⟩
         have hR32:R<4294967296:=by rw[←hR,wv_words,HW.out]; exact hdig.out
         have hstp:=step_walk cur (words V) bu i (m+1) m qf (M+1 - i) cv rfl hnl.out (by have:=hlc.out; omega) oc (wok_words V) (some ⟨b5,o5,none⟩) (wo.drewN dz) (hbc.drewN _) hrv.out (fun b off e=>Nat.ne_of_lt (hne.out b off e)) hqf1 (by rw[wv_words,HW.out]; exact hqf2.out) (by rw[wv_words,HW.out]; exact hqf3.out) (by omega) R hR
         have HS:=Lib.hid hstp
         have HR:=Lib.hid hR
         clear hstp hR
         refine HS.out.mono ?_
         rintro e w5 ⟨l',rfl,hl1,hl2,hl3,hl4,hbl,hgr⟩
         have HL:=Lib.hid (And.intro hl1 (And.intro hl3 hl4))
         clear hl1 hl3 hl4 HS
         have hsz5:wo.heap.size≤w5.heap.size:=hgr.size
         have hbq5:Blk w5 bq quo:=(hgr.block bq hbq4.lt (by intro e; cases e; omega)).trans hbq4
         have hrv5:Hid (Row w5 (some ⟨b5,o5,none⟩) (words V)):=Lib.hid (fun hx=>by
          obtain⟨b6,o6,h1,h2,h3⟩:=hrv.out hx
          refine⟨b6,o6,h1,Nat.lt_of_lt_of_le h2 hsz5,fun j hj=>(grown_cell hgr h2 (Nat.ne_of_lt (hne.out _ _ h1))).trans (h3 j hj)⟩)
         have hB5:Below w.heap.size w w5:=(below_drewN hB4 dz).grown hgr (by have:=hB4.size; simpa using this) (fun k e=>by cases e; exact hbuw.out)
         have cq:=hbq5.cell (i:=i) (by have:=hlq.out; omega)
         have fq:=hbq5.frozen i
         have iR:(R:Int) % 4294967296=(R:Int):=by omega
         clear hrv hb5 HC5 c5 c6 c7 c8 c9 hbc hbq4 hB4
         go_wp2_with fail
         obtain⟨hd1,hd2⟩:=long_digit (V:=V) hVp.out (hsame.out i (by omega)) hmod.out hdiv.out (by have:=hlq.out; omega) (R:=R) (by rw[←HR.out,wv_words,HW.out])
         refine⟨⟨i,l',quo.set i R,by omega,rfl,Lib.hid (HL.out.1.trans hlc.out),hl2,Lib.hid (by have:=hlq.out; simpa using this),wok_set oq _ _ hR32,Lib.hid (fun t ht=>?_),Lib.hid ?_,Lib.hid hd2,hbl.set_ne (by omega) _ _,hbq5.set _ _,Lib.hid (row_set_ne hrv5.out (fun b off e=>by have:=hne.out b off e; omega) _ _),hB5.setCell (p:=⟨bq,i,none⟩) (by have:=hbuw.out; show w.heap.size≤bq; omega) _⟩,?_⟩
         ·rw[HL.out.2.1 t (by omega)]; exact hsame.out t (by omega)
         ·rw[long_round (cur:=cur) (m:=m) (by have:=hlc.out; omega) HL.out.1 HL.out.2.1 (Nat.lt_trans hXV.out (by have:=lt_words V; rwa[hnl.out] at this)),HL.out.2.2,wv_words,HW.out]; exact hd1
         ·simp[intOf]
       ·have HX:=Lib.hid hexit
        clear hexit
        have hg:decide ((4294967296:Int)≤(q:Int))=true:=by simp; omega
        go_wp2_with fail
        go_quiet (fail)
        rw[World.drewN_drewN]
        by_cases hbig:(r:Int)+(y1:Int)<4294967296
        ·have hb2:decide ((4294967296:Int)≤(r:Int)+(y1:Int))=false:=by simp; omega
         go_wp2_with fail
         obtain⟨hn1,hn2⟩:=HNX.out.1 HX.out
         exact⟨⟨q - 1,r+y1,by congr 1; omega,by congr 1,Lib.hid hn2,by omega,by omega,Lib.hid hn1,_,rfl⟩,by simp[intOf]; omega⟩
        ·have hb2:decide ((4294967296:Int)≤(r:Int)+(y1:Int))=true:=by simp; omega
         go_wp2_with fail
         rw[show i+m+1 - i=m+1 by omega]
         obtain⟨qf,hqf⟩:∃ qf,qf=q - 1:=⟨_,rfl⟩
         rw[show(q:Int) - 1=(qf:Int) by omega]
         have hqb:=HNX.out.2.2 (by omega) (by omega)
         have hqf1:qf<4294967296:=by rw[hqf]; exact hqb.1
         have hqf2:Hid (qf*V≤wat cur i+4294967296*wv (cur.drop (i+1))+V):=Lib.hid (by rw[hqf]; exact hqb.2)
         have hqf3:Hid (wat cur i+4294967296*wv (cur.drop (i+1))<(qf+1)*V):=Lib.hid (by rw[←Nat.div_lt_iff_lt_mul hVp.out,hqf]; exact Nat.lt_succ_of_le (HNX.out.1 HX.out).1)
         obtain⟨dz,hdz⟩:∃ dz,dz=dd+nq:=⟨_,rfl⟩
         rw[←hdz]
         clear hqf hdz hqb hb2
         obtain⟨R,hR⟩:∃ R,wv ((cur.drop i).take (m+1)) / wv (words V)=R:=⟨_,rfl⟩
         have hR32:R<4294967296:=by rw[←hR,wv_words,HW.out]; exact hdig.out
         have hstp:=step_walk cur (words V) bu i (m+1) m qf (M+1 - i) cv rfl hnl.out (by have:=hlc.out; omega) oc (wok_words V) (some ⟨b5,o5,none⟩) (wo.drewN dz) (hbc.drewN _) hrv.out (fun b off e=>Nat.ne_of_lt (hne.out b off e)) hqf1 (by rw[wv_words,HW.out]; exact hqf2.out) (by rw[wv_words,HW.out]; exact hqf3.out) (by omega) R hR
         have HS:=Lib.hid hstp
         have HR:=Lib.hid hR
         clear hstp hR
         refine HS.out.mono ?_
         rintro e w5 ⟨l',rfl,hl1,hl2,hl3,hl4,hbl,hgr⟩
         have HL:=Lib.hid (And.intro hl1 (And.intro hl3 hl4))
         clear hl1 hl3 hl4 HS
         have hsz5:wo.heap.size≤w5.heap.size:=hgr.size
         have hbq5:Blk w5 bq quo:=(hgr.block bq hbq4.lt (by intro e; cases e; omega)).trans hbq4
         have hrv5:Hid (Row w5 (some ⟨b5,o5,none⟩) (words V)):=Lib.hid (fun hx=>by
          obtain⟨b6,o6,h1,h2,h3⟩:=hrv.out hx
          refine⟨b6,o6,h1,Nat.lt_of_lt_of_le h2 hsz5,fun j hj=>(grown_cell hgr h2 (Nat.ne_of_lt (hne.out _ _ h1))).trans (h3 j hj)⟩)
         have hB5:Below w.heap.size w w5:=(below_drewN hB4 dz).grown hgr (by have:=hB4.size; simpa using this) (fun k e=>by cases e; exact hbuw.out)
         have cq:=hbq5.cell (i:=i) (by have:=hlq.out; omega)
         have fq:=hbq5.frozen i
         have iR:(R:Int) % 4294967296=(R:Int):=by omega
         clear hrv hb5 HC5 c5 c6 c7 c8 c9 hbc hbq4 hB4
         go_wp2_with fail
         obtain⟨hd1,hd2⟩:=long_digit (V:=V) hVp.out (hsame.out i (by omega)) hmod.out hdiv.out (by have:=hlq.out; omega) (R:=R) (by rw[←HR.out,wv_words,HW.out])
         refine⟨⟨i,l',quo.set i R,by omega,rfl,Lib.hid (HL.out.1.trans hlc.out),hl2,Lib.hid (by have:=hlq.out; simpa using this),wok_set oq _ _ hR32,Lib.hid (fun t ht=>?_),Lib.hid ?_,Lib.hid hd2,hbl.set_ne (by omega) _ _,hbq5.set _ _,Lib.hid (row_set_ne hrv5.out (fun b off e=>by have:=hne.out b off e; omega) _ _),hB5.setCell (p:=⟨bq,i,none⟩) (by have:=hbuw.out; show w.heap.size≤bq; omega) _⟩,?_⟩
         ·rw[HL.out.2.1 t (by omega)]; exact hsame.out t (by omega)
         ·rw[long_round (cur:=cur) (m:=m) (by have:=hlc.out; omega) HL.out.1 HL.out.2.1 (Nat.lt_trans hXV.out (by have:=lt_words V; rwa[hnl.out] at this)),HL.out.2.2,wv_words,HW.out]; exact hd1
         ·simp[intOf]
end Go.Proofs.YthklnbaddobieaaGreat
