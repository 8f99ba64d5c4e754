/- Laws for the walk. -/
import Derived.Test.YthklnbaddobieaaGreatUaa
import Derived.Laws.Bits64b
import Derived.OwnWalk
import Derived.OneCell
import Derived.Maps.AppendAt
set_option linter.unusedVariables false
set_option maxHeartbeats 4000000
namespace Go.Proofs.YthklnbaddobieaaGreat
open Go.RowKit Tr
theorem product_walk(la lb:List Nat)(n m:Nat)(hna:la.length=n)(hnb:lb.length=m)(oa:WOk la)(ob:WOk lb)(pa pb:Option Addr)(ca cb:Nat)(w:World)(ha:Row w pa la)(hb:Row w pb lb)(hn:n<1099511627776)(hm:m<1099511627776) :
  Calls Tryz.prog 163 #[.slice pa n ca,.slice pb m cb] w fun e w'=>∃ out,out.length=n+m∧WOk out∧wv out=wv la*wv lb∧e=.returned (.slice (some ⟨w.heap.size,0,none⟩) (n+m) (n+m))∧Blk w' w.heap.size out∧Below w.heap.size w w':=by
 have H:=Lib.hid (And.intro hna hnb)
 have HA:=Lib.hid ha
 have HB:=Lib.hid hb
 have hmk:=run_mk (n+m) (by omega)
 have en:((n+m:Nat):Int)=(n:Int)+m:=by omega
 rw[en] at hmk
 clear ha hb hna hnb en
 go_enter Tryz.func163,Tryz.ntmps163
 go_wp2
 go_loopw [6,7,8,9,10,19] (fun _ _ _ _ _ i wr=>∃(k:Nat) (out:List Nat),k≤n∧i=.int .i64 k∧Hid (out.length=n+m)∧WOk out∧Hid (wv out=wv (la.take k)*wv lb)∧Blk wr w.heap.size out∧Below w.heap.size w wr)
  (fun _ _ _ _ _ i _=>n - (intOf i).toNat)
 case atStart =>
  exact⟨0,List.replicate (n+m) 0,Nat.zero_le _,rfl,Lib.hid (by simp),wok_replicate _,Lib.hid (by rw[wv_replicate]; simp[wv]),Blk.new _ _,br.alloc (Nat.le_refl _) _⟩
 case round =>
  obtain⟨k,out,hk,rfl,hlo,oo,hinv,hblk,hB⟩:=hrel
  by_cases hlt2:k<n
  ·obtain⟨b,off,rfl,hbs,hcl⟩:=HA.out (by intro h; have:=H.out.1; rw[h] at this; simp at this; omega)
   have c0:=(hB.cell (p:=⟨b,off+k,none⟩) hbs).trans (hcl k (by have:=H.out.1; omega))
   have bx:la[k]?.getD 0<4294967296:=wat_lt oa k
   have hroom:=Lib.hid (product_room (i:=k) (m:=m) oa ob H.out.2 (by have:=H.out.1; omega) hinv.out)
   clear hcl
   obtain⟨wo,rfl⟩:∃ wo:World,wo=wr:=⟨_,rfl⟩
   go_wp2
   go_loopw [8,9,10,26] (fun c _ _ j wr=>∃(k2 cr:Nat) (out2:List Nat),k2≤m∧j=.int .i64 k2∧c=.int .u64 cr∧cr<4294967296∧Hid (out2.length=n+m)∧WOk out2∧Hid (wat out2 (k+m)=0)∧Hid (wv out2+4294967296 ^ (k+k2)*cr=wv (la.take k)*wv lb+4294967296 ^ k*(wat la k*wv (lb.take k2)))∧Blk wr w.heap.size out2∧Below w.heap.size w wr)
    (fun _ _ _ j _=>m - (intOf j).toNat)
   case atStart =>
    exact⟨0,0,out,Nat.zero_le _,rfl,rfl,by omega,hlo,oo,hroom,Lib.hid (by simpa[wv] using hinv.out),hblk,hB⟩
   case round =>
    obtain⟨k2,cr,out2,hk2,rfl,rfl,hcr,hlo2,oo2,hz2,hinv2,hblk2,hB2⟩:=hrel
    by_cases hlt3:k2<m
    ·obtain⟨b2,off2,rfl,hbs2,hcl2⟩:=HB.out (by intro h; have:=H.out.2; rw[h] at this; simp at this; omega)
     have c3:=(hB2.cell (p:=⟨b2,off2+k2,none⟩) hbs2).trans (hcl2 k2 (by have:=H.out.2; omega))
     have by_:lb[k2]?.getD 0<4294967296:=wat_lt ob k2
     have bo:out2[k+k2]?.getD 0<4294967296:=wat_lt oo2 _
     have c1:=hblk2.cell (i:=k+k2) (by have:=hlo2.out; omega)
     have c2:=hblk2.frozen (k+k2)
     have hxy:=word_mul bx by_
     have e1:((cr:Int)+((la[k]?.getD 0:Nat)*(lb[k2]?.getD 0:Nat)+(out2[k+k2]?.getD 0:Nat))) % 4294967296=((cr+(wat la k*wat lb k2+wat out2 (k+k2))) % 4294967296:Nat):=by simp[wat]
     have e2:((cr:Int)+((la[k]?.getD 0:Nat)*(lb[k2]?.getD 0:Nat)+(out2[k+k2]?.getD 0:Nat))) / 4294967296=((cr+(wat la k*wat lb k2+wat out2 (k+k2))) / 4294967296:Nat):=by simp[wat]
     have hst:=Lib.hid (product_step (x:=wat la k) (by have:=hlo2.out; omega) hinv2.out)
     have hcr':(cr+(wat la k*wat lb k2+wat out2 (k+k2))) / 4294967296<4294967296:=by unfold wat; omega
     have E:=Lib.hid (And.intro e1 e2)
     clear hcl2 e1 e2
     go_wp2
     go_roundw
     case rel =>
      rw[E.out.1,E.out.2]
      exact⟨k2+1,_,_,by omega,by go_num,rfl,hcr',Lib.hid (by have:=hlo2.out; simpa using this),wok_set oo2 _ _ (Nat.mod_lt _ (by decide)),Lib.hid (by rw[wat_set_ne (by omega)]; exact hz2.out),hst,hblk2.set _ _,hB2.setCell (p:=⟨w.heap.size,k+k2,none⟩) (Nat.le_refl _) _⟩
     case measure=>simp[intOf]; omega
    ·obtain rfl:m=k2:=by omega
     have hfin:=Lib.hid (product_row (out:=out2) (la:=la) (lb:=lb) (i:=k) (m:=m) (by have:=hlo2.out; omega) H.out.2 hz2.out hinv2.out)
     have c1:=hblk2.cell (i:=k+m) (by have:=hlo2.out; omega)
     have c2:=hblk2.frozen (k+m)
     go_wp2
     go_roundw
     case rel =>
      exact⟨k+1,_,by omega,by go_num,Lib.hid (by have:=hlo2.out; simpa using this),wok_set oo2 _ _ hcr,hfin,hblk2.set _ _,hB2.setCell (p:=⟨w.heap.size,k+m,none⟩) (Nat.le_refl _) _⟩
     case measure=>simp[intOf]; omega
  ·obtain rfl:n=k:=by omega
   go_wp2
   go_ret
   exact⟨out,hlo.out,oo,by have:=hinv.out; rwa[List.take_of_length_le (by have:=H.out.1; omega)] at this,rfl,hblk,hB⟩
theorem product_any(la lb:List Nat)(va vb:Value)(w:World)(oa:WOk la)(ob:WOk lb)(ha:WSl w va la)(hb:WSl w vb lb)(hn:la.length<1099511627776)(hm:lb.length<1099511627776) :
  Calls Tryz.prog 163 #[va,vb] w fun e w'=>∃ out,out.length=la.length+lb.length∧WOk out∧wv out=wv la*wv lb∧e=.returned (.slice (some ⟨w.heap.size,0,none⟩) out.length out.length)∧Blk w' w.heap.size out∧Below w.heap.size w w':=by
 obtain⟨pa,ca,rfl,hca,ha⟩:=ha
 obtain⟨pb,cb,rfl,hcb,hb⟩:=hb
 refine(product_walk la lb _ _ rfl rfl oa ob pa pb ca cb w ha hb hn hm).mono ?_
 rintro e w' ⟨out,h1,h2,h3,h4,h5,h6⟩
 exact⟨out,h1,h2,h3,by rw[h1]; exact h4,h5,h6⟩
end Go.Proofs.YthklnbaddobieaaGreat
namespace Tr
theorem short_step{la out:List Nat}{k r d:Nat}(hk:k<la.length)(ho:k<out.length)(h:wv (out.drop (k+1))*d+r=wv (la.drop (k+1))) :
  wv ((out.set k ((r*4294967296+wat la k) / d)).drop k)*d+(r*4294967296+wat la k) % d=wv (la.drop k):=by
 rw[wv_drop (l:=out.set k _) (by simpa using ho),List.drop_set_of_lt (by omega),List.getElem_set_self,wv_drop hk,←wat_of hk,←h]
 have h1:=Nat.div_add_mod (r*4294967296+wat la k) d
 generalize (r*4294967296+wat la k) / d=q at *
 generalize (r*4294967296+wat la k) % d=s at *
 rw[Nat.add_mul,Nat.mul_add,Nat.mul_assoc,Nat.mul_comm q d]
 omega
theorem short_lt{r d x:Nat}(hr:r<d)(hx:x<4294967296):(r*4294967296+x) / d<4294967296:=by
 rw[Nat.div_lt_iff_lt_mul (by omega)]
 have:(r+1)*4294967296≤d*4294967296:=Nat.mul_le_mul_right _ hr
 rw[Nat.mul_comm 4294967296 d]
 omega
end Tr
namespace Go.Proofs.YthklnbaddobieaaGreat
open Go.RowKit Tr
theorem or_up{x y k:Nat}(hy:y<2 ^ k)(h:x*2 ^ k+y<18446744073709551616):bits BinOp.or .u64 ((x*2 ^ k:Nat):Int) (y:Int)=((x*2 ^ k+y:Nat):Int):=by
 rw[bits_or_u64_nat _ _ (by omega) (by omega),Nat.mul_comm,Nat.two_pow_add_eq_or_of_lt hy]
theorem or_up32{x y:Nat}(hx:x<4294967296)(hy:y<4294967296):bits BinOp.or .u64 ((x:Int)*4294967296) (y:Int)=(x:Int)*4294967296+(y:Int):=by
 have:=or_up (x:=x) (y:=y) (k:=32) hy (by omega)
 simpa using this
theorem cut_any(l:List Nat)(v:Value)(w:World)(ol:WOk l)(hl:WSl w v l)(hm:l.length<1099511627776) :
  Calls Tryz.prog 201 #[v] w fun e w'=>∃ v',e=.returned v'∧WSl w v' (words (wv l))∧w=w':=by
 obtain⟨p,c,rfl,hc,hl⟩:=hl
 refine(cut_row l _ rfl ol p c w hl hc hm).mono ?_
 rintro e w' ⟨k,h1,h2,rfl,rfl⟩
 have h3:(l.take k).length=k:=by simp; omega
 refine⟨_,rfl,?_,rfl⟩
 rw[←h2]
 refine⟨p,c,by rw[h3],by omega,fun hne=>?_⟩
 obtain⟨b,off,h4,h5,h6⟩:=hl (by intro h; rw[h] at hne; simp at hne)
 refine⟨b,off,h4,h5,fun j hj=>?_⟩
 rw[h3] at hj
 rw[h6 j (by omega),List.getElem?_take_of_lt hj]
theorem short_walk(la:List Nat)(n d:Nat)(hna:la.length=n)(oa:WOk la)(hd:0<d)(hd2:d<4294967296)(pa:Option Addr)(ca:Nat)(w:World)(ha:Row w pa la)(hn:n<1099511627776) :
  Calls Tryz.prog 202 #[.slice pa n ca,.int .u32 d] w fun e w'=>∃ v,e=.returned (.tuple #[v,.int .u32 (wv la % d:Nat)])∧WSl w' v (words (wv la / d))∧Below w.heap.size w w':=by
 have H:=Lib.hid hna
 have HA:=Lib.hid ha
 have hmk:=run_mk n (by omega)
 clear ha hna
 go_enter Tryz.func202,Tryz.ntmps202
 go_wp2
 go_loopw [7,8] (fun r i wr=>∃(k s:Nat) (out:List Nat),k≤n∧i=.int .i64 ((k:Int) - 1)∧r=.int .u64 s∧s<d∧Hid (out.length=n)∧WOk out∧Hid (wv (out.drop k)*d+s=wv (la.drop k))∧Blk wr w.heap.size out∧Below w.heap.size w wr)
  (fun _ i _=>(intOf i+1).toNat)
 case atStart =>
  exact⟨n,0,List.replicate n 0,Nat.le_refl _,rfl,rfl,hd,Lib.hid (by simp),wok_replicate _,Lib.hid (by rw[List.drop_eq_nil_of_le (by simp),List.drop_eq_nil_of_le (by have:=H.out; omega)]; simp[wv]),Blk.new _ _,br.alloc (Nat.le_refl _) _⟩
 case round =>
  obtain⟨k,s,out,hk,rfl,rfl,hs,hlo,oo,hinv,hblk,hB⟩:=hrel
  cases k with
  | zero =>
   have h1:=hinv.out
   simp only[List.drop_zero] at h1
   have hq:wv out=wv la / d:=by
    rw[←h1]
    rw[Nat.add_comm,Nat.add_mul_div_right _ _ hd,Nat.div_eq_of_lt hs]; omega
   have hr:s=wv la % d:=by
    rw[←h1,Nat.add_comm,Nat.add_mul_mod_self_right,Nat.mod_eq_of_lt hs]
   have hcut:=fun w' (h:Blk w' w.heap.size out)=>cut_any out _ w' oo (h.wsl (k:=n) (cap:=n) (by have:=hlo.out; omega) (Nat.le_refl _) |> fun x=>by rwa[List.take_of_length_le (by have:=hlo.out; omega)] at x) (by have:=hlo.out; omega)
   rw[hq] at hcut
   have HR:=Lib.hid hr
   clear h1 hq hr
   go_wp2_with (go_at_call 201; refine(hcut _ hblk).mono ?_; rintro e w' ⟨v,rfl,hv,rfl⟩)
   go_ret2
   refine⟨v,?_,hv,hB⟩
   rw[←HR.out]; rfl
  | succ m =>
   have e:((m+1:Nat):Int) - 1=(m:Int):=by omega
   rw[e]
   clear e
   obtain⟨b,off,rfl,hbs,hcl⟩:=HA.out (by intro h; have:=H.out; rw[h] at this; simp at this; omega)
   have c0:=(hB.cell (p:=⟨b,off+m,none⟩) hbs).trans (hcl m (by have:=H.out; omega))
   have c1:=hblk.cell (i:=m) (by have:=hlo.out; omega)
   have c2:=hblk.frozen m
   have bx:la[m]?.getD 0<4294967296:=wat_lt oa m
   have hst:=Lib.hid (short_step (d:=d) (by have:=H.out; omega) (by have:=hlo.out; omega) hinv.out)
   have hor:=or_up32 (x:=s) (y:=la[m]?.getD 0) (by omega) bx
   have e1:((s:Int)*4294967296+(la[m]?.getD 0:Nat)).tmod (d:Int)=((s*4294967296+wat la m) % d:Nat):=by
    rw[Int.tmod_eq_emod_of_nonneg (by omega)]; simp[wat]
   have e2:((s:Int)*4294967296+(la[m]?.getD 0:Nat)).tdiv (d:Int)=((s*4294967296+wat la m) / d:Nat):=by
    rw[Int.tdiv_eq_ediv_of_nonneg (by omega)]; simp[wat]
   have hq:(s*4294967296+wat la m) / d<4294967296:=short_lt hs bx
   have e3:IntKind.u64.wrap ((s*4294967296+wat la m) / d:Nat) % 4294967296=((s*4294967296+wat la m) / d:Nat):=by
    show((((s*4294967296+wat la m) / d:Nat):Int) % 18446744073709551616) % 4294967296=_
    generalize (s*4294967296+wat la m) / d=q at *
    omega
   have E:=Lib.hid (And.intro e1 (And.intro e2 e3))
   have HO:=Lib.hid hor
   clear hcl hor e1 e2 e3
   go_wp2
   go_roundw
   case rel =>
    rw[HO.out,E.out.1,E.out.2.1,E.out.2.2]
    exact⟨m,_,_,by omega,rfl,rfl,Nat.mod_lt _ hd,Lib.hid (by have:=hlo.out; simpa using this),wok_set oo _ _ hq,hst,hblk.set _ _,hB.setCell (p:=⟨w.heap.size,m,none⟩) (Nat.le_refl _) _⟩
   case measure=>simp[intOf]
theorem short_any(la:List Nat)(d:Nat)(va:Value)(w:World)(oa:WOk la)(hd:0<d)(hd2:d<4294967296)(ha:WSl w va la)(hn:la.length<1099511627776) :
  Calls Tryz.prog 202 #[va,.int .u32 d] w fun e w'=>∃ v,e=.returned (.tuple #[v,.int .u32 (wv la % d:Nat)])∧WSl w' v (words (wv la / d))∧Below w.heap.size w w':=by
 obtain⟨pa,ca,rfl,hca,ha⟩:=ha
 exact short_walk la _ d rfl oa hd hd2 pa ca w ha hn
end Go.Proofs.YthklnbaddobieaaGreat
namespace Go.Proofs.YthklnbaddobieaaGreat
open Go.RowKit Tr
theorem scut_row(l:List Nat)(n:Nat)(hn:l.length=n)(ol:WOk l)(p:Option Addr)(c:Nat)(w:World)(hl:Row w p l)(hc:n≤c)(hm:n<1099511627776) :
  Calls Tryz.prog 200 #[.slice p n c] w fun e w'=>∃ k,k≤n∧l.take k=words (wv l)∧e=.returned (.slice p k c)∧w=w':=by
 have H:=Lib.hid hn
 have HL:=Lib.hid hl
 have hs:∀ k:Nat,k≤n→Hid (∀ j,k≤j→j<l.length→l[j]?.getD 0=0)→(k=0∨l[k - 1]?.getD 0≠0)→l.take k=words (wv l):=fun k hk hz hl=>take_words (by omega) ol hz.out hl
 have HS:=Lib.hid hs
 clear hl hn hs
 go_enter Tryz.func200,Tryz.ntmps200
 go_wp2
 go_loop [3] (fun v=>∃ k:Nat,k≤n∧v=.int .i64 k∧Hid (∀ j,k≤j→j<l.length→l[j]?.getD 0=0)) (fun v=>(intOf v).toNat)
 case atStart =>
  exact⟨n,Nat.le_refl _,rfl,Lib.hid (fun j h1 h2=>by have:=H.out; omega)⟩
 case round =>
  obtain⟨k,hk,rfl,hz⟩:=hrel
  cases k with
  | zero =>
   go_wp2
   go_ret
   exact⟨0,Nat.zero_le _,HS.out 0 (Nat.zero_le _) hz (.inl rfl),rfl,rfl⟩
  | succ m =>
   obtain⟨b,off,rfl,_,hcl⟩:=HL.out (by intro h; have:=H.out; rw[h] at this; simp at this; omega)
   have hc0:=hcl m (by have:=H.out; omega)
   clear hcl
   have e0:((m+1:Nat):Int)=(m:Int)+1:=by omega
   by_cases h0:l[m]?.getD 0=0
   ·have hz':Hid (∀ j,m≤j→j<l.length→l[j]?.getD 0=0):=Lib.hid (fun j h1 h2=>by
     by_cases h:j=m
     ·rw[h]; exact h0
     ·exact hz.out j (by omega) h2)
    have hb:(((l[m]?.getD 0:Nat):Int) == 0)=true:=by rw[h0]; rfl
    clear h0
    go_wp2
    go_round
    case rel=>exact⟨m,by omega,rfl,hz'⟩
    case measure=>simp[intOf]
   ·have hb:(((l[m]?.getD 0:Nat):Int) == 0)=false:=by simp; exact h0
    have ht:=HS.out (m+1) hk hz (.inr (by simpa using h0))
    have HT:=Lib.hid ht
    clear h0 ht
    go_wp2
    go_ret
    exact⟨m+1,hk,HT.out,by simp,rfl⟩
theorem scut_any(l:List Nat)(v:Value)(w:World)(ol:WOk l)(hl:WSl w v l)(hm:l.length<1099511627776) :
  Calls Tryz.prog 200 #[v] w fun e w'=>∃ v',e=.returned v'∧WSl w v' (words (wv l))∧w=w':=by
 obtain⟨p,c,rfl,hc,hl⟩:=hl
 refine(scut_row l _ rfl ol p c w hl hc hm).mono ?_
 rintro e w' ⟨k,h1,h2,rfl,rfl⟩
 have h3:(l.take k).length=k:=by simp; omega
 refine⟨_,rfl,?_,rfl⟩
 rw[←h2]
 refine⟨p,c,by rw[h3],by omega,fun hne=>?_⟩
 obtain⟨b,off,h4,h5,h6⟩:=hl (by intro h; rw[h] at hne; simp at hne)
 refine⟨b,off,h4,h5,fun j hj=>?_⟩
 rw[h3] at hj
 rw[h6 j (by omega),List.getElem?_take_of_lt hj]
theorem sat_any(l:List Nat)(v:Value)(i:Nat)(w:World)(ol:WOk l)(hl:WSl w v l) :
  Calls Tryz.prog 213 #[v,.int .i64 i] w fun e w'=>e=.returned (.int .u64 (wat l i))∧w=w':=by
 obtain⟨p,c,rfl,hc,hl⟩:=hl
 obtain⟨n,hn⟩:∃ n,l.length=n:=⟨_,rfl⟩
 rw[hn] at hc ⊢
 by_cases h:i<n
 ·obtain⟨b,off,rfl,_,hcl⟩:=hl (by intro h; rw[h] at hn; simp at hn; omega)
  have hc0:=hcl i (by omega)
  obtain⟨x,hx0⟩:∃ x,x=wat l i:=⟨_,rfl⟩
  have hx:x<4294967296:=by rw[hx0]; exact wat_lt ol i
  rw[show l[i]?.getD 0=x from hx0.symm] at hc0
  rw[←hx0]
  clear hcl hl hx0
  go_enter Tryz.func213,Tryz.ntmps213
  go_wp2
  go_ret
  exact⟨rfl,rfl⟩
 ·have HE:Hid (wat l i=0):=Lib.hid (wat_out (by omega))
  clear hl
  go_enter Tryz.func213,Tryz.ntmps213
  go_wp2
  go_ret
  exact⟨by rw[HE.out]; rfl,rfl⟩
theorem sunder_eq(la lb:List Nat)(n:Nat)(hna:la.length=n)(hnb:lb.length=n)(oa:WOk la)(ob:WOk lb)(pa pb:Option Addr)(ca cb:Nat)(w:World)(ha:Row w pa la)(hb:Row w pb lb)(hn:n<1099511627776) :
  Calls Tryz.prog 171 #[.slice pa n ca,.slice pb n cb] w fun e w'=>e=.returned (.int .i64 (cmpZ (wv la) (wv lb)))∧∃ n,w'=w.drewN n:=by
 have H:=Lib.hid (And.intro hna hnb)
 have HA:=Lib.hid ha
 have HB:=Lib.hid hb
 clear ha hb hna hnb
 go_enter Tryz.func171,Tryz.ntmps171
 go_wp2
 go_loopw [5] (fun i wr=>∃ k:Nat,k≤n∧i=.int .i64 ((k:Int) - 1)∧Hid (la.drop k=lb.drop k)∧∃ d,wr=w.drewN d) (fun i _=>(intOf i+1).toNat)
 case atStart =>
  refine⟨n,Nat.le_refl _,rfl,Lib.hid ?_,0,rfl⟩
  obtain⟨h1,h2⟩:=H.out
  rw[List.drop_eq_nil_of_le (by omega),List.drop_eq_nil_of_le (by omega)]
 case round =>
  obtain⟨k,hk,rfl,hd,d,rfl⟩:=hrel
  cases k with
  | zero =>
   have hz:Hid (cmpZ (wv la) (wv lb)=0):=Lib.hid (by rw[drop_all hd.out]; exact cmp_same _)
   go_wp2
   go_ret
   exact⟨ret_int hz.out.symm,d,rfl⟩
  | succ m =>
   have e:((m+1:Nat):Int) - 1=(m:Int):=by omega
   rw[e]
   clear e
   obtain⟨h1,h2⟩:=H.out
   obtain⟨ba,oa',rfl,_,hca⟩:=HA.out (by intro h; rw[h] at h1; simp at h1; omega)
   obtain⟨bb,ob',rfl,_,hcb⟩:=HB.out (by intro h; rw[h] at h2; simp at h2; omega)
   have ca0:=hca m (by omega)
   have cb0:=hcb m (by omega)
   have HD:=Lib.hid (And.intro h1 h2)
   clear hca hcb h1 h2
   have i0:(0:Int)≤(m:Int):=by omega
   have i1:(m:Int)<(n:Int):=by omega
   have hx:∀ x y:Nat,x<y→((x:Int)<(y:Int)):=fun x y h=>by omega
   rcases Nat.lt_trichotomy (la[m]?.getD 0) (lb[m]?.getD 0) with h|h|h
   ·have h':=hx _ _ h
    have hz:Hid (cmpZ (wv la) (wv lb)=-1):=Lib.hid (cmp_less (by have:=HD.out; omega) (by have:=HD.out; omega) oa hd.out h)
    clear h hx
    go_wp2
    go_quiet (fail)
    go_wp2
    go_ret
    exact⟨ret_int hz.out.symm,by first|exact⟨_,rfl⟩|(simp only[World.drewN_drewN]; exact⟨_,rfl⟩)⟩
   ·have hz:Hid (la.drop m=lb.drop m):=Lib.hid (drop_next (by have:=HD.out; omega) (by have:=HD.out; omega) hd.out h)
    have h1:¬((la[m]?.getD 0:Nat):Int)<((lb[m]?.getD 0:Nat):Int):=by omega
    have h2:¬((lb[m]?.getD 0:Nat):Int)<((la[m]?.getD 0:Nat):Int):=by omega
    clear h hx
    go_wp2
    go_quiet (fail)
    go_wp2
    go_quiet (fail)
    go_wp2
    go_roundw
    case rel=>exact⟨m,by omega,rfl,hz,by first|exact⟨_,rfl⟩|(simp only[World.drewN_drewN]; exact⟨_,rfl⟩)⟩
    case measure=>simp[intOf]
   ·have h':=hx _ _ h
    have h1:¬((la[m]?.getD 0:Nat):Int)<((lb[m]?.getD 0:Nat):Int):=by omega
    have hz:Hid (cmpZ (wv la) (wv lb)=1):=Lib.hid (cmp_more (by have:=HD.out; omega) (by have:=HD.out; omega) ob hd.out h)
    clear h hx
    go_wp2
    go_quiet (fail)
    go_wp2
    go_quiet (fail)
    go_wp2
    go_ret
    exact⟨ret_int hz.out.symm,by first|exact⟨_,rfl⟩|(simp only[World.drewN_drewN]; exact⟨_,rfl⟩)⟩
theorem sunder_any(a b:Nat)(va vb:Value)(w:World)(ha:WSl w va (words a))(hb:WSl w vb (words b))(hla:(words a).length<1099511627776) :
  Calls Tryz.prog 171 #[va,vb] w fun e w'=>e=.returned (.int .i64 (cmpZ a b))∧∃ n,w'=w.drewN n:=by
 obtain⟨pa,ca,rfl,hca,ha⟩:=ha
 obtain⟨pb,cb,rfl,hcb,hb⟩:=hb
 rcases Nat.lt_trichotomy (words a).length (words b).length with h|h|h
 ·have hz:cmpZ a b=-1:=by unfold cmpZ; rw[if_pos (cmp_shorter h)]
  go_enter Tryz.func171,Tryz.ntmps171
  go_wp2
  go_ret
  exact⟨ret_int hz.symm,0,rfl⟩
 ·rw[←h] at hb ⊢
  have:=sunder_eq (words a) (words b) _ rfl h.symm (wok_words a) (wok_words b) pa pb ca cb w ha (fun hne=>by obtain⟨b,off,h1,h2,h3⟩:=hb hne; exact⟨b,off,h1,h2,fun j hj=>h3 j (by omega)⟩) hla
  rwa[wv_words,wv_words] at this
 ·have hz:cmpZ a b=1:=by unfold cmpZ; rw[if_neg (by have:=cmp_shorter h; omega),if_pos (cmp_shorter h)]
  go_enter Tryz.func171,Tryz.ntmps171
  go_wp2
  go_ret
  exact⟨ret_int hz.symm,0,rfl⟩
end Go.Proofs.YthklnbaddobieaaGreat
namespace Tr
theorem smore_c{P a b o c:Nat}(h1:a<P)(h2:b<P)(h:o+P*4294967296*c=a+b):c=0:=by
 rcases Nat.eq_zero_or_pos c with h0|h0
 ·exact h0
 ·have h3:P*4294967296*1≤P*4294967296*c:=Nat.mul_le_mul_left _ h0
  generalize P*4294967296*c=Q at *
  omega
theorem smore_end{out la lb:List Nat}{n c:Nat}(ho:out.length=n+1)(oa:WOk la)(ob:WOk lb)(ha:la.length≤n)(hb:lb.length≤n)(h:wv (out.take (n+1))+4294967296 ^ (n+1)*c=wv (la.take (n+1))+wv (lb.take (n+1))):wv out=wv la+wv lb:=by
 rw[List.take_of_length_le (Nat.le_of_eq ho),List.take_of_length_le (Nat.le_succ_of_le ha),List.take_of_length_le (Nat.le_succ_of_le hb),Nat.pow_succ] at h
 have h1:=Nat.lt_of_lt_of_le (wv_lt oa) (Nat.pow_le_pow_right (by decide) ha)
 have h2:=Nat.lt_of_lt_of_le (wv_lt ob) (Nat.pow_le_pow_right (by decide) hb)
 have hc:=smore_c h1 h2 h
 rw[hc,Nat.mul_zero,Nat.add_zero] at h
 exact h
end Tr
namespace Go.Proofs.YthklnbaddobieaaGreat
open Go.RowKit Tr
set_option maxRecDepth 100000 in
theorem smore_row(la lb:List Nat)(n m M:Nat)(hna:la.length=n)(hnb:lb.length=m)(hM:M=n∧¬n<m∨M=m∧n<m)(oa:WOk la)(ob:WOk lb)(va vb:Value)(w:World)(ha:WSl w va la)(hb:WSl w vb lb)(hn:M<549755813888) :
  Calls Tryz.prog 176 #[va,vb] w fun e w'=>∃ v,e=.returned v∧WSl w' v (words (wv la+wv lb))∧Below w.heap.size w w':=by
 have HA:=Lib.hid ha
 have HB:=Lib.hid hb
 obtain⟨pa,ca,rfl,hca,_⟩:=ha
 obtain⟨pb,cb,rfl,hcb,_⟩:=hb
 rw[hna] at HA ⊢
 rw[hnb] at HB ⊢
 have H:=Lib.hid (And.intro hna hnb)
 have hmk:=run_mk (M+1) (by omega)
 have en:((M+1:Nat):Int)=(M:Int)+1:=by omega
 rw[en] at hmk
 clear hna hnb en hca hcb
 rcases hM with⟨rfl,hlt⟩|⟨rfl,hlt⟩
 all_goals (
  go_enter Tryz.func176,Tryz.ntmps176
  go_wp2
  go_loopw [7,8] (fun c i wr=>∃(k cr:Nat) (out:List Nat),k≤M+1∧i=.int .i64 k∧c=.int .u64 cr∧cr≤1∧Hid (out.length=M+1)∧WOk out∧Hid (wv (out.take k)+4294967296 ^ k*cr=wv (la.take k)+wv (lb.take k))∧Blk wr w.heap.size out∧Below w.heap.size w wr)
   (fun _ i _=>M+1 - (intOf i).toNat)
  case atStart =>
   exact⟨0,0,List.replicate (M+1) 0,Nat.zero_le _,rfl,rfl,by omega,Lib.hid (by simp),wok_replicate _,Lib.hid (by simp[wv]),Blk.new _ _,br.alloc (Nat.le_refl _) _⟩
  case round =>
   obtain⟨k,cr,out,hk,rfl,rfl,hcr,hlo,oo,hinv,hblk,hB⟩:=hrel
   by_cases hlt2:k<M+1
   ·have c1:=hblk.cell (i:=k) (by have:=hlo.out; omega)
    have c2:=hblk.frozen k
    have bx:wat la k<4294967296:=wat_lt oa k
    have by_:wat lb k<4294967296:=wat_lt ob k
    have hx:=Lib.hid (sat_any la _ k wr oa (HA.out.below hB))
    have hy:=Lib.hid (sat_any lb _ k wr ob (HB.out.below hB))
    have e1:((cr:Int)+(wat la k:Nat)+(wat lb k:Nat)) % 4294967296=((cr+wat la k+wat lb k) % 4294967296:Nat):=by omega
    have e2:((cr:Int)+(wat la k:Nat)+(wat lb k:Nat)) / 4294967296=((cr+wat la k+wat lb k) / 4294967296:Nat):=by omega
    have E:=Lib.hid (And.intro e1 e2)
    have hst:=Lib.hid (more_step (by have:=hlo.out; omega) hinv.out)
    have hcr':(cr+wat la k+wat lb k) / 4294967296≤1:=by omega
    clear e1 e2
    go_wp2_with (first|(with_reducible refine hx.out.mono ?_; rintro e w' ⟨rfl,rfl⟩)|(with_reducible refine hy.out.mono ?_; rintro e w' ⟨rfl,rfl⟩))
    go_roundw
    case rel =>
     rw[E.out.1,E.out.2]
     exact⟨k+1,_,_,by omega,by go_num,rfl,hcr',Lib.hid (by have:=hlo.out; simpa using this),wok_set oo k _ (Nat.mod_lt _ (by decide)),hst,hblk.set k _,hB.setCell (p:=⟨w.heap.size,k,none⟩) (Nat.le_refl _) _⟩
    case measure=>simp[intOf]; omega
   ·obtain rfl:k=M+1:=by omega
    have hfin:=Lib.hid (smore_end hlo.out oa ob (by have:=H.out; omega) (by have:=H.out; omega) hinv.out)
    have hcut:=Lib.hid (scut_any out _ wr oo (hblk.wsl (k:=M+1) (cap:=M+1) (by have:=hlo.out; omega) (Nat.le_refl _) |> fun x=>by rwa[List.take_of_length_le (by have:=hlo.out; omega)] at x) (by have:=hlo.out; omega))
    go_wp2_with (refine hcut.out.mono ?_; rintro e w' ⟨v,rfl,hv,rfl⟩)
    go_ret
    exact⟨v,rfl,by rw[←hfin.out]; exact hv,hB⟩)
theorem smore_any(la lb:List Nat)(va vb:Value)(w:World)(oa:WOk la)(ob:WOk lb)(ha:WSl w va la)(hb:WSl w vb lb)(hn:la.length<549755813888)(hm:lb.length<549755813888) :
  Calls Tryz.prog 176 #[va,vb] w fun e w'=>∃ v,e=.returned v∧WSl w' v (words (wv la+wv lb))∧Below w.heap.size w w' :=
 smore_row la lb _ _ (max la.length lb.length) rfl rfl (by omega) oa ob va vb w ha hb (by omega)
theorem sless_word(x y c:Nat)(hx:x<4294967296)(hy:y<4294967296)(hc:c≤1):∃ d e:Nat,d<4294967296∧e≤1∧x+4294967296*e=d+y+c∧(4294967296+(x:Int) - (y:Int) - (c:Int)) % 4294967296=(d:Int)∧1 - (4294967296+(x:Int) - (y:Int) - (c:Int)) / 4294967296=(e:Int):=by
 by_cases h:y+c≤x
 ·exact⟨x - y - c,0,by omega,by omega,by omega,by omega,by omega⟩
 ·exact⟨4294967296+x - y - c,1,by omega,by omega,by omega,by omega,by omega⟩
set_option maxRecDepth 100000 in
theorem sless_any(la lb:List Nat)(va vb:Value)(w:World)(oa:WOk la)(ob:WOk lb)(hle:wv lb≤wv la)(hll:lb.length≤la.length)(ha:WSl w va la)(hb:WSl w vb lb)(hn:la.length<1099511627776) :
  Calls Tryz.prog 214 #[va,vb] w fun e w'=>∃ v,e=.returned v∧WSl w' v (words (wv la - wv lb))∧Below w.heap.size w w':=by
 have HA:=Lib.hid ha
 have HB:=Lib.hid hb
 obtain⟨n,hna⟩:∃ n,la.length=n:=⟨_,rfl⟩
 obtain⟨m,hnb⟩:∃ m,lb.length=m:=⟨_,rfl⟩
 obtain⟨pa,ca,rfl,hca,_⟩:=ha
 obtain⟨pb,cb,rfl,hcb,_⟩:=hb
 rw[hna] at HA ⊢ hn
 rw[hnb] at HB ⊢
 have H:=Lib.hid (And.intro hna (And.intro hnb (And.intro hle hll)))
 have hmk:=run_mk n (by omega)
 clear hna hnb hca hcb hle hll
 go_enter Tryz.func214,Tryz.ntmps214
 go_wp2
 go_loopw [6,7,8] (fun c i _ wr=>∃(k cr:Nat) (out:List Nat),k≤n∧i=.int .i64 k∧c=.int .u64 cr∧cr≤1∧Hid (out.length=n)∧WOk out∧Hid (wv (out.take k)+wv (lb.take k)=wv (la.take k)+4294967296 ^ k*cr)∧Blk wr w.heap.size out∧Below w.heap.size w wr)
  (fun _ i _ _=>n - (intOf i).toNat)
 case atStart =>
  exact⟨0,0,List.replicate n 0,Nat.zero_le _,rfl,rfl,by omega,Lib.hid (by simp),wok_replicate _,Lib.hid (by simp[wv]),Blk.new _ _,br.alloc (Nat.le_refl _) _⟩
 case round =>
  obtain⟨k,cr,out,hk,rfl,rfl,hcr,hlo,oo,hinv,hblk,hB⟩:=hrel
  by_cases hlt2:k<n
  ·have c1:=hblk.cell (i:=k) (by have:=hlo.out; omega)
   have c2:=hblk.frozen k
   have bx:wat la k<4294967296:=wat_lt oa k
   have by_:wat lb k<4294967296:=wat_lt ob k
   have hx:=Lib.hid (sat_any la _ k wr oa (HA.out.below hB))
   have hy:=Lib.hid (sat_any lb _ k wr ob (HB.out.below hB))
   obtain⟨d,e,hd,he,hde,e1,e2⟩:=sless_word (wat la k) (wat lb k) cr bx by_ hcr
   have E:=Lib.hid (And.intro e1 e2)
   have hst:=Lib.hid (less_step (d:=d) (e:=e) (by have:=hlo.out; omega) hde hinv.out)
   clear e1 e2 hde
   go_wp2_with (first|(with_reducible refine hx.out.mono ?_; rintro e w' ⟨rfl,rfl⟩)|(with_reducible refine hy.out.mono ?_; rintro e w' ⟨rfl,rfl⟩))
   go_roundw
   case rel =>
    rw[E.out.1,E.out.2]
    exact⟨k+1,_,_,by omega,by go_num,rfl,he,Lib.hid (by have:=hlo.out; simpa using this),wok_set oo k _ hd,hst,hblk.set k _,hB.setCell (p:=⟨w.heap.size,k,none⟩) (Nat.le_refl _) _⟩
   case measure=>simp[intOf]; omega
  ·obtain rfl:k=n:=by omega
   have hfin:=Lib.hid (less_end hlo.out oo H.out.1 (by have:=H.out; omega) H.out.2.2.1 hinv.out)
   have hcut:=Lib.hid (scut_any out _ wr oo (hblk.wsl (k:=k) (cap:=k) (by have:=hlo.out; omega) (Nat.le_refl _) |> fun x=>by rwa[List.take_of_length_le (by have:=hlo.out; omega)] at x) (by have:=hlo.out; omega))
   go_wp2_with (refine hcut.out.mono ?_; rintro e w' ⟨v,rfl,hv,rfl⟩)
   go_ret
   exact⟨v,rfl,by rw[←hfin.out]; exact hv,hB⟩
end Go.Proofs.YthklnbaddobieaaGreat
namespace Tr
theorem left_step{la l:List Nat}{q k s cr t:Nat}(hl:l.length=q+k)(ht:t=cr+la[k]?.getD 0*2 ^ s)(h:wv l+4294967296 ^ (q+k)*cr=4294967296 ^ q*(wv (la.take k)*2 ^ s)) :
  wv (l++[t % 4294967296])+4294967296 ^ (q+(k+1))*(t / 4294967296)=4294967296 ^ q*(wv (la.take (k+1))*2 ^ s):=by
 have h2:=mul_split (4294967296 ^ (q+k)) t
 rw[wv_snoc,hl,wv_take_wat,show q+(k+1)=q+k+1 by omega,Nat.pow_succ,Nat.add_mul,Nat.mul_add,←h]
 have h3:4294967296 ^ q*(4294967296 ^ k*wat la k*2 ^ s)=4294967296 ^ (q+k)*(wat la k*2 ^ s):=by
  rw[Nat.pow_add]; simp only[Nat.mul_assoc]
 have h4:4294967296 ^ (q+k)*t=4294967296 ^ (q+k)*cr+4294967296 ^ (q+k)*(wat la k*2 ^ s):=by rw[ht,Nat.mul_add]; rfl
 rw[h3]
 omega
theorem left_end{la l:List Nat}{q n s N cr:Nat}(hl:l.length=q+n)(hn:la.length=n)(hq:N / 32=q)(hs:N % 32=s)(h:wv l+4294967296 ^ (q+n)*cr=4294967296 ^ q*(wv (la.take n)*2 ^ s)) :
  wv (l++[cr])=wv la*2 ^ N:=by
 rw[List.take_of_length_le (by omega)] at h
 have e:(2:Nat) ^ N=4294967296 ^ q*2 ^ s:=by
  rw[show(4294967296:Nat)=2 ^ 32 by decide,←Nat.pow_mul,←Nat.pow_add]; congr 1; omega
 rw[wv_snoc,hl,h,e]
 simp only[Nat.mul_left_comm]
end Tr
namespace Go.Proofs.YthklnbaddobieaaGreat
open Go.RowKit Tr
theorem run_mk2(l c:Nat)(hl:l≤c)(hn:c<4398046511104)(w:World):(Instr.makeSlice 129 (.int .i64 (l:Int)) (.int .i64 (c:Int))).run Tryz.prog w
  = .ok (.slice (some ⟨w.heap.size,0,none⟩) l c) (w.alloc (.cells (encW (List.replicate c 0)) 192)):=by
 obtain⟨i,hi,hz,hs,hb⟩:=info_parts info_u32
 have:=run_make (P:=Tryz.prog) w 129 192 i (.int .u32 0) Tryz.underlying129 hi hz .i64 .i64 l c (by omega) (by omega) (by rw[hb]; omega) (by omega)
 rw[this,hs,Int.toNat_natCast,Int.toNat_natCast,made_encW]
def Own(w:World)(B m:Nat)(l:List Nat)(cap:Nat):Prop:=w.ownsRow B 192 1 (.slice (some ⟨B,0,none⟩) m cap) m (l.map fun x:Nat=>Value.int .u32 (x:Int))
theorem Own.length{w:World}{B m cap:Nat}{l:List Nat}(h:Own w B m l cap):l.length=m:=by
 have:=h.1; simpa using this
theorem Own.new(w:World)(k c:Nat)(hk:k≤c)(hc:c<4398046511104):Own (w.alloc (.cells (encW (List.replicate c 0)) 192)) w.heap.size k (List.replicate k 0) c:=by
 refine⟨by simp,.inr ⟨w.heap.size,c,_,by simp,Nat.le_refl _,heap_alloc_new w _,by simpa using hk,by unfold maxLen; omega,by simp[encW],?_⟩⟩
 simp[encW,List.take_replicate,Nat.min_eq_left hk]
theorem Own.wsl{w:World}{B m cap:Nat}{l:List Nat}(h:Own w B m l cap):WSl w (.slice (some ⟨B,0,none⟩) m cap) l:=by
 have h0:=h.length
 obtain⟨h1,h2|⟨g,cap',cur,h2,h3,h4,h5,h6,h7,h8⟩⟩:=h
 ·simp at h2
 ·simp at h2
  obtain⟨rfl,rfl⟩:=h2
  refine⟨some ⟨B,0,none⟩,cap,by rw[h0],by omega,fun _=>⟨B,0,rfl,(Array.getElem?_eq_some_iff.1 h4).1,fun j hj=>?_⟩⟩
  have h9:(cur.toList.take (m*1))[j]?=some (.int .u32 (l[j]?.getD 0:Nat)):=by rw[h8]; simp[hj]
  rw[List.getElem?_take_of_lt (by omega)] at h9
  simp at h9
  simp[World.cell?,h4,h9]
theorem Own.more{w:World}{B m cap x:Nat}{l:List Nat}(h:w.ownsRow B 192 1 (.slice (some ⟨B,0,none⟩) (m+1) cap) (m+1) ((l.map fun x:Nat=>Value.int .u32 (x:Int))++[.int .u32 (x:Int)])):Own w B (m+1) (l++[x]) cap:=by
 unfold Own; simpa using h
theorem or_low{x y k:Nat}(hy:y<2 ^ k)(h:y+x*2 ^ k<18446744073709551616):bits BinOp.or .u64 (y:Int) (IntKind.u64.wrap ((x:Int)*2 ^ k))=((y+x*2 ^ k:Nat):Int):=by
 have e:IntKind.u64.wrap ((x:Int)*2 ^ k)=((x*2 ^ k:Nat):Int):=by
  have:((x*2 ^ k:Nat):Int)=(x:Int)*2 ^ k:=by simp
  rw[←this]
  show((x*2 ^ k:Nat):Int) % 18446744073709551616=_
  omega
 rw[e,bits_or_u64_nat _ _ (by omega) (by omega),Nat.or_comm,Nat.mul_comm,←Nat.two_pow_add_eq_or_of_lt hy,Nat.add_comm]
theorem left_walk(la:List Nat)(n N q s:Nat)(hna:la.length=n)(oa:WOk la)(hq:N / 32=q)(hs:N % 32=s)(pa:Option Addr)(ca:Nat)(w:World)(ha:Row w pa la)(hn:n<549755813888)(hN:N<1099511627776) :
  Calls Tryz.prog 151 #[.slice pa n ca,.int .i64 N] w fun e w'=>∃ v,e=.returned v∧WSl w' v (words (wv la*2 ^ N))∧Below w.heap.size w w':=by
 have H:=Lib.hid hna
 have HA:=Lib.hid ha
 have hmk:=run_mk2 q (q+n+1) (by omega) (by omega)
 have en:((q+n+1:Nat):Int)=(q:Int)+n+1:=by omega
 rw[en] at hmk
 have e1:(N:Int).tdiv 32=(q:Int):=by rw[Int.tdiv_eq_ediv_of_nonneg (by omega)]; omega
 clear ha hna en
 go_enter Tryz.func151,Tryz.ntmps151
 go_wp2_with fail
 go_loopw [5,6,8,20] (fun v c _ i wr=>∃(k cr:Nat) (l:List Nat),k≤n∧i=.int .i64 k∧c=.int .u64 cr∧cr<2 ^ s∧v=.slice (some ⟨w.heap.size,0,none⟩) (q+k) (q+n+1)∧WOk l∧Hid (wv l+4294967296 ^ (q+k)*cr=4294967296 ^ q*(wv (la.take k)*2 ^ s))∧Own wr w.heap.size (q+k) l (q+n+1)∧Below w.heap.size w wr)
  (fun _ _ _ i _=>n - (intOf i).toNat)
 case atStart =>
  exact⟨0,0,List.replicate q 0,Nat.zero_le _,rfl,rfl,Nat.two_pow_pos s,rfl,wok_replicate _,Lib.hid (by rw[wv_replicate]; simp[wv]),Own.new _ _ _ (by omega) (by omega),br.alloc (Nat.le_refl _) _⟩
 case round =>
  obtain⟨k,cr,l,hk,rfl,rfl,hcr,rfl,ol,hinv,hown,hB⟩:=hrel
  by_cases hlt2:k<n
  ·obtain⟨b,off,rfl,hbs,hcl⟩:=HA.out (by intro h; have:=H.out; rw[h] at this; simp at this; omega)
   have c0:=(hB.cell (p:=⟨b,off+k,none⟩) hbs).trans (hcl k (by have:=H.out; omega))
   have bx:la[k]?.getD 0<4294967296:=wat_lt oa k
   have e2:(N:Int).tmod 32=(s:Int):=by rw[Int.tmod_eq_emod_of_nonneg (by omega)]; omega
   have hs32:s<32:=by omega
   have hp:(2:Nat) ^ s≤2 ^ 31:=Nat.pow_le_pow_right (by decide) (by omega)
   obtain⟨t,ht⟩:∃ t:Nat,t=cr+la[k]?.getD 0*2 ^ s:=⟨_,rfl⟩
   have ht1:t<4294967296*2 ^ s:=by
    have:(la[k]?.getD 0+1)*2 ^ s≤4294967296*2 ^ s:=Nat.mul_le_mul_right _ bx
    rw[Nat.add_mul] at this
    omega
   have ht2:t<18446744073709551616:=by omega
   have hor:=or_low (x:=la[k]?.getD 0) hcr (by omega)
   rw[←ht] at hor
   have hcr2:t / 4294967296<2 ^ s:=Nat.div_lt_of_lt_mul ht1
   have hst:=Lib.hid (left_step (la:=la) hown.length ht hinv.out)
   obtain⟨i0,hi,hz0,hz1,hz2⟩:=info_parts info_u32
   have HE:Hid ((t:Int) % 4294967296=((t % 4294967296:Nat):Int)):=Lib.hid (by omega)
   clear hcl ht ht1
   go_wp2_with (first|(at_builtin; rw[HE.out]; refine wpList_append_fits _ rfl (.tmp 31) (.tmp 34) 129 rfl w.heap.size 192 i0 1 Tryz.underlying129 hi hz1 w.heap.size (q+k) (q+n+1) _ rfl (hown.alloc _) ⟨wr.heap.size,0,none⟩ 1 1 [.int .u32 ((t % 4294967296:Nat):Int)] rfl rfl (cell_one_new _ _ _) (ints_oneCell .u32 [((t % 4294967296:Nat):Int)]) (by omega) ?_; intro w4 hown4 hgrow4))
   have hB4:Below w.heap.size w w4:=(hB.alloc hB.size _).grown hgrow4 (by have:=hB.size; simp; omega) (fun k e=>by cases e; exact Nat.le_refl _)
   refine⟨⟨k+1,_,l++[t % 4294967296],by omega,by go_num,rfl,hcr2,rfl,?_,hst,Own.more hown4,hB4⟩,?_⟩
   ·rw[wok_append]; exact⟨ol,by rw[wok_cons]; exact⟨Nat.mod_lt _ (by decide),wok_nil⟩⟩
   ·simp[intOf]; omega
  ·obtain rfl:n=k:=by omega
   have hp:(2:Nat) ^ s≤2 ^ 31:=Nat.pow_le_pow_right (by decide) (by omega)
   have hcr2:cr<4294967296:=by omega
   have hfin:=Lib.hid (left_end hown.length H.out hq hs hinv.out)
   have ol2:WOk (l++[cr]):=by rw[wok_append]; exact⟨ol,by rw[wok_cons]; exact⟨hcr2,wok_nil⟩⟩
   obtain⟨i0,hi,hz0,hz1,hz2⟩:=info_parts info_u32
   go_wp2_with (first
    | (at_builtin; refine wpList_append_fits _ rfl (.tmp 39) (.tmp 42) 129 rfl w.heap.size 192 i0 1 Tryz.underlying129 hi hz1 w.heap.size (q+n) (q+n+1) _ rfl (hown.alloc _) ⟨wr.heap.size,0,none⟩ 1 1 [.int .u32 (cr:Int)] rfl rfl (cell_one_new _ _ _) (ints_oneCell .u32 [(cr:Int)]) (by omega) ?_; intro w4 hown4 hgrow4; have hW:=(Own.more hown4).wsl)
    | (go_at_call 201; refine(cut_any _ _ _ ol2 hW (by rw[List.length_append,hown.length]; simp; omega)).mono ?_; rintro e w' ⟨v,rfl,hv,rfl⟩))
   go_ret
   have hB4:Below w.heap.size w w4:=(hB.alloc hB.size _).grown hgrow4 (by have:=hB.size; simp; omega) (fun k e=>by cases e; exact Nat.le_refl _)
   exact⟨v,rfl,by rw[hfin.out] at hv; exact hv,hB4⟩
theorem left_any(la:List Nat)(N:Nat)(va:Value)(w:World)(oa:WOk la)(ha:WSl w va la)(hn:la.length<549755813888)(hN:N<1099511627776) :
  Calls Tryz.prog 151 #[va,.int .i64 N] w fun e w'=>∃ v,e=.returned v∧WSl w' v (words (wv la*2 ^ N))∧Below w.heap.size w w':=by
 obtain⟨pa,ca,rfl,hca,ha⟩:=ha
 exact left_walk la _ N _ _ rfl oa rfl rfl pa ca w ha hn hN
end Go.Proofs.YthklnbaddobieaaGreat
