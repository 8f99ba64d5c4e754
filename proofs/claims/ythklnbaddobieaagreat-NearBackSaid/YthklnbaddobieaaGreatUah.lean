/- Laws for the walk. -/
import Derived.Test.YthklnbaddobieaaGreatUag
set_option linter.unusedVariables false
set_option maxHeartbeats 4000000
namespace Go.Proofs.YthklnbaddobieaaGreat
open Go.RowKit Tr
theorem cmp_lt{a b:Nat}(h:a<b):cmpZ a b<0:=by unfold cmpZ; rw[if_pos h]; decide
theorem words_one{b:Nat}(h:(words b).length=1):b<4294967296∧words b=[b]:=by
 have h1:=lt_words b
 rw[h] at h1
 have h2:b<4294967296:=by simpa using h1
 refine⟨h2,?_⟩
 have h0:b≠0:=by intro h0; rw[h0,words_zero] at h; simp at h
 rw[words_pos h0,Nat.mod_eq_of_lt h2,Nat.div_eq_of_lt h2,words_zero]
theorem wsl_lit(w:World)(x:Nat):Blk (w.alloc (.cells #[.int .u32 (x:Int)] 192)) w.heap.size [x]:=Blk.new w [x]
set_option maxRecDepth 100000 in
theorem divide_less(a b:Nat)(va vb:Value)(w:World)(ha:WSl w va (words a))(hb:WSl w vb (words b))(hab:a<b)(hn:(words a).length<274877906944) :
  Calls Tryz.prog 152 #[va,vb] w fun e w'=>∃ v1 v2,e=.returned (.tuple #[v1,v2])∧WSl w' v1 (words (a / b))∧WSl w' v2 (words (a % b))∧Below w.heap.size w w':=by
 have HN:=Lib.hid hn
 have HA:=Lib.hid (And.intro ha hb)
 obtain⟨z,hz⟩:∃ z,z=cmpZ a b:=⟨_,rfl⟩
 have hz0:z<0:=by rw[hz]; exact cmp_lt hab
 have HU:=Lib.hid (fun(w:World) ha hb=>by have:=under_any a b va vb w ha hb (by omega); rw[←hz] at this; exact this)
 obtain⟨pa,ca,rfl,hca,hra⟩:=ha
 have HD:=Lib.hid hab
 clear hz hab hra hca hn
 go_enter Tryz.func152,Tryz.ntmps152
 go_wp2_with (go_at_call 154; refine(HU.out _ HA.out.1 HA.out.2).mono ?_; rintro e w' ⟨rfl,d,rfl⟩)
 go_ret2
 refine⟨_,_,rfl,?_,?_,below_drewN br d⟩
 ·rw[Nat.div_eq_of_lt HD.out,words_zero]; exact WSl.nil _
 ·rw[Nat.mod_eq_of_lt HD.out]; exact HA.out.1.drewN d
set_option maxRecDepth 100000 in
theorem divide_word(a b:Nat)(va vb:Value)(w:World)(ha:WSl w va (words a))(hb:WSl w vb (words b))(hab:b≤a)(h1:(words b).length=1)(hn:(words a).length<274877906944) :
  Calls Tryz.prog 152 #[va,vb] w fun e w'=>∃ v1 v2,e=.returned (.tuple #[v1,v2])∧WSl w' v1 (words (a / b))∧WSl w' v2 (words (a % b))∧Below w.heap.size w w':=by
 have HN:=Lib.hid hn
 have HA:=Lib.hid (And.intro ha hb)
 obtain⟨z,hz⟩:∃ z,z=cmpZ a b:=⟨_,rfl⟩
 have hz0:¬z<0:=by rw[hz]; exact cmp_ge hab
 have HU:=Lib.hid (fun(w:World) ha hb=>by have:=under_any a b va vb w ha hb (by omega); rw[←hz] at this; exact this)
 obtain⟨hb32,hbw⟩:=words_one h1
 have hb0:0<b:=by
  rcases Nat.eq_zero_or_pos b with h|h
  ·rw[h,words_zero] at h1; simp at h1
  ·exact h
 obtain⟨pb,cb,rfl,hcb,hrb⟩:=hb
 obtain⟨bb,ob,rfl,hbb,hcell⟩:=hrb (by rw[hbw]; simp)
 have c0:=hcell 0 (by rw[h1]; omega)
 rw[hbw] at c0
 simp only[List.getElem?_cons_zero,Option.getD_some,Nat.add_zero] at c0
 rw[h1] at HA HU ⊢
 have hsh:=fun(w:World) (ha:WSl w va (words a))=>short_any (words a) b va w (wok_words a) hb0 hb32 ha (by omega)
 have hr32:a % b<4294967296:=Nat.lt_trans (Nat.mod_lt _ hb0) hb32
 rw[wv_words] at hsh
 have HS:=Lib.hid hsh
 obtain⟨r,hr⟩:∃ r,r=a % b:=⟨_,rfl⟩
 have hw1:wv [r]=r:=by simp[wv]
 have hcut:=fun(w:World)=>cut_any [r] _ _ (by rw[wok_cons]; exact⟨by omega,wok_nil⟩) ((wsl_lit w r).wsl (k:=1) (cap:=1) (by simp) (by omega)) (by simp)
 rw[hw1] at hcut
 rw[←hr] at HS ⊢
 have HC:=Lib.hid hcut
 clear hz hab hrb hcb hn hcell hbw h1 hr hcut hw1 ha hsh
 go_enter Tryz.func152,Tryz.ntmps152
 go_wp2_with (first
  | (go_at_call 154; refine(HU.out _ HA.out.1 HA.out.2).mono ?_; rintro e w' ⟨rfl,d,rfl⟩)
  | (go_at_call 202; refine(HS.out _ (HA.out.1.drewN d)).mono ?_; rintro e w' ⟨v,rfl,hv,hb1⟩)
  | (go_at_call 201; refine(HC.out _).mono ?_; rintro e w' ⟨v2,rfl,hv2,rfl⟩))
 go_ret2
 refine⟨_,_,rfl,hv.below (br.alloc (Nat.le_refl _) _),hv2,?_⟩
 have h9:=(below_drewN (Below.refl w.heap.size w) d).trans (hb1.mono (by simp))
 exact h9.alloc h9.size _
theorem divide_any(a b:Nat)(va vb:Value)(w:World)(ha:WSl w va (words a))(hb:WSl w vb (words b))(hb0:0<b)(hn:(words a).length<274877906944) :
  Calls Tryz.prog 152 #[va,vb] w fun e w'=>∃ v1 v2,e=.returned (.tuple #[v1,v2])∧WSl w' v1 (words (a / b))∧WSl w' v2 (words (a % b))∧Below w.heap.size w w':=by
 by_cases hab:a<b
 ·exact divide_less a b va vb w ha hb hab hn
 ·by_cases h1:(words b).length=1
  ·exact divide_word a b va vb w ha hb (by omega) h1 hn
  ·have h2:2≤(words b).length:=by
    have:words b≠[]:=by intro h; have:=words_eq_nil.1 h; omega
    have:=List.length_pos_iff.2 this
    omega
   obtain⟨pa,ca,rfl,hra⟩:=ha
   obtain⟨pb,cb,rfl,hrb⟩:=hb
   exact divide_long a b _ _ rfl rfl h2 (by omega) pa pb ca cb w ⟨pa,ca,rfl,hra⟩ ⟨pb,cb,rfl,hrb⟩ hn
end Go.Proofs.YthklnbaddobieaaGreat
