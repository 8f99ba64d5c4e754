/- Laws for the walk. -/
import Derived.Test.YthklnbaddobieaaGreatUat
import Derived.Great.BuildSlice
import Derived.Laws.MakeOwn
set_option linter.unusedVariables false
set_option maxHeartbeats 4000000
namespace Tr
open Go Go.RowKit
section
variable{T:Nat→Fact}{cx:Cx}{A0 M:Nat→Prop}{w0:World}{σs:Sg}{σ:Sg}{s:AS}{a:Act}{w:World}{P:Program}{Q:Exit→Act→World→Prop}
theorem compute_sound(C:CxOk P T cx){new len:Nat}{o:Oper}{sl:Nat→AV}{bl:Nat→Option BK}{e:Eff}(R:Rel T cx A0 M w0 σs σ s a w)(hsl:∀ t,sl t=.junk∨sl t=s.tmps.getD t .undf)
  (hbl:∀ b k,bl b=some k→s.blocks[b]?=some k) (hlen:len=s.blocks.length) (hc:compute cx new len o sl bl=some e) {K:Act→World→Prop} (hK:∀ σ' a' w',Rel T cx A0 M w0 σs σ' (s.put o.dst e) a' w'→K a' w'):o.wp P a w K Q:=by
 have ht:=C.table
 obtain⟨dst,op,ty,pos,after,guard⟩:=o
 cases op
 case move x =>
  simp only[compute,Option.some.injEq] at hc
  subst hc
  exact wp_value (v:=a.eval x) rfl (hK _ _ _ (R.val (R.operand hsl x) _))
 case assign x =>
  simp only[compute,Option.some.injEq] at hc
  subst hc
  exact wp_value (v:=a.eval x) rfl (hK _ _ _ (R.val (R.operand hsl x) _))
 case pick c x y =>
  simp only[compute] at hc
  split at hc
  ·rename_i t h1
   cases hc
   have hv:=AV.bool_ok h1 (R.operand hsl c)
   refine wp_value (v:=if t then a.eval x else a.eval y) ?_ (hK _ _ _ (R.val ?_ _))
   ·simp[execOp,hv,asBool]
   ·cases t
    ·exact R.operand hsl y
    ·exact R.operand hsl x
  ·cases hc
 case alloc t =>
  simp only[compute] at hc
  split at hc
  ·rename_i i h1 h2
   split at hc
   ·rename_i hok
    cases hc
    obtain⟨ti,z,d,g1,g2,g3,g4,g5,g6,_⟩:=good_spec (show i.good P t=true from C.tys _ (lookT_mem h1))
    obtain⟨σ',R'⟩:=R.fresh ht (hbl _ _ h2) (ty:=t) (oks_lits i.zero) hok (av:=.r (.c (.own new 0))) (v:=.pointer (some ⟨w.heap.size,0,none⟩)) (fun σ' h=>⟨_,h,rfl⟩) dst
    refine wp_value (v:=.pointer (some ⟨w.heap.size,0,none⟩)) ?_ (hK _ _ _ R')
    have hz:z.cells=(i.zero.map LV.val).toArray:=by rw[←g5]
    simp[execOp,Instr.alloc,zeroValue,typeInfo,g1,g4,newVar,newRow,hz]
   ·cases hc
  ·cases hc
 case box t x =>
  simp only[compute] at hc
  split at hc
  ·rename_i ar h1 h2
   split at hc
   ·rename_i hok
    cases hc
    obtain⟨vs,e1,e2⟩:=(AV.ar_ok h1 (R.operand hsl x)).cells ht
    obtain⟨σ',R'⟩:=R.fresh ht (hbl _ _ h2) (ty:=t) e2 hok (av:=.r (.c (.own new 0))) (v:=.pointer (some ⟨w.heap.size,0,none⟩)) (fun σ' h=>⟨_,h,rfl⟩) dst
    refine wp_value (v:=.pointer (some ⟨w.heap.size,0,none⟩)) ?_ (hK _ _ _ R')
    simp[execOp,Instr.box,newVar,newRow,e1]
   ·cases hc
  ·cases hc
 case build t ps =>
  simp only[compute] at hc
  split at hc
  ·rename_i i parts h1 h2
   split at hc
   ·rename_i hag
    split at hc
    ·rename_i cs h3
     cases hc
     obtain⟨ti,z,d,g1,g2,g3,g4,g5,g6,g7⟩:=good_spec (show i.good P t=true from C.tys _ (lookT_mem h1))
     rw[hag] at g6
     have hp:=partsA_ok ht R hsl h2
     have hz:z.cells=(i.zero.map LV.val).toArray:=by rw[←g5]
     have hbuilt:∃ us,P.built t (ps.map fun(p:Nat×Operand)=>(p.1,a.eval p.2)).toList=some (List.toArray us)∧oks T σ cs us w (Al A0 σ s.blocks):=by
      unfold Program.built
      rw[g1,g2]
      cases d<;>simp only[isAggD] at g6<;>try (cases g6; done)
      case array n el =>
       simp only[Bool.and_eq_true] at g7
       have g8:=g7.2
       cases ha:i.arr with
       | none=>simp[ha] at g8
       | some mk =>
        obtain⟨m,k,ek⟩:=mk
        cases hi:P.info? el with
        | none=>simp[ha,hi] at g8
        | some ie =>
         simp[ha,hi] at g8
         have hf:=fill_ok (place:=i.place) (place':=fun j=>some (j*ie.size,ie.size)) (fun j=>by simp[TyI.place,ha,g8.1.2]) hp h3 (oks_lits (T:=T) (σ:=σ) (w:=w) (A:=Al A0 σ s.blocks) i.zero)
         rw[←hz] at hf
         simp only[g4,hi]
         simpa using hf
      case struct fs =>
       simp only[Bool.and_eq_true,beq_iff_eq] at g7
       simp only[g4,fieldsOk_places g7.1]
       rw[hz]
       refine fill_ok (place:=i.place) (fun j=>?_) (by simpa using hp) h3 (oks_lits _)
       simp[TyI.place,g7.2]
     obtain⟨us,hb,hu⟩:=hbuilt
     refine wp_value (v:=.agg us.toArray) ?_ (hK _ _ _ (R.val (av:=.r (.row cs)) ⟨us,rfl,hu⟩ _))
     simp[execOp,run_build w t _ _ hb]
    ·cases hc
   ·cases hc
  ·cases hc
 case load t x =>
  simp only[compute] at hc
  split at hc
  ·rename_i i b off h1 h2
   obtain⟨ti,z,d,g1,g2,g3,g4,g5,g6,_⟩:=good_spec (show i.good P t=true from C.tys _ (lookT_mem h1))
   obtain⟨n,e1,e2⟩:=AV.own_ok h2 (R.operand hsl x)
   have hread:∀ ab:AB,(bl b=some (.live ab)∨bl b=some (.lent ab))→∃ vs rest:List Value,w.heap[n]?=some (.cells (vs++rest).toArray ab.ty (0,0))∧oks T σ ab.cells vs w (Al A0 σ s.blocks):=fun ab h=>by
    rcases h with h|h
    ·obtain⟨n',k1,k2,vs,rest,k3,k4,_⟩:=R.blocks b ab (hbl _ _ h)
     rw[e1] at k1; cases k1
     exact⟨vs,rest,k3,k4⟩
    ·obtain⟨n',k1,k2,vs,rest,k3,k4,_⟩:=R.lent b ab (hbl _ _ h)
     rw[e1] at k1; cases k1
     exact⟨vs,rest,k3,k4⟩
   have hdo:∀ ab:AB,(bl b=some (.live ab)∨bl b=some (.lent ab))→(if i.agg then(if decide (off+i.size≤ab.cells.length) then some (⟨.r (.row ((ab.cells.drop off).take i.size)),[]⟩:Eff) else none) else(match ab.cells[off]? with|some c=>some ⟨.r (.c c),[]⟩|none=>none))=some e→Oper.wp P { dst,op:=.load t x,type:=ty,pos,after,guard } a w K Q:=fun ab h3 hc=>by
    obtain⟨vs,rest,k3,k4⟩:=hread ab h3
    split at hc
    ·rename_i hag
     rw[hag] at g6
     split at hc
     ·rename_i hle
      cases hc
      have hle:=of_decide_eq_true hle
      have hl:=k4.length
      refine wp_value (v:=.agg ((vs.drop off).take i.size).toArray) ?_ (hK _ _ _ (R.val (av:=.r (.row ((ab.cells.drop off).take i.size))) ⟨_,rfl,(k4.drop off).take i.size⟩ _))
      have hpre:(List.take i.size (List.drop off (vs++rest)))=List.take i.size (List.drop off vs):=by
       rw[List.drop_append_of_le_length (by omega),List.take_append_of_le_length (by simp; omega)]
      have:=run_loadVar_part (P:=P) w n off ab.ty t (vs++rest).toArray ((vs.drop off).take i.size).toArray (0,0) d k3 g2 (by cases d<;>first|rfl|(cases g6; done)) (by rw[g1]; simp[g3]; omega) (by
       have:(List.take i.size (List.drop off vs)).length=i.size:=by simp; omega
       simp only[List.size_toArray,this]
       exact hpre)
      simp[execOp,e2,Instr.loadAt,Instr.sureAddr,this]
     ·cases hc
    ·rename_i hag
     split at hc
     ·rename_i c h4
      cases hc
      obtain⟨v,k6,k7⟩:=k4.get h4
      refine wp_value (v:=v) ?_ (hK _ _ _ (R.val (av:=.r (.c c)) k7 _))
      have hcell:w.cell? ⟨n,off,none⟩=some v:=by
       rw[cell_of_row w n off _ _ _ k3]
       have hlt:=(List.getElem?_eq_some_iff.1 k6).1
       simp only[List.getElem?_toArray,List.getElem?_append_left hlt,k6]
      have hag':isAggD d=false:=by rw[g6]; simpa using hag
      simp[execOp,e2,Instr.loadAt,Instr.sureAddr,loadVar,run_isAgg g2,hag',hcell]
     ·cases hc
   split at hc
   ·rename_i ab h3; exact hdo ab (.inl h3) hc
   ·rename_i ab h3; exact hdo ab (.inr h3) hc
   ·cases hc
  ·cases hc
 case store t x y =>
  simp only[compute] at hc
  split at hc
  ·rename_i i b off ar h1 h2 h2'
   obtain⟨ti,z,d,g1,g2,g3,g4,g5,g6,_⟩:=good_spec (show i.good P t=true from C.tys _ (lookT_mem h1))
   obtain⟨n,e1,e2⟩:=AV.own_ok h2 (R.operand hsl x)
   obtain⟨us,e3,e4⟩:=(AV.ar_ok h2' (R.operand hsl y)).cells ht
   split at hc
   ·rename_i ab h3
    obtain⟨n',k1,k2,vs,rest,k3,k4,k5,k6,k7,k8⟩:=R.blocks b ab (hbl _ _ h3)
    rw[e1] at k1; cases k1
    split at hc
    ·rename_i hcond
     simp only[Bool.and_eq_true,beq_iff_eq,decide_eq_true_eq] at hcond
     obtain⟨⟨c1,c2⟩,c3⟩:=hcond
     cases hc
     have hl:=k4.length
     have hlu:=e4.length
     have hst:=run_storeCells_at P n off ab.ty us 0 (vs++rest).toArray w k3 (by simp; omega) (e4.one ht)
     simp only[Nat.add_zero] at hst
     have hok:okCells cx (over ab.cells off ar.cells)=true:=by
      unfold okCells at k5 c3 ⊢
      cases hh:cx.hp
      ·simp
      ·simp only[hh,Bool.not_true,Bool.false_or,List.all_eq_true] at k5 c3 ⊢
       intro c hcm
       unfold over at hcm
       rcases List.mem_append.1 hcm with hcm|hcm
       ·rcases List.mem_append.1 hcm with hcm|hcm
        ·exact k5 c (List.mem_of_mem_take hcm)
        ·exact c3 c hcm
       ·exact k5 c (List.mem_of_mem_drop hcm)
     have hover:(vs++rest).toArray.toList.take off++us++(vs++rest).toArray.toList.drop (off+us.length)=over vs off us++rest:=by
      unfold over
      rw[List.toList_toArray,List.take_append_of_le_length (by omega),List.drop_append_of_le_length (by omega),List.append_assoc,List.append_assoc,List.append_assoc]
     rw[hover] at hst
     have hov:(over vs off us).length=vs.length:=by unfold over; simp; omega
     have R':=R.write ht (hbl _ _ h3) e1 (ab':={ ab with cells:=over ab.cells off ar.cells }) (w':=w.setRow n (over vs off us++rest).toArray)
      (fun hk=>⟨over vs off us,rest,setRow_heap w n _ _ _ _ k3,(oks_over k4 e4 off).keep ht (Sub.refl _) hk,hok,k6,k7,by
       show(match ab.more with|none=>rest=[]|some es=>(over vs off us++rest).length=σ.room b*es)
       cases hm:ab.more with
       | none=>rw[hm] at k8; exact k8
       | some es=>rw[hm] at k8; simp only[List.length_append,hov] at k8 ⊢; exact k8⟩)
      (fun k hk=>setRow_other w n k _ hk) (by simp) ⟨rfl,rfl,rfl⟩ dst
     refine wp_skipped ?_ (hK _ _ _ R')
     have hsz:us.length=ti.size:=by omega
     simp[execOp,e2,Instr.storeAt,Instr.sureAddr,storeVar,Go.sizeOf,typeInfo,g1,e3,hsz,hst]
    ·cases hc
   ·cases hc
  ·cases hc
 case buildSlice t n ps =>
  simp only[compute] at hc
  split at hc
  ·rename_i i parts h1 h2 h2'
   have hgd:i.good P t=true:=C.tys _ (lookT_mem h1)
   split at hc
   ·rename_i m es e hag har
    obtain⟨hu,hes⟩:=good_slice hgd hag har
    split at hc
    ·rename_i ie h4
     split at hc
     ·rename_i hcond
      simp only[Bool.and_eq_true,decide_eq_true_eq,beq_iff_eq] at hcond
      obtain⟨⟨⟨c1,c2⟩,c3⟩,hlen⟩:=hcond
      split at hc
      ·rename_i cs h5
       split at hc
       ·rename_i hok
        cases hc
        obtain⟨ti,z,d,g1,g2,g3,g4,g5,g6,_⟩:=good_spec (show ie.good P e=true from C.tys _ (lookT_mem h4))
        have hp:=partsA_ok ht R hsl h2
        obtain⟨us,e1,e2⟩:=fill_ok (place:=fun k=>some (k*es,es)) (place':=fun k=>some (k*ti.size,ti.size)) (fun j=>by rw[g3,c3]) hp h5 (oks_zeros (T:=T) (σ:=σ) (w:=w) (A:=Al A0 σ s.blocks) g5 hlen (n*es))
        have hs2:ti.size=es:=by rw[g3,c3]
        obtain⟨σ',R2⟩:=R.fresh ht (hbl _ _ h2') (ty:=e) e2 hok (av:=.r (.c (.sl new 0 n n))) (v:=.slice (some ⟨w.heap.size,0,none⟩) n n) (fun σ' h=>⟨_,h,rfl⟩) dst
        refine wp_value (v:=.slice (some ⟨w.heap.size,0,none⟩) n n) (w':=w.alloc (.cells us.toArray e)) ?_ (hK _ _ _ R2)
        have hb:=run_buildSlice (P:=P) w t e n (ps.map fun(p:Nat×Operand)=>(p.1,a.eval p.2)) us.toArray ti z hu g1 g4 (by rw[hs2]; omega) (by rw[hs2]; omega) (by
         rw[hs2] at e1 ⊢
         rw[Array.toArray_toList] at e1
         simpa using e1)
        simp[execOp,hb]
       ·cases hc
      ·cases hc
     ·cases hc
    ·cases hc
   ·cases hc
  ·cases hc
 case makeSlice t l c =>
  simp only[compute] at hc
  have hint:∀ x k n,(opv sl x).int=some (k,n)→a.eval x=.int k n:=fun x k n h=>by
   have hx:=R.operand hsl x
   unfold AV.int at h
   split at h
   ·rename_i q; rw[q] at hx; cases h; exact hx
   ·cases h
  split at hc
  ·rename_i i kl n kc k h1 h2 h3 h4
   have hgd:i.good P t=true:=C.tys _ (lookT_mem h1)
   split at hc
   ·rename_i m es e hag har
    obtain⟨hu,hes⟩:=good_slice hgd hag har
    split at hc
    ·rename_i ie h5
     split at hc
     ·rename_i hcond
      simp only[Bool.and_eq_true,decide_eq_true_eq,beq_iff_eq] at hcond
      obtain⟨⟨⟨⟨⟨⟨c1,c2⟩,c3⟩,c4⟩,c5⟩,hlen⟩,hok⟩:=hcond
      cases hc
      have hge:ie.good P e=true:=C.tys _ (lookT_mem h5)
      obtain⟨ti,z,d,g1,g2,g3,g4,g5,g6,_⟩:=good_spec hge
      have hby:=good_bytes hge g1
      have hs2:ti.size=es:=by rw[g3,c5]
      have hkn:k.toNat*es≤16777216:=by
       have h0:(0:Int)≤k:=by omega
       have:((k.toNat*es:Nat):Int)=k*es:=by rw[Int.natCast_mul,Int.toNat_of_nonneg h0]
       omega
      have hz:=oks_zeros (T:=T) (σ:=σ) (w:=w) (A:=Al A0 σ s.blocks) g5 hlen (k.toNat*es)
      obtain⟨σ',R2⟩:=R.fresh ht (hbl _ _ h4) (ty:=e) hz hok (av:=.r (.c (.sl new 0 n.toNat k.toNat))) (v:=.slice (some ⟨w.heap.size,0,none⟩) n.toNat k.toNat) (fun σ' h=>⟨_,h,rfl⟩) dst
      have hb:=run_makeSlice (P:=P) w t e ti z hu g1 g4 kl kc n k c1 c2 (by rw[hs2]; exact hkn) (by
       have h2:(ti.bytes:Int)*k≤1048576*1048576:=Int.mul_le_mul (by omega) c4 (by omega) (by omega)
       omega) (by omega)
      rw[hs2] at hb
      refine wp_value (v:=.slice (some ⟨w.heap.size,0,none⟩) n.toNat k.toNat) (w':=w.alloc (.cells (madeCells z.cells (k.toNat*es)) e)) ?_ (hK _ _ _ (by
       have:madeCells z.cells (k.toNat*es)=((Array.range (k.toNat*es)).map (z.cells[· % z.cells.size]!)).toList.toArray:=Array.toArray_toList.symm
       rw[this]; exact R2))
      simp only[execOp,hint l kl n h2,hint c kc k h3]
      simp[hb]
     ·cases hc
    ·cases hc
   ·cases hc
  ·cases hc
 case indexAddr t x ix =>
  simp only[compute] at hc
  have hint:∀ k n,(opv sl ix).int=some (k,n)→a.eval ix=.int k n:=fun k n h=>by
   have hx:=R.operand hsl ix
   unfold AV.int at h
   split at h
   ·rename_i q; rw[q] at hx; cases h; exact hx
   ·cases h
  split at hc
  ·rename_i i b off k n h1 h2 h3
   have hgd:i.good P t=true:=C.tys _ (lookT_mem h1)
   have hx:=R.operand hsl x
   rw[h2] at hx
   obtain⟨m',e1,e2⟩:=hx
   split at hc
   ·rename_i m es e hag har
    obtain⟨hu,hes⟩:=good_array hgd hag har
    split at hc
    ·rename_i hcond
     simp only[Bool.and_eq_true,decide_eq_true_eq] at hcond
     cases hc
     cases hi:P.info? e with
     | none=>simp[hi] at hes
     | some ie =>
      simp[hi] at hes
      refine wp_value (v:=.pointer (some ⟨m',off+n.toNat*es,none⟩)) ?_ (hK _ _ _ (R.val (av:=.r (.c (.own b (off+n.toNat*es)))) ⟨m',e1,rfl⟩ _))
      simp[execOp,Instr.indexAt,hint k n h3,asIntOf,run_underlying hu,e2,Instr.sureAddr,hcond,Go.sizeOf,typeInfo,hi,hes,Addr.add_plain]
    ·cases hc
   ·cases hc
  ·rename_i i b off len cap k n h1 h2 h3
   have hgd:i.good P t=true:=C.tys _ (lookT_mem h1)
   have hx:=R.operand hsl x
   rw[h2] at hx
   obtain⟨m',e1,e2⟩:=hx
   split at hc
   ·rename_i m es e hag har
    obtain⟨hu,hes⟩:=good_slice hgd hag har
    split at hc
    ·rename_i hcond
     simp only[Bool.and_eq_true,decide_eq_true_eq] at hcond
     cases hc
     cases hi:P.info? e with
     | none=>simp[hi] at hes
     | some ie =>
      simp[hi] at hes
      refine wp_value (v:=.pointer (some ⟨m',off+n.toNat*es,none⟩)) ?_ (hK _ _ _ (R.val (av:=.r (.c (.own b (off+n.toNat*es)))) ⟨m',e1,rfl⟩ _))
      simp[execOp,Instr.indexAt,hint k n h3,asIntOf,run_underlying hu,e2,hcond,Go.sizeOf,typeInfo,hi,hes,Addr.add_plain]
    ·cases hc
   ·cases hc
  ·rename_i i b off len k n h1 h2 h3
   have hgd:i.good P t=true:=C.tys _ (lookT_mem h1)
   have hx:=R.operand hsl x
   rw[h2] at hx
   obtain⟨m',e1,_,e2⟩:=hx
   split at hc
   ·rename_i m es e hag har
    obtain⟨hu,hes⟩:=good_slice hgd hag har
    split at hc
    ·rename_i hcond
     simp only[Bool.and_eq_true,decide_eq_true_eq] at hcond
     cases hc
     cases hi:P.info? e with
     | none=>simp[hi] at hes
     | some ie =>
      simp[hi] at hes
      refine wp_value (v:=.pointer (some ⟨m',off+n.toNat*es,none⟩)) ?_ (hK _ _ _ (R.val (av:=.r (.c (.own b (off+n.toNat*es)))) ⟨m',e1,rfl⟩ _))
      simp[execOp,Instr.indexAt,hint k n h3,asIntOf,run_underlying hu,e2,hcond,Go.sizeOf,typeInfo,hi,hes,Addr.add_plain]
    ·cases hc
   ·cases hc
  ·cases hc
 case slice t x lo hi mx =>
  cases mx with
  | some q=>simp only[compute] at hc; exact other_ok C R hsl hc hK
  | none =>
   have hbnd:∀{o:Option Operand} {r:Option Nat},bndA sl o=some r→(o=none∧r=none)∨∃ y k n,o=some y∧r=some n∧a.eval y=.int k (n:Nat):=fun{o r} h=>by
    cases o with
    | none=>cases h; exact .inl ⟨rfl,rfl⟩
    | some y =>
     unfold bndA at h
     simp only at h
     split at h
     ·rename_i k n hi'
      split at h
      ·rename_i h0
       cases h
       have hx:=R.operand hsl y
       unfold AV.int at hi'
       split at hi'
       ·rename_i q; rw[q] at hx; cases hi'
        exact .inr ⟨y,k,n.toNat,rfl,rfl,by rw[Int.toNat_of_nonneg (of_decide_eq_true h0)]; exact hx⟩
       ·cases hi'
      ·cases h
     ·cases h
   simp only[compute] at hc
   split at hc
   ·rename_i i lo' hi' h1 hlo hhi
    have hgd:i.good P t=true:=C.tys _ (lookT_mem h1)
    have hx:=R.operand hsl x
    split at hc
    ·rename_i n es e b off har h2
     rw[h2] at hx
     obtain⟨m',e1,e2⟩:=hx
     split at hc
     ·rename_i hcond
      simp only[Bool.and_eq_true,decide_eq_true_eq] at hcond
      obtain⟨⟨hag,c1⟩,c2⟩:=hcond
      obtain⟨hu,hes⟩:=good_array hgd hag har
      cases hc
      cases hie:P.info? e with
      | none=>simp[hie] at hes
      | some ie =>
       simp[hie] at hes
       refine wp_value (v:=.slice (some ⟨m',if n=lo'.getD 0 then off else off+lo'.getD 0*es,none⟩) (hi'.getD n - lo'.getD 0) (n - lo'.getD 0)) ?_ (hK _ _ _ (R.val (av:=.r (.c (.sl b (if n=lo'.getD 0 then off else off+lo'.getD 0*es) (hi'.getD n - lo'.getD 0) (n - lo'.getD 0)))) ⟨m',e1,rfl⟩ _))
       rcases hbnd hlo with⟨rfl,rfl⟩|⟨y,k,l,rfl,rfl,hy⟩<;>rcases hbnd hhi with⟨rfl,rfl⟩|⟨y',k',l',rfl,rfl,hy'⟩<;>simp only[Option.getD_none,Option.getD_some] at c1 c2 ⊢ <;>
        simp[execOp,Instr.sliceAt,Instr.sliceBounds,Instr.sliceBound,asIntOf,run_underlying hu,Instr.sureAddr,Go.sizeOf,typeInfo,Addr.add_plain, *]<;>(try split)<;>rfl
     ·cases hc
    ·rename_i q es e b off n cap har h2
     rw[h2] at hx
     obtain⟨m',e1,e2⟩:=hx
     split at hc
     ·rename_i hcond
      simp only[Bool.and_eq_true,decide_eq_true_eq,Bool.not_eq_true'] at hcond
      obtain⟨⟨hag,c1⟩,c2⟩:=hcond
      obtain⟨hu,hes⟩:=good_slice hgd hag har
      cases hc
      cases hie:P.info? e with
      | none=>simp[hie] at hes
      | some ie =>
       simp[hie] at hes
       refine wp_value (v:=.slice (some ⟨m',if cap=lo'.getD 0 then off else off+lo'.getD 0*es,none⟩) (hi'.getD n - lo'.getD 0) (cap - lo'.getD 0)) ?_ (hK _ _ _ (R.val (av:=.r (.c (.sl b (if cap=lo'.getD 0 then off else off+lo'.getD 0*es) (hi'.getD n - lo'.getD 0) (cap - lo'.getD 0)))) ⟨m',e1,rfl⟩ _))
       rcases hbnd hlo with⟨rfl,rfl⟩|⟨y,k,l,rfl,rfl,hy⟩<;>rcases hbnd hhi with⟨rfl,rfl⟩|⟨y',k',l',rfl,rfl,hy'⟩<;>simp only[Option.getD_none,Option.getD_some] at c1 c2 ⊢ <;>
        simp[execOp,Instr.sliceAt,Instr.slice,Instr.sliceBounds,Instr.sliceBound,asIntOf,run_underlying hu,Go.sizeOf,typeInfo,Addr.add_plain, *]<;>(try split)<;>rfl
     ·cases hc
    ·rename_i q es e b off n har h2
     rw[h2] at hx
     obtain⟨m',e1,e3,e2⟩:=hx
     split at hc
     ·rename_i hcond
      simp only[Bool.and_eq_true,decide_eq_true_eq,Bool.not_eq_true',beq_iff_eq] at hcond
      obtain⟨⟨hag,c1⟩,c2⟩:=hcond
      obtain⟨hu,hes⟩:=good_slice hgd hag har
      cases hc
      cases hie:P.info? e with
      | none=>simp[hie] at hes
      | some ie =>
       simp[hie] at hes
       refine wp_value (v:=.slice (some ⟨m',off,none⟩) (hi'.getD n) (σ.room b)) ?_ (hK _ _ _ (R.val (av:=.r (.c (.sg b off (hi'.getD n)))) ⟨m',e1,by omega,rfl⟩ _))
       rcases hbnd hlo with⟨rfl,rfl⟩|⟨y,k,l,rfl,rfl,hy⟩<;>rcases hbnd hhi with⟨rfl,rfl⟩|⟨y',k',l',rfl,rfl,hy'⟩<;>simp only[Option.getD_none,Option.getD_some] at c1 c2 ⊢<;>(try subst c1) <;>
        simp[execOp,Instr.sliceAt,Instr.slice,Instr.sliceBounds,Instr.sliceBound,asIntOf,run_underlying hu,Go.sizeOf,typeInfo,Addr.add_plain, *]<;>(try omega)
     ·cases hc
    ·cases hc
   ·cases hc
 case fieldAddr t x k =>
  simp only[compute] at hc
  split at hc
  ·rename_i i b off h1 h2
   obtain⟨ti,z,d,g1,g2,g3,g4,g5,g6,g7⟩:=good_spec (show i.good P t=true from C.tys _ (lookT_mem h1))
   obtain⟨n,e1,e2⟩:=AV.own_ok h2 (R.operand hsl x)
   split at hc
   ·rename_i fo fs fg h3 h4
    split at hc
    ·cases hc
    ·rename_i hne
     cases hc
     cases d
     case struct fl =>
      simp only[Bool.and_eq_true] at g7
      obtain⟨f,fi,fd,p1,p2,p3,p4,p5,p6⟩:=fieldsOk_get g7.1 h4
      refine wp_value (v:=.pointer (some ⟨n,off+fo,none⟩)) ?_ (hK _ _ _ (R.val (av:=.r (.c (.own b (off+fo)))) ⟨n,e1,rfl⟩ _))
      have hz:¬fi.size=0:=by rw[p4]; simpa using hne
      have hp1:fl[k]?=some f:=by simpa using p1
      simp[execOp,Instr.fieldAt,run_underlying g2,hp1,e2,Instr.sureAddr,fieldPlace,Go.sizeOf,typeInfo,p3,hz,p2,Addr.add_plain]
     case array m el =>
      exfalso
      simp only[Bool.and_eq_true] at g7
      simp[h3] at g7
     all_goals
      exfalso
      simp only[Bool.and_eq_true,List.isEmpty_iff] at g7
      rw[g7.1] at h4
      simp at h4
   ·cases hc
  ·cases hc
 case field t x k =>
  simp only[compute] at hc
  split at hc
  ·rename_i i cs h1 h2
   obtain⟨ti,z,d,g1,g2,g3,g4,g5,g6,g7⟩:=good_spec (show i.good P t=true from C.tys _ (lookT_mem h1))
   have hx:=R.operand hsl x
   rw[h2] at hx
   obtain⟨vs,e1,e2⟩:=hx
   split at hc
   ·rename_i fo fs fg h3 h4
    cases d
    case struct fl =>
     simp only[Bool.and_eq_true] at g7
     obtain⟨f,fi,fd,p1,p2,p3,p4,p5,p6⟩:=fieldsOk_get g7.1 h4
     have hp1:fl[k]?=some f:=by simpa using p1
     split at hc
     ·rename_i hg
      split at hc
      ·rename_i hle
       cases hc
       have hle:=of_decide_eq_true hle
       refine wp_value (v:=.agg ((vs.drop fo).take fs).toArray) ?_ (hK _ _ _ (R.val (av:=.r (.row ((cs.drop fo).take fs))) ⟨_,rfl,(e2.drop fo).take fs⟩ _))
       rw[hg] at p6
       simp[execOp,Instr.field,run_underlying g2,hp1,e1,asAgg,part,run_isAgg p5,p6,Go.sizeOf,typeInfo,p3,p4,p2]
      ·cases hc
     ·rename_i hg
      split at hc
      ·rename_i c h5
       cases hc
       obtain⟨v,k6,k7⟩:=e2.get h5
       refine wp_value (v:=v) ?_ (hK _ _ _ (R.val (av:=.r (.c c)) k7 _))
       have hg':isAggD fd=false:=by rw[p6]; simpa using hg
       simp[execOp,Instr.field,run_underlying g2,hp1,e1,asAgg,part,run_isAgg p5,hg',p2,k6]
      ·cases hc
    case array m el =>
     exfalso
     simp only[Bool.and_eq_true] at g7
     simp[h3] at g7
    all_goals
     exfalso
     simp only[Bool.and_eq_true,List.isEmpty_iff] at g7
     rw[g7.1] at h4
     simp at h4
   ·cases hc
  ·cases hc
 case extract x i =>
  simp only[compute] at hc
  split at hc
  ·rename_i l h1
   have hx:=R.operand hsl x
   rw[h1] at hx
   obtain⟨vs,e1,e2⟩:=hx
   split at hc
   ·rename_i ar h2
    cases hc
    obtain⟨v,k1,k2⟩:=e2.get h2
    refine wp_value (v:=v) ?_ (hK _ _ _ (R.val (av:=.r ar) k2 _))
    simp[execOp,Instr.extract,e1,k1]
   ·cases hc
  ·cases hc
 case binOp op t x y yt =>
  simp only[compute] at hc
  split at hc
  ·rename_i l h1
   cases hc
   refine wp_value (v:=l.val) ?_ (hK _ _ _ (R.val (av:=.r (.c (.lit l))) rfl _))
   have:=litB_ok (P:=P) h1 (R.operand hsl x) (R.operand hsl y) t x y
   simp only[execOp,Sem.run_bind] at this ⊢
   rw[this]
   simp
  ·split at hc
   ·rename_i ax ay h1 h2
    split at hc
    ·rename_i e h3
     cases hc
     obtain⟨m1,m2,m3,m4,m5⟩:=findB_spec h3
     obtain⟨v,hv,hr⟩:=C.bins e m1 σ w _ (a.eval x) (a.eval y) x y (by rw[m4]; exact AV.ar_ok h1 (R.operand hsl x)) (by rw[m5]; exact AV.ar_ok h2 (R.operand hsl y))
     rw[m2,m3] at hv
     refine wp_value (v:=v) ?_ (hK _ _ _ (R.val (av:=.r (.c e.res)) hr _))
     simp only[execOp,Sem.run_bind] at hv ⊢
     rw[hv]
     simp
    ·cases hc
   ·cases hc
 case unOp op t x =>
  cases op<;>simp only[compute] at hc<;>try (exact other_ok C R hsl hc hK)
  case not =>
   split at hc
   ·rename_i b h1
    cases hc
    have hv:=AV.bool_ok h1 (R.operand hsl x)
    refine wp_value (v:=.bool !b) ?_ (hK _ _ _ (R.val (av:=.r (.c (.lit (.bool !b)))) rfl _))
    simp[execOp,hv,Op.unary]
   ·exact other_ok C R hsl hc hK
 case call c =>
  simp only[compute] at hc
  split at hc
  ·rename_i f fa fb hf
   obtain⟨callee,args,ats⟩:=c
   simp only at hf hc
   split at hc
   ·rename_i az h1
    have ha:=arsA_ok R hsl h1
    obtain⟨us,vs',ho,hp1,hp2⟩:=callee_ok (P:=P) R hsl hf args ats dst ty pos after guard
    have hargs:=okr.append (okr.append (ptrs.okr (T:=T) (w:=w) (A:=Al A0 σ s.blocks) hp1) ha) (ptrs.okr hp2)
    split at hc
    ·rename_i e' h2
     obtain⟨m1,m2,m3,m4,m5⟩:=findC_spec h2
     have hr:(execOp a.eval { dst,op:=.call { callee,args,argTypes:=ats },type:=ty,pos,after,guard }).run P w=.ok (.enter f (us++args.toList.map a.eval++vs').toArray) w:=by
      rw[ho]
      have:=C.enters e' m1 (us++args.toList.map a.eval++vs').toArray w
      rw[m2] at this
      exact this
     have hcs0:=C.calls e' m1
     unfold CS.Ok at hcs0
     rw[m5] at hcs0
     have hcs:=hcs0 σ w _ (us++args.toList.map a.eval++vs') (fun hp=>R.rcvs ht hp) R.low' (by rw[m3]; exact hargs) (needs_ok R hbl m4)
     unfold Oper.wp
     rw[hr,Oper.upon_enter]
     rw[m2] at hcs
     split at hc
     ·rename_i hg
      rw[hg] at hcs
      split at hc
      ·rename_i hp
       simp only[hp] at hcs
       cases hc
       refine Calls.mono hcs ?_
       rintro r w' ⟨v,rfl,hv,hb⟩
       exact hK _ _ _ ((R.world ht hb).val hv _)
      ·rename_i q hp
       simp only[hp] at hcs
       split at hc
       ·rename_i ab h5
        split at hc
        ·rename_i hq
         cases hc
         simp only[Bool.and_eq_true] at hq
         obtain⟨n,k1,k2,k3⟩:=R.blocks q.1 ab (hbl _ _ h5)
         refine Calls.mono (hcs n k1 (.inr ⟨q.1,ab,hbl _ _ h5,k1⟩)) ?_
         rintro r w' ⟨v,rfl,hv,hm,us2,e1,e2⟩
         exact hK _ _ _ (R.puts ht (hbl _ _ h5) k1 hm (Option.isNone_iff_eq_none.1 hq.1) hq.2 e1 e2 hv _)
        ·cases hc
       ·cases hc
     ·rename_i g hg
      rw[hg] at hcs
      split at hc
      ·rename_i ab h5
       cases hc
       obtain⟨n,k1,k2,k3⟩:=R.blocks g ab (hbl _ _ h5)
       refine Calls.mono (hcs n k1 (.inr ⟨g,ab,hbl _ _ h5,k1⟩)) ?_
       rintro r w' ⟨v,rfl,hv,hm⟩
       exact hK _ _ _ (R.gave ht (hbl _ _ h5) k1 hm hv _)
      ·cases hc
    ·split at hc
     ·rename_i r ws rd h2
      cases hc
      rw[hlen] at h2
      obtain⟨hen,hcs⟩:=C.inl A0 M w0 σs σ s a w R f _ (us++args.toList.map a.eval++vs') bl new r ws rd hbl hargs h2
      unfold Oper.wp
      rw[ho,hen,Oper.upon_enter]
      refine Calls.mono hcs ?_
      rintro r' w' ⟨v,rfl,σ',hR⟩
      exact hK _ _ _ (hR _)
     ·exact other_ok C R hsl hc hK
   ·cases hc
  ·split at hc
   case h_3=>exact other_ok C R hsl hc hK
   case h_2 =>
    rename_i hf
    split at hc
    ·rename_i x y t u ha hat
     split at hc
     ·rename_i htu
      have htu:t=u:=by simpa using htu
      subst htu
      obtain⟨callee,args,ats'⟩:=c
      simp only at hf ha hat
      subst hf
      have ha':args=#[x,y]:=by apply Array.toList_inj.1; rw[ha]
      have hat':ats'=#[t,t]:=by apply Array.toList_inj.1; rw[hat]
      subst ha'; subst hat'
      obtain⟨v,w',σ',hr,R'⟩:=append_ok C R hsl hbl hc ty dst
      refine wp_value (v:=v) (w':=w') ?_ (hK _ _ _ R')
      simp only[execOp,resolve,Sem.run_bind,Sem.run_pure,Result.andThen_ok,invoke,builtin,List.map_toArray,List.map_cons,List.map_nil,hr]
     ·exact other_ok C R hsl hc hK
    ·exact other_ok C R hsl hc hK
   rename_i hf
   split at hc
   ·rename_i x t ats ha hat
    split at hc
    ·rename_i b off n cap i h2 h3
     split at hc
     ·rename_i mm hag har
      cases hc
      obtain⟨m1,es,e⟩:=mm
      obtain⟨hu,hes⟩:=good_slice (show i.good P t=true from C.tys _ (lookT_mem h3)) hag har
      have hx:=R.operand hsl x
      rw[h2] at hx
      obtain⟨m',e1,e2⟩:=hx
      refine wp_value (v:=.int .i64 n) ?_ (hK _ _ _ (R.val (av:=.r (.c (.lit (.int .i64 n)))) rfl _))
      obtain⟨callee,args,ats'⟩:=c
      simp only at hf ha hat
      subst hf
      have ha':args=#[x]:=by apply Array.toList_inj.1; rw[ha]
      have hat':ats'[0]?=some t:=by rw[←Array.getElem?_toList,hat]; rfl
      subst ha'
      simp[execOp,resolve,invoke,builtin,Builtin.len_,hat',run_underlying hu,e2,goInt]
     ·cases hc
    ·rename_i b off n i h2 h3
     split at hc
     ·rename_i mm hag har
      cases hc
      obtain⟨m1,es,e⟩:=mm
      obtain⟨hu,hes⟩:=good_slice (show i.good P t=true from C.tys _ (lookT_mem h3)) hag har
      have hx:=R.operand hsl x
      rw[h2] at hx
      obtain⟨m',e1,_,e2⟩:=hx
      refine wp_value (v:=.int .i64 n) ?_ (hK _ _ _ (R.val (av:=.r (.c (.lit (.int .i64 n)))) rfl _))
      obtain⟨callee,args,ats'⟩:=c
      simp only at hf ha hat
      subst hf
      have ha':args=#[x]:=by apply Array.toList_inj.1; rw[ha]
      have hat':ats'[0]?=some t:=by rw[←Array.getElem?_toList,hat]; rfl
      subst ha'
      simp[execOp,resolve,invoke,builtin,Builtin.len_,hat',run_underlying hu,e2,goInt]
     ·cases hc
    ·rename_i i h2 h3
     split at hc
     ·rename_i mm hag har
      cases hc
      obtain⟨m1,es,e⟩:=mm
      obtain⟨hu,hes⟩:=good_slice (show i.good P t=true from C.tys _ (lookT_mem h3)) hag har
      have hx:=R.operand hsl x
      rw[h2] at hx
      have e2:a.eval x=.slice none 0 0:=hx
      refine wp_value (v:=.int .i64 0) ?_ (hK _ _ _ (R.val (av:=.r (.c (.lit (.int .i64 0)))) rfl _))
      obtain⟨callee,args,ats'⟩:=c
      simp only at hf ha hat
      subst hf
      have ha':args=#[x]:=by apply Array.toList_inj.1; rw[ha]
      have hat':ats'[0]?=some t:=by rw[←Array.getElem?_toList,hat]; rfl
      subst ha'
      simp[execOp,resolve,invoke,builtin,Builtin.len_,hat',run_underlying hu,e2,goInt]
     ·cases hc
    ·exact other_ok C R hsl hc hK
   ·exact other_ok C R hsl hc hK
 case nilCheck x =>
  simp only[compute] at hc
  split at hc
  ·rename_i q h1
   obtain⟨b,o⟩:=q
   cases hc
   obtain⟨n,e1,e2⟩:=AV.own_ok h1 (R.operand hsl x)
   have hx:=R.operand hsl x
   refine wp_value (v:=a.eval x) ?_ (hK _ _ _ (R.val hx _))
   simp[execOp,e2]
  ·exact other_ok C R hsl hc hK
 case makeFunc fnn first caps =>
  cases fnn<;>simp only[compute] at hc<;>try (exact other_ok C R hsl hc hK)
  case func f =>
   split at hc
   ·rename_i fa fb h1 h2
    cases hc
    refine wp_value (v:=.func (.func f) (first.toList.map a.eval).toArray (caps.toList.map a.eval).toArray) ?_ (hK _ _ _ (R.val (av:=.r (.c (.fn f fa fb))) ⟨_,_,rfl,ownsA_ok R hsl h1,ownsA_ok R hsl h2⟩ _))
    have e1:∀ l:Array Operand,l.map a.eval=(l.toList.map a.eval).toArray:=fun l=>by apply Array.toList_inj.1; simp
    simp only[execOp,Instr.makeFunc,Sem.run_bind,Sem.run_pure,Result.andThen_ok,e1]
   ·cases hc
 case index t x ix =>
  simp only[compute] at hc
  have hint:∀ k n,(opv sl ix).int=some (k,n)→a.eval ix=.int k n:=fun k n h=>by
   have hx:=R.operand hsl ix
   unfold AV.int at h
   split at h
   ·rename_i q; rw[q] at hx; cases h; exact hx
   ·cases h
  split at hc
  ·rename_i i cs k n h1 h2 h3
   have hgd:i.good P t=true:=C.tys _ (lookT_mem h1)
   have hx:=R.operand hsl x
   rw[h2] at hx
   obtain⟨vs,e1,e2⟩:=hx
   split at hc
   ·rename_i m es e hag har
    obtain⟨hu,hes⟩:=good_array hgd hag har
    split at hc
    ·rename_i ie h4
     obtain⟨ti,z,d,g1,g2,g3,g4,g5,g6,g7⟩:=good_spec (show ie.good P e=true from C.tys _ (lookT_mem h4))
     split at hc
     ·rename_i hcond
      simp only[Bool.and_eq_true,decide_eq_true_eq,beq_iff_eq] at hcond
      obtain⟨⟨c1,c2⟩,c3⟩:=hcond
      have hsz:ti.size=es:=by rw[g3,c3]
      split at hc
      ·rename_i hg
       split at hc
       ·rename_i hle
        have hle:=of_decide_eq_true hle
        cases hc
        refine wp_value (v:=.agg ((vs.drop (n.toNat*es)).take es).toArray) ?_ (hK _ _ _ (R.val (av:=.r (.row ((cs.drop (n.toNat*es)).take es))) ⟨_,rfl,(e2.drop _).take es⟩ _))
        have hag':isAggD d=true:=by rw[g6,hg]
        simp[execOp,Instr.index,hint k n h3,asIntOf,run_underlying hu,e1,c1,c2,Go.sizeOf,typeInfo,g1,hsz,part,run_isAgg g2,hag']
       ·cases hc
      ·rename_i hg
       split at hc
       ·rename_i c h5
        cases hc
        obtain⟨v,k6,k7⟩:=e2.get h5
        refine wp_value (v:=v) ?_ (hK _ _ _ (R.val (av:=.r (.c c)) k7 _))
        have hag':isAggD d=false:=by rw[g6]; simpa using hg
        simp[execOp,Instr.index,hint k n h3,asIntOf,run_underlying hu,e1,c1,c2,Go.sizeOf,typeInfo,g1,hsz,part,run_isAgg g2,hag',k6]
       ·cases hc
     ·cases hc
    ·cases hc
   ·cases hc
  ·exact other_ok C R hsl hc hK
 all_goals (simp only[compute] at hc; exact other_ok C R hsl hc hK)
end
end Tr
