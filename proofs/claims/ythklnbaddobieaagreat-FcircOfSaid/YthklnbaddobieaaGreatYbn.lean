/- FcircOf: the row. -/
import Derived.Test.YthklnbaddobieaaGreatYbm
import Derived.ProofKit
import Derived.OpenShut
import Derived.ShutString
import Derived.ChangeOld
import Derived.Lib.SmallJoins
set_option linter.unusedVariables false
set_option maxHeartbeats 4000000
namespace Go.Proofs.YthklnbaddobieaaGreat
open Go.ChangeShapes Go.WideShapes Go.ChangeAt Go.RowKit Go.Deep Go.Joins
theorem Tryz.own:ownKnob Tryz.prog.godebug=none:=by kernel_rfl
theorem Tryz.laidOut:laidOutB Tryz.prog=true:=by kernel_rfl
section
variable{H:Type}{enc:TypeId×Value→H}{w:World}{base:Nat}{spare:Nat→Bool}{held:Bool}
theorem open_fields{t:TypeId}{fs:Array Field}{fuel:Nat}{cs:List Value}{x:DataW H×List MemPlace}(ht:(Tryz.prog).underlying t=some (.struct fs))(h:DataW.trod enc Tryz.prog w base spare held fuel t cs=some x) :
  cs.length=(Tryz.prog).cellsOf t∧∃ n,∀(i:Nat) (f:Field),fs[i]?=some f→∃ y,DataW.trod enc Tryz.prog w base spare held n f.type ((cs.drop f.offset).take ((Tryz.prog).cellsOf f.type))=some y:=by
 obtain⟨xs,n,_,_,hl,hlen,hg⟩:=DataW.trod_struct ht h
 refine⟨hl,n,fun i f hf=>?_⟩
 have hi:i<xs.length:=by rw[hlen]; exact(Array.getElem?_eq_some_iff.1 hf).1
 exact⟨xs[i],by rw[hg i f hf]; simp[hi]⟩
set_option maxRecDepth 100000 in
theorem open_whole{fuel:Nat}{cs:List Value}{x:DataW H×List MemPlace}(h:DataW.trod enc Tryz.prog w base spare held fuel 23 cs=some x):∃ xab xbs,cs=[.bool xab,.string xbs]:=by
 obtain⟨hl,n,hg⟩:=open_fields Tryz.underlying23 h
 have hl':cs.length=2:=hl.trans (by kernel_rfl)
 obtain⟨y0,h0⟩:=hg 0 _ rfl
 have hc0:(Tryz.prog).cellsOf 4=1:=by kernel_rfl
 have g0:DataW.trod enc Tryz.prog w base spare held n 4 ((cs.drop 0).take ((Tryz.prog).cellsOf 4))=some y0:=h0
 rw[hc0] at g0
 obtain⟨xab,k0,_⟩:=DataW.trod_bool Tryz.underlying4 g0
 obtain⟨y1,h1⟩:=hg 1 _ rfl
 have hc1:(Tryz.prog).cellsOf 9=1:=by kernel_rfl
 have g1:DataW.trod enc Tryz.prog w base spare held n 9 ((cs.drop 1).take ((Tryz.prog).cellsOf 9))=some y1:=h1
 rw[hc1] at g1
 obtain⟨xbs,k1,_⟩:=DataW.trod_string Tryz.underlying9 g1
 have t1:cs.take 2=cs.take 1++(cs.drop 1).take 1:=List.take_add (i:=1) (j:=1)
 have t0:cs.take 1=(cs.drop 0).take 1:=by simp
 have e:cs=cs.take 2:=(List.take_of_length_le (by omega)).symm
 rw[t1,t0,k0,k1] at e
 exact⟨xab,xbs,e⟩
set_option maxRecDepth 100000 in
theorem open_frac{fuel:Nat}{cs:List Value}{x:DataW H×List MemPlace}(h:DataW.trod enc Tryz.prog w base spare held fuel 25 cs=some x):∃ xaab xabs xbab xbbs,cs=[.bool xaab,.string xabs,.bool xbab,.string xbbs]:=by
 obtain⟨hl,n,hg⟩:=open_fields Tryz.underlying25 h
 have hl':cs.length=4:=hl.trans (by kernel_rfl)
 obtain⟨y0,h0⟩:=hg 0 _ rfl
 have hc0:(Tryz.prog).cellsOf 23=2:=by kernel_rfl
 have g0:DataW.trod enc Tryz.prog w base spare held n 23 ((cs.drop 0).take ((Tryz.prog).cellsOf 23))=some y0:=h0
 rw[hc0] at g0
 obtain⟨xaab,xabs,k0⟩:=open_whole g0
 obtain⟨y1,h1⟩:=hg 1 _ rfl
 have hc1:(Tryz.prog).cellsOf 23=2:=by kernel_rfl
 have g1:DataW.trod enc Tryz.prog w base spare held n 23 ((cs.drop 2).take ((Tryz.prog).cellsOf 23))=some y1:=h1
 rw[hc1] at g1
 obtain⟨xbab,xbbs,k1⟩:=open_whole g1
 have t1:cs.take 4=cs.take 2++(cs.drop 2).take 2:=List.take_add (i:=2) (j:=2)
 have t0:cs.take 2=(cs.drop 0).take 2:=by simp
 have e:cs=cs.take 4:=(List.take_of_length_le (by omega)).symm
 rw[t1,t0,k0,k1] at e
 exact⟨xaab,xabs,xbab,xbbs,e⟩
set_option maxRecDepth 100000 in
theorem open_gauss{fuel:Nat}{cs:List Value}{x:DataW H×List MemPlace}(h:DataW.trod enc Tryz.prog w base spare held fuel 50 cs=some x):∃ xaaab xaabs xabab xabbs xbaab xbabs xbbab xbbbs,cs=[.bool xaaab,.string xaabs,.bool xabab,.string xabbs,.bool xbaab,.string xbabs,.bool xbbab,.string xbbbs]:=by
 obtain⟨hl,n,hg⟩:=open_fields Tryz.underlying50 h
 have hl':cs.length=8:=hl.trans (by kernel_rfl)
 obtain⟨y0,h0⟩:=hg 0 _ rfl
 have hc0:(Tryz.prog).cellsOf 25=4:=by kernel_rfl
 have g0:DataW.trod enc Tryz.prog w base spare held n 25 ((cs.drop 0).take ((Tryz.prog).cellsOf 25))=some y0:=h0
 rw[hc0] at g0
 obtain⟨xaaab,xaabs,xabab,xabbs,k0⟩:=open_frac g0
 obtain⟨y1,h1⟩:=hg 1 _ rfl
 have hc1:(Tryz.prog).cellsOf 25=4:=by kernel_rfl
 have g1:DataW.trod enc Tryz.prog w base spare held n 25 ((cs.drop 4).take ((Tryz.prog).cellsOf 25))=some y1:=h1
 rw[hc1] at g1
 obtain⟨xbaab,xbabs,xbbab,xbbbs,k1⟩:=open_frac g1
 have t1:cs.take 8=cs.take 4++(cs.drop 4).take 4:=List.take_add (i:=4) (j:=4)
 have t0:cs.take 4=(cs.drop 0).take 4:=by simp
 have e:cs=cs.take 8:=(List.take_of_length_le (by omega)).symm
 rw[t1,t0,k0,k1] at e
 exact⟨xaaab,xaabs,xabab,xabbs,xbaab,xbabs,xbbab,xbbbs,e⟩
set_option maxRecDepth 100000 in
theorem open_circle{fuel:Nat}{cs:List Value}{x:DataW H×List MemPlace}(h:DataW.trod enc Tryz.prog w base spare held fuel 69 cs=some x):∃ xaaab xaabs xabab xabbs xbaaab xbaabs xbabab xbabbs xbbaab xbbabs xbbbab xbbbbs xcaab xcabs xcbab xcbbs,cs=[.bool xaaab,.string xaabs,.bool xabab,.string xabbs,.bool xbaaab,.string xbaabs,.bool xbabab,.string xbabbs,.bool xbbaab,.string xbbabs,.bool xbbbab,.string xbbbbs,.bool xcaab,.string xcabs,.bool xcbab,.string xcbbs]:=by
 obtain⟨hl,n,hg⟩:=open_fields Tryz.underlying69 h
 have hl':cs.length=16:=hl.trans (by kernel_rfl)
 obtain⟨y0,h0⟩:=hg 0 _ rfl
 have hc0:(Tryz.prog).cellsOf 25=4:=by kernel_rfl
 have g0:DataW.trod enc Tryz.prog w base spare held n 25 ((cs.drop 0).take ((Tryz.prog).cellsOf 25))=some y0:=h0
 rw[hc0] at g0
 obtain⟨xaaab,xaabs,xabab,xabbs,k0⟩:=open_frac g0
 obtain⟨y1,h1⟩:=hg 1 _ rfl
 have hc1:(Tryz.prog).cellsOf 50=8:=by kernel_rfl
 have g1:DataW.trod enc Tryz.prog w base spare held n 50 ((cs.drop 4).take ((Tryz.prog).cellsOf 50))=some y1:=h1
 rw[hc1] at g1
 obtain⟨xbaaab,xbaabs,xbabab,xbabbs,xbbaab,xbbabs,xbbbab,xbbbbs,k1⟩:=open_gauss g1
 obtain⟨y2,h2⟩:=hg 2 _ rfl
 have hc2:(Tryz.prog).cellsOf 25=4:=by kernel_rfl
 have g2:DataW.trod enc Tryz.prog w base spare held n 25 ((cs.drop 12).take ((Tryz.prog).cellsOf 25))=some y2:=h2
 rw[hc2] at g2
 obtain⟨xcaab,xcabs,xcbab,xcbbs,k2⟩:=open_frac g2
 have t2:cs.take 16=cs.take 12++(cs.drop 12).take 4:=List.take_add (i:=12) (j:=4)
 have t1:cs.take 12=cs.take 4++(cs.drop 4).take 8:=List.take_add (i:=4) (j:=8)
 have t0:cs.take 4=(cs.drop 0).take 4:=by simp
 have e:cs=cs.take 16:=(List.take_of_length_le (by omega)).symm
 rw[t2,t1,t0,k0,k1,k2] at e
 exact⟨xaaab,xaabs,xabab,xabbs,xbaaab,xbaabs,xbabab,xbabbs,xbbaab,xbbabs,xbbbab,xbbbbs,xcaab,xcabs,xcbab,xcbbs,e⟩
set_option maxRecDepth 100000 in
theorem open_arg_circle{r:Reach}{b0:Nat}{v:Value}{d:DataW H}{p:List MemPlace}(hv:Value.okWide Tryz.prog w r b0 69 v)(h:DataW.Trod enc Tryz.prog w base spare held 69 v d p):∃ xaaab xaabs xabab xabbs xbaaab xbaabs xbabab xbabbs xbbaab xbbabs xbbbab xbbbbs xcaab xcabs xcbab xcbbs,v=.agg #[.bool xaaab,.string xaabs,.bool xabab,.string xabbs,.bool xbaaab,.string xbaabs,.bool xbabab,.string xbabbs,.bool xbbaab,.string xbbabs,.bool xbbbab,.string xbbbbs,.bool xcaab,.string xcabs,.bool xcbab,.string xcbbs]:=by
 obtain⟨cs,rfl,hsz⟩:=okWide_struct Tryz.underlying69 hv
 obtain⟨fuel,hf⟩:=h
 obtain⟨xaaab,xaabs,xabab,xabbs,xbaaab,xbaabs,xbabab,xbabbs,xbbaab,xbbabs,xbbbab,xbbbbs,xcaab,xcabs,xcbab,xcbbs,e⟩:=open_circle hf
 refine⟨xaaab,xaabs,xabab,xabbs,xbaaab,xbaabs,xbabab,xbabbs,xbbaab,xbbabs,xbbbab,xbbbbs,xcaab,xcabs,xcbab,xcbbs,?_⟩
 obtain⟨l⟩:=cs
 have e':l=_:=e
 rw[e']
end
set_option maxRecDepth 100000 in
theorem lifted(os:Os)(started:os.Started)(H:Type)(enc:TypeId×Value→H) :
  ReturnsInHanded {} Tryz.checked os 7 .any (Rows.fcircOfSpec.pre6 enc Tryz.prog Tryz.f7 Rows.fcircOfRow.domain false) (Rows.fcircOfSpec.post enc Tryz.prog Tryz.f7 false true false false):=by
 refine returnsInHanded_of_change (C:=Tryz.checked) Tryz.own started (by kernel_rfl) Tryz.func7
  (ChangeSpec.witness6 (enc:=enc) (C:=Tryz.checked) false ⟨#[],#[.agg #[.bool false,.string ⟨#[]⟩,.bool false,.string ⟨#[]⟩,.bool false,.string ⟨#[]⟩,.bool false,.string ⟨#[]⟩,.bool false,.string ⟨#[]⟩,.bool false,.string ⟨#[]⟩,.bool false,.string ⟨#[]⟩,.bool false,.string ⟨#[]⟩]],[]⟩ 12 (by kernel_rfl) (by kernel_rfl) (by kernel_rfl) (by kernel_rfl)) ?_
 intro W base args ds gs before hval0 hW hcnd _
 have hval:∀(j:Nat) t v,Tryz.f7.params[j]?=some t→args[j]?=some v→Value.okWide Tryz.prog W .any base t v:=hval0
 have hW':=hW
 obtain⟨p,q,hA0,hV,rfl,hfz,hnd⟩:=hW
 have hA:DataW.TrodAll enc Tryz.prog W 0 (fun _=>true) true Tryz.f7.params.toList args.toList ds p:=hA0
 rw[Tryz.params7] at hA hval
 obtain⟨v0,d0,rfl,rfl,h0⟩:=trodAll_one hA
 obtain⟨rfl,rfl⟩:=trodVars_none hV
 have k0:=h0
 obtain⟨xaaaub,xaabus,xabaub,xabbus,xbaaaub,xbaabus,xbabaub,xbabbus,xbbaaub,xbbabus,xbbbaub,xbbbbus,xcaaub,xcabus,xcbaub,xcbbus,rfl⟩:=open_arg_circle (hval 0 69 v0 rfl rfl) h0
 clear hA0 hval0
 have hl:Tr.PureC Tryz.prog 7 [.agg #[.bool xaaaub,.string xaabus,.bool xabaub,.string xabbus,.bool xbaaaub,.string xbaabus,.bool xbabaub,.string xbabbus,.bool xbbaaub,.string xbbabus,.bool xbbbaub,.string xbbbbus,.bool xcaaub,.string xcabus,.bool xcbaub,.string xcbbus]] (.bool true):=(fcircof_true ⟨xaaaub,xabaub,xaabus,xabbus⟩ ⟨xbaaaub,xbabaub,xbbaaub,xbbbaub,xbaabus,xbabbus,xbbabus,xbbbbus⟩ ⟨xcaaub,xcbaub,xcabus,xcbbus⟩).pure (by kernel_rfl) (by kernel_rfl)
 refine(hl W).mono ?_
 rintro e W' ⟨he,bel⟩
 subst he
 exact⟨_,rfl,_,_,_,[],_,[],hW',trodAll_mk1 (shut_bool Tryz.underlying4 _),(trodAll_mk1 (Below.trod Tryz.laidOut (by kernel_rfl) (of_decide_eq_true (by kernel_rfl)) k0 bel (by obtain⟨m,hm⟩:=k0; exact DataW.trod_lt m _ _ _ hm))),rfl,bel.frame _,fun h=>by cases h⟩
theorem FcircOf_holds:Rows.FcircOfSaid :=
 OpenClaim.holds_of_wide 7 Tryz.f7 rfl rfl rfl rfl rfl rfl rfl ⟨rfl,rfl,rfl,rfl,rfl⟩ rfl rfl rfl rfl rfl (by kernel_rfl) Tryz.func7 (by kernel_rfl)
  (of_decide_eq_true (by kernel_rfl)) (by unfold Func.isWrapper; first|(rw[if_pos (by decide +kernel)]; kernel_rfl)|(rw[if_neg (by decide +kernel)]; exact⟨rfl,rfl⟩))
  (fun os started H enc _=>lifted os started H enc)
#print axioms FcircOf_holds
end Go.Proofs.YthklnbaddobieaaGreat
