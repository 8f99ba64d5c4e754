/- FmobOf: the row. -/
import Derived.Test.YthklnbaddobieaaGreatVbl
import Derived.ProofKit
import Derived.OpenShut
import Derived.ShutString
import Derived.ChangeOld
import Derived.Lib.SmallJoins
set_option linter.unusedVariables false
set_option maxHeartbeats 4000000
namespace Go.Proofs.YthklnbaddobieaaGreat
open Go.ChangeShapes Go.WideShapes Go.ChangeAt Go.RowKit Go.Deep Go.Joins
theorem Tryz.own:ownKnob Tryz.prog.godebug=none:=by kernel_rfl
theorem Tryz.laidOut:laidOutB Tryz.prog=true:=by kernel_rfl
section
variable{H:Type}{enc:TypeId×Value→H}{w:World}{base:Nat}{spare:Nat→Bool}{held:Bool}
theorem open_fields{t:TypeId}{fs:Array Field}{fuel:Nat}{cs:List Value}{x:DataW H×List MemPlace}(ht:(Tryz.prog).underlying t=some (.struct fs))(h:DataW.trod enc Tryz.prog w base spare held fuel t cs=some x) :
  cs.length=(Tryz.prog).cellsOf t∧∃ n,∀(i:Nat) (f:Field),fs[i]?=some f→∃ y,DataW.trod enc Tryz.prog w base spare held n f.type ((cs.drop f.offset).take ((Tryz.prog).cellsOf f.type))=some y:=by
 obtain⟨xs,n,_,_,hl,hlen,hg⟩:=DataW.trod_struct ht h
 refine⟨hl,n,fun i f hf=>?_⟩
 have hi:i<xs.length:=by rw[hlen]; exact(Array.getElem?_eq_some_iff.1 hf).1
 exact⟨xs[i],by rw[hg i f hf]; simp[hi]⟩
set_option maxRecDepth 100000 in
theorem open_whole{fuel:Nat}{cs:List Value}{x:DataW H×List MemPlace}(h:DataW.trod enc Tryz.prog w base spare held fuel 23 cs=some x):∃ xab xbs,cs=[.bool xab,.string xbs]:=by
 obtain⟨hl,n,hg⟩:=open_fields Tryz.underlying23 h
 have hl':cs.length=2:=hl.trans (by kernel_rfl)
 obtain⟨y0,h0⟩:=hg 0 _ rfl
 have hc0:(Tryz.prog).cellsOf 4=1:=by kernel_rfl
 have g0:DataW.trod enc Tryz.prog w base spare held n 4 ((cs.drop 0).take ((Tryz.prog).cellsOf 4))=some y0:=h0
 rw[hc0] at g0
 obtain⟨xab,k0,_⟩:=DataW.trod_bool Tryz.underlying4 g0
 obtain⟨y1,h1⟩:=hg 1 _ rfl
 have hc1:(Tryz.prog).cellsOf 9=1:=by kernel_rfl
 have g1:DataW.trod enc Tryz.prog w base spare held n 9 ((cs.drop 1).take ((Tryz.prog).cellsOf 9))=some y1:=h1
 rw[hc1] at g1
 obtain⟨xbs,k1,_⟩:=DataW.trod_string Tryz.underlying9 g1
 have t1:cs.take 2=cs.take 1++(cs.drop 1).take 1:=List.take_add (i:=1) (j:=1)
 have t0:cs.take 1=(cs.drop 0).take 1:=by simp
 have e:cs=cs.take 2:=(List.take_of_length_le (by omega)).symm
 rw[t1,t0,k0,k1] at e
 exact⟨xab,xbs,e⟩
set_option maxRecDepth 100000 in
theorem open_frac{fuel:Nat}{cs:List Value}{x:DataW H×List MemPlace}(h:DataW.trod enc Tryz.prog w base spare held fuel 25 cs=some x):∃ xaab xabs xbab xbbs,cs=[.bool xaab,.string xabs,.bool xbab,.string xbbs]:=by
 obtain⟨hl,n,hg⟩:=open_fields Tryz.underlying25 h
 have hl':cs.length=4:=hl.trans (by kernel_rfl)
 obtain⟨y0,h0⟩:=hg 0 _ rfl
 have hc0:(Tryz.prog).cellsOf 23=2:=by kernel_rfl
 have g0:DataW.trod enc Tryz.prog w base spare held n 23 ((cs.drop 0).take ((Tryz.prog).cellsOf 23))=some y0:=h0
 rw[hc0] at g0
 obtain⟨xaab,xabs,k0⟩:=open_whole g0
 obtain⟨y1,h1⟩:=hg 1 _ rfl
 have hc1:(Tryz.prog).cellsOf 23=2:=by kernel_rfl
 have g1:DataW.trod enc Tryz.prog w base spare held n 23 ((cs.drop 2).take ((Tryz.prog).cellsOf 23))=some y1:=h1
 rw[hc1] at g1
 obtain⟨xbab,xbbs,k1⟩:=open_whole g1
 have t1:cs.take 4=cs.take 2++(cs.drop 2).take 2:=List.take_add (i:=2) (j:=2)
 have t0:cs.take 2=(cs.drop 0).take 2:=by simp
 have e:cs=cs.take 4:=(List.take_of_length_le (by omega)).symm
 rw[t1,t0,k0,k1] at e
 exact⟨xaab,xabs,xbab,xbbs,e⟩
set_option maxRecDepth 100000 in
theorem open_gauss{fuel:Nat}{cs:List Value}{x:DataW H×List MemPlace}(h:DataW.trod enc Tryz.prog w base spare held fuel 50 cs=some x):∃ xaaab xaabs xabab xabbs xbaab xbabs xbbab xbbbs,cs=[.bool xaaab,.string xaabs,.bool xabab,.string xabbs,.bool xbaab,.string xbabs,.bool xbbab,.string xbbbs]:=by
 obtain⟨hl,n,hg⟩:=open_fields Tryz.underlying50 h
 have hl':cs.length=8:=hl.trans (by kernel_rfl)
 obtain⟨y0,h0⟩:=hg 0 _ rfl
 have hc0:(Tryz.prog).cellsOf 25=4:=by kernel_rfl
 have g0:DataW.trod enc Tryz.prog w base spare held n 25 ((cs.drop 0).take ((Tryz.prog).cellsOf 25))=some y0:=h0
 rw[hc0] at g0
 obtain⟨xaaab,xaabs,xabab,xabbs,k0⟩:=open_frac g0
 obtain⟨y1,h1⟩:=hg 1 _ rfl
 have hc1:(Tryz.prog).cellsOf 25=4:=by kernel_rfl
 have g1:DataW.trod enc Tryz.prog w base spare held n 25 ((cs.drop 4).take ((Tryz.prog).cellsOf 25))=some y1:=h1
 rw[hc1] at g1
 obtain⟨xbaab,xbabs,xbbab,xbbbs,k1⟩:=open_frac g1
 have t1:cs.take 8=cs.take 4++(cs.drop 4).take 4:=List.take_add (i:=4) (j:=4)
 have t0:cs.take 4=(cs.drop 0).take 4:=by simp
 have e:cs=cs.take 8:=(List.take_of_length_le (by omega)).symm
 rw[t1,t0,k0,k1] at e
 exact⟨xaaab,xaabs,xabab,xabbs,xbaab,xbabs,xbbab,xbbbs,e⟩
set_option maxRecDepth 100000 in
theorem open_mob{fuel:Nat}{cs:List Value}{x:DataW H×List MemPlace}(h:DataW.trod enc Tryz.prog w base spare held fuel 52 cs=some x):∃ xaaaab xaaabs xaabab xaabbs xabaab xababs xabbab xabbbs xbaaab xbaabs xbabab xbabbs xbbaab xbbabs xbbbab xbbbbs xcaaab xcaabs xcabab xcabbs xcbaab xcbabs xcbbab xcbbbs xdaaab xdaabs xdabab xdabbs xdbaab xdbabs xdbbab xdbbbs xeb,cs=[.bool xaaaab,.string xaaabs,.bool xaabab,.string xaabbs,.bool xabaab,.string xababs,.bool xabbab,.string xabbbs,.bool xbaaab,.string xbaabs,.bool xbabab,.string xbabbs,.bool xbbaab,.string xbbabs,.bool xbbbab,.string xbbbbs,.bool xcaaab,.string xcaabs,.bool xcabab,.string xcabbs,.bool xcbaab,.string xcbabs,.bool xcbbab,.string xcbbbs,.bool xdaaab,.string xdaabs,.bool xdabab,.string xdabbs,.bool xdbaab,.string xdbabs,.bool xdbbab,.string xdbbbs,.bool xeb]:=by
 obtain⟨hl,n,hg⟩:=open_fields Tryz.underlying52 h
 have hl':cs.length=33:=hl.trans (by kernel_rfl)
 obtain⟨y0,h0⟩:=hg 0 _ rfl
 have hc0:(Tryz.prog).cellsOf 50=8:=by kernel_rfl
 have g0:DataW.trod enc Tryz.prog w base spare held n 50 ((cs.drop 0).take ((Tryz.prog).cellsOf 50))=some y0:=h0
 rw[hc0] at g0
 obtain⟨xaaaab,xaaabs,xaabab,xaabbs,xabaab,xababs,xabbab,xabbbs,k0⟩:=open_gauss g0
 obtain⟨y1,h1⟩:=hg 1 _ rfl
 have hc1:(Tryz.prog).cellsOf 50=8:=by kernel_rfl
 have g1:DataW.trod enc Tryz.prog w base spare held n 50 ((cs.drop 8).take ((Tryz.prog).cellsOf 50))=some y1:=h1
 rw[hc1] at g1
 obtain⟨xbaaab,xbaabs,xbabab,xbabbs,xbbaab,xbbabs,xbbbab,xbbbbs,k1⟩:=open_gauss g1
 obtain⟨y2,h2⟩:=hg 2 _ rfl
 have hc2:(Tryz.prog).cellsOf 50=8:=by kernel_rfl
 have g2:DataW.trod enc Tryz.prog w base spare held n 50 ((cs.drop 16).take ((Tryz.prog).cellsOf 50))=some y2:=h2
 rw[hc2] at g2
 obtain⟨xcaaab,xcaabs,xcabab,xcabbs,xcbaab,xcbabs,xcbbab,xcbbbs,k2⟩:=open_gauss g2
 obtain⟨y3,h3⟩:=hg 3 _ rfl
 have hc3:(Tryz.prog).cellsOf 50=8:=by kernel_rfl
 have g3:DataW.trod enc Tryz.prog w base spare held n 50 ((cs.drop 24).take ((Tryz.prog).cellsOf 50))=some y3:=h3
 rw[hc3] at g3
 obtain⟨xdaaab,xdaabs,xdabab,xdabbs,xdbaab,xdbabs,xdbbab,xdbbbs,k3⟩:=open_gauss g3
 obtain⟨y4,h4⟩:=hg 4 _ rfl
 have hc4:(Tryz.prog).cellsOf 4=1:=by kernel_rfl
 have g4:DataW.trod enc Tryz.prog w base spare held n 4 ((cs.drop 32).take ((Tryz.prog).cellsOf 4))=some y4:=h4
 rw[hc4] at g4
 obtain⟨xeb,k4,_⟩:=DataW.trod_bool Tryz.underlying4 g4
 have t4:cs.take 33=cs.take 32++(cs.drop 32).take 1:=List.take_add (i:=32) (j:=1)
 have t3:cs.take 32=cs.take 24++(cs.drop 24).take 8:=List.take_add (i:=24) (j:=8)
 have t2:cs.take 24=cs.take 16++(cs.drop 16).take 8:=List.take_add (i:=16) (j:=8)
 have t1:cs.take 16=cs.take 8++(cs.drop 8).take 8:=List.take_add (i:=8) (j:=8)
 have t0:cs.take 8=(cs.drop 0).take 8:=by simp
 have e:cs=cs.take 33:=(List.take_of_length_le (by omega)).symm
 rw[t4,t3,t2,t1,t0,k0,k1,k2,k3,k4] at e
 exact⟨xaaaab,xaaabs,xaabab,xaabbs,xabaab,xababs,xabbab,xabbbs,xbaaab,xbaabs,xbabab,xbabbs,xbbaab,xbbabs,xbbbab,xbbbbs,xcaaab,xcaabs,xcabab,xcabbs,xcbaab,xcbabs,xcbbab,xcbbbs,xdaaab,xdaabs,xdabab,xdabbs,xdbaab,xdbabs,xdbbab,xdbbbs,xeb,e⟩
set_option maxRecDepth 100000 in
theorem open_arg_mob{r:Reach}{b0:Nat}{v:Value}{d:DataW H}{p:List MemPlace}(hv:Value.okWide Tryz.prog w r b0 52 v)(h:DataW.Trod enc Tryz.prog w base spare held 52 v d p):∃ xaaaab xaaabs xaabab xaabbs xabaab xababs xabbab xabbbs xbaaab xbaabs xbabab xbabbs xbbaab xbbabs xbbbab xbbbbs xcaaab xcaabs xcabab xcabbs xcbaab xcbabs xcbbab xcbbbs xdaaab xdaabs xdabab xdabbs xdbaab xdbabs xdbbab xdbbbs xeb,v=.agg #[.bool xaaaab,.string xaaabs,.bool xaabab,.string xaabbs,.bool xabaab,.string xababs,.bool xabbab,.string xabbbs,.bool xbaaab,.string xbaabs,.bool xbabab,.string xbabbs,.bool xbbaab,.string xbbabs,.bool xbbbab,.string xbbbbs,.bool xcaaab,.string xcaabs,.bool xcabab,.string xcabbs,.bool xcbaab,.string xcbabs,.bool xcbbab,.string xcbbbs,.bool xdaaab,.string xdaabs,.bool xdabab,.string xdabbs,.bool xdbaab,.string xdbabs,.bool xdbbab,.string xdbbbs,.bool xeb]:=by
 obtain⟨cs,rfl,hsz⟩:=okWide_struct Tryz.underlying52 hv
 obtain⟨fuel,hf⟩:=h
 obtain⟨xaaaab,xaaabs,xaabab,xaabbs,xabaab,xababs,xabbab,xabbbs,xbaaab,xbaabs,xbabab,xbabbs,xbbaab,xbbabs,xbbbab,xbbbbs,xcaaab,xcaabs,xcabab,xcabbs,xcbaab,xcbabs,xcbbab,xcbbbs,xdaaab,xdaabs,xdabab,xdabbs,xdbaab,xdbabs,xdbbab,xdbbbs,xeb,e⟩:=open_mob hf
 refine⟨xaaaab,xaaabs,xaabab,xaabbs,xabaab,xababs,xabbab,xabbbs,xbaaab,xbaabs,xbabab,xbabbs,xbbaab,xbbabs,xbbbab,xbbbbs,xcaaab,xcaabs,xcabab,xcabbs,xcbaab,xcbabs,xcbbab,xcbbbs,xdaaab,xdaabs,xdabab,xdabbs,xdbaab,xdbabs,xdbbab,xdbbbs,xeb,?_⟩
 obtain⟨l⟩:=cs
 have e':l=_:=e
 rw[e']
end
set_option maxRecDepth 100000 in
theorem lifted(os:Os)(started:os.Started)(H:Type)(enc:TypeId×Value→H) :
  ReturnsInHanded {} Tryz.checked os 6 .any (Rows.fmobOfSpec.pre6 enc Tryz.prog Tryz.f6 Rows.fmobOfRow.domain false) (Rows.fmobOfSpec.post enc Tryz.prog Tryz.f6 false true false false):=by
 refine returnsInHanded_of_change (C:=Tryz.checked) Tryz.own started (by kernel_rfl) Tryz.func6
  (ChangeSpec.witness6 (enc:=enc) (C:=Tryz.checked) false ⟨#[],#[.agg #[.bool false,.string ⟨#[]⟩,.bool false,.string ⟨#[]⟩,.bool false,.string ⟨#[]⟩,.bool false,.string ⟨#[]⟩,.bool false,.string ⟨#[]⟩,.bool false,.string ⟨#[]⟩,.bool false,.string ⟨#[]⟩,.bool false,.string ⟨#[]⟩,.bool false,.string ⟨#[]⟩,.bool false,.string ⟨#[]⟩,.bool false,.string ⟨#[]⟩,.bool false,.string ⟨#[]⟩,.bool false,.string ⟨#[]⟩,.bool false,.string ⟨#[]⟩,.bool false,.string ⟨#[]⟩,.bool false,.string ⟨#[]⟩,.bool false]],[]⟩ 12 (by kernel_rfl) (by kernel_rfl) (by kernel_rfl) (by kernel_rfl)) ?_
 intro W base args ds gs before hval0 hW hcnd _
 have hval:∀(j:Nat) t v,Tryz.f6.params[j]?=some t→args[j]?=some v→Value.okWide Tryz.prog W .any base t v:=hval0
 have hW':=hW
 obtain⟨p,q,hA0,hV,rfl,hfz,hnd⟩:=hW
 have hA:DataW.TrodAll enc Tryz.prog W 0 (fun _=>true) true Tryz.f6.params.toList args.toList ds p:=hA0
 rw[Tryz.params6] at hA hval
 obtain⟨v0,d0,rfl,rfl,h0⟩:=trodAll_one hA
 obtain⟨rfl,rfl⟩:=trodVars_none hV
 have k0:=h0
 obtain⟨xaaaaub,xaaabus,xaabaub,xaabbus,xabaaub,xababus,xabbaub,xabbbus,xbaaaub,xbaabus,xbabaub,xbabbus,xbbaaub,xbbabus,xbbbaub,xbbbbus,xcaaaub,xcaabus,xcabaub,xcabbus,xcbaaub,xcbabus,xcbbaub,xcbbbus,xdaaaub,xdaabus,xdabaub,xdabbus,xdbaaub,xdbabus,xdbbaub,xdbbbus,xeub,rfl⟩:=open_arg_mob (hval 0 52 v0 rfl rfl) h0
 clear hA0 hval0
 have hl:Tr.PureC Tryz.prog 6 [.agg #[.bool xaaaaub,.string xaaabus,.bool xaabaub,.string xaabbus,.bool xabaaub,.string xababus,.bool xabbaub,.string xabbbus,.bool xbaaaub,.string xbaabus,.bool xbabaub,.string xbabbus,.bool xbbaaub,.string xbbabus,.bool xbbbaub,.string xbbbbus,.bool xcaaaub,.string xcaabus,.bool xcabaub,.string xcabbus,.bool xcbaaub,.string xcbabus,.bool xcbbaub,.string xcbbbus,.bool xdaaaub,.string xdaabus,.bool xdabaub,.string xdabbus,.bool xdbaaub,.string xdbabus,.bool xdbbaub,.string xdbbbus,.bool xeub]] (.bool true):=(fmobof_m ⟨⟨xaaaaub,xaabaub,xabaaub,xabbaub,xaaabus,xaabbus,xababus,xabbbus⟩,⟨xbaaaub,xbabaub,xbbaaub,xbbbaub,xbaabus,xbabbus,xbbabus,xbbbbus⟩,⟨xcaaaub,xcabaub,xcbaaub,xcbbaub,xcaabus,xcabbus,xcbabus,xcbbbus⟩,⟨xdaaaub,xdabaub,xdbaaub,xdbbaub,xdaabus,xdabbus,xdbabus,xdbbbus⟩,xeub⟩).pure (by kernel_rfl) (by kernel_rfl)
 refine(hl W).mono ?_
 rintro e W' ⟨he,bel⟩
 subst he
 exact⟨_,rfl,_,_,_,[],_,[],hW',trodAll_mk1 (shut_bool Tryz.underlying4 _),(trodAll_mk1 (Below.trod Tryz.laidOut (by kernel_rfl) (of_decide_eq_true (by kernel_rfl)) k0 bel (by obtain⟨m,hm⟩:=k0; exact DataW.trod_lt m _ _ _ hm))),rfl,bel.frame _,fun h=>by cases h⟩
theorem FmobOf_holds:Rows.FmobOfSaid :=
 OpenClaim.holds_of_wide 6 Tryz.f6 rfl rfl rfl rfl rfl rfl rfl ⟨rfl,rfl,rfl,rfl,rfl⟩ rfl rfl rfl rfl rfl (by kernel_rfl) Tryz.func6 (by kernel_rfl)
  (of_decide_eq_true (by kernel_rfl)) (by unfold Func.isWrapper; first|(rw[if_pos (by decide +kernel)]; kernel_rfl)|(rw[if_neg (by decide +kernel)]; exact⟨rfl,rfl⟩))
  (fun os started H enc _=>lifted os started H enc)
#print axioms FmobOf_holds
end Go.Proofs.YthklnbaddobieaaGreat
