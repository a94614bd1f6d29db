/- What functions of the program compute. No condition. -/
import Derived.Test.YtmekkgdboplbjaaGreatDoorDV0
import Derived.Test.YtmekkgdboplbjaaGreatDoorDY0
set_option linter.all false
namespace Go.Proofs.YtmekkgdboplbjaaGreatDoor
open Go Go.RowKit M PV
set_option maxRecDepth 10000
attribute [local irreducible] PV.Lcl PV.LclR RV.Lcl
set_option maxHeartbeats 8000000
def XH:eL Tryz.prog 102=some [(0,4),(4,1),(5,1),(6,1),(7,1),(8,1),(9,1)]:=aq
def XI{p1 p2 p5 p6 p7 p8 p9 p11 p12 p13 p14 p16 p17 p18:Fl}{e:ar}{q:ac9}{l:Int}(hb:bw e≤68719000000)(hbq:fI q≤68719000000):aS Tryz.prog 116 [(true,[sl .v (e.Store.ac7.map (be p1 p2)),val (vI e.Store.Now),val (vI e.adc),sl .v (e.Order.map ax),sl .v (e.ac8.map (bz p5 p6 p7 p8 p9)),sl .v (e.Done.map (cn p11 p12 p13 p14)),sl .v (e.adl.map (cm p16 p17 p18)),val (vI e.Steps)]),(true,[val (vI q.Id),val (vI q.ade),sl .v (q.ada.map bU),sl .v (q.Out.map ax)]),(false,[val (vI l)])] (aJ [(true,[sl dg ((fe e q l).1.Store.ac7.map (be bJ ak)),val (vI (fe e q l).1.Store.Now),val (vI (fe e q l).1.adc),sl ak ((fe e q l).1.Order.map ax),sl fq ((fe e q l).1.ac8.map (bz bb ak ak bc ak)),sl ft ((fe e q l).1.Done.map (cn bb ak bc ak)),sl fu ((fe e q l).1.adl.map (cm ak ak ak)),val (vI (fe e q l).1.Steps)]),(false,[val (.bool (fe e q l).2)])]):=by
 refine sF Tryz.func116 fun h0 w0 Fz0=>?_
 refine sn 0 0 fun hl0_0=>?_
 refine sn 0 3 fun hl0_3=>?_
 refine sn 0 4 fun hl0_4=>?_
 refine sn 0 5 fun hl0_5=>?_
 refine sn 0 6 fun hl0_6=>?_
 refine sn 1 2 fun hl1_2=>?_
 refine sn 1 3 fun hl1_3=>?_
 have hbu:=hb
 simp only [bw,jZ,mG,kJ] at hbu
 refine oB ?_
 refine CH ?_
 refine yg ?_
 refine rK ?_
 refine sT [2,3,4,6,7] [3,4,6] ?_
 refine Bj ?_
 refine nA ?_
 refine eO ?_
 refine sO [(2,_),(3,_),(4,_),(6,_),(7,_),(8,_)] [(3,_),(4,_),(6,_),(8,(46,bj))] ?_
 refine bh ?_
 refine xz ?_
 refine fj ?_
 refine cx 20 (fun ga sga=>?_) (fun ga sga=>?_)
 refine ly ?_
 refine av.cases (s:=25) rfl (fun g2=>?_) (fun g2=>nomatch g2)
 refine mw ?_
 refine rM ?_
 refine av.cases (s:=30) rfl (fun g3=>?_) (fun g3=>nomatch g3)
 refine qn ?_
 refine rM ?_
 refine av.cases (s:=37) rfl (fun g4=>?_) (fun g4=>nomatch g4)
 refine zt g4 ?_
 refine rA ?_ (x:=bF g4)
 refine cd ?_
 exact uu
 refine KR ?_
 refine oE ?_
 refine rM ?_
 refine cx 25 (fun gb sgb=>?_) (fun gb sgb=>?_)
 refine qr ?_
 refine av.cases (s:=30) rfl (fun g7=>?_) (fun g7=>nomatch g7)
 refine zt g7 ?_
 refine rA ?_ (x:=bF g7)
 refine rM ?_
 refine av.cases (s:=37) rfl (fun g8=>?_) (fun g8=>nomatch g8)
 refine zt g8 ?_
 refine rA ?_ (x:=bF g8)
 refine cd ?_
 exact uu
 refine lz ?_
 refine Mh ?_
 refine yc ?_
 refine cx 30 (fun gc sgc=>?_) (fun gc sgc=>?_)
 refine qm ?_
 refine rM ?_
 refine av.cases (s:=37) rfl (fun g11=>?_) (fun g11=>nomatch g11)
 refine zt g11 ?_
 refine rA ?_ (x:=bF g11)
 refine cd ?_
 exact uu
 refine rB gc ?_ (x:=lD fb dl)
 refine rB gc ?_ (x:=lF nJ)
 refine sJ ?_
 refine rB gc ?_ (x:=cL [(true,bj),(false,[val _])] [(true,fb),(false,[val _])] NX (hs:=by exact OA))
 refine rB gc ?_ (x:=ll)
 refine lA ?_
 refine rM ?_
 refine cx 37 (fun gd sgd=>?_) (fun gd sgd=>?_)
 refine zt gd ?_
 refine rA ?_ (x:=bF gd)
 refine cd ?_
 exact uu
 refine rB gd ?_ (x:=lF kh)
 refine rB gd ?_ (x:=lD [sl .v _] ki)
 refine rB gd ?_ (x:=lN gR)
 refine rB gd ?_ (x:=iV)
 refine rA ?_ (x:=aK gd)
 refine sc ?_ ?_<;>intro hba
 exact uu
 have hok:iH e q l=true:=by
  have ho_:aP e=true:=eX
  have hq_:aQ q=true:=eX
  have hl_:aE l 0 32=true:=eX
  have hef_:=kN ho_
  unfold iH
  rw [ho_,hq_,hl_]
  simp only [Bool.true_and,aT,decide_eq_true_eq]
  exact ⟨ab,ab⟩
 obtain ⟨hoe,hoq,hol,hfn,ha8⟩:=qL hok
 have hef:=kN hoe
 obtain ⟨hs8,hs1,_,_,_,_⟩:=qH hef.1
 have hcl:=Vt (e:=e) (x:=q.Id)
 refine dH ?_
 refine sP [2,3,4,6,7,8] [3,4,6,8] ?_
 refine dr ?_
 refine dA 0 ?_ (x:=lD cI gi)
 refine dA 1 ?_ (x:=cL [(true,cD)] [(true,cI)] NY (hs:=by exact Ow ab))
 refine dA 0 ?_ (x:=lF tw)
 refine dA 4 ?_ (x:=lF kS)
 refine dA 12 ?_ (x:=lD [val _] bB)
 refine jy ?_
 refine dA 63 ?_ (x:=dZ (qs:=[(true,cD),(false,[val _]),(false,[val _])]) (cs:=dG) ae na DZ XH aj tY rfl aj)
 refine df.step 0 au au (dD.of rfl (ew ae na DZ)) (Ap (fp.of_ rfl)) aq ?_
 refine dA 255 ?_ (x:=bZ (ag:=true) (vs:=dG) kT au aj aH)
 refine eO ?_
 refine sO [(2,_),(3,_),(4,_),(6,_),(7,_),(8,_),(9,_)] [(3,_),(4,_),(6,_),(8,_),(9,(102,dG))] ?_
 refine bh ?_
 refine lB ?_
 refine nF ?_
 refine dM ?_
 refine sP [2,3,4,6,7,8,9,54,55] [3,4,6,8,9] ?_
 refine sL [2,3,4,6,7,8,9,54] [3,4,6,8] (fun k:Nat=>k≤e.Store.ac7.length) (fun k:Nat=>[(55,RV.int (k:Int))]) (fun k:Nat=>[(9,(102,[val (vI (du e q l).ac9.Id),val (vI (du e q l).ac9.ade),sl bb ((du e q l).ac9.ada.map bU),sl ak ((du e q l).ac9.Out.map ax),val (vI (du e q l).Time),sl ak ((kQ k).map ax),val (vI (du e q l).Age),val (vI (du e q l).Sent),val (vI (du e q l).Cap),sl bc ((du e q l).Rows.map (cg ak))]))]) (fun k:Nat=>e.Store.ac7.length - k) 0 ab cb cb ?_
 rintro k hk
 have htl:=yK k
 refine bO ?_
 refine sc ?_ ?_<;>intro hbb
 have hlt:k < e.Store.ac7.length:=ab
 refine bA ?_
 refine sT [2,3,4,6,7,8,9,54,55] [3,4,6,8,9] ?_
 refine rM ?_
 refine rS ?_
 refine sG [2,3,4,6,7,8,9,10,54,55] [3,4,6,8,9] ?_
 refine qz ?_
 refine Br ?_
 refine zip ?_
 refine qz ?_
 refine CI ?_
 refine sO [(2,_),(3,_),(4,_),(6,_),(7,_),(8,_),(9,_),(10,_),(54,_),(55,_)] [(3,_),(4,_),(6,_),(8,_),(9,(102,dG))] ?_
 refine bh ?_
 refine cf ?_
 refine nx (k+1) ab (f:=(by exact aI (by rw [Vo,bL];exact rfl) tI))
 have hend:k=e.Store.ac7.length:=ab
 subst hend
 refine bv ?_
 refine sT [2,3,4,6,7,8,9,54,55] [3,4,6,8,9] ?_
 refine BL ?_
 refine eO ?_
 refine sP [2,3,4,6,7,8,9,11,54,55] [3,4,6,8,9] ?_
 refine AE (d:=8) (t:=102) (e:=10) (G:=6200) (A:=oy) (B:=oz) (f:=(bz bb ak ak bc ak)) (g:=(fun z:ac8=>[val (vI z.ac9.Id),val (vI z.ac9.ade),sl .v (z.ac9.ada.map bU),sl .v (z.ac9.Out.map ax),val (vI z.Time),sl .v (z.adi.map ax),val (vI z.Age),val (vI z.Sent),val (vI z.Cap),sl .v (z.Rows.map (cg ak))])) (fN:=kf) (xs:=e.ac8) aj aj (fun _ _=>rfl) (fun _=>rfl) (fun _=>(aD (aD (bK (bK (aD (bK (aD (aD (aD (bK aA.nil))))))))))) (fun _=>bn) fun za hza=>?_
 have hzal:za.length=e.ac8.length:=by rw [←aO (f:=Prod.fst),hza]
 refine sO [(2,_),(3,_),(4,_),(6,_),(7,_),(8,_),(9,_),(11,_),(54,_),(55,_),(6200,_)] [(3,_),(4,_),(6,_),(8,(46,bj)),(9,_)] ?_
 refine SS (d:=9) (e:=10) (G:=6300) (f:=(bz bb ak ak bc ak)) (g:=(fun z:ac8=>[val (vI z.ac9.Id),val (vI z.ac9.ade),sl .v (z.ac9.ada.map bU),sl .v (z.ac9.Out.map ax),val (vI z.Time),sl .v (z.adi.map ax),val (vI z.Age),val (vI z.Sent),val (vI z.Cap),sl .v (z.Rows.map (cg ak))])) (fN:=kf) (du e q l) aj aj (fun _ _=>rfl) (fun _=>rfl) (aD (aD (bK (bK (aD (bK (aD (aD (aD (bK aA.nil)))))))))) bn fun kNew=>?_
 refine sO [(2,_),(3,_),(4,_),(6,_),(7,_),(8,_),(9,_),(11,_),(54,_),(55,_),(6200,_),(6300,_)] [(3,_),(4,_),(6,_),(8,_),(9,(102,rP))] ?_
 refine bh ?_
 refine oJ ?_
 refine sP [2,3,4,6,7,8,9,11,54,55,67,68,69,6200,6300] [3,4,6,8,9] ?_
 refine sL [2,3,4,6,7,8,9,54,55,67,68,6200,6300] [3,4,6,8,9] (fun m:Nat=>m≤za.length) (fun m:Nat=>[(11,RV.slc fq ((iI q.Id (za.take m)).map kf)),(69,RV.int (m:Int))]) (fun m:Nat=>[]) (fun m:Nat=>za.length - m) 0 ab jm au ?_
 rintro m hm
 have hfl:=Vr (x:=q.Id) (zs:=za) (k:=m)
 refine bO ?_
 refine sc ?_ ?_<;>intro hbc
 have hmz:m < za.length:=ab
 refine bA ?_
 refine Ki ?_
 refine bh ?_
 refine Kg ?_
 refine Kv ?_
 refine aU ?_
 refine sO [(2,_),(3,_),(4,_),(6,_),(7,_),(8,_),(9,_),(11,_),(13,_),(54,_),(55,_),(67,_),(68,_),(69,_),(6200,_),(6300,_)] [(3,_),(4,_),(6,_),(8,_),(9,_),(13,(102,rP))] ?_
 refine bh ?_
 refine rA ?_ (x:=lF lS)
 refine rA ?_ (x:=lF nJ)
 refine rA ?_ (x:=rt (qs:=[val _]) ae bB (fun _=>rfl) aH (by exact (aA.cons (PV.nv_to (uf _)) aA.nil)) zJ)
 refine sb ?_
 refine fx ?_
 refine sc ?_ ?_<;>intro hbd
 have hlz:hY q.Id za[m].1=true:=by simpa [hY] using hbd
 refine sG [2,3,4,6,7,8,9,11,13,54,55,67,68,69,6200,6300] [3,4,6,8,9,13] ?_
 refine bW ?_
 refine Kc ?_
 refine Bl ?_
 exact IT
 have hlz:hY q.Id za[m].1=false:=by simpa [hY] using hbd
 refine bd ?_
 exact IT
 have hend2:m=za.length:=ab
 have hfa:iI q.Id (za.take m)=iI q.Id za:=by rw [hend2,cC]
 rw [hfa]
 have hfl2:=NB (x:=q.Id) hza
 refine bv ?_
 refine Ki ?_
 refine bh ?_
 refine fc ?_
 refine rA ?_ (x:=lN gR)
 refine rS ?_
 refine LJ ?_
 refine Kc ?_
 refine Bl ?_
 refine LJ ?_
 refine rA ?_ (x:=lF kh)
 refine rA ?_ (x:=lD [sl .v _] ki)
 refine rM ?_
 refine rA ?_ (x:=wT (i:=(eT e.ac8 q.Id)) (j:=za.length) (ys:=(za.drop (eT e.ac8 q.Id))) (r:=((za.length:Nat):Int)) ae gR au aj ab ab ab ab (fun _=>rfl) (by rw [cC]))
 refine rA ?_ (x:=ue ae gR na rfl rfl ae (by intro cs hcs;obtain ⟨x,_,rfl⟩:=List.mem_map.1 hcs;exact rfl) (by intro cs hcs;obtain ⟨x,_,rfl⟩:=List.mem_map.1 hcs;exact bn) Gd Gd)
 refine Ls ?_
 refine aU ?_
 refine sO [(2,_),(3,_),(4,_),(6,_),(7,_),(8,_),(9,_),(14,_),(54,_),(55,_),(67,_),(68,_),(69,_),(6200,_),(6300,_)] [(3,_),(4,_),(6,_),(8,(46,bj)),(9,_)] ?_
 refine fV (d:=8) aj (show _=[sl dg (e.Store.ac7.map (be bJ ak)),val (vI e.Store.Now),val (vI e.adc),sl ak (e.Order.map ax),sl fq ((za.take (eT e.ac8 q.Id)++(du e q l,kNew)::za.drop (eT e.ac8 q.Id)).map kf),sl ft (e.Done.map (cn bb ak bc ak)),sl fu (e.adl.map (cm ak ak ak)),val (vI e.Steps)] from by rw [←NC hoe hza];simp only [bL,List.map_cons,List.map_nil,aW];exact rfl) ?_
 refine sP [2,3,4,6,7,8,9,14,54,55,67,68,69,6200,6300] [3,4,6,8,9] ?_
 refine SK (G:=6300) (H:=6200) (e:=10) (f:=(bz bb ak ak bc ak)) aj aj aj ?_
 refine sP [2,3,4,6,7,8,9,14,54,55,67,68,69,6300] [3,4,6,8,9] ?_
 refine SU (d:=8) (t:=102) (e:=10) (G:=6300) (A:=oy) (B:=oz) (f:=(bz bb ak ak bc ak)) (g:=(fun z:ac8=>[val (vI z.ac9.Id),val (vI z.ac9.ade),sl .v (z.ac9.ada.map bU),sl .v (z.ac9.Out.map ax),val (vI z.Time),sl .v (z.adi.map ax),val (vI z.Age),val (vI z.Sent),val (vI z.Cap),sl .v (z.Rows.map (cg ak))])) (fN:=kf) (ys:=(za.take (eT e.ac8 q.Id)++(du e q l,kNew)::za.drop (eT e.ac8 q.Id))) [] (gO e q l) aj aj (fun _ _=>rfl) (fun _=>rfl) (fun _=>rfl) (Vv) (Vw hoe hza) ?_
 refine sO [(2,_),(3,_),(4,_),(6,_),(7,_),(8,_),(9,_),(14,_),(54,_),(55,_),(67,_),(68,_),(69,_)] [(3,_),(4,_),(6,_),(8,(46,bj)),(9,_)] ?_
 refine bh ?_
 refine mr ?_
 refine bG ?_
 exact (ba 6 (ba _ (aI aj (aI (by refine cV ?_;rw [mT hok];exact rfl) (aI dl (aI (fun h=>nomatch h) (aI (by refine dh ?_;rw [mT hok]) tI)))))))
end Go.Proofs.YtmekkgdboplbjaaGreatDoor
