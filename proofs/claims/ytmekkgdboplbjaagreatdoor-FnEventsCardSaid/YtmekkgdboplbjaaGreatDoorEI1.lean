/- What functions of the program compute. No condition. -/
import Derived.Test.YtmekkgdboplbjaaGreatDoorEH1
set_option linter.all false
namespace Go.Proofs.YtmekkgdboplbjaaGreatDoor
open Go Go.RowKit M PV Tryz
set_option maxRecDepth 10000
attribute [local irreducible] PV.Lcl PV.LclR RV.Lcl
set_option maxHeartbeats 8000000
def aus:eA prog 56=some [(0,4),(4,1),(5,1),(6,1)]:=ao
def aut{e:aC}(hoe:bn e=true)(hst:e.Steps < 100000)(hld:(e.ayf.length:Int) < 1000)(hda:(e.Done.length:Int)+(e.ax3.length:Int)≤1000)(hb:bA e≤68719000000):ie prog 274 46 [sl bH (e.Store.ax2.map (aO bc ai)),val (vI e.Store.Now),val (vI e.ax7),sl ai (e.Order.map ar),sl cm (e.ax3.map (bd aH ai ai aL ai)),sl cf (e.Done.map (bw aH ai aL ai)),sl ck (e.ayf.map (bz ai ai ai)),val (vI e.Steps)] [sl bH ((dZ (jf e)).Store.ax2.map (aO bc ai)),val (vI (dZ (jf e)).Store.Now),val (vI (dZ (jf e)).ax7),sl ai ((dZ (jf e)).Order.map ar),sl cm ((dZ (jf e)).ax3.map (bd aH ai ai aL ai)),sl cf ((dZ (jf e)).Done.map (bw aH ai aL ai)),sl ck ((dZ (jf e)).ayf.map (bz ai ai ai)),val (vI (dZ (jf e)).Steps)] [] (aB []):=by
 refine iX (rs:=[]) func274 rfl (nl rfl) (nl rfl) ?_
 intro g_ h0 w0 Fz0
 have hef:=jv hoe
 have hcl:e.ax7.toNat < e.Store.ax2.length:=hef.2.2.2.1
 have hpl:=DJ (e:=e)
 have hswt:=Sq hoe
 obtain ⟨hs8,hs1,_,_,_,_⟩:=pX hef.1
 have hbu:=hb
 simp only [bA,iO,kk,jt] at hbu
 refine sR ?_
 refine oA ?_
 refine tu ?_
 refine rA ?_ (x:=cL [(true,aW)] [(true,cO)] aqz (hs:=by exact (aug ab)))
 refine oD ?_
 refine sT [0,2,5000] [0] ?_
 refine mM ?_
 refine tn ?_
 refine sc ?_ ?_<;>intro hba
 have hled:jz e (parts e).length=e.ayf++[fu e (parts e).length]:=by unfold jz;rw [if_neg ab]
 refine sP [0,2,5000] [0] ?_
 refine wd ?_
 refine wA ?_ (x:=cM Cp.ptr)
 refine wA ?_ (x:=tM)
 refine wO [(0,_),(14,_),(15,_),(5000,_)] [(0,_)] ?_
 refine BA (bx:=0) (L:=LB) (qs:=[(false,[sl _ _])]) (as_:=[(false,[sl _ _])]) aj aqA rfl ak ak gI bS aj (by exact (aI (aI rfl (ir.cons OTo.refl ir.nil)) tI)) (by exact (aur (e:=e) rfl hoe ab)) (fun x hx=>hx.elim) bg (by exact (aI (.inl rfl) tI)) ?_
 refine ur ?_
 refine sT [0,5000] [0] ?_
 refine oA ?_
 refine pM ?_
 refine mP ?_
 refine rS ?_
 refine sS [0,3,5000] [0] ?_
 refine Ch ?_
 refine aU ?_
 refine sS [0,3,4,5000] [0] ?_
 refine cl ?_
 refine sP [0,3,4,5,5000] [0] ?_
 refine zv9 ?_
 refine sP [0,3,4,5,5000] [0] ?_
 refine yI (d:=0) (t:=102) (e:=10) (G:=6200) (A:=mJ) (B:=mK) (f:=(bd aH ai ai aL ai)) (g:=(fun z:ax3=>[val (vI z.ax4.Id),val (vI z.ax4.ax8),sl .v (z.ax4.ax5.map bF),sl .v (z.ax4.Out.map ar),val (vI z.Time),sl .v (z.ayc.map ar),val (vI z.Age),val (vI z.Sent),val (vI z.Cap),sl .v (z.Rows.map (cD ai))])) (fN:=gS) (xs:=(cw e (parts e).length)) ak ak (fun _ _=>rfl) (fun _=>rfl) (fun _=>(aD (aD (aV (aV (aD (aV (aD (aD (aD (aV aJ.nil))))))))))) (fun _=>bg) fun za hza=>?_
 have hzal:za.length=e.ax3.length:=EA
 refine sQ [0,3,4,5,5000,6200] [0] ?_
 refine sL [0,3,5000] [] (fun m:Nat=>m≤e.ax3.length) (fun m:Nat=>[(4,RV.slc cm ((mw e (parts e).length m).map (bd aH ai ai aL ai))),(5,RV.int (m:Int)),(6200,RV.gh (br 10 (za.drop m)) (bY (bd aH ai ai aL ai) (za.drop m)))]) (fun m:Nat=>[(0,(46,[sl bH (e.Store.ax2.map (aO bc ai)),val (vI e.Store.Now),val (vI e.ax7),sl ai (e.Order.map ar),sl .v (za.map gS),sl cf ((e.Done++jy e (parts e).length m).map (bw aH ai aL ai)),sl ck ((jz e (parts e).length).map (bz ai ai ai)),val (vI e.Steps)]))]) (fun m:Nat=>e.ax3.length - m) 0 ab ui UU ?_
 rintro m hm
 have hrl2:=JM (e:=e) (k:=(parts e).length) (m:=m)
 have hdl2:=JN (e:=e) (k:=(parts e).length) (m:=m)
 refine cP ?_
 refine oA ?_
 refine uH ?_
 refine sc ?_ ?_<;>intro hbb
 have hltm:m < e.ax3.length:=ab
 have hltz:m < za.length:=ab
 have hm2:m < (cw e (parts e).length).length:=EL
 have hm1:m < (dr e (parts e).length).length:=EM
 have hz3:za[m].1=(cw e (parts e).length)[m]:=Bf
 have hab:=JP hoe hltm hm2
 rw [←hz3] at hab
 refine bv ?_
 refine sT [0,3,4,5,5000,6200] [0] ?_
 refine oA ?_
 refine px ?_
 refine rM ?_
 refine GX ?_
 refine Hb ?_
 refine sO [(0,_),(3,_),(4,_),(5,_),(6,_),(5000,_),(6200,_)] [(0,_),(6,(102,nB))] ?_
 refine zvc ?_
 refine Hl ?_
 refine xt ?_
 refine sZ ?_
 refine xt ?_
 refine mN ?_
 refine aU ?_
 refine Hl ?_
 refine HK ?_
 refine rM ?_
 refine OZ ?_
 refine sc ?_ ?_<;>intro hbc
 have hga:(dr e (parts e).length)[m]=(⟨za[m].1.ax4,za[m].1.Time,za[m].1.ayc,za[m].1.Age+1,0,za[m].1.Cap,za[m].1.Rows⟩:ax3):=UH
 refine sG [0,3,4,5,6,5000,6200] [0,6] ?_
 refine ON ?_
 refine aU ?_
 refine Hl ?_
 exact zvi
 have hga:(dr e (parts e).length)[m]=(⟨za[m].1.ax4,za[m].1.Time,za[m].1.ayc,za[m].1.Age+1,za[m].1.Sent,za[m].1.Cap,za[m].1.Rows⟩:ax3):=UK
 refine ba ?_
 refine sS [0,3,4,5,6,5000,6200] [0,6] ?_
 exact zvi
 have hend2:m=e.ax3.length:=ab
 subst hend2
 refine bI ?_
 refine sT [0,3,4,5,5000,6200] [0] ?_
 refine fL ?_
 refine cb ?_
 refine xh ?_
 refine yW ?_
 refine sT [0,3,5,5000,6200] [0] ?_
 refine CC ?_
 refine zh ?_
 refine dI ?_
 refine zvk ?_
 refine zvl ?_
 refine sT [0,3,5,5000,6200] [0] ?_
 refine CC ?_
 refine rA ?_ (x:=lF ne)
 refine Qb ?_
 refine zvm ?_
 refine sQ [0,3,5,5000] [0] ?_
 refine wd ?_
 refine wA ?_ (x:=cM Cp.ptr)
 refine wO [(0,_),(3,_),(5,_),(98,_),(5000,_)] [(0,_)] ?_
 exact zvn
 have hled:jz e (parts e).length=e.ayf:=by unfold jz;rw [if_pos ab]
 have hsv:(cw e (parts e).length)=e.ax3:=by rw [show (parts e).length=0 by omega];exact Sh
 refine ba ?_
 refine sS [0,2,5000] [0] ?_
 refine oA ?_
 refine pM ?_
 refine mP ?_
 refine rS ?_
 refine sS [0,2,3,5000] [0] ?_
 refine Ch ?_
 refine aU ?_
 refine sS [0,2,3,4,5000] [0] ?_
 refine cl ?_
 refine sP [0,2,3,4,5,5000] [0] ?_
 refine zv9 ?_
 refine sP [0,2,3,4,5,5000] [0] ?_
 refine yI (d:=0) (t:=102) (e:=10) (G:=6200) (A:=mJ) (B:=mK) (f:=(bd aH ai ai aL ai)) (g:=(fun z:ax3=>[val (vI z.ax4.Id),val (vI z.ax4.ax8),sl .v (z.ax4.ax5.map bF),sl .v (z.ax4.Out.map ar),val (vI z.Time),sl .v (z.ayc.map ar),val (vI z.Age),val (vI z.Sent),val (vI z.Cap),sl .v (z.Rows.map (cD ai))])) (fN:=gS) (xs:=(cw e (parts e).length)) ak ak (fun _ _=>rfl) (fun _=>rfl) (fun _=>(aD (aD (aV (aV (aD (aV (aD (aD (aD (aV aJ.nil))))))))))) (fun _=>bg) fun za hza=>?_
 have hzal:za.length=e.ax3.length:=EA
 refine sQ [0,2,3,4,5,5000,6200] [0] ?_
 refine sL [0,2,3,5000] [] (fun m:Nat=>m≤e.ax3.length) (fun m:Nat=>[(4,RV.slc cm ((mw e (parts e).length m).map (bd aH ai ai aL ai))),(5,RV.int (m:Int)),(6200,RV.gh (br 10 (za.drop m)) (bY (bd aH ai ai aL ai) (za.drop m)))]) (fun m:Nat=>[(0,(46,[sl bH (e.Store.ax2.map (aO bc ai)),val (vI e.Store.Now),val (vI e.ax7),sl ai (e.Order.map ar),sl .v (za.map gS),sl cf ((e.Done++jy e (parts e).length m).map (bw aH ai aL ai)),sl ck ((jz e (parts e).length).map (bz ai ai ai)),val (vI e.Steps)]))]) (fun m:Nat=>e.ax3.length - m) 0 ab ui UU ?_
 rintro m hm
 have hrl2:=JM (e:=e) (k:=(parts e).length) (m:=m)
 have hdl2:=JN (e:=e) (k:=(parts e).length) (m:=m)
 refine cP ?_
 refine oA ?_
 refine uH ?_
 refine sc ?_ ?_<;>intro hbb
 have hltm:m < e.ax3.length:=ab
 have hltz:m < za.length:=ab
 have hm2:m < (cw e (parts e).length).length:=EL
 have hm1:m < (dr e (parts e).length).length:=EM
 have hz3:za[m].1=(cw e (parts e).length)[m]:=Bf
 have hab:=JP hoe hltm hm2
 rw [←hz3] at hab
 refine bv ?_
 refine sT [0,2,3,4,5,5000,6200] [0] ?_
 refine oA ?_
 refine px ?_
 refine rM ?_
 refine GX ?_
 refine Hb ?_
 refine sO [(0,_),(2,_),(3,_),(4,_),(5,_),(6,_),(5000,_),(6200,_)] [(0,_),(6,(102,nB))] ?_
 refine zvc ?_
 refine Hi ?_
 refine xt ?_
 refine sZ ?_
 refine xt ?_
 refine mN ?_
 refine aU ?_
 refine Hi ?_
 refine HK ?_
 refine rM ?_
 refine OZ ?_
 refine sc ?_ ?_<;>intro hbc
 have hga:(dr e (parts e).length)[m]=(⟨za[m].1.ax4,za[m].1.Time,za[m].1.ayc,za[m].1.Age+1,0,za[m].1.Cap,za[m].1.Rows⟩:ax3):=UH
 refine sG [0,2,3,4,5,6,5000,6200] [0,6] ?_
 refine ON ?_
 refine aU ?_
 refine Hi ?_
 exact zvp
 have hga:(dr e (parts e).length)[m]=(⟨za[m].1.ax4,za[m].1.Time,za[m].1.ayc,za[m].1.Age+1,za[m].1.Sent,za[m].1.Cap,za[m].1.Rows⟩:ax3):=UK
 refine ba ?_
 refine sS [0,2,3,4,5,6,5000,6200] [0,6] ?_
 exact zvp
 have hend2:m=e.ax3.length:=ab
 subst hend2
 refine bI ?_
 refine sT [0,2,3,4,5,5000,6200] [0] ?_
 refine fL ?_
 refine cb ?_
 refine xh ?_
 refine yW ?_
 refine sT [0,2,3,5,5000,6200] [0] ?_
 refine CC ?_
 refine zh ?_
 refine dI ?_
 refine zvk ?_
 refine zvl ?_
 refine sT [0,2,3,5,5000,6200] [0] ?_
 refine CC ?_
 refine rA ?_ (x:=lF ne)
 refine Qb ?_
 refine zvm ?_
 refine sQ [0,2,3,5,5000] [0] ?_
 refine wd ?_
 refine wA ?_ (x:=cM Cp.ptr)
 refine wO [(0,_),(2,_),(3,_),(5,_),(98,_),(5000,_)] [(0,_)] ?_
 exact zvn
def auu{p1 p2 p5 p6 p7 p8 p9 p11 p12 p13 p14 p16 p17 p18:Fl}{e:aC}(hb:bA e≤68719000000):aQ prog 225 [(true,[sl .v (e.Store.ax2.map (aO p1 p2)),val (vI e.Store.Now),val (vI e.ax7),sl .v (e.Order.map ar),sl .v (e.ax3.map (bd p5 p6 p7 p8 p9)),sl .v (e.Done.map (bw p11 p12 p13 p14)),sl .v (e.ayf.map (bz p16 p17 p18)),val (vI e.Steps)])] (aB [(true,[sl bH ((dL e).Store.ax2.map (aO bc ai)),val (vI (dL e).Store.Now),val (vI (dL e).ax7),sl ai ((dL e).Order.map ar),sl cm ((dL e).ax3.map (bd aH ai ai aL ai)),sl cf ((dL e).Done.map (bw aH ai aL ai)),sl ck ((dL e).ayf.map (bz ai ai ai)),val (vI (dL e).Steps)]),(false,[val (.bool (jT e))])]):=by
 refine pm (largs:=fun L=>[(true,[sl (.lo L) (e.Store.ax2.map (aO (.lo L) (.lo L))),val (vI e.Store.Now),val (vI e.ax7),sl (.lo L) (e.Order.map ar),sl (.lo L) (e.ax3.map (bd (.lo L) (.lo L) (.lo L) (.lo L) (.lo L))),sl (.lo L) (e.Done.map (bw (.lo L) (.lo L) (.lo L) (.lo L))),sl (.lo L) (e.ayf.map (bz (.lo L) (.lo L) (.lo L))),val (vI e.Steps)])]) (rs:=[(true,[sl bH ((dL e).Store.ax2.map (aO bc ai)),val (vI (dL e).Store.Now),val (vI (dL e).ax7),sl ai ((dL e).Order.map ar),sl cm ((dL e).ax3.map (bd aH ai ai aL ai)),sl cf ((dL e).Done.map (bw aH ai aL ai)),sl ck ((dL e).ayf.map (bz ai ai ai)),val (vI (dL e).Steps)]),(false,[val (.bool (jT e))])]) func225 rfl (nl rfl) (fun L=>by exact (aI (aI rfl (am.cons (aT (fun _=>nl rfl) (fun _=>(am.cons (aT (fun _=>nl rfl) (fun _=>(am.cons ay (am.cons (aT (fun _=>nl rfl) (fun _=>(am.cons ay am.nil))) (am.cons ay (am.cons ay am.nil)))))) am.nil))) (am.cons ay (am.cons ay (am.cons (aT (fun _=>nl rfl) (fun _=>(am.cons ay am.nil))) (am.cons (aT (fun _=>nl rfl) (fun _=>(am.cons ay (am.cons ay (am.cons (aT (fun _=>nl rfl) (fun _=>(am.cons ay (am.cons ay (am.cons ay am.nil))))) (am.cons (aT (fun _=>nl rfl) (fun _=>(am.cons ay am.nil))) (am.cons ay (am.cons (aT (fun _=>nl rfl) (fun _=>(am.cons ay am.nil))) (am.cons ay (am.cons ay (am.cons ay (am.cons (aT (fun _=>nl rfl) (fun _=>(am.cons ay (am.cons (aT (fun _=>nl rfl) (fun _=>(am.cons ay am.nil))) am.nil)))) am.nil)))))))))))) (am.cons (aT (fun _=>nl rfl) (fun _=>(am.cons ay (am.cons ay (am.cons (aT (fun _=>nl rfl) (fun _=>(am.cons ay (am.cons ay (am.cons ay am.nil))))) (am.cons (aT (fun _=>nl rfl) (fun _=>(am.cons ay am.nil))) (am.cons ay (am.cons ay (am.cons (aT (fun _=>nl rfl) (fun _=>(am.cons ay (am.cons (aT (fun _=>nl rfl) (fun _=>(am.cons ay am.nil))) am.nil)))) am.nil))))))))) (am.cons (aT (fun _=>nl rfl) (fun _=>(am.cons ay (am.cons ay (am.cons (aT (fun _=>nl rfl) (fun _=>(am.cons ay am.nil))) (am.cons (aT (fun _=>nl rfl) (fun _=>(am.cons ay am.nil))) (am.cons (aT (fun _=>nl rfl) (fun _=>(am.cons ay am.nil))) am.nil))))))) (am.cons ay am.nil))))))))) tI)) (fun L=>by exact lq) ?_
 intro w0 Fz0
 refine sn 0 0 fun hl0_0=>?_
 refine sn 0 3 fun hl0_3=>?_
 refine sn 0 4 fun hl0_4=>?_
 refine sn 0 5 fun hl0_5=>?_
 refine sn 0 6 fun hl0_6=>?_
 have hbu:=hb
 simp only [bA,iO,kk,jt] at hbu
 refine BZ ?_
 refine ztq ?_
 refine NY ?_
 refine lu ?_
 refine ztt ?_
 refine zvr ?_
 refine fp ?_
 refine cx 10 ?_ ?_<;>intro ga sga
 refine jH ?_
 refine au.cases (s:=15) rfl (fun g2=>?_) (fun g2=>nomatch g2)
 refine oI ?_
 refine au.cases (s:=21) rfl (fun g3=>?_) (fun g3=>nomatch g3)
 exact ztw
 refine rB ga ?_ (x:=lF ne)
 refine kg ?_
 refine rB ga ?_ (x:=kJ)
 refine ly ?_
 refine cx 15 ?_ ?_<;>intro gb sgb
 refine nG ?_
 refine au.cases (s:=21) rfl (fun g6=>?_) (fun g6=>nomatch g6)
 exact ztx
 refine rB gb ?_ (x:=lF lH)
 refine rB gb ?_ (x:=lD [sl (.lo _) _] lJ)
 refine rB gb ?_ (x:=lN jR)
 refine rB gb ?_ (x:=kJ)
 refine sW ?_
 refine cx 21 ?_ ?_<;>intro gc sgc
 exact zty
 refine rB gc ?_ (x:=lF qd)
 refine rB gc ?_ (x:=lD [sl (.lo _) _] qf)
 refine rB gc ?_ (x:=lN nf)
 refine rB gc ?_ (x:=lF hP)
 refine rB gc ?_ (x:=lD [sl (.lo _) _] fi)
 refine rB gc ?_ (x:=lN cQ)
 refine rB gc ?_ (x:=jF)
 refine wI ?_
 refine sc ?_ ?_<;>intro hba
 exact BI
 have hok:jT e=true:=by
  have ho_:bn e=true:=dO
  have hef_:=jv ho_
  unfold jT
  rw [ho_]
  simp only [Bool.true_and,aX,decide_eq_true_eq]
  exact ⟨ab,ab,ab⟩
 obtain ⟨hoe,hst,hld,hda⟩:=DX hok
 refine dp ?_
 refine sP [1,2,3,4] [1,2,4] ?_
 refine wd ?_
 refine wO [(1,_),(2,_),(3,_),(4,_)] [(1,_),(2,_),(4,_)] ?_
 refine BA (bx:=4) (L:=(Lw w0.heap.size)) (qs:=[]) (as_:=[]) aj aqt rfl ak ak an an aj an (by exact (aut (by assumption) ab ab ab ab)) (fun x hx=>hx) bg bg ?_
 refine ur ?_
 refine aU ?_
 refine zvs ?_
 refine tk ?_
 refine rK ?_
 exact zvt
end Go.Proofs.YtmekkgdboplbjaaGreatDoor
