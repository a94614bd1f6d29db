/- What functions of the program compute. No condition. -/
import Derived.Test.YtmekkgdboplbjaaGreatDoorEN0
import Derived.Test.YtmekkgdboplbjaaGreatDoorEJ0
set_option linter.all false
namespace Go.Proofs.YtmekkgdboplbjaaGreatDoor
open Go Go.RowKit M PV Tryz
set_option maxRecDepth 10000
attribute [local irreducible] PV.Lcl PV.LclR RV.Lcl
def auB{x:List fC}{y:List fC}:aQ prog 190 [(false,[sl .v (x.map bF)]),(false,[sl .v (y.map bF)])] (aB [(false,[val (.bool (hE x y))])]):=by
 refine sF func190 fun h0 w0 Fz0=>?_
 refine sj 0 fun hl0=>?_
 refine sj 1 fun hl1=>?_
 refine ti ?_
 refine PN ?_
 refine PN ?_
 refine mQ ?_
 refine sc ?_ ?_<;>intro hba
 exact BH
 have hl:x.length=y.length:=ab
 refine CQ ?_
 refine PN ?_
 refine fK ?_
 refine zjq ?_
 rintro k ⟨hk,ha⟩
 refine cY ?_
 refine sc ?_ ?_<;>intro hbb
 have hlt:k < x.length:=ab
 have hlt2:k < y.length:=ab
 refine bv ?_
 refine sS [0,1,12,13] [] ?_
 refine rM ?_
 refine eU ?_
 refine sP [0,1,5,12,13] [] ?_
 refine oG ?_
 refine dA 3 ?_ (x:=aZ aj il an ak bE ak)
 refine dA 7 ?_ (x:=lE iY vd)
 refine ij ?_
 refine dA 48 ?_ (x:=aZ aj il an ak bE ak)
 refine dA 112 ?_ (x:=lE iY vd)
 refine dA 255 ?_ (x:=WH [vI _,vI _,vI _] [vI _,vI _,vI _] aj (ahx _ _ _ _ _ _ _ _))
 refine sc ?_ ?_<;>intro hbc
 refine sS [0,1,5,12,13] [] ?_
 exact MN
 refine ba ?_
 refine sG [0,1,5,12,13] [] ?_
 refine dI ?_
 exact zx1
 exact Yx
def auC{x:ax4}{y:ax4}:aQ prog 111 [(true,[val (vI x.Id),val (vI x.ax8),sl .v (x.ax5.map bF),sl .v (x.Out.map ar)]),(true,[val (vI y.Id),val (vI y.ax8),sl .v (y.ax5.map bF),sl .v (y.Out.map ar)])] (aB [(false,[val (.bool (hE x y))])]):=by
 refine sF func111 fun h0 w0 Fz0=>?_
 refine sn 0 2 fun hl0_2=>?_
 refine sn 0 3 fun hl0_3=>?_
 refine sn 1 2 fun hl1_2=>?_
 refine sn 1 3 fun hl1_3=>?_
 refine zx2 ?_
 refine wM ?_
 refine uA ?_
 refine uA ?_
 refine iw ?_
 refine cx 10 ?_ ?_<;>intro ga sga
 refine HI ?_
 refine rB ga ?_ (x:=lF tz)
 refine tl ?_
 refine cx 17 ?_ ?_<;>intro gb sgb
 refine Oj ?_
 refine Oj ?_
 refine rB gb ?_ (x:=cL [(false,[sl _ _]),(false,[sl _ _])] [(false,[sl .v _]),(false,[sl .v _])] an6 (hs:=by exact auB))
 refine iM ?_
 refine cx 24 ?_ ?_<;>intro gc sgc
 refine ze ?_
 refine ze ?_
 refine rB gc ?_ (x:=cL [(false,[sl _ _]),(false,[sl _ _])] [(false,[sl .v _]),(false,[sl .v _])] ahu (hs:=by exact ajh))
 refine rh ?_
 exact GC
 refine oB ?_
 exact GC
 refine ix ?_
 refine au.cases (s:=24) rfl (fun g4=>nomatch g4) (fun g4=>?_)
 refine zq ?_
 exact GC
 refine jb ?_
 refine au.cases (s:=17) rfl (fun g5=>nomatch g5) (fun g5=>?_)
 refine wL ?_
 refine rM ?_
 refine au.cases (s:=24) rfl (fun g6=>nomatch g6) (fun g6=>?_)
 refine uF ?_
 exact GC
def auD{x:ax6}{y:ax6}:aQ prog 112 [(true,[val (vI x.Kind),val (vI x.Row.Id),sl .v (x.Row.Values.map ar),val (vI x.Field),val (vI x.Value)]),(true,[val (vI y.Kind),val (vI y.Row.Id),sl .v (y.Row.Values.map ar),val (vI y.Field),val (vI y.Value)])] (aB [(false,[val (.bool (hE x y))])]):=by
 refine sF func112 fun h0 w0 Fz0=>?_
 refine sn 0 2 fun hl0_2=>?_
 refine sn 1 2 fun hl1_2=>?_
 refine yY ?_
 refine zx5 ?_
 refine wM ?_
 refine ux ?_
 refine ux ?_
 refine iw ?_
 refine cx 10 ?_ ?_<;>intro ga sga
 refine zU ?_
 refine II ?_
 refine zU ?_
 refine II ?_
 refine rB ga ?_ (x:=cL [(true,ct),(true,ct)] [(true,fJ),(true,fJ)] an7 (hs:=by exact arC))
 refine qZ ?_
 refine cx 17 ?_ ?_<;>intro gb sgb
 refine PA ?_
 refine HY ?_
 refine iM ?_
 refine cx 24 ?_ ?_<;>intro gc sgc
 refine rB gc ?_ (x:=lF pT)
 refine oL ?_
 refine rB gc ?_ (x:=lF pT)
 refine Cq ?_
 refine rh ?_
 exact GD
 refine oB ?_
 exact GD
 refine ix ?_
 refine au.cases (s:=24) rfl (fun g4=>nomatch g4) (fun g4=>?_)
 refine zq ?_
 exact GD
 refine jb ?_
 refine au.cases (s:=17) rfl (fun g5=>nomatch g5) (fun g5=>?_)
 refine wL ?_
 refine rM ?_
 refine au.cases (s:=24) rfl (fun g6=>nomatch g6) (fun g6=>?_)
 refine uF ?_
 exact GD
def auE{x:ax4}{y:ax4}:aQ prog 127 [(true,[val (vI x.Id),val (vI x.ax8),sl .v (x.ax5.map bF),sl .v (x.Out.map ar)]),(true,[val (vI y.Id),val (vI y.ax8),sl .v (y.ax5.map bF),sl .v (y.Out.map ar)])] (aB [(false,[val (.bool (hE x y))])]):=by
 refine sF func127 fun h0 w0 Fz0=>?_
 refine sn 0 2 fun hl0_2=>?_
 refine sn 0 3 fun hl0_3=>?_
 refine sn 1 2 fun hl1_2=>?_
 refine sn 1 3 fun hl1_3=>?_
 refine zx2 ?_
 refine CE ?_
 refine uA ?_
 refine uA ?_
 refine mQ ?_
 refine rM ?_
 refine cx 11 ?_ ?_<;>intro ga sga
 refine jH ?_
 refine au.cases (s:=18) rfl (fun g2=>?_) (fun g2=>nomatch g2)
 refine oI ?_
 refine au.cases (s:=27) rfl (fun g3=>?_) (fun g3=>nomatch g3)
 refine oF ?_
 refine cH ?_
 exact GF
 refine HI ?_
 refine HI ?_
 refine rB ga ?_ (x:=ig)
 refine ly ?_
 refine cx 18 ?_ ?_<;>intro gb sgb
 refine nG ?_
 refine au.cases (s:=27) rfl (fun g6=>?_) (fun g6=>nomatch g6)
 refine th ?_
 refine cH ?_
 exact GF
 refine Cz ?_
 refine Cz ?_
 refine rB gb ?_ (x:=ig)
 refine sW ?_
 refine cx 27 ?_ ?_<;>intro gc sgc
 refine xe ?_
 exact GF
 refine ze ?_
 refine ze ?_
 refine zx9 ?_
 refine rB gc ?_ (x:=nT)
 refine to ?_
 refine sc ?_ ?_<;>intro hba
 exact GF
 have hl:x.ax5.length=y.ax5.length:=uk
 refine Ii ?_
 refine cl ?_
 refine sP [2,3,4,5] [2,3] ?_
 refine sL [2,3] [2,3] (fun k:Nat=>k≤x.ax5.length∧x.ax5.take k=y.ax5.take k) (fun k:Nat=>[(5,RV.int (k:Int))]) (fun k:Nat=>[]) (fun k:Nat=>x.ax5.length - k) 0 iG bp an ?_
 rintro k ⟨hk,ha⟩
 refine cP ?_
 refine IB ?_
 refine sc ?_ ?_<;>intro hbb
 have hlt:k < x.ax5.length:=ab
 have hlt2:k < y.ax5.length:=ab
 refine eB ?_
 refine sQ [2,3,5] [2,3] ?_
 refine Qg ?_
 refine OI ?_
 refine dA 15 ?_ (x:=lE iY vd)
 refine xo ?_
 refine dA 32 ?_ (x:=lD [sl .v _] kp)
 refine dS ?_
 refine dA 224 ?_ (x:=aZ aj il an ak bE ak)
 refine dA 480 ?_ (x:=lE iY vd)
 refine dA 1023 ?_ (x:=WH [vI _,vI _,vI _] [vI _,vI _,vI _] aj (ahx _ _ _ _ _ _ _ _))
 refine sc ?_ ?_<;>intro hbc
 have hbad:¬x=y:=by intro e;subst e;simp_all
 refine sS [2,3,5] [2,3] ?_
 refine ca ?_
 exact rb ((Ag hbad).symm)
 refine ba ?_
 refine sG [2,3,5] [2,3] ?_
 refine cB ?_
 exact zx1
 have hend:x.ax5=y.ax5:=Af hl (by rw [show x.ax5.length=k by omega];exact ha)
 refine bI ?_
 refine sT [2,3,5] [2,3] ?_
 refine ca ?_
 exact rb (by refine (xy ?_).symm;rw [ahs];simp_all [fZ,QW])
end Go.Proofs.YtmekkgdboplbjaaGreatDoor
