/- What functions of the program compute. No condition. -/
import Derived.Test.YtmekkgdboplbjaaGreatDoorDN0
set_option linter.all false
namespace Go.Proofs.YtmekkgdboplbjaaGreatDoor
open Go Go.RowKit M PV
set_option maxRecDepth 10000
attribute [local irreducible] PV.Lcl PV.LclR RV.Lcl
def Ow{x:ac9}(hb:fI x≤68719476736):aS Tryz.prog 199 [(true,[val (vI x.Id),val (vI x.ade),sl .v (x.ada.map bU),sl .v (x.Out.map ax)])] (aJ [(true,[val (vI x.Id),val (vI x.ade),sl bb (x.ada.map bU),sl ak (x.Out.map ax)])]):=by
 refine sF Tryz.func199 fun h0 w0 Fz0=>?_
 refine sn 0 2 fun hl0_2=>?_
 refine sn 0 3 fun hl0_3=>?_
 have hbu:=hb
 simp only [fI,fy,aX,vb] at hbu
 refine nB ?_
 refine rX ?_ (x:=(ew ae qD qE))
 refine sT [1,2] [1,2] ?_
 refine rA ?_ (x:=dq (qs:=[]) ae gK oW ae rfl rfl rfl rfl rfl aH au rfl)
 refine Bt ?_
 refine rA ?_ (x:=ue ae gK oW rfl rfl ae wm (by first|(intro cs hcs;obtain ⟨x,_,rfl⟩:=List.mem_map.1 hcs;exact (aB.cons (bor_val _) (aB.cons (bor_val _) (aB.cons (bor_val _) aB.nil))))|simp) ck ck)
 refine rA ?_ (x:=lF kK)
 refine LZ ?_
 refine aU ?_
 refine LN ?_
 refine Cj ?_
 refine rA ?_ (x:=cL [(false,[sl _ _])] [(false,[sl .v _])] oT (hs:=oi))
 refine rA ?_ (x:=lF tc)
 refine BQ ?_
 refine LN ?_
 refine Kq ?_
 refine cv ?_
 exact (ba 2 (ba _ (aI aj (aI aj (aI gi (aI (fun h=>nomatch h) tI))))))
end Go.Proofs.YtmekkgdboplbjaaGreatDoor
