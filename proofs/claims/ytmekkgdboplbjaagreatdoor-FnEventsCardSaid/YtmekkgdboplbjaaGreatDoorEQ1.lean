/- What functions of the program compute. No condition. -/
import Derived.Test.YtmekkgdboplbjaaGreatDoorES0
import Derived.Test.YtmekkgdboplbjaaGreatDoorEO1
set_option linter.all false
namespace Go.Proofs.YtmekkgdboplbjaaGreatDoor
open Go Go.RowKit M PV Tryz
set_option maxRecDepth 10000
attribute [local irreducible] PV.Lcl PV.LclR RV.Lcl
def TT{s sep:av}(hs:s.length≤1048576):gu prog gl 54 [(false,[val (.string (B s))]),(false,[val (.string (B sep))])] (aB [(false,[val (.string (B (fv s sep)))]),(false,[val (.string (B (io s sep)))]),(false,[val (.bool (Lib.cut s sep).2.2)])]):=arS (gm:=0) (G:=gl) (fun h=>h.2.1) Tryz.strings_Cut ab
def als{s:av}(c:UInt8)(hs:s.length≤1048576):gu prog gl 99 [(false,[val (.string (B s))]),(false,[val (.string (B [c]))])] (aB [(false,[sl un ((aq c s).map mS)])]):=arV (gm:=0) (E:=9) (G:=gl) (fun _=>rfl) (fun h=>h.2.1) Tryz.strings_Split ab (Nat.le_refl 1) (avR c s)
def awF{s q:av}:aQ prog 219 [(false,[val (.string (B s))]),(false,[val (.string (B q))])] (aB [(false,[val (.string (B (qw s q)))]),(false,[val (.bool (Eo s q))])]):=arT Tryz.strings_CutPrefix
def awG{s:av}(hs:s.length≤1048576):gu prog gl 138 [(false,[val (.string (B s))])] (aB [(false,[val (vI (kw s))]),(false,[PV.err (qh s)])]):=arW (gs:=1) (gr:=2) (G:=gl) (fun h=>h.2.2.1) (fun h=>h.2.2.2) (fun s v w h1 h2=>(Tryz.strconv_Atoi_ok s h1 v h2 w).mono fun e w' h=>⟨h.1,by rcases h.2 with rfl|⟨t,rfl⟩;exact Below.refl _ _;exact Lib.bytesWorld_below _ _ _⟩) (fun s ev w h1 h2 h3 h4=>(Tryz.strconv_Atoi_syntax s h1 h2 ev w h3 h4).mono fun e w' ⟨N,a,_,_,b⟩=>⟨N,a,b⟩) (fun s ev w h1 h2 h3 h4=>(Tryz.strconv_Atoi_range s h1 h2 ev w h3 h4).mono fun e w' ⟨N,a,_,_,b⟩=>⟨N,a,b⟩) ab
end Go.Proofs.YtmekkgdboplbjaaGreatDoor
namespace Go.Proofs.YtmekkgdboplbjaaGreatDoor
open Go Go.RowKit M PV
set_option maxRecDepth 10000
attribute [local irreducible] PV.Lcl PV.LclR RV.Lcl
def alt{r:Row}:gu Tryz.prog gl 82 [(true,[val (vI r.Id),sl .v (r.Values.map ar)])] (aB [(false,[val (.string (B (fQ r)))])]):=by
 refine lX (rs:=[(false,[val (.string (B (fQ r)))])]) Tryz.func82 rfl (nl rfl) (jn (aF.cons (bor_val _) (aF.cons (bor_sl _) aF.nil)) jm) ?_
 intro h0 w0 Fz0
 refine sn 0 1 fun hl0_1=>?_
 refine wz ?_
 refine Iq ?_
 refine Ht ?_
 refine gx ?_
 refine sc ?_ ?_<;>intro hba
 have hok:bM r=false:=gn
 refine sS [1,2,7000] [1] ?_
 exact zzf
 have hok:bM r=true:=gn
 obtain ⟨hi0,hi1,hvl,hv⟩:=Eg hok
 have hil:(itoa r.Id).length≤21:=eH et
 have hll:=vk hv
 refine dp ?_
 refine sP [1,2,7000] [1] ?_
 refine cC ?_
 refine dA 0 ?_ (x:=lF mU)
 refine OD ?_
 refine dA 7 ?_ (x:=fA)
 refine zS ?_
 refine dA 16 ?_ (x:=lD [sl .v _] cW)
 refine dA 55 ?_ (x:=gL [(false,[sl _ _])] [(false,[sl .v _])] aiR (hs:=by exact (ajq hv ab)))
 exact zzh
def alu{r:Row}:aQ Tryz.prog 32 [(true,[val (vI r.Id),sl .v (r.Values.map ar)])] (aB [(false,[val (.string (B (fQ r)))])]):=by
 refine sF Tryz.func32 fun h0 w0 Fz0=>?_
 refine sn 0 1 fun hl0_1=>?_
 refine wz ?_
 refine ma ?_
 refine zgt ?_
 refine gx ?_
 refine sc ?_ ?_<;>intro hba
 have hok:bM r=false:=gn
 refine sS [1,2] [1] ?_
 exact zzf
 have hok:bM r=true:=gn
 obtain ⟨hi0,hi1,hvl,hv⟩:=Eg hok
 have hil:(itoa r.Id).length≤21:=eH et
 have hll:=vk hv
 refine dp ?_
 refine sP [1,2] [1] ?_
 refine cC ?_
 refine dA 0 ?_ (x:=lF mU)
 refine OE ?_
 refine dA 7 ?_ (x:=fA)
 refine zS ?_
 refine dA 16 ?_ (x:=lD [sl .v _] cW)
 refine dA 55 ?_ (x:=cL [(false,[sl _ _])] [(false,[sl .v _])] aiT (hs:=by exact (ajr hv ab)))
 exact zzh
end Go.Proofs.YtmekkgdboplbjaaGreatDoor
