/- What functions of the program compute. No condition. -/
import Derived.Test.YtmekkgdboplbjaaGreatDoorDP0
import Derived.Test.YtmekkgdboplbjaaGreatDoorDI1
set_option linter.all false
namespace Go.Proofs.YtmekkgdboplbjaaGreatDoor
open Go Go.RowKit M PV Tryz
set_option maxRecDepth 10000
attribute [local irreducible] PV.Lcl PV.LclR RV.Lcl
def ET{s sep:am}(hs:s.length≤1048576):db prog gl 54 [(false,[val (.string (B s))]),(false,[val (.string (B sep))])] (aJ [(false,[val (.string (B (dm s sep)))]),(false,[val (.string (B (fg s sep)))]),(false,[val (.bool (Lib.cut s sep).2.2)])]):=Tf (gm:=0) (G:=gl) (fun h=>h.2.1) Tryz.strings_Cut ab
def EU{s:am}(c:UInt8)(hs:s.length≤1048576):db prog gl 99 [(false,[val (.string (B s))]),(false,[val (.string (B [c]))])] (aJ [(false,[sl (.own 9 1) ((aw c s).map nI)])]):=Ti (gm:=0) (E:=9) (G:=gl) (fun _=>rfl) (fun h=>h.2.1) Tryz.strings_Split ab (Nat.le_refl 1) (YR c s)
def ZK{s q:am}:aS prog 219 [(false,[val (.string (B s))]),(false,[val (.string (B q))])] (aJ [(false,[val (.string (B (lW s q)))]),(false,[val (.bool (vR s q))])]):=Tg Tryz.strings_CutPrefix
def ZL{s:am}(hs:s.length≤1048576):db prog gl 138 [(false,[val (.string (B s))])] (aJ [(false,[val (vI (gI s))]),(false,[PV.err (lu s)])]):=Tj (gs:=1) (gr:=2) (G:=gl) (fun h=>h.2.2.1) (fun h=>h.2.2.2) (fun s v w h1 h2=>(Tryz.strconv_Atoi_ok s h1 v h2 w).mono fun e w' h=>⟨h.1,by rcases h.2 with rfl|⟨t,rfl⟩;exact Below.refl _ _;exact Lib.bytesWorld_below _ _ _⟩) (fun s ev w h1 h2 h3 h4=>(Tryz.strconv_Atoi_syntax s h1 h2 ev w h3 h4).mono fun e w' ⟨N,a,_,_,b⟩=>⟨N,a,b⟩) (fun s ev w h1 h2 h3 h4=>(Tryz.strconv_Atoi_range s h1 h2 ev w h3 h4).mono fun e w' ⟨N,a,_,_,b⟩=>⟨N,a,b⟩) ab
end Go.Proofs.YtmekkgdboplbjaaGreatDoor
