/- What functions of the program compute. No condition. -/
import Derived.Test.YtmekkgdboplbjaaGreatDoorCN0
set_option linter.all false
namespace Go.Proofs.YtmekkgdboplbjaaGreatDoor
open Go Go.RowKit M PV Tryz
set_option maxRecDepth 10000
attribute [local irreducible] PV.Lcl PV.LclR RV.Lcl
def rF {s sep : ab} (hs : s.length ≤ 1048576) : bI prog gl 54 [(false, [val (.string (B s))]), (false, [val (.string (B sep))])] (ar [(false, [val (.string (B (bw s sep)))]), (false, [val (.string (B (ct s sep)))]), (false, [val (.bool (Lib.cut s sep).2.2)])]) := Ap (gm := 0) (G := gl) (fun h => h.2.1) Tryz.strings_Cut (by omega)
def yl {s : ab} (c : UInt8) (hs : s.length ≤ 1048576) : bI prog gl 99 [(false, [val (.string (B s))]), (false, [val (.string (B [c]))])] (ar [(false, [sl hY ((aa c s).map et)])]) := As (gm := 0) (E := 9) (G := gl) (fun _ => rfl) (fun h => h.2.1) Tryz.strings_Split (by omega) (Nat.le_refl 1) (CS c s)
def Ei {s q : ab} : aD prog 219 [(false, [val (.string (B s))]), (false, [val (.string (B q))])] (ar [(false, [val (.string (B (fD s q)))]), (false, [val (.bool (md s q))])]) := Aq Tryz.strings_CutPrefix
def Ej {s : ab} (hs : s.length ≤ 1048576) : bI prog gl 138 [(false, [val (.string (B s))])] (ar [(false, [val (vI (cZ s))]), (false, [PV.err (eG s)])]) := At (gs := 1) (gr := 2) (G := gl) (fun h => h.2.2.1) (fun h => h.2.2.2) (fun s v w h1 h2 => (Tryz.strconv_Atoi_ok s h1 v h2 w).mono fun e w' h => ⟨h.1, by rcases h.2 with rfl | ⟨t, rfl⟩; exact Below.refl _ _; exact Lib.bytesWorld_below _ _ _⟩) (fun s ev w h1 h2 h3 h4 => (Tryz.strconv_Atoi_syntax s h1 h2 ev w h3 h4).mono fun e w' ⟨N, a, _, _, b⟩ => ⟨N, a, b⟩) (fun s ev w h1 h2 h3 h4 => (Tryz.strconv_Atoi_range s h1 h2 ev w h3 h4).mono fun e w' ⟨N, a, _, _, b⟩ => ⟨N, a, b⟩) (by omega)
end Go.Proofs.YtmekkgdboplbjaaGreatDoor
