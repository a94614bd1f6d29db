/- What arguments read as. No condition. -/
import Derived.Test.YtmekkgdboplbjaaGreatCE0
set_option linter.all false
namespace Go.Proofs.YtmekkgdboplbjaaGreat
open Go Go.RowKit M Tryz
set_option maxRecDepth 10000
def er : eX prog 3 ak d8 := Nt Tryz.underlying3
def oA : eX prog 27 (NQ .v) mJ := nC (e := 1) (by kernel_rfl) (by kernel_rfl) (by decide) er (fun _ => rfl)
def V9 : eX prog 271 (cG .v) I7 := by
 intro H enc w sp held n cs x hx
 obtain ⟨hl, hf⟩ := kx (l := [(3, 0, 1), (27, 1, 1), (3, 2, 1), (3, 3, 1)]) (by kernel_rfl) hx
 have hl : cs.length = 4 := hl.trans (by kernel_rfl)
 obtain ⟨n0, y0, z0⟩ := hf 0 _ rfl
 obtain ⟨a0, h0, g0⟩ := er enc w _ _ _ _ _ z0
 obtain ⟨n1, y1, z1⟩ := hf 1 _ rfl
 obtain ⟨a1, h1, g1⟩ := oA enc w _ _ _ _ _ z1
 obtain ⟨n2, y2, z2⟩ := hf 2 _ rfl
 obtain ⟨a2, h2, g2⟩ := er enc w _ _ _ _ _ z2
 obtain ⟨n3, y3, z3⟩ := hf 3 _ rfl
 obtain ⟨a3, h3, g3⟩ := er enc w _ _ _ _ _ z3
 exact ⟨⟨a0, a1, a2, a3⟩, (cc (o := 0) h0 (cc (o := 1) h1 (cc (o := 2) h2 (cc (o := 3) h3 (ky hl))))), ⟨g0, g1, g2, g3⟩⟩
def Wa : eX prog 255 (aD .v .v) I8 := nC (e := 4) (by kernel_rfl) (by kernel_rfl) (by decide) V9 (fun _ => rfl)
def Wb : eX prog 73 (N1 .v .v .v) Jc := nC (e := 1) (by kernel_rfl) (by kernel_rfl) (by decide) Wa (fun _ => rfl)
def Wc : eX prog 75 (Ar .v .v .v) Jf := by
 intro H enc w sp held n cs x hx
 obtain ⟨hl, hf⟩ := kx (l := [(73, 0, 1), (3, 1, 1)]) (by kernel_rfl) hx
 have hl : cs.length = 2 := hl.trans (by kernel_rfl)
 obtain ⟨n0, y0, z0⟩ := hf 0 _ rfl
 obtain ⟨a0, h0, g0⟩ := Wb enc w _ _ _ _ _ z0
 obtain ⟨n1, y1, z1⟩ := hf 1 _ rfl
 obtain ⟨a1, h1, g1⟩ := er enc w _ _ _ _ _ z1
 exact ⟨⟨a0, a1⟩, (cc (o := 0) h0 (cc (o := 1) h1 (ky hl))), ⟨g0, g1⟩⟩
def Wd : eX prog 260 bf I4 := by
 intro H enc w sp held n cs x hx
 obtain ⟨hl, hf⟩ := kx (l := [(3, 0, 1), (3, 1, 1), (3, 2, 1)]) (by kernel_rfl) hx
 have hl : cs.length = 3 := hl.trans (by kernel_rfl)
 obtain ⟨n0, y0, z0⟩ := hf 0 _ rfl
 obtain ⟨a0, h0, g0⟩ := er enc w _ _ _ _ _ z0
 obtain ⟨n1, y1, z1⟩ := hf 1 _ rfl
 obtain ⟨a1, h1, g1⟩ := er enc w _ _ _ _ _ z1
 obtain ⟨n2, y2, z2⟩ := hf 2 _ rfl
 obtain ⟨a2, h2, g2⟩ := er enc w _ _ _ _ _ z2
 exact ⟨⟨a0, a1, a2⟩, (cc (o := 0) h0 (cc (o := 1) h1 (cc (o := 2) h2 (ky hl)))), ⟨g0, g1, g2⟩⟩
def We : eX prog 81 (NU .v) I6 := nC (e := 3) (by kernel_rfl) (by kernel_rfl) (by decide) Wd (fun _ => rfl)
def BX : eX prog 83 (iz .v .v) vZ := by
 intro H enc w sp held n cs x hx
 obtain ⟨hl, hf⟩ := kx (l := [(3, 0, 1), (3, 1, 1), (81, 2, 1), (27, 3, 1)]) (by kernel_rfl) hx
 have hl : cs.length = 4 := hl.trans (by kernel_rfl)
 obtain ⟨n0, y0, z0⟩ := hf 0 _ rfl
 obtain ⟨a0, h0, g0⟩ := er enc w _ _ _ _ _ z0
 obtain ⟨n1, y1, z1⟩ := hf 1 _ rfl
 obtain ⟨a1, h1, g1⟩ := er enc w _ _ _ _ _ z1
 obtain ⟨n2, y2, z2⟩ := hf 2 _ rfl
 obtain ⟨a2, h2, g2⟩ := We enc w _ _ _ _ _ z2
 obtain ⟨n3, y3, z3⟩ := hf 3 _ rfl
 obtain ⟨a3, h3, g3⟩ := oA enc w _ _ _ _ _ z3
 exact ⟨⟨a0, a1, a2, a3⟩, (cc (o := 0) h0 (cc (o := 1) h1 (cc (o := 2) h2 (cc (o := 3) h3 (ky hl))))), ⟨g0, g1, g2, g3⟩⟩
def Me : eX prog 84 (bu .v) An := by
 intro H enc w sp held n cs x hx
 obtain ⟨hl, hf⟩ := kx (l := [(3, 0, 1), (27, 1, 1)]) (by kernel_rfl) hx
 have hl : cs.length = 2 := hl.trans (by kernel_rfl)
 obtain ⟨n0, y0, z0⟩ := hf 0 _ rfl
 obtain ⟨a0, h0, g0⟩ := er enc w _ _ _ _ _ z0
 obtain ⟨n1, y1, z1⟩ := hf 1 _ rfl
 obtain ⟨a1, h1, g1⟩ := oA enc w _ _ _ _ _ z1
 exact ⟨⟨a0, a1⟩, (cc (o := 0) h0 (cc (o := 1) h1 (ky hl))), ⟨g0, g1⟩⟩
def Mf : eX prog 210 (NX .v .v) Ao := nC (e := 2) (by kernel_rfl) (by kernel_rfl) (by decide) Me (fun _ => rfl)
def Wf : eX prog 212 (aO .v .v .v .v .v) Jd := by
 intro H enc w sp held n cs x hx
 obtain ⟨hl, hf⟩ := kx (l := [(83, 0, 4), (3, 4, 1), (27, 5, 1), (3, 6, 1), (3, 7, 1), (3, 8, 1), (210, 9, 1)]) (by kernel_rfl) hx
 have hl : cs.length = 10 := hl.trans (by kernel_rfl)
 obtain ⟨n0, y0, z0⟩ := hf 0 _ rfl
 obtain ⟨a0, h0, g0⟩ := BX enc w _ _ _ _ _ z0
 obtain ⟨n1, y1, z1⟩ := hf 1 _ rfl
 obtain ⟨a1, h1, g1⟩ := er enc w _ _ _ _ _ z1
 obtain ⟨n2, y2, z2⟩ := hf 2 _ rfl
 obtain ⟨a2, h2, g2⟩ := oA enc w _ _ _ _ _ z2
 obtain ⟨n3, y3, z3⟩ := hf 3 _ rfl
 obtain ⟨a3, h3, g3⟩ := er enc w _ _ _ _ _ z3
 obtain ⟨n4, y4, z4⟩ := hf 4 _ rfl
 obtain ⟨a4, h4, g4⟩ := er enc w _ _ _ _ _ z4
 obtain ⟨n5, y5, z5⟩ := hf 5 _ rfl
 obtain ⟨a5, h5, g5⟩ := er enc w _ _ _ _ _ z5
 obtain ⟨n6, y6, z6⟩ := hf 6 _ rfl
 obtain ⟨a6, h6, g6⟩ := Mf enc w _ _ _ _ _ z6
 exact ⟨⟨a0, a1, a2, a3, a4, a5, a6⟩, (cc (o := 0) h0 (cc (o := 4) h1 (cc (o := 5) h2 (cc (o := 6) h3 (cc (o := 7) h4 (cc (o := 8) h5 (cc (o := 9) h6 (ky hl)))))))), ⟨g0, g1, g2, g3, g4, g5, g6⟩⟩
def Wg : eX prog 76 (N5 .v .v .v .v .v .v) Je := nC (e := 10) (by kernel_rfl) (by kernel_rfl) (by decide) Wf (fun _ => rfl)
def Wh : eX prog 215 (aZ .v .v .v .v) Jb := by
 intro H enc w sp held n cs x hx
 obtain ⟨hl, hf⟩ := kx (l := [(83, 0, 4), (3, 4, 1), (3, 5, 1), (210, 6, 1)]) (by kernel_rfl) hx
 have hl : cs.length = 7 := hl.trans (by kernel_rfl)
 obtain ⟨n0, y0, z0⟩ := hf 0 _ rfl
 obtain ⟨a0, h0, g0⟩ := BX enc w _ _ _ _ _ z0
 obtain ⟨n1, y1, z1⟩ := hf 1 _ rfl
 obtain ⟨a1, h1, g1⟩ := er enc w _ _ _ _ _ z1
 obtain ⟨n2, y2, z2⟩ := hf 2 _ rfl
 obtain ⟨a2, h2, g2⟩ := er enc w _ _ _ _ _ z2
 obtain ⟨n3, y3, z3⟩ := hf 3 _ rfl
 obtain ⟨a3, h3, g3⟩ := Mf enc w _ _ _ _ _ z3
 exact ⟨⟨a0, a1, a2, a3⟩, (cc (o := 0) h0 (cc (o := 4) h1 (cc (o := 5) h2 (cc (o := 6) h3 (ky hl))))), ⟨g0, g1, g2, g3⟩⟩
def Wi : eX prog 77 (N7 .v .v .v .v .v) Jg := nC (e := 7) (by kernel_rfl) (by kernel_rfl) (by decide) Wh (fun _ => rfl)
def Wj : eX prog 217 (a7 .v .v .v) I5 := by
 intro H enc w sp held n cs x hx
 obtain ⟨hl, hf⟩ := kx (l := [(3, 0, 1), (3, 1, 1), (27, 2, 1), (27, 3, 1), (27, 4, 1)]) (by kernel_rfl) hx
 have hl : cs.length = 5 := hl.trans (by kernel_rfl)
 obtain ⟨n0, y0, z0⟩ := hf 0 _ rfl
 obtain ⟨a0, h0, g0⟩ := er enc w _ _ _ _ _ z0
 obtain ⟨n1, y1, z1⟩ := hf 1 _ rfl
 obtain ⟨a1, h1, g1⟩ := er enc w _ _ _ _ _ z1
 obtain ⟨n2, y2, z2⟩ := hf 2 _ rfl
 obtain ⟨a2, h2, g2⟩ := oA enc w _ _ _ _ _ z2
 obtain ⟨n3, y3, z3⟩ := hf 3 _ rfl
 obtain ⟨a3, h3, g3⟩ := oA enc w _ _ _ _ _ z3
 obtain ⟨n4, y4, z4⟩ := hf 4 _ rfl
 obtain ⟨a4, h4, g4⟩ := oA enc w _ _ _ _ _ z4
 exact ⟨⟨a0, a1, a2, a3, a4⟩, (cc (o := 0) h0 (cc (o := 1) h1 (cc (o := 2) h2 (cc (o := 3) h3 (cc (o := 4) h4 (ky hl)))))), ⟨g0, g1, g2, g3, g4⟩⟩
def Wk : eX prog 78 (NY .v .v .v .v) I9 := nC (e := 5) (by kernel_rfl) (by kernel_rfl) (by decide) Wj (fun _ => rfl)
def Wl : eX prog 80 (As .v .v .v .v .v .v .v .v .v .v .v .v .v .v .v .v .v .v .v) N8 := by
 intro H enc w sp held n cs x hx
 obtain ⟨hl, hf⟩ := kx (l := [(75, 0, 2), (3, 2, 1), (27, 3, 1), (76, 4, 1), (77, 5, 1), (78, 6, 1), (3, 7, 1)]) (by kernel_rfl) hx
 have hl : cs.length = 8 := hl.trans (by kernel_rfl)
 obtain ⟨n0, y0, z0⟩ := hf 0 _ rfl
 obtain ⟨a0, h0, g0⟩ := Wc enc w _ _ _ _ _ z0
 obtain ⟨n1, y1, z1⟩ := hf 1 _ rfl
 obtain ⟨a1, h1, g1⟩ := er enc w _ _ _ _ _ z1
 obtain ⟨n2, y2, z2⟩ := hf 2 _ rfl
 obtain ⟨a2, h2, g2⟩ := oA enc w _ _ _ _ _ z2
 obtain ⟨n3, y3, z3⟩ := hf 3 _ rfl
 obtain ⟨a3, h3, g3⟩ := Wg enc w _ _ _ _ _ z3
 obtain ⟨n4, y4, z4⟩ := hf 4 _ rfl
 obtain ⟨a4, h4, g4⟩ := Wi enc w _ _ _ _ _ z4
 obtain ⟨n5, y5, z5⟩ := hf 5 _ rfl
 obtain ⟨a5, h5, g5⟩ := Wk enc w _ _ _ _ _ z5
 obtain ⟨n6, y6, z6⟩ := hf 6 _ rfl
 obtain ⟨a6, h6, g6⟩ := er enc w _ _ _ _ _ z6
 exact ⟨⟨a0, a1, a2, a3, a4, a5, a6⟩, (cc (o := 0) h0 (cc (o := 2) h1 (cc (o := 3) h2 (cc (o := 4) h3 (cc (o := 5) h4 (cc (o := 6) h5 (cc (o := 7) h6 (ky hl)))))))), ⟨g0, g1, g2, g3, g4, g5, g6⟩⟩
def Wm : eX prog 86 (Ap .v) Ja := by
 intro H enc w sp held n cs x hx
 obtain ⟨hl, hf⟩ := kx (l := [(3, 0, 1), (84, 1, 2), (3, 3, 1), (3, 4, 1)]) (by kernel_rfl) hx
 have hl : cs.length = 5 := hl.trans (by kernel_rfl)
 obtain ⟨n0, y0, z0⟩ := hf 0 _ rfl
 obtain ⟨a0, h0, g0⟩ := er enc w _ _ _ _ _ z0
 obtain ⟨n1, y1, z1⟩ := hf 1 _ rfl
 obtain ⟨a1, h1, g1⟩ := Me enc w _ _ _ _ _ z1
 obtain ⟨n2, y2, z2⟩ := hf 2 _ rfl
 obtain ⟨a2, h2, g2⟩ := er enc w _ _ _ _ _ z2
 obtain ⟨n3, y3, z3⟩ := hf 3 _ rfl
 obtain ⟨a3, h3, g3⟩ := er enc w _ _ _ _ _ z3
 exact ⟨⟨a0, a1, a2, a3⟩, (cc (o := 0) h0 (cc (o := 1) h1 (cc (o := 3) h2 (cc (o := 4) h3 (ky hl))))), ⟨g0, g1, g2, g3⟩⟩
def Wn : eX prog 88 (Aq .v .v .v) N2 := by
 intro H enc w sp held n cs x hx
 obtain ⟨hl, hf⟩ := kx (l := [(3, 0, 1), (83, 1, 4), (3, 5, 1), (3, 6, 1), (86, 7, 5), (3, 12, 1)]) (by kernel_rfl) hx
 have hl : cs.length = 13 := hl.trans (by kernel_rfl)
 obtain ⟨n0, y0, z0⟩ := hf 0 _ rfl
 obtain ⟨a0, h0, g0⟩ := er enc w _ _ _ _ _ z0
 obtain ⟨n1, y1, z1⟩ := hf 1 _ rfl
 obtain ⟨a1, h1, g1⟩ := BX enc w _ _ _ _ _ z1
 obtain ⟨n2, y2, z2⟩ := hf 2 _ rfl
 obtain ⟨a2, h2, g2⟩ := er enc w _ _ _ _ _ z2
 obtain ⟨n3, y3, z3⟩ := hf 3 _ rfl
 obtain ⟨a3, h3, g3⟩ := er enc w _ _ _ _ _ z3
 obtain ⟨n4, y4, z4⟩ := hf 4 _ rfl
 obtain ⟨a4, h4, g4⟩ := Wm enc w _ _ _ _ _ z4
 obtain ⟨n5, y5, z5⟩ := hf 5 _ rfl
 obtain ⟨a5, h5, g5⟩ := er enc w _ _ _ _ _ z5
 exact ⟨⟨a0, a1, a2, a3, a4, a5⟩, (cc (o := 0) h0 (cc (o := 1) h1 (cc (o := 5) h2 (cc (o := 6) h3 (cc (o := 7) h4 (cc (o := 12) h5 (ky hl))))))), ⟨g0, g1, g2, g3, g4, g5⟩⟩
end Go.Proofs.YtmekkgdboplbjaaGreat
