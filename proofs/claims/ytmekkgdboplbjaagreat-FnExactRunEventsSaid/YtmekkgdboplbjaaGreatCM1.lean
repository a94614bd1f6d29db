/- What arguments read as. No condition. -/
import Derived.Test.YtmekkgdboplbjaaGreatCE0
import Derived.Test.YtmekkgdboplbjaaGreatCZ0
set_option linter.all false
namespace Go.Proofs.YtmekkgdboplbjaaGreat
open Go Go.RowKit M Tryz
set_option maxRecDepth 10000
def eU : fp prog 3 ak eI := RU Tryz.underlying3
def qb : fp prog 27 (Sn .v) oK := nV (e := 1) (by kernel_rfl) (by kernel_rfl) (by decide) eU (fun _ => rfl)
def ab9 : fp prog 271 (cX .v) MA := by
 intro H enc w sp held n cs x hx
 obtain ⟨hl, hf⟩ := lM (l := [(3, 0, 1), (27, 1, 1), (3, 2, 1), (3, 3, 1)]) (by kernel_rfl) hx
 have hl : cs.length = 4 := hl.trans (by kernel_rfl)
 obtain ⟨n0, y0, z0⟩ := hf 0 _ rfl
 obtain ⟨a0, h0, g0⟩ := eU enc w _ _ _ _ _ z0
 obtain ⟨n1, y1, z1⟩ := hf 1 _ rfl
 obtain ⟨a1, h1, g1⟩ := qb enc w _ _ _ _ _ z1
 obtain ⟨n2, y2, z2⟩ := hf 2 _ rfl
 obtain ⟨a2, h2, g2⟩ := eU enc w _ _ _ _ _ z2
 obtain ⟨n3, y3, z3⟩ := hf 3 _ rfl
 obtain ⟨a3, h3, g3⟩ := eU enc w _ _ _ _ _ z3
 exact ⟨⟨a0, a1, a2, a3⟩, (co (o := 0) h0 (co (o := 1) h1 (co (o := 2) h2 (co (o := 3) h3 (lO hl))))), ⟨g0, g1, g2, g3⟩⟩
def aca : fp prog 255 (aC .v .v) MB := nV (e := 4) (by kernel_rfl) (by kernel_rfl) (by decide) ab9 (fun _ => rfl)
def acb : fp prog 73 (SA .v .v .v) MF := nV (e := 1) (by kernel_rfl) (by kernel_rfl) (by decide) aca (fun _ => rfl)
def acd : fp prog 75 (Cs .v .v .v) MJ := by
 intro H enc w sp held n cs x hx
 obtain ⟨hl, hf⟩ := lM (l := [(73, 0, 1), (3, 1, 1)]) (by kernel_rfl) hx
 have hl : cs.length = 2 := hl.trans (by kernel_rfl)
 obtain ⟨n0, y0, z0⟩ := hf 0 _ rfl
 obtain ⟨a0, h0, g0⟩ := acb enc w _ _ _ _ _ z0
 obtain ⟨n1, y1, z1⟩ := hf 1 _ rfl
 obtain ⟨a1, h1, g1⟩ := eU enc w _ _ _ _ _ z1
 exact ⟨⟨a0, a1⟩, (co (o := 0) h0 (co (o := 1) h1 (lO hl))), ⟨g0, g1⟩⟩
def ace : fp prog 260 bj Mx := by
 intro H enc w sp held n cs x hx
 obtain ⟨hl, hf⟩ := lM (l := [(3, 0, 1), (3, 1, 1), (3, 2, 1)]) (by kernel_rfl) hx
 have hl : cs.length = 3 := hl.trans (by kernel_rfl)
 obtain ⟨n0, y0, z0⟩ := hf 0 _ rfl
 obtain ⟨a0, h0, g0⟩ := eU enc w _ _ _ _ _ z0
 obtain ⟨n1, y1, z1⟩ := hf 1 _ rfl
 obtain ⟨a1, h1, g1⟩ := eU enc w _ _ _ _ _ z1
 obtain ⟨n2, y2, z2⟩ := hf 2 _ rfl
 obtain ⟨a2, h2, g2⟩ := eU enc w _ _ _ _ _ z2
 exact ⟨⟨a0, a1, a2⟩, (co (o := 0) h0 (co (o := 1) h1 (co (o := 2) h2 (lO hl)))), ⟨g0, g1, g2⟩⟩
def acf : fp prog 81 (Sr .v) Mz := nV (e := 3) (by kernel_rfl) (by kernel_rfl) (by decide) ace (fun _ => rfl)
def Ed : fp prog 83 (jZ .v .v) xR := by
 intro H enc w sp held n cs x hx
 obtain ⟨hl, hf⟩ := lM (l := [(3, 0, 1), (3, 1, 1), (81, 2, 1), (27, 3, 1)]) (by kernel_rfl) hx
 have hl : cs.length = 4 := hl.trans (by kernel_rfl)
 obtain ⟨n0, y0, z0⟩ := hf 0 _ rfl
 obtain ⟨a0, h0, g0⟩ := eU enc w _ _ _ _ _ z0
 obtain ⟨n1, y1, z1⟩ := hf 1 _ rfl
 obtain ⟨a1, h1, g1⟩ := eU enc w _ _ _ _ _ z1
 obtain ⟨n2, y2, z2⟩ := hf 2 _ rfl
 obtain ⟨a2, h2, g2⟩ := acf enc w _ _ _ _ _ z2
 obtain ⟨n3, y3, z3⟩ := hf 3 _ rfl
 obtain ⟨a3, h3, g3⟩ := qb enc w _ _ _ _ _ z3
 exact ⟨⟨a0, a1, a2, a3⟩, (co (o := 0) h0 (co (o := 1) h1 (co (o := 2) h2 (co (o := 3) h3 (lO hl))))), ⟨g0, g1, g2, g3⟩⟩
def Qv : fp prog 84 (bC .v) Cq := by
 intro H enc w sp held n cs x hx
 obtain ⟨hl, hf⟩ := lM (l := [(3, 0, 1), (27, 1, 1)]) (by kernel_rfl) hx
 have hl : cs.length = 2 := hl.trans (by kernel_rfl)
 obtain ⟨n0, y0, z0⟩ := hf 0 _ rfl
 obtain ⟨a0, h0, g0⟩ := eU enc w _ _ _ _ _ z0
 obtain ⟨n1, y1, z1⟩ := hf 1 _ rfl
 obtain ⟨a1, h1, g1⟩ := qb enc w _ _ _ _ _ z1
 exact ⟨⟨a0, a1⟩, (co (o := 0) h0 (co (o := 1) h1 (lO hl))), ⟨g0, g1⟩⟩
def Qw : fp prog 210 (Sv .v .v) Cr := nV (e := 2) (by kernel_rfl) (by kernel_rfl) (by decide) Qv (fun _ => rfl)
def acg : fp prog 212 (aQ .v .v .v .v .v) MH := by
 intro H enc w sp held n cs x hx
 obtain ⟨hl, hf⟩ := lM (l := [(83, 0, 4), (3, 4, 1), (27, 5, 1), (3, 6, 1), (3, 7, 1), (3, 8, 1), (210, 9, 1)]) (by kernel_rfl) hx
 have hl : cs.length = 10 := hl.trans (by kernel_rfl)
 obtain ⟨n0, y0, z0⟩ := hf 0 _ rfl
 obtain ⟨a0, h0, g0⟩ := Ed enc w _ _ _ _ _ z0
 obtain ⟨n1, y1, z1⟩ := hf 1 _ rfl
 obtain ⟨a1, h1, g1⟩ := eU enc w _ _ _ _ _ z1
 obtain ⟨n2, y2, z2⟩ := hf 2 _ rfl
 obtain ⟨a2, h2, g2⟩ := qb enc w _ _ _ _ _ z2
 obtain ⟨n3, y3, z3⟩ := hf 3 _ rfl
 obtain ⟨a3, h3, g3⟩ := eU enc w _ _ _ _ _ z3
 obtain ⟨n4, y4, z4⟩ := hf 4 _ rfl
 obtain ⟨a4, h4, g4⟩ := eU enc w _ _ _ _ _ z4
 obtain ⟨n5, y5, z5⟩ := hf 5 _ rfl
 obtain ⟨a5, h5, g5⟩ := eU enc w _ _ _ _ _ z5
 obtain ⟨n6, y6, z6⟩ := hf 6 _ rfl
 obtain ⟨a6, h6, g6⟩ := Qw enc w _ _ _ _ _ z6
 exact ⟨⟨a0, a1, a2, a3, a4, a5, a6⟩, (co (o := 0) h0 (co (o := 4) h1 (co (o := 5) h2 (co (o := 6) h3 (co (o := 7) h4 (co (o := 8) h5 (co (o := 9) h6 (lO hl)))))))), ⟨g0, g1, g2, g3, g4, g5, g6⟩⟩
def ach : fp prog 76 (SD .v .v .v .v .v .v) MI := nV (e := 10) (by kernel_rfl) (by kernel_rfl) (by decide) acg (fun _ => rfl)
def aci : fp prog 215 (aX .v .v .v .v) ME := by
 intro H enc w sp held n cs x hx
 obtain ⟨hl, hf⟩ := lM (l := [(83, 0, 4), (3, 4, 1), (3, 5, 1), (210, 6, 1)]) (by kernel_rfl) hx
 have hl : cs.length = 7 := hl.trans (by kernel_rfl)
 obtain ⟨n0, y0, z0⟩ := hf 0 _ rfl
 obtain ⟨a0, h0, g0⟩ := Ed enc w _ _ _ _ _ z0
 obtain ⟨n1, y1, z1⟩ := hf 1 _ rfl
 obtain ⟨a1, h1, g1⟩ := eU enc w _ _ _ _ _ z1
 obtain ⟨n2, y2, z2⟩ := hf 2 _ rfl
 obtain ⟨a2, h2, g2⟩ := eU enc w _ _ _ _ _ z2
 obtain ⟨n3, y3, z3⟩ := hf 3 _ rfl
 obtain ⟨a3, h3, g3⟩ := Qw enc w _ _ _ _ _ z3
 exact ⟨⟨a0, a1, a2, a3⟩, (co (o := 0) h0 (co (o := 4) h1 (co (o := 5) h2 (co (o := 6) h3 (lO hl))))), ⟨g0, g1, g2, g3⟩⟩
def acj : fp prog 77 (SH .v .v .v .v .v) MK := nV (e := 7) (by kernel_rfl) (by kernel_rfl) (by decide) aci (fun _ => rfl)
def ack : fp prog 217 (aZ .v .v .v) My := by
 intro H enc w sp held n cs x hx
 obtain ⟨hl, hf⟩ := lM (l := [(3, 0, 1), (3, 1, 1), (27, 2, 1), (27, 3, 1), (27, 4, 1)]) (by kernel_rfl) hx
 have hl : cs.length = 5 := hl.trans (by kernel_rfl)
 obtain ⟨n0, y0, z0⟩ := hf 0 _ rfl
 obtain ⟨a0, h0, g0⟩ := eU enc w _ _ _ _ _ z0
 obtain ⟨n1, y1, z1⟩ := hf 1 _ rfl
 obtain ⟨a1, h1, g1⟩ := eU enc w _ _ _ _ _ z1
 obtain ⟨n2, y2, z2⟩ := hf 2 _ rfl
 obtain ⟨a2, h2, g2⟩ := qb enc w _ _ _ _ _ z2
 obtain ⟨n3, y3, z3⟩ := hf 3 _ rfl
 obtain ⟨a3, h3, g3⟩ := qb enc w _ _ _ _ _ z3
 obtain ⟨n4, y4, z4⟩ := hf 4 _ rfl
 obtain ⟨a4, h4, g4⟩ := qb enc w _ _ _ _ _ z4
 exact ⟨⟨a0, a1, a2, a3, a4⟩, (co (o := 0) h0 (co (o := 1) h1 (co (o := 2) h2 (co (o := 3) h3 (co (o := 4) h4 (lO hl)))))), ⟨g0, g1, g2, g3, g4⟩⟩
def acl : fp prog 78 (Sw .v .v .v .v) MC := nV (e := 5) (by kernel_rfl) (by kernel_rfl) (by decide) ack (fun _ => rfl)
def acm : fp prog 80 (Ct .v .v .v .v .v .v .v .v .v .v .v .v .v .v .v .v .v .v .v) SI := by
 intro H enc w sp held n cs x hx
 obtain ⟨hl, hf⟩ := lM (l := [(75, 0, 2), (3, 2, 1), (27, 3, 1), (76, 4, 1), (77, 5, 1), (78, 6, 1), (3, 7, 1)]) (by kernel_rfl) hx
 have hl : cs.length = 8 := hl.trans (by kernel_rfl)
 obtain ⟨n0, y0, z0⟩ := hf 0 _ rfl
 obtain ⟨a0, h0, g0⟩ := acd enc w _ _ _ _ _ z0
 obtain ⟨n1, y1, z1⟩ := hf 1 _ rfl
 obtain ⟨a1, h1, g1⟩ := eU enc w _ _ _ _ _ z1
 obtain ⟨n2, y2, z2⟩ := hf 2 _ rfl
 obtain ⟨a2, h2, g2⟩ := qb enc w _ _ _ _ _ z2
 obtain ⟨n3, y3, z3⟩ := hf 3 _ rfl
 obtain ⟨a3, h3, g3⟩ := ach enc w _ _ _ _ _ z3
 obtain ⟨n4, y4, z4⟩ := hf 4 _ rfl
 obtain ⟨a4, h4, g4⟩ := acj enc w _ _ _ _ _ z4
 obtain ⟨n5, y5, z5⟩ := hf 5 _ rfl
 obtain ⟨a5, h5, g5⟩ := acl enc w _ _ _ _ _ z5
 obtain ⟨n6, y6, z6⟩ := hf 6 _ rfl
 obtain ⟨a6, h6, g6⟩ := eU enc w _ _ _ _ _ z6
 exact ⟨⟨a0, a1, a2, a3, a4, a5, a6⟩, (co (o := 0) h0 (co (o := 2) h1 (co (o := 3) h2 (co (o := 4) h3 (co (o := 5) h4 (co (o := 6) h5 (co (o := 7) h6 (lO hl)))))))), ⟨g0, g1, g2, g3, g4, g5, g6⟩⟩
def acn : fp prog 86 (Sx .v) MD := by
 intro H enc w sp held n cs x hx
 obtain ⟨hl, hf⟩ := lM (l := [(3, 0, 1), (84, 1, 2), (3, 3, 1), (3, 4, 1)]) (by kernel_rfl) hx
 have hl : cs.length = 5 := hl.trans (by kernel_rfl)
 obtain ⟨n0, y0, z0⟩ := hf 0 _ rfl
 obtain ⟨a0, h0, g0⟩ := eU enc w _ _ _ _ _ z0
 obtain ⟨n1, y1, z1⟩ := hf 1 _ rfl
 obtain ⟨a1, h1, g1⟩ := Qv enc w _ _ _ _ _ z1
 obtain ⟨n2, y2, z2⟩ := hf 2 _ rfl
 obtain ⟨a2, h2, g2⟩ := eU enc w _ _ _ _ _ z2
 obtain ⟨n3, y3, z3⟩ := hf 3 _ rfl
 obtain ⟨a3, h3, g3⟩ := eU enc w _ _ _ _ _ z3
 exact ⟨⟨a0, a1, a2, a3⟩, (co (o := 0) h0 (co (o := 1) h1 (co (o := 3) h2 (co (o := 4) h3 (lO hl))))), ⟨g0, g1, g2, g3⟩⟩
def aco : fp prog 88 (hP .v .v .v) MG := by
 intro H enc w sp held n cs x hx
 obtain ⟨hl, hf⟩ := lM (l := [(3, 0, 1), (83, 1, 4), (3, 5, 1), (3, 6, 1), (86, 7, 5), (3, 12, 1)]) (by kernel_rfl) hx
 have hl : cs.length = 13 := hl.trans (by kernel_rfl)
 obtain ⟨n0, y0, z0⟩ := hf 0 _ rfl
 obtain ⟨a0, h0, g0⟩ := eU enc w _ _ _ _ _ z0
 obtain ⟨n1, y1, z1⟩ := hf 1 _ rfl
 obtain ⟨a1, h1, g1⟩ := Ed enc w _ _ _ _ _ z1
 obtain ⟨n2, y2, z2⟩ := hf 2 _ rfl
 obtain ⟨a2, h2, g2⟩ := eU enc w _ _ _ _ _ z2
 obtain ⟨n3, y3, z3⟩ := hf 3 _ rfl
 obtain ⟨a3, h3, g3⟩ := eU enc w _ _ _ _ _ z3
 obtain ⟨n4, y4, z4⟩ := hf 4 _ rfl
 obtain ⟨a4, h4, g4⟩ := acn enc w _ _ _ _ _ z4
 obtain ⟨n5, y5, z5⟩ := hf 5 _ rfl
 obtain ⟨a5, h5, g5⟩ := eU enc w _ _ _ _ _ z5
 exact ⟨⟨a0, a1, a2, a3, a4, a5⟩, (co (o := 0) h0 (co (o := 1) h1 (co (o := 5) h2 (co (o := 6) h3 (co (o := 7) h4 (co (o := 12) h5 (lO hl))))))), ⟨g0, g1, g2, g3, g4, g5⟩⟩
def acp : fp prog 97 (SF .v .v .v .v) SG := nV (e := 13) (by kernel_rfl) (by kernel_rfl) (by decide) aco (fun _ => rfl)
end Go.Proofs.YtmekkgdboplbjaaGreat
