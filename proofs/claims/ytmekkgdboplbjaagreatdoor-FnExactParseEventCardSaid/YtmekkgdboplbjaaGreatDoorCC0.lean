/- Short names for what the printed proofs say often. No condition. -/
import Derived.Test.YtmekkgdboplbjaaGreatDoorCB0
set_option linter.all false
namespace Go.Proofs.YtmekkgdboplbjaaGreatDoor.M
open Go Go.RowKit
variable {G H : Prop}
def tr (h : G := by
 refine sS [0, 1, 4] [] ?_
 refine ci ?_
 exact rb (by exact (kw (fun e => by subst e; omega)).symm)) : G := h
def tt (h : G := by
 refine sS [0, 1, 5] [] ?_
 refine ci ?_
 exact rb ((kw (wE hlt hlt2 hne)).symm)) : G := h
def tu (h : G := by
 refine aK ?_
 refine sG [0, 1, 5] [] ?_
 refine cY ?_
 refine nx (k + 1) (by exact ⟨by omega, qM ha hlt hlt2 heq⟩)) : G := h
def pd (h : G := by
 refine ci ?_
 exact rb (by exact (iv (AD hl (by rw [show x.length = k by omega]; exact ha))).symm)) : G := h
def df (h : G := by
 refine kj ?_
 exact rb (by exact (kw (fun e => by subst e; simp_all [fx])).symm)) : G := h
def tv (h : G := by
 refine rA ?_ (x := cF)
 refine sc ?_ ?_ <;> intro hba
 simp at hba
 refine cU ?_
 refine sS [0, 1, 4, 5] [] ?_
 refine rM ?_
 refine cj ?_
 exact aI (by exact rfl) (bu _ (aI (.inl (by exact rfl)) (aI (by exact (Nm.nv Nm.nil)) (by exact (ax.nv ax.nil)))))) : G := h
def tw (h : G := by
 refine cU ?_
 refine sS [0, 1, 4, 5] [] ?_
 refine rM ?_
 refine cj ?_
 exact aI (by exact dz (by first | rfl | rw [hend, dl])) (bu _ (aI (.inl (by exact rfl)) (aI (by exact (Nm.nv Nm.nil)) (by exact (ax.nv ax.nil)))))) : G := h
def tx (h : G := by
 refine aK ?_
 refine sG [0, 1, 5] [] ?_
 refine cY ?_
 refine sG [0, 1, 5] [] ?_
 refine cY ?_
 refine nx (i + 1) (by omega) (e := (by exact aI (by exact dz (by rw [gG hlt]; rfl)) (aI (by exact rfl) tI)))) : G := h
def tz (h : G := by
 have hend : i = x.length := by omega
 refine cU ?_
 refine sS [0, 1, 5] [] ?_
 refine rM ?_
 refine cj ?_
 exact (aI (by refine dz ?_; first | rfl | rw [hend, dl]) tI)) : G := h
def pf (h : G := by
 refine cj ?_
 exact (aI (by exact rfl) tI)) : G := h
def tB (h : G := by
 refine aK ?_
 refine kg ?_
 exact pf) : G := h
def tC (h : G := by
 refine bZ ?_
 refine nN ?_
 refine sc ?_ ?_ <;> intro hba
 omega
 exact tB) : G := h
def tD (h : G := by
 refine bZ ?_
 refine nN ?_
 refine sc ?_ ?_ <;> intro hbb
 omega
 exact tB) : G := h
def pg (h : G := by
 refine cj ?_
 exact rb (by simp [ba, *])) : G := h
def tE (h : G := by
 refine fX ?_
 refine sS [0, 1, 2, 6] [] ?_
 refine bU ?_
 refine rA ?_ (x := oZ)
 refine rM ?_
 refine cx 10 (fun ga sga => ?_) (fun ga sga => ?_)
 refine rB ga ?_ (x := sM)
 refine rB ga ?_ (x := sM)
 refine rB ga ?_ (x := jW)
 refine rA ?_ (x := aG ga)
 exact pg
 refine fp ?_
 exact pg) : G := h
def tF (h : G := by
 refine ci ?_
 exact rb (by simp [ca, wN, nP (P := dR) hlt hno])) : G := h
def tG (h : G := by
 refine nx (k + 1) (by exact ⟨by omega, qL ha hlt hyes⟩)) : G := h
def ph (h : G := by
 refine cj ?_
 exact rb (by simp [ca, wN, hall, *])) : G := h
def tH (h : G := by
 refine nA ?_
 refine kd ?_
 exact ph) : G := h
def tJ (h : G := by
 refine cY ?_
 exact tG) : G := h
def tK (h : G := by
 refine sS [0, 2, 3, 4, 5] [] ?_
 refine eS ?_
 refine rA ?_ (x := tk Ee yh (by first | exact (congrArg (IntKind.wrap .u8) tm).trans (IntWalk.u8_in _ (by omega)) | exact IntWalk.u8_in _ (by omega)))
 refine rA ?_ (x := fh (qs := [(false, [val _])]) (by decide) DK DL (by decide) rfl rfl rfl rfl rfl (by exact nl rfl) (by exact (aI (by exact tI) tI)) rfl)
 refine rA ?_ (x := zZ Eg yh Ef)
 refine rM ?_
 refine nJ ?_
 refine sG [0, 2, 3, 4, 5] [] ?_
 refine rM ?_
 refine rA ?_ (x := Aa)
 refine rS ?_
 refine nx (q.1.tdiv 10, ej [48 + ((q.1.natAbs % 10 : Nat) : Int)] ++ q.2) (by exact ⟨by have := kz q.1; unfold aq; omega, BG hto hq0 rfl⟩) (b := (by have := kz q.1; dsimp only; omega)) (e := (by exact aI (by exact rfl) (aI (by exact congrArg (fun z => some (RV.sc (.string (B (ej [48 + z] ++ q.2))))) hd_) tI)))) : G := h
def tL (h : G := by
 refine sG [0, 2, 3, 4] [] ?_
 refine rM ?_
 refine ji ?_
 refine kb ?_
 refine rA ?_ (x := cL [(false, [val _])] [(false, [val _])] fF (hs := by exact (fH (by unfold aq; omega))))
 refine nJ ?_
 refine sG [0, 2, 3, 4] [] ?_
 refine cY ?_
 refine nx (k + 1) (by omega) (e := (by exact aI (by first | exact congrArg (fun z => some (RV.sc (.string (B z)))) (by rw [hsc, if_neg hk0]) | exact congrArg (fun z => some (RV.sc (.string (B z)))) (by rw [hsc, if_pos hk0]; subst hk0; rfl)) (aI (by exact rfl) tI)))) : G := h
def tN (h : G := by
 refine ci ?_
 exact (aI (by refine dq ?_; exact dE (by unfold bN; rw [if_neg (by rw [hok]; simp)])) tI)) : G := h
def tO (h : G := by
 refine dA 127 ?_ (x := bX)
 refine dA 255 ?_ (x := sA)
 refine eC ?_
 exact (aI (by refine dq ?_; exact dE (by unfold bN; rw [if_pos hok])) tI)) : G := h
def tP (h : G := by
 refine rK ?_
 refine ci ?_
 exact (aI (by refine dz ?_; exact (CH hno).symm) (aI (by refine dN ?_; exact (CL hno).symm) tI))) : G := h
def mJ (h : G := by
 have hno : dj s = none := CF (by first | assumption | omega | (simp_all; done) | (simp_all; omega))
 refine sS [0, 2, 3, 4, 5, 7000] [] ?_
 exact tP) : G := h
def tQ (h : G := by
 refine rM ?_
 refine rS ?_
 refine ci ?_
 exact (aI (by refine dz ?_; exact (CI hys).symm) (aI (by refine dN ?_; exact (CM hys).symm) tI))) : G := h
def tR (h : G := by
 refine sG [0, 2, 3, 4, 5, 6] [] ?_
 refine cY ?_
 refine nx (k + 1) (by exact ⟨by omega, by omega⟩) (e := (by exact aI (by exact dz (by rw [hsn]; try dsimp only; try omega)) (aI (by exact dz (by rw [hsn]; try dsimp only; try omega)) (aI (by exact rfl) tI))))) : G := h
def tS (h : G := by
 have hb256 := s[k].toNat_lt
 have hsn := xO hlt
 have hbg := ot s k (by omega)
 have hdg : ¬ eL s[k] = true := by rw [mb]; first | omega | (simp_all; omega)
 rw [if_neg hdg] at hsn
 refine aK ?_
 exact tR) : G := h
def mK (h : G := by
 have hbad := CN (s := s) (by rw [hnv]; first | omega | (simp_all; done) | (simp_all; omega))
 have hno := BT hbad
 refine sS [0, 2, 3, 4, 5, 6] [] ?_
 exact tP) : G := h
def iZ (h : G := by
 refine bY ?_
 exact mK) : G := h
def pi (h : G := by
 refine nI ?_
 exact iZ) : G := h
def pj (h : G := by
 have hgd := CO (s := s) (by first | omega | (simp_all; omega)) (by first | omega | (simp_all; omega)) (by rw [hnv]; simp_all)
 have hys := BU hgd
 rw [hnv] at hys
 refine aK ?_
 refine sS [0, 2, 3, 4, 5, 6] [] ?_
 exact tQ) : G := h
def tT (h : G := by
 refine qC ?_
 refine np ?_
 refine rM ?_
 refine cx 54 (fun gd sgd => ?_) (fun gd sgd => ?_)
 exact pi
 refine qh ?_
 refine nh ?_
 refine sc ?_ ?_ <;> intro hbc
 exact mK
 exact pj) : G := h
def pk (h : G := by
 refine qC ?_
 refine np ?_
 refine rM ?_
 refine cx 54 (fun gd sgd => ?_) (fun gd sgd => ?_)
 exact pi
 refine qh ?_
 refine nh ?_
 refine sc ?_ ?_ <;> intro hbb
 exact mK
 exact pj) : G := h
def tU (h : G := by
 refine sG [0, 1, 4, 5, 6, 7] [] ?_
 refine cY ?_
 refine nx (k + 1) (by omega) (e := (by exact aI (by first | exact hZ (by rw [hsy.1, dJ]; rfl) | exact hZ (by rw [hsn.1])) (aI (by first | exact congrArg (fun z => some (RV.sc (.string (B z)))) hsy.2.symm | exact congrArg (fun z => some (RV.sc (.string (B z)))) hsn.2.symm) (aI (by exact rfl) tI))))) : G := h
def pm (h : G := by
 refine rA ?_ (x := cK (qs := []) (cs := [val _, sl _ _]) (by decide) iz iC rG (by exact rfl) (by exact tI) rfl (by exact rfl))
 refine wl ?_
 exact (bu 2 (bu _ (aI (by exact rfl) (aI (by refine gH ?_; rw [hno]; exact rfl) (aI dV (aI (fun h => nomatch h) (aI (by refine dN ?_; rw [hno]; rfl) tI)))))))) : G := h
def mL (h : G := by
 have hno : cI s = none := Cd (by unfold od; simp_all)
 refine sS [0, 2, 3, 4, 5, 6, 7, 8, 10, 11, 7000] [2, 11] ?_
 exact pm) : G := h
def pn (h : G := by
 refine rA ?_ (x := fM (ms := [val _, sl _ _]) (qs := [val _, sl .v _]) (by decide) dV (fun h => nomatch h) (by exact nl rfl) (by exact rfl) (by exact (aO (cG ao.nil))) (by exact (ak.cons (bor_val _) (ak.cons (bor_sl _) ak.nil))))
 refine wl ?_
 exact (bu 2 (bu _ (aI (by exact rfl) (aI (by refine gH ?_; rw [hys]; exact rfl) (aI dV (aI (fun h => nomatch h) (aI (by refine dN ?_; rw [hys]; rfl) tI)))))))) : G := h
def tV (h : G := by
 refine cd ?_
 refine cY ?_
 refine nx (k + 1) (by omega) (f := (by exact aI (by rw [wM hlt, dJ]; exact rfl) tI))) : G := h
def tW (h : G := by
 have hno : cI s = none := xw (by first | assumption | omega | (simp_all; done) | (simp_all; omega))
 refine sS [0, 2, 3, 4, 5, 6, 7] [2, 5] ?_
 exact pm) : G := h
def tX (h : G := by
 have hno : cI s = none := xw (by first | assumption | omega | (simp_all; done) | (simp_all; omega))
 refine sS [0, 2, 3, 4, 5] [2, 5] ?_
 exact pm) : G := h
def tY (h : G := by
 refine sS [0, 1, 4] [] ?_
 refine ci ?_
 exact rb (by exact (kw (fun e => by subst e; simp at *)).symm)) : G := h
def tZ (h : G := by
 refine sS [0, 1, 5, 12, 13] [] ?_
 refine ci ?_
 exact rb (by exact (kw (wE hlt hlt2 (by intro e; simp [e, fx] at *))).symm)) : G := h
def ua (h : G := by
 refine cU ?_
 refine sS [0, 1, 12, 13] [] ?_
 exact pd) : G := h
def ub (h : G := by
 refine cj ?_
 exact rb (by rw [Bool.eq_iff_iff]; simp only [dP, AY]; simp_all [dP])) : G := h
def ja (h : G := by
 refine cj ?_
 exact rb (by first | (simp_all [eW, ba]; done) | (simp_all [eW, ba]; omega))) : G := h
def uc (h : G := by
 have hbad : iw ⟨0, 0, 0⟩ eW gi x.FZ = false := wO hlt (Bool.eq_false_iff.2 fun hx => by
  have hx := qN.1 hx
  rw [hgk] at hx
  obtain ⟨hx1, hx2⟩ := hx
  first
  | (simp_all; done)
  | (simp only [decide_eq_true_eq, gi] at *; by_cases h0 : k = 0 <;> (try rw [hgp (by omega)] at hx2) <;> omega))
 refine sS [1, 3] [1] ?_
 refine ci ?_
 exact rb (by simp [aW, eX, hbad])) : G := h
def ud (h : G := by
 refine nx (k + 1) (by exact ⟨by omega, by rw [AZ, ha, Bool.true_and]; refine qN.2 ⟨by rw [hgk]; first | assumption | simp_all, ?_⟩; rcases Nat.eq_zero_or_pos k with h0 | h0; (· exact .inl h0); (· right; rw [hgk, hgp h0]; first | (simp only [decide_eq_true_eq, gi] at *; omega) | (simp_all; done))⟩)) : G := h
def ue (h : G := by
 refine aK ?_
 refine sG [1, 3] [1] ?_
 refine cY ?_
 exact ud) : G := h
def mM (h : G := by
 refine cj ?_
 exact rb (by first | (simp_all [aW, eX]; done) | (simp_all [aW, eX]; rfl) | (simp_all [aW, eX]; omega) | (simp_all [aW, eX]; intros; omega))) : G := h
def mN (h : G := by
 refine eC ?_
 exact rb (by first | exact hbad0.symm | (simp [aW, eX, hbad]; done) | (simp [aW, fy, hn3]; done) | (simp_all [aW, eX, fy]; done) | (simp_all [aW, eX, fy]; rfl) | (simp_all [aW, eX, fy]; omega) | (simp_all [aW, eX, fy]; intros; omega))) : G := h
def po (h : G := by
 have hbad0 : aW x = false := by first | (simp_all [aW]; done) | (simp_all [aW]; rfl) | (simp_all [aW]; omega) | (simp_all [aW]; intros; omega)
 refine sS [1, 2] [1] ?_
 refine rK ?_
 exact mN) : G := h
def uf (h : G := by
 have hbad : iw ⟨0, 0, 0⟩ eW gi x.FZ = false := wO hlt (Bool.eq_false_iff.2 fun hx => by
  have hx := qN.1 hx
  rw [hgk] at hx
  obtain ⟨hx1, hx2⟩ := hx
  first
  | (simp_all; done)
  | (simp only [decide_eq_true_eq, gi] at *; by_cases h0 : k = 0 <;> (try rw [hgp (by omega)] at hx2) <;> omega))
 refine sS [1, 3, 4, 24, 25, 26] [1, 4] ?_
 refine rK ?_
 exact mN) : G := h
def ug (h : G := by
 refine aK ?_
 refine sG [1, 3, 4, 24, 25, 26] [1, 4] ?_
 refine ip ?_
 exact ud) : G := h
def pp (h : G := by
 refine eC ?_
 exact rb (by first | (simp_all [cb, gj]; done) | (simp_all [cb, gj]; rfl) | (simp_all [cb, gj]; omega) | (simp_all [cb, gj]; intros; omega))) : G := h
def eb (h : G := by
 refine rS ?_
 exact pp) : G := h
def pq (h : G := by
 refine rA ?_ (x := aG gc)
 exact eb) : G := h
def pt (h : G := by
 refine rB gc ?_ (x := lF gn)
 refine ne ?_
 exact pq) : G := h
def kU (h : G := by
 refine fq ?_
 exact eb) : G := h
def uh (h : G := by
 refine nu ?_
 refine cX ?_
 refine cx 27 (fun gc sgc => ?_) (fun gc sgc => ?_)
 exact pt
 exact kU) : G := h
def ui (h : G := by
 refine aK ?_
 refine sS [1, 2, 3, 16] [1] ?_
 refine rK ?_
 exact pp) : G := h
def mO (h : G := by
 refine cj ?_
 exact rb (by rw [Bool.eq_iff_iff]; simp only [dP, Bb]; simp_all [dP, wQ])) : G := h
def mP (h : G := by
 refine cj ?_
 exact rb (by rw [Bool.eq_iff_iff]; simp only [dP, Bc]; simp_all [dP, wQ])) : G := h
def mQ (h : G := by
 refine cj ?_
 exact rb (by first | (rw [Bool.eq_iff_iff]; simp_all [eH]; done) | (rw [Bool.eq_iff_iff]; simp_all [eH]; omega) | (simp_all [eH]; done) | (simp_all [eH]; rfl) | (simp_all [eH]; omega) | (simp_all [eH]; intros; omega))) : G := h
def kV (h : G := by
 refine cj ?_
 exact rb (by first | (rw [Bool.eq_iff_iff]; simp_all [eI]; done) | (rw [Bool.eq_iff_iff]; simp_all [eI]; omega) | (simp_all [eI]; done) | (simp_all [eI]; rfl) | (simp_all [eI]; omega) | (simp_all [eI]; intros; omega))) : G := h
def uj (h : G := by
 refine eC ?_
 exact rb (by first | (simp_all [bV]; done) | (simp_all [bV]; rfl) | (simp_all [bV]; omega) | (simp_all [bV]; intros; omega))) : G := h
def ed (h : G := by
 refine rS ?_
 exact uj) : G := h
def pu (h : G := by
 refine qA ?_
 refine qI ?_
 exact ed) : G := h
def mR (h : G := by
 refine nH ?_
 exact ed) : G := h
def uk (h : G := by
 refine eC ?_
 exact rb (by first | (simp_all [bV, lQ, lR]; done) | (simp_all [bV, lQ, lR]; rfl) | (simp_all [bV, lQ, lR]; omega) | (simp_all [bV, lQ, lR]; intros; omega))) : G := h
def cf (h : G := by
 refine rS ?_
 exact uk) : G := h
def ul (h : G := by
 refine nr ?_
 refine rM ?_
 refine cx 38 (fun ge sge => ?_) (fun ge sge => ?_)
 refine rB ge ?_ (x := lF gS)
 refine rB ge ?_ (x := lD [val _] aA)
 refine rB ge ?_ (x := dC)
 refine rA ?_ (x := aG ge)
 exact cf
 refine zf ge ?_
 refine rA ?_ (x := an ge)
 exact cf) : G := h
def um (h : G := by
 refine qA ?_
 refine qI ?_
 exact cf) : G := h
def un (h : G := by
 refine aK ?_
 refine sS [1, 2, 3, 4, 19] [1] ?_
 refine rK ?_
 exact uk) : G := h
def uo (h : G := by
 refine ci ?_
 exact (aI (by refine dq ?_; exact dE (by unfold bo; rw [if_neg (by rw [hok]; simp)])) tI)) : G := h
def up (h : G := by
 refine ci ?_
 exact (aI (by refine dq ?_; exact dE (by unfold bJ; rw [if_neg (by rw [hok]; simp)])) tI)) : G := h
def uq (h : G := by
 refine kk ?_
 exact (aI (by refine dq ?_; exact dE (by unfold bJ; rw [if_pos hok, if_pos k1])) tI)) : G := h
def ur (h : G := by
 refine kk ?_
 exact (aI (by refine dq ?_; exact dE (by unfold bJ; rw [if_pos hok, if_neg k1, if_pos k2])) tI)) : G := h
def ut (h : G := by
 refine dA 16383 ?_ (x := bX)
 refine dA 32767 ?_ (x := sA)
 refine eC ?_
 exact (aI (by refine dq ?_; exact dE (by unfold bJ; rw [if_pos hok, if_neg k1, if_neg k2])) tI)) : G := h
def uu (h : G := by
 refine ci ?_
 exact (aI (by refine dq ?_; exact dE (by unfold bW; rw [if_neg (by rw [hok]; simp)])) tI)) : G := h
def uv (h : G := by
 refine dA 255 ?_ (x := bX)
 refine dA 511 ?_ (x := sA)
 refine eC ?_
 exact (aI (by refine dq ?_; exact dE (by unfold bW; rw [if_pos hok, if_pos k1])) tI)) : G := h
def uw (h : G := by
 refine kk ?_
 exact (aI (by refine dq ?_; exact dE (by unfold bW; rw [if_pos hok, if_neg k1, if_pos k2])) tI)) : G := h
def ux (h : G := by
 refine cj ?_
 exact (aI (by refine dq ?_; exact dE (by unfold bW; rw [if_pos hok, if_neg k1, if_neg k2, if_pos k3])) tI)) : G := h
def uy (h : G := by
 refine kk ?_
 exact (aI (by refine dq ?_; exact dE (by unfold bW; rw [if_pos hok, if_neg k1, if_neg k2, if_neg k3])) tI)) : G := h
def uz (h : G := by
 refine rS ?_
 refine cj ?_
 exact (aI (by refine dz ?_; exact rfl) (aI (by refine dN ?_; first | exact rfl | (simp_all; done)) tI))) : G := h
def uA (h : G := by
 refine eC ?_
 exact (aI (by refine dz ?_; rw [hr]) tI)) : G := h
def uB (h : G := by
 have hr : dk (u8 b) s = -100000 := CY (by first | omega | (simp_all; done) | (simp_all; omega))
 refine sS [0, 1, 4] [] ?_
 refine rK ?_
 exact uA) : G := h
def uC (h : G := by
 refine eC ?_
 exact (aI (by refine dz ?_; rw [hr]) (aI (by refine dz ?_; rw [hr]) tI))) : G := h
def mS (h : G := by
 refine rA ?_ (x := cK (qs := []) (cs := [val _, val _, sl _ _, sl _ _]) (by decide) iy iB rO (by exact rfl) (by exact tI) rfl (by exact rfl))
 refine wj ?_
 exact (bu 2 (bu _ (aI (by exact rfl) (aI (by refine gH ?_; rw [hno]; exact rfl) (aI du (aI (fun h => nomatch h) (aI (by refine dN ?_; rw [hno]; rfl) tI)))))))) : G := h
def pv (h : G := by
 have hno : bG s = none := xK (Or.inl (by have hx_ : ¬ (4 ≤ (aa 32 s).length ∧ (aa 32 s).length % 2 = 0 ∧ (aa 32 s).length ≤ 10) := (by rintro ⟨a_, b_, c_⟩; first | omega | (simp_all; omega) | (simp_all; done)); unfold kI; rw [decide_eq_false hx_]; rfl))
 refine sS [0, 2, 3, 4, 5, 7000] [2] ?_
 exact mS) : G := h
def fR (h : G := by
 refine rS ?_
 refine sG [0, 2, 3, 4, 5, 6, 7, 8, 9, 11, 12, 13, 14, 15, 16, 17, 18, 19, 20, 21, 22, 23, 7000] [2, 12] ?_
 refine cY ?_
 refine nx (k + 1) (by omega) (e := (by exact aI (by exact dN (by rw [Cm]; first | (simp_all [jH, gu, bw, ct]; done) | (simp_all [jH, gu]; done) | (simp [jH, gu]; simp_all; done))) (aI (by exact dz (by omega)) tI))) (f := (by exact aI (by rw [Cl, dJ]; exact rfl) tI))) : G := h
def uD (h : G := by
 refine rB gf ?_ (x := sM)
 refine rA ?_ (x := aG gf)
 refine rM ?_
 refine cx 124 (fun gg sgg => ?_) (fun gg sgg => ?_)
 refine rB gg ?_ (x := sM)
 refine rA ?_ (x := aG gg)
 exact fR
 refine ai.s0f gg ?_
 refine rA ?_ (x := an gg)
 exact fR) : G := h
def uE (h : G := by
 have hno : bG s = none := xK (by unfold kI; simp_all)
 refine sS [0, 2, 3, 4, 5, 6, 7, 8, 9, 11, 12, 13, 14, 7000] [2, 12] ?_
 exact mS) : G := h
def kW (h : G := by
 refine bY ?_
 exact uE) : G := h
def uF (h : G := by
 refine rA ?_ (x := fM (ms := [val _, val _, sl _ _, sl _ _]) (qs := [val _, val _, sl .v _, sl .v _]) (by decide) du (fun h => nomatch h) (by exact nl rfl) (by exact rfl) (by exact (aO (aO (cG (cG ao.nil))))) (by exact lq))
 refine wj ?_
 exact (bu 2 (bu _ (aI (by exact rfl) (aI (by refine gH ?_; rw [hys]; exact rfl) (aI du (aI (fun h => nomatch h) (aI (by refine dN ?_; rw [hys]; rfl) tI)))))))) : G := h
def uG (h : G := by
 refine sc ?_ ?_ <;> intro hbc
 exact uE
 have hys := Cw (s := s) (by simp_all) (by simp_all)
 refine aK ?_
 refine sS [0, 2, 3, 4, 5, 6, 7, 8, 9, 11, 12, 13, 14, 7000] [2, 12] ?_
 exact uF) : G := h
def uH (h : G := by
 refine rB ge ?_ (x := lD [val _, val _, sl .v _, sl .v _] du)
 refine rB ge ?_ (x := cL [(true, [val _, val _, sl _ _, sl _ _])] [(true, [val _, val _, sl .v _, sl .v _])] nV (hs := by exact (oB (x := dH (aa 32 s)))))
 refine rB ge ?_ (x := nT)
 refine rA ?_ (x := an ge)
 refine rM ?_
 refine cx 134 (fun gf sgf => ?_) (fun gf sgf => ?_)
 refine zt gf ?_
 refine rA ?_ (x := aG gf)
 exact kW
 refine rB gf ?_ (x := lD [val _, val _, sl .v _, sl .v _] du)
 refine rB gf ?_ (x := gL [(true, [val _, val _, sl _ _, sl _ _])] [(true, [val _, val _, sl .v _, sl .v _])] rt (hs := by exact (rL (q := dH (aa 32 s)))))
 refine rB gf ?_ (x := sM)
 refine rB gf ?_ (x := iX)
 refine rA ?_ (x := an gf)
 exact uG) : G := h
def uI (h : G := by
 refine vh ?_
 refine eC ?_
 exact (bu 2 (bu _ (aI (by exact rfl) (aI (by refine gH ?_; rw [hr]; exact rfl) (aI db (aI (fun h => nomatch h) tI))))))) : G := h
def uJ (h : G := by
 refine aT ?_
 refine jf ?_
 exact uI) : G := h
def uK (h : G := by
 refine rA ?_ (x := bv (ag := false) (vs := [val _]) aA (by exact tI) (by exact rfl) (by exact nl rfl))
 exact uJ) : G := h
def uL (h : G := by
 have hc1 : (ws.getD 0 [] = [100, 101, 108, 101, 116, 101] ∧ ws.length = 2) := by first | (simp_all; done) | (constructor <;> first | omega | (simp_all; done)) | (rintro ⟨a_, b_⟩; first | omega | (simp_all; done) | (simp_all; omega))
 have hr := Df hc0 hc1
 have h1w : 1 < ws.length := by omega
 refine sS [0, 2, 3, 7000] [2, 3] ?_
 refine qi ?_
 refine jf ?_
 refine wv ?_
 refine kf ?_
 refine jm ?_
 exact uK) : G := h
def pw (h : G := by
 have hc2 : (ws.getD 0 [] = [115, 101, 116] ∧ ws.length = 4) := by first | (simp_all; done) | (constructor <;> first | omega | (simp_all; done)) | (rintro ⟨a_, b_⟩; first | omega | (simp_all; done) | (simp_all; omega))
 have hr := Dg hc0 hc1 hc2
 have h1w : 1 < ws.length := by omega
 have h2w : 2 < ws.length := by omega
 have h3w : 3 < ws.length := by omega
 refine sS [0, 2, 3, 7000] [2, 3] ?_
 refine qi ?_
 refine aT ?_
 refine jf ?_
 refine wv ?_
 refine kf ?_
 refine jm ?_
 refine rA ?_ (x := bv (ag := false) (vs := [val _]) aA (by exact tI) (by exact rfl) (by exact nl rfl))
 refine aT ?_
 refine jf ?_
 refine rA ?_ (x := vM false [sl .v _])
 refine rA ?_ (x := bn (k := 2) (by decide) bp (aC rfl) (by rfl) (by exact bq h2w (by rw [← dX h2w])) (by exact rfl))
 refine rA ?_ (x := lE [val _] bP)
 refine rA ?_ (x := gL [(false, [val _]), (false, [val _])] [(false, [val _]), (false, [val _])] oA (hs := by exact (oC (l := [102]) (hw 2))))
 refine kf ?_
 refine rA ?_ (x := lF fz)
 refine rA ?_ (x := bv (ag := false) (vs := [val _]) aA (by exact tI) (by exact rfl) (by exact nl rfl))
 refine jf ?_
 refine rA ?_ (x := vM false [sl .v _])
 refine rA ?_ (x := bn (k := 3) (by decide) bp (aC rfl) (by rfl) (by exact bq h3w (by rw [← dX h3w])) (by exact rfl))
 refine rA ?_ (x := lE [val _] bP)
 refine rA ?_ (x := gL [(false, [val _])] [(false, [val _])] rz (hs := by exact (rH (hw 3))))
 refine kf ?_
 refine rA ?_ (x := lF gn)
 exact uK) : G := h
def mT (h : G := by
 have hc2 : ¬ (ws.getD 0 [] = [115, 101, 116] ∧ ws.length = 4) := by first | (simp_all; done) | (constructor <;> first | omega | (simp_all; done)) | (rintro ⟨a_, b_⟩; first | omega | (simp_all; done) | (simp_all; omega))
 have hr := Dh hc0 hc1 hc2
 refine aK ?_
 refine sS [0, 2, 3, 7000] [2, 3] ?_
 exact uI) : G := h
def px (h : G := by
 refine fq ?_
 refine fw ?_
 exact mT) : G := h
def uM (h : G := by
 have hc1 : ¬ (ws.getD 0 [] = [100, 101, 108, 101, 116, 101] ∧ ws.length = 2) := by first | (simp_all; done) | (constructor <;> first | omega | (simp_all; done)) | (rintro ⟨a_, b_⟩; first | omega | (simp_all; done) | (simp_all; omega))
 refine lm ?_
 refine jg ?_
 refine cx 49 (fun gc sgc => ?_) (fun gc sgc => ?_)
 refine qy ?_
 refine rB gc ?_ (x := dC)
 refine kp ?_
 refine sc ?_ ?_ <;> intro hbb
 exact pw
 exact mT
 exact px) : G := h
def py (h : G := by
 refine rA ?_ (x := cK (qs := []) (cs := [val _, val _, sl _ _, val _, val _]) (by decide) jz jA oD (by exact rfl) (by exact tI) rfl (by exact rfl))
 refine rA ?_ (x := bv (ag := true) (vs := [val _, val _, sl _ _, val _, val _]) db (by exact tI) (by exact rfl) (by exact nl rfl))
 refine ci ?_
 exact (bu 2 (bu _ (aI (by exact rfl) (aI (by refine gH ?_; rw [hno]; exact rfl) (aI db (aI (fun h => nomatch h) (aI (by refine dN ?_; rw [hno]; rfl) tI)))))))) : G := h
def uN (h : G := by
 have hno : bF s = none := Cj (by rw [ox]; simp_all)
 refine sS [0, 2, 3, 4, 7000] [2, 4] ?_
 exact py) : G := h
def pz (h : G := by
 refine vh ?_
 refine ci ?_
 exact (bu 2 (bu _ (aI (by exact rfl) (aI (by refine gH ?_; rw [hys]; exact rfl) (aI db (aI (fun h => nomatch h) (aI (by refine dN ?_; rw [hys]; rfl) tI)))))))) : G := h
def uO (h : G := by
 have hno : bF s = none := xz (by first | assumption | omega | (simp_all; done) | (simp_all; omega))
 refine sS [0, 2, 3, 4, 5, 6, 7] [2, 5, 6] ?_
 exact py) : G := h
def mU (h : G := by
 have hno : bF s = none := xz (by first | assumption | omega | (simp_all; done) | (simp_all; omega))
 refine sS [0, 2, 3, 4, 5] [2, 5] ?_
 exact py) : G := h
def pA (h : G := by
 refine lv ?_
 refine bY ?_
 exact mU) : G := h
def pB (h : G := by
 have hys := xA (s := s) (by first | assumption | omega | (simp_all; done) | (simp_all; omega)) (by first | assumption | omega | (simp_all; done) | (simp_all; omega))
 refine qJ ?_
 exact pz) : G := h
def uP (h : G := by
 refine pP ?_
 refine fv ?_
 refine cx 60 (fun gb sgb => ?_) (fun gb sgb => ?_)
 exact pA
 refine zip ?_
 refine lz ?_
 refine sc ?_ ?_ <;> intro hbc
 exact mU
 exact pB) : G := h
def uQ (h : G := by
 refine aT ?_
 refine nc ?_
 exact uP) : G := h
def uR (h : G := by
 refine pP ?_
 refine fv ?_
 refine cx 60 (fun gb sgb => ?_) (fun gb sgb => ?_)
 exact pA
 refine zip ?_
 refine lz ?_
 refine sc ?_ ?_ <;> intro hbd
 exact mU
 exact pB) : G := h
def kX (h : G := by
 refine rA ?_ (x := cK (qs := []) (cs := [val _, val _, val _, sl _ _, sl _ _, val _, val _, val _, val _, sl _ _, val _, val _, val _]) (by decide) hE hH mg (by exact rfl) (by exact tI) rfl (by exact rfl))
 refine vC ?_
 exact (bu 2 (bu _ (aI (by exact rfl) (aI (by refine gH ?_; rw [hno]; exact rfl) (aI dw (aI (fun h => nomatch h) (aI (by refine dN ?_; rw [hno]; rfl) tI)))))))) : G := h
def uS (h : G := by
 have hno : aJ s = none := xL (by simp_all)
 refine sS [0, 2, 3, 4, 5, 6, 7, 8, 9, 10, 18, 7000] [2, 7] ?_
 exact kX) : G := h
def kY (h : G := by
 refine rA ?_ (x := fM (ms := [val _, val _, val _, sl _ _, sl _ _, val _, val _, val _, val _, sl _ _, val _, val _, val _]) (qs := [val _, val _, val _, sl .v _, sl .v _, val _, val _, val _, val _, sl .v _, val _, val _, val _]) (by decide) dw (fun h => nomatch h) (by exact nl rfl) (by exact rfl) (by exact (aO (aO (aO (cG (cG (aO (aO (aO (aO (cG (aO (aO (aO ao.nil)))))))))))))) (by exact lq))
 refine vC ?_
 exact (bu 2 (bu _ (aI (by exact rfl) (aI (by refine gH ?_; rw [hys]; exact rfl) (aI dw (aI (fun h => nomatch h) (aI (by refine dN ?_; rw [hys]; rfl) tI)))))))) : G := h
def pC (h : G := by
 have hno : aJ s = none := xL (by simp_all)
 refine sS [0, 2, 3, 4, 5, 6, 7, 18, 7000] [2, 7] ?_
 exact kX) : G := h
def uT (h : G := by
 refine fU ?_
 refine bY ?_
 exact pC) : G := h
def uU (h : G := by
 have hys := xM (s := s) (by simp_all) (by simp_all)
 refine aK ?_
 refine sS [0, 2, 3, 4, 5, 6, 7, 18, 7000] [2, 7] ?_
 exact kY) : G := h
def uV (h : G := by
 refine iq ?_
 refine vf ?_
 refine sG [0, 2, 3, 4, 5, 6, 7, 18, 7000] [2, 7] ?_
 refine pL ?_
 refine fu ?_
 refine cx 68 (fun ga sga => ?_) (fun ga sga => ?_)
 exact uT
 refine pK ?_
 refine jq ?_
 refine sc ?_ ?_ <;> intro hbd
 exact pC
 exact uU) : G := h
def uW (h : G := by
 have hno : aJ s = none := rm (by first | assumption | omega | (simp_all; done) | (simp_all; omega))
 refine sS [0, 2, 3, 4, 5, 6, 7, 8] [2, 5, 7] ?_
 exact kX) : G := h
def kZ (h : G := by
 have hno : aJ s = none := rm (by first | assumption | omega | (simp_all; done) | (simp_all; omega))
 refine sS [0, 2, 3, 4, 5] [2, 5] ?_
 exact kX) : G := h
def uX (h : G := by
 refine zt gc ?_
 refine rA ?_ (x := aG gc)
 refine bY ?_
 exact kZ) : G := h
def pD (h : G := by
 have hys := rn (s := s) (by first | assumption | omega | (simp_all; done) | (simp_all; omega)) (by first | assumption | omega | (simp_all; done) | (simp_all; omega))
 refine qJ ?_
 exact kY) : G := h
def uY (h : G := by
 refine sc ?_ ?_ <;> intro hbc
 exact kZ
 exact pD) : G := h
def pE (h : G := by
 refine nI ?_
 refine bY ?_
 exact kZ) : G := h
def la (h : G := by
 have hno : aJ s = none := rm (by first | assumption | omega | (simp_all; done) | (simp_all; omega))
 refine sS [0, 2, 3, 4, 5, 9, 10] [2, 5, 9] ?_
 exact kX) : G := h
def mV (h : G := by
 refine nI ?_
 refine bY ?_
 exact la) : G := h
def mW (h : G := by
 have hys := rn (s := s) (by first | assumption | omega | (simp_all; done) | (simp_all; omega)) (by first | assumption | omega | (simp_all; done) | (simp_all; omega))
 refine aK ?_
 refine sS [0, 2, 3, 4, 5, 9, 10] [2, 5, 9] ?_
 exact kY) : G := h
def uZ (h : G := by
 have hc2 : ¬ ((aa 32 s).length = 2 ∧ (aa 32 s).getD 0 [] = [115, 116, 101, 112]) := by first | (simp_all; done) | (constructor <;> first | omega | (simp_all; done)) | (rintro ⟨a_, b_⟩; first | omega | (simp_all; done) | (simp_all; omega))
 have hr := oy hc0 hc1 hc2
 refine nz ?_
 refine nb ?_
 refine ld ?_
 refine jZ ?_
 refine rS ?_
 refine na ?_
 refine mX ?_
 refine fW ?_
 refine nn ?_
 refine fv ?_
 refine cx 86 (fun gd sgd => ?_) (fun gd sgd => ?_)
 exact mV
 refine js ?_
 refine sc ?_ ?_ <;> intro hbc
 exact la
 exact mW) : G := h
def va (h : G := by
 have hc2 : ¬ ((aa 32 s).length = 2 ∧ (aa 32 s).getD 0 [] = [115, 116, 101, 112]) := by first | (simp_all; done) | (constructor <;> first | omega | (simp_all; done)) | (rintro ⟨a_, b_⟩; first | omega | (simp_all; done) | (simp_all; omega))
 have hr := oy hc0 hc1 hc2
 refine nz ?_
 refine nb ?_
 refine ld ?_
 refine jZ ?_
 refine rS ?_
 refine na ?_
 refine mX ?_
 refine fW ?_
 refine nn ?_
 refine fv ?_
 refine cx 86 (fun gd sgd => ?_) (fun gd sgd => ?_)
 exact mV
 refine js ?_
 refine sc ?_ ?_ <;> intro hbb
 exact la
 exact mW) : G := h
def vb (h : G := by
 have hc1 : ¬ ((aa 32 s).length = 2 ∧ (aa 32 s).getD 0 [] = [99, 97, 110, 99, 101, 108]) := by first | (simp_all; done) | (constructor <;> first | omega | (simp_all; done)) | (rintro ⟨a_, b_⟩; first | omega | (simp_all; done) | (simp_all; omega))
 refine gN ?_
 refine ft ?_
 refine cx 73 (fun gc sgc => ?_) (fun gc sgc => ?_)
 have h0w : 0 < (aa 32 s).length := by have := gc; (try simp at this); omega
 have sgc := gc
 try simp only [qq] at sgc
 refine pW ?_
 refine qB ?_
 refine kp ?_
 refine sc ?_ ?_ <;> intro hbb
 have hc2 : ((aa 32 s).length = 2 ∧ (aa 32 s).getD 0 [] = [115, 116, 101, 112]) := by first | (simp_all; done) | (constructor <;> first | omega | (simp_all; done)) | (rintro ⟨a_, b_⟩; first | omega | (simp_all; done) | (simp_all; omega))
 have hr := rr hc0 hc1 hc2
 have h1w : 1 < (aa 32 s).length := by omega
 refine jn ?_
 refine le ?_
 refine fW ?_
 refine lb ?_
 refine kh ?_
 refine cx 86 (fun gd sgd => ?_) (fun gd sgd => ?_)
 exact pE
 refine js ?_
 exact uY
 exact uZ
 refine fq ?_
 refine fw ?_
 exact va) : G := h
def vc (h : G := by
 refine sc ?_ ?_ <;> intro hbb
 exact kZ
 exact pD) : G := h
def vd (h : G := by
 refine ci ?_
 exact (aI (by exact rfl) tI)) : G := h
def pF (h : H) (w : ae G H := by
 intro z
 refine rA ?_ (x := gI (cs := [val _]) (by decide) (by exact rfl) (by exact (ak.cons (bor_val _) ak.nil)))
 refine rA ?_ (x := gI (cs := [val _]) (by decide) (by exact rfl) (by exact (ak.cons (bor_val _) ak.nil)))
 exact z.g) : G := ah w h
def lb (h : H) (w : ae G H := by
 intro z
 refine sO [(0, _), (2, _), (3, _), (4, _), (5, _)] [(2, _), (5, (31, [val _, val _, val _, sl _ _, sl _ _, val _, val _, val _, val _, sl _ _, val _, val _, val _]))] ?_
 refine eD (d := 5) (by exact rfl) (show _ = [val (vI (aH s).Kind), val (vI (aH s).FY.Id), val (vI (aH s).FY.Gc), sl cC ((aH s).FY.FZ.map aV), sl aM ((aH s).FY.Out.map ap), val (vI (aH s).Limit), val (vI (aH s).Id), val (vI (aH s).Ga.Kind), val (vI (aH s).Ga.Row.Id), sl aM ((aH s).Ga.Row.Values.map ap), val (vI (aH s).Ga.Field), val (vI (aH s).Ga.Value), val (vI (aH s).Steps)] from by rw [hr] <;> rfl) ?_
 exact z.g) : G := ah w h
def ve (h : H) (w : ae G H := by
 intro z
 refine rA ?_ (x := bv (ag := true) (vs := [val _, val _, val _, sl _ _, sl _ _, val _, val _, val _, val _, sl _ _, val _, val _, val _]) dw (by exact tI) (by exact rfl) (by exact nl rfl))
 refine aT ?_
 exact z.g) : G := ah w h
def mX (h : H) (w : ae G H := by
 intro z
 refine rA ?_ (x := fM (ms := [val _, val _, sl _ _, val _, val _]) (qs := [val _, val _, sl .v _, val _, val _]) (by decide) db (fun h => nomatch h) (by exact nl rfl) (by exact rfl) (by exact (aO (aO (cG (aO (aO ao.nil)))))) (by exact lq))
 refine rA ?_ (x := cK (qs := [(false, [val _]), (true, [val _, val _, sl _ _, val _, val _])]) (cs := [val _, val _, val _, sl _ _, sl _ _, val _, val _, val _, val _, sl _ _, val _, val _, val _]) (by decide) hE hH mg (by exact rfl) (by exact (aI (aC rfl) (aI (by exact tI) tI))) rfl (by exact rfl))
 exact z.g) : G := ah w h
def ld (h : H) (w : ae G H := by
 intro z
 refine rA ?_ (x := jP (cs := [val _, val _, sl _ _, val _, val _]) (qs := [val _, val _, sl .v _, val _, val _]) (by decide) (by exact rfl) (by exact (aO (aO (cG (aO (aO ao.nil)))))) (by exact lq))
 refine rA ?_ (x := gI (cs := [val _]) (by decide) (by exact rfl) (by exact (ak.cons (bor_val _) ak.nil)))
 exact z.g) : G := ah w h
def le (h : H) (w : ae G H := by
 intro z
 refine rA ?_ (x := cL [(false, [val _])] [(false, [val _])] gx (hs := by exact (gy (by omega))))
 refine rA ?_ (x := cK (qs := [(false, [val _]), (false, [val _])]) (cs := [val _, val _, val _, sl _ _, sl _ _, val _, val _, val _, val _, sl _ _, val _, val _, val _]) (by decide) hE hH mg (by exact rfl) (by exact (aI (aC rfl) (aI (by exact tI) tI))) rfl (by exact rfl))
 exact z.g) : G := ah w h
def pG (h : H) (w : ae G H := by
 intro z
 refine sP [0, 2, 3, 4, 5, 6, 7, 8, 9, 11, 12, 13, 14, 7000] [2, 12] ?_
 refine sL [0, 2, 3, 4, 5, 6, 7, 8, 9, 11, 12, 7000] [2] (fun k : Nat => k ≤ (((aa 32 s).length - 4) / 2)) (fun k : Nat => [(13, RV.bool (iH (aa 32 s) k)), (14, RV.int (2 + 2 * (k : Int)))]) (fun k : Nat => [(12, (25, [val (vI (gt 113 ((aa 32 s).getD 0 []))), val (vI (gt 116 ((aa 32 s).getD 1 []))), sl cC ((iG (aa 32 s) k).map aV), sl aM ((gX ((aa 32 s).getD ((aa 32 s).length - 1) [])).map ap)]))]) (fun k : Nat => (((aa 32 s).length - 4) / 2) - k) 0 (by omega) (by exact aI (by exact dN (by first | (simp_all [iH, oj, gu]; done) | (simp [iH, oj, gu]; simp_all; done))) (aI (by exact rfl) tI)) (by exact aI (by exact rfl) tI) ?_
 exact z.g) : G := ah w h
def pH (h : H) (w : ae G H := by
 intro z
 refine rA ?_ (x := jP (cs := [val _, val _, val _, sl _ _, sl _ _, val _, val _, val _, val _, sl _ _, val _, val _, val _]) (qs := [val _, val _, val _, sl .v _, sl .v _, val _, val _, val _, val _, sl .v _, val _, val _, val _]) (by decide) (by exact rfl) (by exact (aO (aO (aO (cG (cG (aO (aO (aO (aO (cG (aO (aO (aO ao.nil)))))))))))))) (by exact lq))
 refine rA ?_ (x := gI (cs := [val _]) (by decide) (by exact rfl) (by exact (ak.cons (bor_val _) ak.nil)))
 exact z.g) : G := ah w h
def cg (h : H) (w : ae G H := by
 intro z
 refine aK ?_
 refine aT ?_
 exact z.g) : G := ah w h
def jb (h : H) (w : ae G H := by
 intro z
 refine rA ?_ (x := lD [val _] aA)
 refine rA ?_ (x := cL [(false, [val _]), (false, [val _]), (false, [val _])] [(false, [val _]), (false, [val _]), (false, [val _])] kx (hs := by exact kN))
 exact z.g) : G := ah w h
def jZ (h : H) (w : ae G H := by
 intro z
 refine rX ?_ (x := (dZ (by decide) jz jA))
 refine rA ?_ (x := bv (ag := true) (vs := [val _, val _, sl _ _, val _, val _]) db (by exact tI) (by exact rfl) (by exact nl rfl))
 exact z.g) : G := ah w h
def pI (h : H) (w : ae G H := by
 intro z
 refine rA ?_ (x := cK (qs := [(false, [val _]), (false, [val _]), (false, [val _])]) (cs := [val _, val _, val _]) (by decide) iA nY yw (by exact rfl) (by exact (aI (by exact tI) (aI (by exact tI) (aI (by exact tI) tI)))) rfl (by exact rfl))
 refine rA ?_ (x := fh (qs := [(true, [val _, val _, val _])]) (by decide) cz iA (by decide) rfl rfl rfl rfl rfl (by exact nl rfl) (by exact (aI (by exact tI) tI)) rfl)
 exact z.g) : G := ah w h
def ka (h : H) (w : ae G H := by
 intro z
 refine sR ?_
 refine rX ?_ (x := (eh (ag := true) (cs := [val _, val _, val _, sl _ _, sl _ _, val _, val _, val _, val _, sl _ _, val _, val _, val _]) (by decide) (by exact tI)))
 exact z.g) : G := ah w h
def gK (h : H) (w : ae G H := by
 intro z
 refine rA ?_ (x := vM false [sl .v _])
 refine rA ?_ (x := lN bp)
 exact z.g) : G := ah w h
def gM (h : H) (w : ae G H := by
 intro z
 refine rA ?_ (x := dC)
 refine rS ?_
 exact z.g) : G := ah w h
def pJ (h : H) (w : ae G H := by
 intro z
 refine rA ?_ (x := fh (qs := [(false, [val _])]) (by decide) bp iI (by decide) rfl rfl rfl rfl rfl (by exact nl rfl) (by exact (aI (by exact tI) tI)) rfl)
 refine rA ?_ (x := iM (by decide) bp iI rfl rfl (by decide) rfl (by simp only [bc, aX, List.length_cons, List.length_nil]; omega) (by simp only [bc, aX, List.length_cons, List.length_nil]; omega))
 exact z.g) : G := ah w h
def pK (h : H) (w : ae G H := by
 intro z
 refine rB ga ?_ (x := lD [val _, val _, val _, sl .v _, sl .v _, val _, val _, val _, val _, sl .v _, val _, val _, val _] dw)
 refine rB ga ?_ (x := gL [(true, [val _, val _, val _, sl _ _, sl _ _, val _, val _, val _, val _, sl _ _, val _, val _, val _])] [(true, [val _, val _, val _, sl .v _, sl .v _, val _, val _, val _, val _, sl .v _, val _, val _, val _])] DD (hs := by exact (EE (x := aR s))))
 exact z.g) : G := ah w h
def jc (h : H) (w : ae G H := by
 intro z
 refine sR ?_
 refine rX ?_ (x := (eh (ag := true) (cs := [val _, val _, sl _ _, val _, val _]) (by decide) (by exact tI)))
 exact z.g) : G := ah w h
def pL (h : H) (w : ae G H := by
 intro z
 refine rA ?_ (x := lD [val _, val _, val _, sl .v _, sl .v _, val _, val _, val _, val _, sl .v _, val _, val _, val _] dw)
 refine rA ?_ (x := cL [(true, [val _, val _, val _, sl _ _, sl _ _, val _, val _, val _, val _, sl _ _, val _, val _, val _])] [(true, [val _, val _, val _, sl .v _, sl .v _, val _, val _, val _, val _, sl .v _, val _, val _, val _])] xZ (hs := by exact (yr (x := aR s))))
 exact z.g) : G := ah w h
def jd (h : H) (w : ae G H := by
 intro z
 refine sR ?_
 refine rX ?_ (x := (eh (ag := true) (cs := [val _, val _, sl _ _, sl _ _]) (by decide) (by exact tI)))
 exact z.g) : G := ah w h
def pM (h : H) (w : ae G H := by
 intro z
 refine rA ?_ (x := cK (qs := [(false, [val _]), (true, [val _, sl _ _])]) (cs := [val _, val _, sl _ _, val _, val _]) (by decide) jz jA oD (by exact rfl) (by exact (aI (aC rfl) (aI (by exact tI) tI))) rfl (by exact rfl))
 refine rA ?_ (x := bv (ag := true) (vs := [val _, val _, sl _ _, val _, val _]) db (by exact tI) (by exact rfl) (by exact nl rfl))
 exact z.g) : G := ah w h
def fS (h : H) (w : ae G H := by
 intro z
 refine zf gb ?_
 refine rA ?_ (x := an gb)
 exact z.g) : G := ah w h
def eS (h : H) (w : ae G H := by
 intro z
 refine rM ?_
 refine rA ?_ (x := jX)
 exact z.g) : G := ah w h
def kb (h : H) (w : ae G H := by
 intro z
 refine rA ?_ (x := bn (by decide) da (by exact tI) (by exact rfl) (by exact bq (by omega) rfl) (by exact rfl))
 refine rA ?_ (x := lE [val _] aA)
 exact z.g) : G := ah w h
def lf (h : H) (w : ae G H := by
 intro z
 refine rA ?_ (x := lD [val _] aA)
 refine rA ?_ (x := cL [(false, [val _]), (false, [val _]), (false, [val _])] [(false, [val _]), (false, [val _]), (false, [val _])] jw (hs := by exact jJ))
 exact z.g) : G := ah w h
def pN (h : H) (w : ae G H := by
 intro z
 refine rA ?_ (x := bv (ag := false) (vs := [sl _ _]) ew (by exact tI) (by exact rfl) (by exact nl rfl))
 refine sO [(0, _), (2, _), (3, _), (4, _), (5, _), (6, _), (7, _), (8, _), (9, _), (11, _), (12, _), (13, _), (14, _), (15, _), (16, _), (17, _), (18, _), (19, _), (20, _), (21, _), (22, _), (23, _), (7000, _)] [(2, _), (12, (25, [val _, val _, sl _ _, sl _ _]))] ?_
 exact z.g) : G := ah w h
def je (h : H) (w : ae G H := by
 intro z
 refine rA ?_ (x := lF nX)
 refine rA ?_ (x := lD [val _, val _, sl .v _, sl .v _] du)
 exact z.g) : G := ah w h
def zip (h : H) (w : ae G H := by
 intro z
 refine rB gb ?_ (x := lD [val _, val _, sl .v _, val _, val _] db)
 refine rB gb ?_ (x := cL [(true, [val _, val _, sl _ _, val _, val _])] [(true, [val _, val _, sl .v _, val _, val _])] xW (hs := by exact (yv (u := bO s))))
 exact z.g) : G := ah w h
def vf (h : H) (w : ae G H := by
 intro z
 refine sO [(0, _), (2, _), (3, _), (4, _), (5, _), (6, _), (7, _), (18, _), (7000, _)] [(2, _), (7, (31, [val _, val _, val _, sl _ _, sl _ _, val _, val _, val _, val _, sl _ _, val _, val _, val _]))] ?_
 refine eD (d := 7) (by exact rfl) (show _ = [val (vI (aR s).Kind), val (vI (aR s).FY.Id), val (vI (aR s).FY.Gc), sl cC ((aR s).FY.FZ.map aV), sl aM ((aR s).FY.Out.map ap), val (vI (aR s).Limit), val (vI (aR s).Id), val (vI (aR s).Ga.Kind), val (vI (aR s).Ga.Row.Id), sl aM ((aR s).Ga.Row.Values.map ap), val (vI (aR s).Ga.Field), val (vI (aR s).Ga.Value), val (vI (aR s).Steps)] from by rw [hr] <;> rfl) ?_
 exact z.g) : G := ah w h
def ii (h : H) (w : ae G H := by
 intro z
 refine rA ?_ (x := lF jx)
 refine rA ?_ (x := lD [val _, val _, sl .v _, val _, val _] db)
 exact z.g) : G := ah w h
def fp (h : H) (w : ae G H := by
 intro z
 refine zf ga ?_
 refine rA ?_ (x := an ga)
 exact z.g) : G := ah w h
def jf (h : H) (w : ae G H := by
 intro z
 refine sO [(0, _), (2, _), (3, _), (7000, _)] [(2, _), (3, (29, [val _, val _, sl _ _, val _, val _]))] ?_
 refine cd ?_
 exact z.g) : G := ah w h
def cW (h : H) (w : ae G H := by
 intro z
 refine rK ?_
 refine aT ?_
 exact z.g) : G := ah w h
def mY (h : H) (w : ae G H := by
 intro z
 refine sO [(0, _), (2, _), (3, _), (4, _), (5, _), (6, _), (7, _), (18, _), (7000, _)] [(2, _), (7, (31, [val _, val _, val _, sl _ _, sl _ _, val _, val _, val _, val _, sl _ _, val _, val _, val _]))] ?_
 refine cd ?_
 exact z.g) : G := ah w h
def cX (h : H) (w : ae G H := by
 intro z
 refine rA ?_ (x := aG gb)
 refine rM ?_
 exact z.g) : G := ah w h
def vg (h : H) (w : ae G H := by
 intro z
 refine rA ?_ (x := lD [val _, val _, val _, sl .v _, sl .v _, val _, val _, val _, val _, sl .v _, val _, val _, val _] dw)
 refine rA ?_ (x := cL [(true, [val _, val _, val _, sl _ _, sl _ _, val _, val _, val _, val _, sl _ _, val _, val _, val _]), (true, [val _, val _, val _, sl _ _, sl _ _, val _, val _, val _, val _, sl _ _, val _, val _, val _])] [(true, [val _, val _, val _, sl .v _, sl .v _, val _, val _, val _, val _, sl .v _, val _, val _, val _]), (true, [val _, val _, val _, sl .v _, sl .v _, val _, val _, val _, val _, sl .v _, val _, val _, val _])] Dr (hs := by exact DS))
 exact z.g) : G := ah w h
def jg (h : H) (w : ae G H := by
 intro z
 refine rA ?_ (x := ig)
 refine rM ?_
 exact z.g) : G := ah w h
def eE (h : H) (w : ae G H := by
 intro z
 refine rA ?_ (x := lD [val _] aA)
 refine rA ?_ (x := eQ)
 exact z.g) : G := ah w h
def kc (h : H) (w : ae G H := by
 intro z
 refine sR ?_
 refine rX ?_ (x := (eh (ag := true) (cs := [val _, sl _ _]) (by decide) (by exact tI)))
 exact z.g) : G := ah w h
def pO (h : H) (w : ae G H := by
 intro z
 refine rA ?_ (x := iM (by decide) cz iA rfl rfl (by decide) rfl (by simp only [bc, aX, List.length_cons, List.length_nil]; omega) (by simp only [bc, aX, List.length_cons, List.length_nil]; omega))
 refine rA ?_ (x := lF eu)
 exact z.g) : G := ah w h
def ij (h : H) (w : ae G H := by
 intro z
 refine rA ?_ (x := vM false [sl .v _])
 refine rA ?_ (x := lN da)
 exact z.g) : G := ah w h
def dg (h : H) (w : ae G H := by
 intro z
 refine cg ?_
 refine fi ?_
 exact z.g) : G := ah w h
def mZ (h : H) (w : ae G H := by
 intro z
 refine rA ?_ (x := bn (k := (3 + 2 * k)) (by decide) bp (by exact tI) (by omega) (by exact bq h3w (by rw [← dX h3w])) (by exact rfl))
 refine rA ?_ (x := lE [val _] bP)
 exact z.g) : G := ah w h
def fq (h : H) (w : ae G H := by
 intro z
 refine zf gc ?_
 refine rA ?_ (x := an gc)
 exact z.g) : G := ah w h
def fT (h : H) (w : ae G H := by
 intro z
 refine dA 0 ?_ (x := vM false [sl .v _])
 refine dA 0 ?_ (x := sM)
 exact z.g) : G := ah w h
def ci (h : H) (w : ae G H := by
 intro z
 refine rK ?_
 refine eC ?_
 exact z.g) : G := ah w h
def kd (h : H) (w : ae G H := by
 intro z
 refine rB ga ?_ (x := dC)
 refine rA ?_ (x := aG ga)
 exact z.g) : G := ah w h
def pP (h : H) (w : ae G H := by
 intro z
 refine eD (d := 5) (by exact rfl) (show _ = [val (vI (bO s).Kind), val (vI (bO s).Row.Id), sl aM ((bO s).Row.Values.map ap), val (vI (bO s).Field), val (vI (bO s).Value)] from by rw [hr] <;> rfl) ?_
 refine sG [0, 2, 3, 4, 5] [2, 5] ?_
 exact z.g) : G := ah w h
def pQ (h : H) (w : ae G H := by
 intro z
 refine rX ?_ (x := (dZ (by decide) hE hH))
 refine rA ?_ (x := bv (ag := true) (vs := [val _, val _, val _, sl _ _, sl _ _, val _, val _, val _, val _, sl _ _, val _, val _, val _]) dw (by exact tI) (by exact rfl) (by exact nl rfl))
 exact z.g) : G := ah w h
def vh (h : H) (w : ae G H := by
 intro z
 refine rA ?_ (x := fM (ms := [val _, val _, sl _ _, val _, val _]) (qs := [val _, val _, sl .v _, val _, val _]) (by decide) db (fun h => nomatch h) (by exact nl rfl) (by exact rfl) (by exact (aO (aO (cG (aO (aO ao.nil)))))) (by exact lq))
 refine rA ?_ (x := bv (ag := true) (vs := [val _, val _, sl _ _, val _, val _]) db (by exact tI) (by exact rfl) (by exact nl rfl))
 exact z.g) : G := ah w h
def vi (h : H) (w : ae G H := by
 intro z
 refine dA 8191 ?_ (x := cK (qs := [(false, [val _]), (true, [val _, sl _ _]), (false, [val _]), (false, [val _])]) (cs := [val _, val _, sl _ _, val _, val _]) (by decide) jz jA oD (by exact rfl) (by exact (aI (aC rfl) (aI (by exact tI) (aI (by exact tI) (aI (by exact tI) tI))))) rfl (by exact rfl))
 refine dA 16383 ?_ (x := bv (ag := true) (vs := [val _, val _, sl _ _, val _, val _]) db (by exact tI) (by exact rfl) (by exact nl rfl))
 exact z.g) : G := ah w h
def cj (h : H) (w : ae G H := by
 intro z
 refine rS ?_
 refine eC ?_
 exact z.g) : G := ah w h
def pR (h : H) (w : ae G H := by
 intro z
 refine rA ?_ (x := lF eu)
 refine rA ?_ (x := fM (ms := [sl _ _]) (qs := [sl .v _]) (by decide) ew (fun _ => rfl) (by exact nl rfl) (by exact rfl) (by exact (cG ao.nil)) (by exact (ak.cons (bor_sl _) ak.nil)))
 exact z.g) : G := ah w h
def vj (h : H) (w : ae G H := by
 intro z
 refine rA ?_ (x := cK (qs := []) (cs := [val _, val _, sl _ _, val _, val _]) (by decide) jz jA BC (by exact rfl) (by exact tI) rfl (by exact rfl))
 refine rA ?_ (x := cL [(true, [val _, val _, sl _ _, val _, val _]), (true, [val _, val _, sl _ _, val _, val _])] [(true, [val _, val _, sl .v _, val _, val _]), (true, [val _, val _, sl .v _, val _, val _])] Bg (hs := by exact (EA (x := x.Ga) (y := ⟨0, ⟨0, []⟩, 0, 0⟩))))
 exact z.g) : G := ah w h
def jh (h : H) (w : ae G H := by
 intro z
 refine rA ?_ (x := lF eJ)
 refine rA ?_ (x := lD [val _, sl .v _] dV)
 exact z.g) : G := ah w h
def pS (h : H) (w : ae G H := by
 intro z
 refine rB gc ?_ (x := lD [val _, val _, sl .v _, val _, val _] db)
 refine rB gc ?_ (x := cL [(true, [val _, val _, sl _ _, val _, val _])] [(true, [val _, val _, sl .v _, val _, val _])] Bd (hs := by exact EC))
 exact z.g) : G := ah w h
def bZ (h : H) (w : ae G H := by
 intro z
 refine rS ?_
 refine aT ?_
 exact z.g) : G := ah w h
def vk (h : H) (w : ae G H := by
 intro z
 refine dA 124 ?_ (x := fh (qs := [(false, [val _])]) (by decide) da lT (by decide) rfl rfl rfl rfl rfl (by exact nl rfl) (by exact (aI (by exact tI) tI)) rfl)
 refine dA 255 ?_ (x := iM (by decide) da lT rfl rfl (by decide) rfl (by simp only [bc, aX, List.length_cons, List.length_nil]; omega) (by simp only [bc, aX, List.length_cons, List.length_nil]; omega))
 exact z.g) : G := ah w h
def lg (h : H) (w : ae G H := by
 intro z
 refine rA ?_ (x := lF qR)
 refine rA ?_ (x := lD [val _] aA)
 exact z.g) : G := ah w h
def na (h : H) (w : ae G H := by
 intro z
 refine sO [(0, _), (2, _), (3, _), (4, _), (5, _), (9, _), (10, _)] [(2, _), (5, _), (9, (29, [val _, val _, sl _ _, val _, val _]))] ?_
 refine cd ?_
 exact z.g) : G := ah w h
def eT (h : H) (w : ae G H := by
 intro z
 refine rA ?_ (x := aG gc)
 refine rM ?_
 exact z.g) : G := ah w h
def vl (h : H) (w : ae G H := by
 intro z
 refine rB gc ?_ (x := lD [val _, val _, val _, sl .v _, sl .v _, val _, val _, val _, val _, sl .v _, val _, val _, val _] dw)
 refine rB gc ?_ (x := cL [(true, [val _, val _, val _, sl _ _, sl _ _, val _, val _, val _, val _, sl _ _, val _, val _, val _])] [(true, [val _, val _, val _, sl .v _, sl .v _, val _, val _, val _, val _, sl .v _, val _, val _, val _])] ru (hs := by exact (rN (x := aH s))))
 exact z.g) : G := ah w h
def lh (h : H) (w : ae G H := by
 intro z
 refine rA ?_ (x := vM false [sl .v _])
 refine rA ?_ (x := bn (k := 1) (by decide) bp (aC rfl) (by rfl) (by exact bq h1w (by rw [← dX h1w])) (by exact rfl))
 refine rA ?_ (x := lE [val _] bP)
 exact z.g) : G := ah w h
def en (h : H) (w : ae G H := by
 intro z
 refine cg ?_
 refine sS [2, 3, 4] [2, 3] ?_
 exact z.g) : G := ah w h
def pT (h : H) (w : ae G H := by
 intro z
 refine rB ga ?_ (x := lD [val _] aA)
 refine rB ga ?_ (x := cL [(false, [val _]), (false, [val _]), (false, [val _])] [(false, [val _]), (false, [val _]), (false, [val _])] jw (hs := by exact jJ))
 exact z.g) : G := ah w h
def ji (h : H) (w : ae G H := by
 intro z
 refine rA ?_ (x := vM false [sl .v _])
 refine rM ?_
 exact z.g) : G := ah w h
def cH (h : H) (w : ae G H := by
 intro z
 refine rK ?_
 refine fi ?_
 exact z.g) : G := ah w h
def li (h : H) (w : ae G H := by
 intro z
 refine rB gb ?_ (x := lD [val _] aA)
 refine rB gb ?_ (x := dC)
 exact z.g) : G := ah w h
def vm (h : H) (w : ae G H := by
 intro z
 refine rA ?_ (x := jP (cs := [val _, val _, sl _ _, sl _ _]) (qs := [val _, val _, sl .v _, sl .v _]) (by decide) (by exact rfl) (by exact (aO (aO (cG (cG ao.nil))))) (by exact lq))
 refine rA ?_ (x := gI (cs := [val _]) (by decide) (by exact rfl) (by exact (ak.cons (bor_val _) ak.nil)))
 exact z.g) : G := ah w h
def bU (h : H) (w : ae G H := by
 intro z
 refine rM ?_
 refine rM ?_
 exact z.g) : G := ah w h
def vn (h : H) (w : ae G H := by
 intro z
 refine rA ?_ (x := gE (qs := [val _, val _, val _, sl .v _, sl .v _, val _, val _, val _, val _, sl .v _, val _, val _, val _]) (by decide) dw (fun h => nomatch h) (by exact nl rfl) (by exact (ao.cons (PV.nv_to (fP _)) (ao.cons (PV.nv_to (fP _)) (ao.cons (PV.nv_to (fP _)) (ao.cons (PV.nv_to kT) (ao.cons (PV.nv_to kT) (ao.cons (PV.nv_to (fP _)) (ao.cons (PV.nv_to (fP _)) (ao.cons (PV.nv_to (fP _)) (ao.cons (PV.nv_to (fP _)) (ao.cons (PV.nv_to kT) (ao.cons (PV.nv_to (fP _)) (ao.cons (PV.nv_to (fP _)) (ao.cons (PV.nv_to (fP _)) ao.nil)))))))))))))) (by exact lq))
 refine rM ?_
 refine rA ?_ (x := cL [(true, [val _, val _, val _, sl _ _, sl _ _, val _, val _, val _, val _, sl _ _, val _, val _, val _]), (false, [val _])] [(true, [val _, val _, val _, sl .v _, sl .v _, val _, val _, val _, val _, sl .v _, val _, val _, val _]), (false, [val _])] Dt (hs := by exact Ed (by omega) (by first | omega | (simp only [cy]; omega))))
 exact z.g) : G := ah w h
def pU (h : H) (w : ae G H := by
 intro z
 refine rA ?_ (x := lE [val _] bP)
 refine rA ?_ (x := gL [(false, [val _]), (false, [val _])] [(false, [val _]), (false, [val _])] oA (hs := by exact (oC (l := [102]) (by omega))))
 exact z.g) : G := ah w h
def nb (h : H) (w : ae G H := by
 intro z
 refine rA ?_ (x := cL [(false, [val _])] [(false, [val _])] DG (hs := by exact (EM (by omega))))
 refine rA ?_ (x := tM)
 exact z.g) : G := ah w h
def ik (h : H) (w : ae G H := by
 intro z
 refine aT ?_
 refine sR ?_
 exact z.g) : G := ah w h
def vo (h : H) (w : ae G H := by
 intro z
 refine rA ?_ (x := jP (cs := [val _, sl _ _]) (qs := [val _, sl .v _]) (by decide) (by exact rfl) (by exact (aO (cG ao.nil))) (by exact (ak.cons (bor_val _) (ak.cons (bor_sl _) ak.nil))))
 refine rA ?_ (x := gI (cs := [val _]) (by decide) (by exact rfl) (by exact (ak.cons (bor_val _) ak.nil)))
 exact z.g) : G := ah w h
def nc (h : H) (w : ae G H := by
 intro z
 refine aT ?_
 refine sO [(0, _), (2, _), (3, _), (4, _), (5, _)] [(2, _), (5, (29, [val _, val _, sl _ _, val _, val _]))] ?_
 exact z.g) : G := ah w h
def nd (h : H) (w : ae G H := by
 intro z
 refine rA ?_ (x := lF eu)
 refine rA ?_ (x := lD [sl .v _] ew)
 exact z.g) : G := ah w h
def jj (h : H) (w : ae G H := by
 intro z
 refine rA ?_ (x := lF lS)
 refine rA ?_ (x := lD [sl .v _] fa)
 exact z.g) : G := ah w h
def pV (h : H) (w : ae G H := by
 intro z
 refine rA ?_ (x := gL [(false, [val _]), (false, [val _])] [(false, [val _]), (false, [val _])] ry (hs := by exact (rF (sep := [46, 46]) (by omega))))
 refine rA ?_ (x := tM)
 exact z.g) : G := ah w h
def pW (h : H) (w : ae G H := by
 intro z
 refine rB gc ?_ (x := vM false [sl .v _])
 refine rB gc ?_ (x := bn (k := 0) (by decide) bp (aC rfl) (by rfl) (by exact bq h0w (by rw [← dX h0w])) (by exact rfl))
 exact z.g) : G := ah w h
def pX (h : H) (w : ae G H := by
 intro z
 refine rX ?_ (x := (dZ (by decide) iz iC))
 refine rA ?_ (x := bv (ag := true) (vs := [val _, sl _ _]) dV (by exact tI) (by exact rfl) (by exact nl rfl))
 exact z.g) : G := ah w h
def pY (h : H) (w : ae G H := by
 intro z
 refine dA 0 ?_ (x := vM false [sl .v _])
 refine dA 1 ?_ (x := bn (k := 1) (by decide) bp (aC rfl) (by rfl) (by exact bq h1w (by rw [← dX h1w])) (by exact rfl))
 exact z.g) : G := ah w h
def jl (h : H) (w : ae G H := by
 intro z
 refine rA ?_ (x := vM false [sl .v _])
 refine rA ?_ (x := lN cz)
 exact z.g) : G := ah w h
def ne (h : H) (w : ae G H := by
 intro z
 refine rB gc ?_ (x := lD [val _] aA)
 refine rB gc ?_ (x := dC)
 exact z.g) : G := ah w h
def pZ (h : H) (w : ae G H := by
 intro z
 refine rB ga ?_ (x := lF ix)
 refine rB ga ?_ (x := lD [sl .v _] fa)
 exact z.g) : G := ah w h
def qa (h : H) (w : ae G H := by
 intro z
 refine ji ?_
 refine rA ?_ (x := bn (k := (2 + 2 * k)) (by decide) bp (by exact tI) (by omega) (by exact bq h2w (by rw [← dX h2w])) (by exact rfl))
 exact z.g) : G := ah w h
def qb (h : H) (w : ae G H := by
 intro z
 refine rA ?_ (x := cL [(false, [val _]), (false, [val _])] [(false, [val _]), (false, [val _])] rx (hs := by exact (En (by omega))))
 refine rA ?_ (x := tA)
 exact z.g) : G := ah w h
def qc (h : H) (w : ae G H := by
 intro z
 refine dA 1 ?_ (x := lD [val _] aA)
 refine dA 3 ?_ (x := gL [(false, [val _])] [(false, [val _])] fE (hs := by exact (fG (by unfold aq; omega))))
 exact z.g) : G := ah w h
def qd (h : H) (w : ae G H := by
 intro z
 refine dA 1 ?_ (x := lD [val _] aA)
 refine dA 3 ?_ (x := cL [(false, [val _])] [(false, [val _])] fF (hs := by exact (fH (by unfold aq; omega))))
 exact z.g) : G := ah w h
def gN (h : H) (w : ae G H := by
 intro z
 refine sS [0, 2, 3, 4, 5] [2, 5] ?_
 refine gK ?_
 exact z.g) : G := ah w h
def nf (h : H) (w : ae G H := by
 intro z
 refine sO [(0, _), (1, _), (4, _), (5, _)] [(999, (65, _ ++ ([val _, val _, val _] ++ _)))] ?_
 refine cd ?_
 exact z.g) : G := ah w h
def qe (h : H) (w : ae G H := by
 intro z
 refine rA ?_ (x := lD [val _] aA)
 refine rA ?_ (x := gL [(false, [val _])] [(false, [val _])] fE (hs := by exact (fG (by unfold aq; omega))))
 exact z.g) : G := ah w h
def qf (h : H) (w : ae G H := by
 intro z
 refine rA ?_ (x := lD [val _] aA)
 refine rA ?_ (x := cL [(false, [val _])] [(false, [val _])] fF (hs := by exact (fH (by unfold aq; omega))))
 exact z.g) : G := ah w h
def jm (h : H) (w : ae G H := by
 intro z
 refine rA ?_ (x := lF eJ)
 refine rA ?_ (x := lF gk)
 exact z.g) : G := ah w h
def qg (h : H) (w : ae G H := by
 intro z
 refine je ?_
 refine rA ?_ (x := cL [(true, [val _, val _, sl _ _, sl _ _])] [(true, [val _, val _, sl .v _, sl .v _])] Be (hs := by exact EB))
 exact z.g) : G := ah w h
def vp (h : H) (w : ae G H := by
 intro z
 refine rA ?_ (x := jP (cs := [sl _ _]) (qs := [sl .v _]) (by decide) (by exact rfl) (by exact (cG ao.nil)) (by exact (ak.cons (bor_sl _) ak.nil)))
 refine rA ?_ (x := gI (cs := [val _]) (by decide) (by exact rfl) (by exact (ak.cons (bor_val _) ak.nil)))
 exact z.g) : G := ah w h
def vq (h : H) (w : ae G H := by
 intro z
 refine sP [0, 1, 4, 12, 13] [] ?_
 refine sL [0, 1, 12] [] (fun k : Nat => k ≤ x.length ∧ x.take k = y.take k) (fun k : Nat => [(13, RV.int (k : Int))]) (fun k : Nat => []) (fun k : Nat => x.length - k) 0 (by exact ⟨by omega, by simp⟩) (by exact aI (by exact rfl) tI) (by exact tI) ?_
 exact z.g) : G := ah w h
def vr (h : H) (w : ae G H := by
 intro z
 refine dA 7 ?_ (x := cL [(false, [val _])] [(false, [val _])] gx (hs := by exact (gy (by omega))))
 refine dA 15 ?_ (x := cK (qs := [(false, [val _])]) (cs := [val _, sl _ _]) (by decide) iz iC yy (by exact rfl) (by exact (aI (by exact tI) tI)) rfl (by exact rfl))
 exact z.g) : G := ah w h
def ke (h : H) (w : ae G H := by
 intro z
 refine rA ?_ (x := lF ix)
 refine rA ?_ (x := lD [sl .v _] fa)
 exact z.g) : G := ah w h
def lj (h : H) (w : ae G H := by
 intro z
 refine rB ga ?_ (x := lD [val _] aA)
 refine kd ?_
 exact z.g) : G := ah w h
def vt (h : H) (w : ae G H := by
 intro z
 refine rA ?_ (x := cL [(false, [val _])] [(false, [val _])] gx (hs := by exact (gy (by omega))))
 refine rA ?_ (x := cK (qs := [(false, [val _])]) (cs := [val _, sl _ _]) (by decide) iz iC yy (by exact rfl) (by exact (aI (by exact tI) tI)) rfl (by exact rfl))
 exact z.g) : G := ah w h
def qh (h : H) (w : ae G H := by
 intro z
 refine rB gd ?_ (x := sM)
 refine rB gd ?_ (x := cL [(false, [val _])] [(false, [val _])] fF (hs := by exact (fH (by unfold aq; omega))))
 exact z.g) : G := ah w h
def vu (h : H) (w : ae G H := by
 intro z
 refine sP [0, 1, 4, 5] [] ?_
 refine sL [0, 1] [] (fun k : Nat => k ≤ x.length ∧ x.take k = y.take k) (fun k : Nat => [(5, RV.int (k : Int))]) (fun k : Nat => []) (fun k : Nat => x.length - k) 0 (by exact ⟨by omega, by simp⟩) (by exact aI (by exact rfl) tI) (by exact tI) ?_
 exact z.g) : G := ah w h
def ng (h : H) (w : ae G H := by
 intro z
 refine sS [0, 2, 3, 4, 5, 6] [] ?_
 refine rM ?_
 exact z.g) : G := ah w h
def vv (h : H) (w : ae G H := by
 intro z
 refine rA ?_ (x := cK (qs := []) (cs := [val _, val _, val _, sl _ _, sl _ _, val _, val _, val _, val _, sl _ _, val _, val _, val _]) (by decide) hE hH mg (by exact rfl) (by exact tI) rfl (by exact rfl))
 refine rX ?_ (x := (dZ (by decide) hE hH))
 exact z.g) : G := ah w h
def cY (h : H) (w : ae G H := by
 intro z
 refine eS ?_
 refine rS ?_
 exact z.g) : G := ah w h
def kf (h : H) (w : ae G H := by
 intro z
 refine rA ?_ (x := tM)
 refine pF ?_
 exact z.g) : G := ah w h
def fU (h : H) (w : ae G H := by
 intro z
 refine zt ga ?_
 refine rA ?_ (x := aG ga)
 exact z.g) : G := ah w h
def qi (h : H) (w : ae G H := by
 intro z
 refine rA ?_ (x := lF qR)
 refine rA ?_ (x := bv (ag := false) (vs := [val _]) aA (aC rfl) (by exact rfl) (by exact nl rfl))
 exact z.g) : G := ah w h
def qj (h : H) (w : ae G H := by
 intro z
 refine ji ?_
 refine rA ?_ (x := bn (by decide) cz (by exact tI) (by exact rfl) (by exact sW hlt rfl) (by exact rfl))
 exact z.g) : G := ah w h
def ft (h : H) (w : ae G H := by
 intro z
 refine rA ?_ (x := dC)
 refine rM ?_
 exact z.g) : G := ah w h
def ll (h : H) (w : ae G H := by
 intro z
 refine rB gb ?_ (x := lF eu)
 refine rB gb ?_ (x := lD [sl .v _] ew)
 exact z.g) : G := ah w h
def il (h : H) (w : ae G H := by
 intro z
 refine sS [1, 2, 3, 4, 19] [1] ?_
 refine gM ?_
 exact z.g) : G := ah w h
def nh (h : H) (w : ae G H := by
 intro z
 refine rB gd ?_ (x := sM)
 refine rB gd ?_ (x := iX)
 refine rA ?_ (x := an gd)
 exact z.g) : G := ah w h
def dr (h : H) (w : ae G H := by
 intro z
 refine fS ?_
 refine rM ?_
 exact z.g) : G := ah w h
def vw (h : H) (w : ae G H := by
 intro z
 refine sP [0, 1, 4, 5] [] ?_
 refine sL [0, 4] [] (fun _ : Unit => True) (fun _ : Unit => [(1, RV.int k), (5, RV.int 0)]) (fun _ : Unit => []) (fun _ : Unit => 0) () tI (by exact aI (by exact rfl) (aI (by exact rfl) tI)) (by exact tI) ?_
 exact z.g) : G := ah w h
def fV (h : H) (w : ae G H := by
 intro z
 refine cW ?_
 refine sT [1, 2] [1] ?_
 exact z.g) : G := ah w h
def qk (h : H) (w : ae G H := by
 intro z
 refine rA ?_ (x := vM false [sl .v _])
 refine rA ?_ (x := bn (k := 0) (by decide) bp (aC rfl) (by rfl) (by exact bq h0w (by rw [← dX h0w])) (by exact rfl))
 refine rA ?_ (x := lE [val _] bP)
 exact z.g) : G := ah w h
def jn (h : H) (w : ae G H := by
 intro z
 refine sG [0, 2, 3, 4, 5] [2, 5] ?_
 refine lh ?_
 exact z.g) : G := ah w h
def fu (h : H) (w : ae G H := by
 intro z
 refine rA ?_ (x := nT)
 refine rM ?_
 exact z.g) : G := ah w h
def vz (h : H) (w : ae G H := by
 intro z
 refine dA 1 ?_ (x := fM (ms := [sl _ _]) (qs := [sl .v _]) (by decide) fa (fun _ => rfl) (by exact nl rfl) (by exact rfl) (by exact (cG ao.nil)) (by exact (ak.cons (bor_sl _) ak.nil)))
 refine fT ?_
 exact z.g) : G := ah w h
def ql (h : H) (w : ae G H := by
 intro z
 refine rS ?_
 refine rS ?_
 refine sS [0, 2, 3, 4, 5, 6, 7, 8, 9, 11, 12, 13, 14, 15, 16, 17, 18, 19, 20, 21, 22, 23, 7000] [2, 12] ?_
 exact z.g) : G := ah w h
def ee (h : H) (w : ae G H := by
 intro z
 refine ik ?_
 refine rM ?_
 exact z.g) : G := ah w h
def fv (h : H) (w : ae G H := by
 intro z
 refine rM ?_
 refine jg ?_
 exact z.g) : G := ah w h
def kg (h : H) (w : ae G H := by
 intro z
 refine sS [1, 2, 4] [2] ?_
 refine rM ?_
 exact z.g) : G := ah w h
def qm (h : H) (w : ae G H := by
 intro z
 refine sS [0, 2, 3, 4, 5, 6, 7, 8, 9, 11, 12, 13, 14, 15, 16, 7000] [2, 12] ?_
 refine rA ?_ (x := vM false [sl .v _])
 exact z.g) : G := ah w h
def qn (h : H) (w : ae G H := by
 intro z
 refine sR ?_
 refine rX ?_ (x := (eh (ag := true) (cs := [val _, val _, val _]) (by decide) (by exact tI)))
 exact z.g) : G := ah w h
def vC (h : H) (w : ae G H := by
 intro z
 refine rA ?_ (x := bv (ag := true) (vs := [val _, val _, val _, sl _ _, sl _ _, val _, val _, val _, val _, sl _ _, val _, val _, val _]) dw (by exact tI) (by exact rfl) (by exact nl rfl))
 refine ci ?_
 exact z.g) : G := ah w h
def qo (h : H) (w : ae G H := by
 intro z
 refine rS ?_
 refine rS ?_
 refine sS [0, 2, 3, 4, 5, 6, 7, 8, 9, 11, 12, 13, 14, 15, 16, 17, 18, 19, 20, 21, 7000] [2, 12] ?_
 exact z.g) : G := ah w h
def im (h : H) (w : ae G H := by
 intro z
 refine rA ?_ (x := kM)
 refine fi ?_
 exact z.g) : G := ah w h
def io (h : H) (w : ae G H := by
 intro z
 refine sS [0, 2, 3, 4] [] ?_
 refine rM ?_
 exact z.g) : G := ah w h
def vD (h : H) (w : ae G H := by
 intro z
 refine rB gb ?_ (x := lD [val _] aA)
 refine rB gb ?_ (x := cL [(false, [val _]), (false, [val _]), (false, [val _])] [(false, [val _]), (false, [val _]), (false, [val _])] kx (hs := by exact kN))
 exact z.g) : G := ah w h
def vE (h : H) (w : ae G H := by
 intro z
 refine rB gb ?_ (x := lD [val _] aA)
 refine rB gb ?_ (x := cL [(false, [val _]), (false, [val _]), (false, [val _])] [(false, [val _]), (false, [val _]), (false, [val _])] jw (hs := by exact jJ))
 exact z.g) : G := ah w h
def vF (h : H) (w : ae G H := by
 intro z
 refine rA ?_ (x := bn (k := ((aa 32 s).length - 1)) (by decide) bp (by exact tI) (by omega) (by exact bq hlw (by rw [← dX hlw])) (by exact rfl))
 refine rA ?_ (x := lE [val _] bP)
 exact z.g) : G := ah w h
def qp (h : H) (w : ae G H := by
 intro z
 refine rA ?_ (x := cu (.inl rfl) (by decide) (by exact Cp.nm Cp.hdr))
 refine bU ?_
 refine rA ?_ (x := sJ (by decide) cz (by exact tI) (by exact rfl) (by omega))
 exact z.g) : G := ah w h
def ni (h : H) (w : ae G H := by
 intro z
 refine rB gc ?_ (x := lF lS)
 refine rB gc ?_ (x := lD [sl .v _] fa)
 exact z.g) : G := ah w h
def kh (h : H) (w : ae G H := by
 intro z
 refine sG [0, 2, 3, 4, 5] [2, 5] ?_
 refine fv ?_
 exact z.g) : G := ah w h
def eo (h : H) (w : ae G H := by
 intro z
 refine fp ?_
 refine rM ?_
 exact z.g) : G := ah w h
def vG (h : H) (w : ae G H := by
 intro z
 refine rX ?_ (x := (dZ (by decide) iy iB))
 refine rA ?_ (x := bv (ag := true) (vs := [val _, val _, sl _ _, sl _ _]) du (by exact tI) (by exact rfl) (by exact nl rfl))
 exact z.g) : G := ah w h
def qt (h : H) (w : ae G H := by
 intro z
 refine rS ?_
 refine sS [0, 2, 3, 4, 5, 6, 7, 8, 9, 11, 12, 13, 14, 15, 16, 17, 18, 19, 7000] [2, 12] ?_
 exact z.g) : G := ah w h
def vH (h : H) (w : ae G H := by
 intro z
 refine dA 239 ?_ (x := cL [(false, [val _]), (false, [val _])] [(false, [val _]), (false, [val _])] oz (hs := by exact (yx (by omega))))
 refine dA 0 ?_ (x := vM false [sl .v _])
 exact z.g) : G := ah w h
def ip (h : H) (w : ae G H := by
 intro z
 refine rA ?_ (x := jX)
 refine rM ?_
 exact z.g) : G := ah w h
def vJ (h : H) (w : ae G H := by
 intro z
 refine rA ?_ (x := cL [(false, [val _]), (false, [val _]), (false, [val _])] [(false, [val _]), (false, [val _]), (false, [val _])] jw (hs := by exact jJ))
 refine rA ?_ (x := nT)
 exact z.g) : G := ah w h
def vK (h : H) (w : ae G H := by
 intro z
 refine ee ?_
 refine rA ?_ (x := cu (r' := RV.sv false [sl .v _]) (.inl rfl) (by decide) (by exact Cp.sv (ao.cons (PV.nv_to kT) ao.nil) (ak.cons (bor_sl _) ak.nil)))
 exact z.g) : G := ah w h
def vL (h : H) (w : ae G H := by
 intro z
 refine rA ?_ (x := cK (qs := []) (cs := [val _, val _, sl _ _, val _, val _]) (by decide) jz jA oD (by exact rfl) (by exact tI) rfl (by exact rfl))
 refine jZ ?_
 exact z.g) : G := ah w h
def vN (h : H) (w : ae G H := by
 intro z
 refine dA 48 ?_ (x := bn (by decide) cz (by exact tI) (by exact rfl) (by exact bq (by omega) rfl) (by exact rfl))
 refine dA 112 ?_ (x := lE [val _, val _, val _] jy)
 exact z.g) : G := ah w h
def vO (h : H) (w : ae G H := by
 intro z
 refine dA 3 ?_ (x := bn (by decide) cz (by exact tI) (by exact rfl) (by exact bq (by omega) rfl) (by exact rfl))
 refine dA 7 ?_ (x := lE [val _, val _, val _] jy)
 exact z.g) : G := ah w h
def jo (h : H) (w : ae G H := by
 intro z
 refine cU ?_
 refine aT ?_
 exact z.g) : G := ah w h
def jp (h : H) (w : ae G H := by
 intro z
 refine sS [1, 2, 4] [1] ?_
 refine gM ?_
 exact z.g) : G := ah w h
def vP (h : H) (w : ae G H := by
 intro z
 refine rB ga ?_ (x := lD [val _, sl .v _] dV)
 refine rB ga ?_ (x := cL [(true, [val _, sl _ _])] [(true, [val _, sl .v _])] xX (hs := by exact (yn (r := dv s))))
 exact z.g) : G := ah w h
def vQ (h : H) (w : ae G H := by
 intro z
 refine rB ga ?_ (x := vM false [sl .v _])
 refine rB ga ?_ (x := bn (k := 0) (by decide) bp (aC rfl) (by rfl) (by exact bq h0w (by rw [← dX h0w])) (by exact rfl))
 exact z.g) : G := ah w h
def vR (h : H) (w : ae G H := by
 intro z
 refine rB gb ?_ (x := vM false [sl .v _])
 refine rB gb ?_ (x := bn (k := 0) (by decide) bp (aC rfl) (by rfl) (by exact bq h0w (by rw [← dX h0w])) (by exact rfl))
 exact z.g) : G := ah w h
def vS (h : H) (w : ae G H := by
 intro z
 refine rM ?_
 refine rA ?_ (x := cL [(false, [val _]), (false, [val _]), (false, [val _])] [(false, [val _]), (false, [val _]), (false, [val _])] kx (hs := by exact kN))
 exact z.g) : G := ah w h
def vT (h : H) (w : ae G H := by
 intro z
 refine dA 0 ?_ (x := vM false [sl .v _])
 refine dA 16 ?_ (x := bn (k := 1) (by decide) bp (aC rfl) (by rfl) (by exact bq h1w (by rw [← dX h1w])) (by exact rfl))
 exact z.g) : G := ah w h
def vU (h : H) (w : ae G H := by
 intro z
 refine dA 0 ?_ (x := vM false [sl .v _])
 refine dA 32 ?_ (x := bn (k := 2) (by decide) bp (aC rfl) (by rfl) (by exact bq h2w (by rw [← dX h2w])) (by exact rfl))
 exact z.g) : G := ah w h
def vV (h : H) (w : ae G H := by
 intro z
 refine rA ?_ (x := bn (by decide) cz (by exact tI) (by exact rfl) (by exact bq (by omega) rfl) (by exact rfl))
 refine rA ?_ (x := lE [val _, val _, val _] jy)
 exact z.g) : G := ah w h
def vW (h : H) (w : ae G H := by
 intro z
 refine dA 0 ?_ (x := vM false [sl .v _])
 refine dA 1 ?_ (x := bn (k := 0) (by decide) bp (aC rfl) (by rfl) (by exact bq h0w (by rw [← dX h0w])) (by exact rfl))
 exact z.g) : G := ah w h
def vX (h : H) (w : ae G H := by
 intro z
 refine rA ?_ (x := gL [(false, [val _]), (false, [val _])] [(false, [val _]), (false, [val _])] ry (hs := by exact (rF (sep := [32]) (by omega))))
 refine rA ?_ (x := tM)
 exact z.g) : G := ah w h
def jq (h : H) (w : ae G H := by
 intro z
 refine rB ga ?_ (x := sM)
 refine rB ga ?_ (x := iX)
 refine rA ?_ (x := an ga)
 exact z.g) : G := ah w h
def fW (h : H) (w : ae G H := by
 intro z
 refine ve ?_
 refine aT ?_
 exact z.g) : G := ah w h
def ki (h : H) (w : ae G H := by
 intro z
 refine sS [1, 2, 3, 16] [1] ?_
 refine gM ?_
 exact z.g) : G := ah w h
def nj (h : H) (w : ae G H := by
 intro z
 refine rA ?_ (x := lF ky)
 refine rA ?_ (x := lD [val _] aA)
 exact z.g) : G := ah w h
def nk (h : H) (w : ae G H := by
 intro z
 refine sS [0, 2, 3, 4, 5, 6, 7, 18, 7000] [2, 7] ?_
 refine rA ?_ (x := lF nW)
 refine rA ?_ (x := bv (ag := false) (vs := [val _]) aA (aC rfl) (by exact rfl) (by exact nl rfl))
 exact z.g) : G := ah w h
def vY (h : H) (w : ae G H := by
 intro z
 refine dA 48 ?_ (x := bn (by decide) da (by exact tI) (by exact rfl) (by exact bq (by omega) rfl) (by exact rfl))
 refine dA 112 ?_ (x := lE [val _] aA)
 exact z.g) : G := ah w h
def vZ (h : H) (w : ae G H := by
 intro z
 refine ii ?_
 refine rA ?_ (x := cL [(true, [val _, val _, sl _ _, val _, val _])] [(true, [val _, val _, sl .v _, val _, val _])] qO (hs := by exact rJ))
 exact z.g) : G := ah w h
def kj (h : H) (w : ae G H := by
 intro z
 refine sS [2, 3, 4] [2, 3] ?_
 refine ci ?_
 exact z.g) : G := ah w h
def wa (h : H) (w : ae G H := by
 intro z
 refine dA 3 ?_ (x := bn (by decide) da (by exact tI) (by exact rfl) (by exact bq (by omega) rfl) (by exact rfl))
 refine dA 7 ?_ (x := lE [val _] aA)
 exact z.g) : G := ah w h
def wc (h : H) (w : ae G H := by
 intro z
 refine rM ?_
 refine rA ?_ (x := cL [(false, [sl _ _]), (false, [val _])] [(false, [sl .v _]), (false, [val _])] Bn (hs := by exact DY (by omega) (by omega)))
 exact z.g) : G := ah w h
def eU (h : H) (w : ae G H := by
 intro z
 refine rM ?_
 refine rA ?_ (x := gL [(false, [val _])] [(false, [val _])] rz (hs := by exact (rH (by omega))))
 refine rA ?_ (x := tM)
 refine pF ?_
 exact z.g) : G := ah w h
def kk (h : H) (w : ae G H := by
 intro z
 refine rA ?_ (x := bX)
 refine cj ?_
 exact z.g) : G := ah w h
def wd (h : H) (w : ae G H := by
 intro z
 refine rA ?_ (x := cL [(false, [val _]), (false, [val _])] [(false, [val _]), (false, [val _])] rx (hs := by exact (Eo (by omega))))
 refine rA ?_ (x := tA)
 exact z.g) : G := ah w h
def lm (h : H) (w : ae G H := by
 intro z
 refine sS [0, 2, 3, 7000] [2, 3] ?_
 refine qk ?_
 exact z.g) : G := ah w h
def we (h : H) (w : ae G H := by
 intro z
 refine rA ?_ (x := fh (qs := []) (by decide) bp iI (by decide) rfl rfl rfl rfl rfl (by exact nl rfl) (by exact tI) rfl)
 refine rA ?_ (x := tA)
 exact z.g) : G := ah w h
def kl (h : H) (w : ae G H := by
 intro z
 refine zf g5 ?_
 refine rA ?_ (x := an g5)
 exact z.g) : G := ah w h
def kn (h : H) (w : ae G H := by
 intro z
 refine zf g6 ?_
 refine rA ?_ (x := an g6)
 exact z.g) : G := ah w h
def wg (h : H) (w : ae G H := by
 intro z
 refine rM ?_
 refine rA ?_ (x := gL [(false, [val _]), (false, [val _])] [(false, [val _]), (false, [val _])] ye (hs := by exact (yl 32 (by omega))))
 exact z.g) : G := ah w h
def qu (h : H) (w : ae G H := by
 intro z
 refine dg ?_
 refine sT [0, 2, 3, 4, 5, 6, 7, 8, 9, 11, 12, 13, 14, 7000] [2, 12] ?_
 exact z.g) : G := ah w h
def qv (h : H) (w : ae G H := by
 intro z
 refine jo ?_
 refine sT [0, 2, 3, 4, 5, 6, 7, 8, 9, 11, 12, 13, 14, 7000] [2, 12] ?_
 exact z.g) : G := ah w h
def wh (h : H) (w : ae G H := by
 intro z
 refine rA ?_ (x := cL [(false, [sl _ _]), (false, [sl _ _])] [(false, [sl .v _]), (false, [sl .v _])] Bi (hs := by exact DM))
 refine rA ?_ (x := nT)
 exact z.g) : G := ah w h
def wi (h : H) (w : ae G H := by
 intro z
 refine je ?_
 refine rA ?_ (x := cL [(true, [val _, val _, sl _ _, sl _ _])] [(true, [val _, val _, sl .v _, sl .v _])] nV (hs := by exact oB))
 exact z.g) : G := ah w h
def nn (h : H) (w : ae G H := by
 intro z
 refine sO [(0, _), (2, _), (3, _), (4, _), (5, _), (9, _), (10, _)] [(2, _), (5, (31, [val _, val _, val _, sl _ _, sl _ _, val _, val _, val _, val _, sl _ _, val _, val _, val _])), (9, (29, [val _, val _, sl _ _, val _, val _]))] ?_
 refine eD (d := 5) (by exact rfl) (show _ = [val (vI (aH s).Kind), val (vI (aH s).FY.Id), val (vI (aH s).FY.Gc), sl cC ((aH s).FY.FZ.map aV), sl aM ((aH s).FY.Out.map ap), val (vI (aH s).Limit), val (vI (aH s).Id), val (vI (aH s).Ga.Kind), val (vI (aH s).Ga.Row.Id), sl aM ((aH s).Ga.Row.Values.map ap), val (vI (aH s).Ga.Field), val (vI (aH s).Ga.Value), val (vI (aH s).Steps)] from by rw [hr] <;> rfl) ?_
 refine sG [0, 2, 3, 4, 5, 9, 10] [2, 5, 9] ?_
 exact z.g) : G := ah w h
def iq (h : H) (w : ae G H := by
 intro z
 refine aT ?_
 refine aT ?_
 exact z.g) : G := ah w h
def ln (h : H) (w : ae G H := by
 intro z
 refine ai.s0f gd ?_
 refine rA ?_ (x := an gd)
 exact z.g) : G := ah w h
def wj (h : H) (w : ae G H := by
 intro z
 refine rA ?_ (x := bv (ag := true) (vs := [val _, val _, sl _ _, sl _ _]) du (by exact tI) (by exact rfl) (by exact nl rfl))
 refine ci ?_
 exact z.g) : G := ah w h
def lp (h : H) (w : ae G H := by
 intro z
 refine sS [1, 2, 7, 7000] [1] ?_
 refine gM ?_
 exact z.g) : G := ah w h
def qw (h : H) (w : ae G H := by
 intro z
 refine bZ ?_
 refine sS [0, 2, 3, 4, 5, 6, 7, 8, 9, 11, 12, 13, 7000] [2, 12] ?_
 exact z.g) : G := ah w h
def ko (h : H) (w : ae G H := by
 intro z
 refine rB gb ?_ (x := sM)
 refine cX ?_
 exact z.g) : G := ah w h
def qx (h : H) (w : ae G H := by
 intro z
 refine sS [0, 2, 3, 4, 5, 6, 7, 18, 7000] [2, 7] ?_
 refine rA ?_ (x := ig)
 exact z.g) : G := ah w h
def kp (h : H) (w : ae G H := by
 intro z
 refine rA ?_ (x := aG gc)
 refine rS ?_
 exact z.g) : G := ah w h
def fw (h : H) (w : ae G H := by
 intro z
 refine rS ?_
 refine iY ?_
 exact z.g) : G := ah w h
def wk (h : H) (w : ae G H := by
 intro z
 refine cd ?_
 refine rA ?_ (x := lD [val _, val _, val _, sl .v _, sl .v _, val _, val _, val _, val _, sl .v _, val _, val _, val _] dw)
 exact z.g) : G := ah w h
def ir (h : H) (w : ae G H := by
 intro z
 refine dg ?_
 refine aT ?_
 exact z.g) : G := ah w h
def np (h : H) (w : ae G H := by
 intro z
 refine rB gc ?_ (x := fl)
 refine rA ?_ (x := an gc)
 exact z.g) : G := ah w h
def wl (h : H) (w : ae G H := by
 intro z
 refine rA ?_ (x := bv (ag := true) (vs := [val _, sl _ _]) dV (by exact tI) (by exact rfl) (by exact nl rfl))
 refine ci ?_
 exact z.g) : G := ah w h
def lr (h : H) (w : ae G H := by
 intro z
 refine cW ?_
 refine sT [2, 3, 4] [2, 3] ?_
 exact z.g) : G := ah w h
def wm (h : H) (w : ae G H := by
 intro z
 refine rA ?_ (x := gL [(false, [val _])] [(false, [val _])] Dy (hs := by exact (Er (by omega))))
 refine rA ?_ (x := tM)
 exact z.g) : G := ah w h
def ls (h : H) (w : ae G H := by
 intro z
 refine zf g10 ?_
 refine rA ?_ (x := an g10)
 exact z.g) : G := ah w h
def wn (h : H) (w : ae G H := by
 intro z
 refine rA ?_ (x := gL [(false, [val _])] [(false, [val _])] Dq (hs := by exact (EN (by omega))))
 refine rA ?_ (x := tM)
 exact z.g) : G := ah w h
def qy (h : H) (w : ae G H := by
 intro z
 refine rB gc ?_ (x := vM false [sl .v _])
 refine rB gc ?_ (x := lN bp)
 exact z.g) : G := ah w h
def wo (h : H) (w : ae G H := by
 intro z
 refine jc ?_
 refine rX ?_ (x := (eh (ag := true) (cs := [val _, val _, sl _ _, val _, val _]) (by decide) (by exact tI)))
 exact z.g) : G := ah w h
def qz (h : H) (w : ae G H := by
 intro z
 refine rB gc ?_ (x := lF gn)
 refine rB gc ?_ (x := lD [val _] aA)
 exact z.g) : G := ah w h
def qA (h : H) (w : ae G H := by
 intro z
 refine rB gd ?_ (x := lF gS)
 refine rB gd ?_ (x := lD [val _] aA)
 exact z.g) : G := ah w h
def nq (h : H) (w : ae G H := by
 intro z
 refine aT ?_
 refine sP [0, 2, 3, 4, 5] [2, 5] ?_
 exact z.g) : G := ah w h
def nr (h : H) (w : ae G H := by
 intro z
 refine rB gd ?_ (x := sM)
 refine rA ?_ (x := aG gd)
 exact z.g) : G := ah w h
def lu (h : H) (w : ae G H := by
 intro z
 refine zf g4 ?_
 refine rA ?_ (x := an g4)
 exact z.g) : G := ah w h
def lv (h : H) (w : ae G H := by
 intro z
 refine zt gb ?_
 refine rA ?_ (x := aG gb)
 exact z.g) : G := ah w h
def lx (h : H) (w : ae G H := by
 intro z
 refine zf g9 ?_
 refine rA ?_ (x := an g9)
 exact z.g) : G := ah w h
def kq (h : H) (w : ae G H := by
 intro z
 refine rK ?_
 refine sT [1, 2] [1] ?_
 exact z.g) : G := ah w h
def kr (h : H) (w : ae G H := by
 intro z
 refine ai.s0f gb ?_
 refine rA ?_ (x := an gb)
 refine rM ?_
 exact z.g) : G := ah w h
def nt (h : H) (w : ae G H := by
 intro z
 refine rA ?_ (x := kS)
 refine rA ?_ (x := cF)
 exact z.g) : G := ah w h
def qB (h : H) (w : ae G H := by
 intro z
 refine rB gc ?_ (x := lE [val _] bP)
 refine rB gc ?_ (x := ig)
 exact z.g) : G := ah w h
def wq (h : H) (w : ae G H := by
 intro z
 refine jd ?_
 refine rX ?_ (x := (eh (ag := true) (cs := [val _, val _, sl _ _, sl _ _]) (by decide) (by exact tI)))
 exact z.g) : G := ah w h
def wr (h : H) (w : ae G H := by
 intro z
 refine dA 512 ?_ (x := bn (k := 3) (by decide) bp (aC rfl) (by rfl) (by exact bq h3w (by rw [← dX h3w])) (by exact rfl))
 refine dA 1536 ?_ (x := lE [val _] bP)
 refine dA 4079 ?_ (x := cL [(false, [val _])] [(false, [val _])] gx (hs := by exact (gy (by omega))))
 exact z.g) : G := ah w h
def gO (h : H) (w : ae G H := by
 intro z
 refine fq ?_
 refine rM ?_
 exact z.g) : G := ah w h
def ly (h : H) (w : ae G H := by
 intro z
 refine sS [1, 2, 7] [1] ?_
 refine gM ?_
 exact z.g) : G := ah w h
def wt (h : H) (w : ae G H := by
 intro z
 refine dA 12 ?_ (x := bn (by decide) bp (by exact tI) (by exact rfl) (by exact bq (by omega) rfl) (by exact rfl))
 refine dA 28 ?_ (x := lE [val _] bP)
 refine dA 60 ?_ (x := cL [(false, [val _])] [(false, [val _])] gx (hs := by exact (gy (by omega))))
 exact z.g) : G := ah w h
def wu (h : H) (w : ae G H := by
 intro z
 refine jh ?_
 refine rA ?_ (x := cL [(true, [val _, sl _ _])] [(true, [val _, sl .v _])] qP (hs := by exact rD))
 exact z.g) : G := ah w h
def fX (h : H) (w : ae G H := by
 intro z
 refine sR ?_
 refine rK ?_
 exact z.g) : G := ah w h
def qC (h : H) (w : ae G H := by
 intro z
 refine rB gc ?_ (x := sM)
 refine rB gc ?_ (x := fQ ff)
 exact z.g) : G := ah w h
def qD (h : H) (w : ae G H := by
 intro z
 refine sR ?_
 refine rX ?_ (x := (dZ (by decide) jz jA))
 exact z.g) : G := ah w h
def lz (h : H) (w : ae G H := by
 intro z
 refine rB gb ?_ (x := sM)
 refine rB gb ?_ (x := iX)
 refine rA ?_ (x := an gb)
 exact z.g) : G := ah w h
def wv (h : H) (w : ae G H := by
 intro z
 refine lh ?_
 refine rA ?_ (x := gL [(false, [val _])] [(false, [val _])] rz (hs := by exact (rH (hw 1))))
 exact z.g) : G := ah w h
def qE (h : H) (w : ae G H := by
 intro z
 refine rA ?_ (x := lF gk)
 refine rA ?_ (x := lD [val _] aA)
 exact z.g) : G := ah w h
def qF (h : H) (w : ae G H := by
 intro z
 refine dA 511 ?_ (x := bX)
 refine dA 1023 ?_ (x := bX)
 exact z.g) : G := ah w h
def nu (h : H) (w : ae G H := by
 intro z
 refine rB gb ?_ (x := lF fz)
 refine li ?_
 exact z.g) : G := ah w h
def nw (h : H) (w : ae G H := by
 intro z
 refine rB ga ?_ (x := lF gR)
 refine lj ?_
 exact z.g) : G := ah w h
def ny (h : H) (w : ae G H := by
 intro z
 refine rB gc ?_ (x := lF eY)
 refine ne ?_
 exact z.g) : G := ah w h
def nz (h : H) (w : ae G H := by
 intro z
 refine sS [0, 2, 3, 4, 5] [2, 5] ?_
 refine rM ?_
 exact z.g) : G := ah w h
def lC (h : H) (w : ae G H := by
 intro z
 refine rA ?_ (x := aG ga)
 refine rM ?_
 exact z.g) : G := ah w h
def lG (h : H) (w : ae G H := by
 intro z
 refine rA ?_ (x := aG ge)
 refine rM ?_
 exact z.g) : G := ah w h
def lH (h : H) (w : ae G H := by
 intro z
 refine rM ?_
 refine rA ?_ (x := cF)
 exact z.g) : G := ah w h
def nA (h : H) (w : ae G H := by
 intro z
 refine pZ ?_
 refine rB ga ?_ (x := lN da)
 exact z.g) : G := ah w h
def ww (h : H) (w : ae G H := by
 intro z
 refine kc ?_
 refine rX ?_ (x := (eh (ag := true) (cs := [val _, sl _ _]) (by decide) (by exact tI)))
 exact z.g) : G := ah w h
def it (h : H) (w : ae G H := by
 intro z
 refine sR ?_
 refine rA ?_ (x := cF)
 refine aT ?_
 exact z.g) : G := ah w h
def qG (h : H) (w : ae G H := by
 intro z
 refine dA 7 ?_ (x := bX)
 refine dA 15 ?_ (x := bX)
 exact z.g) : G := ah w h
def nB (h : H) (w : ae G H := by
 intro z
 refine rK ?_
 refine sT [0, 2, 3, 7000] [2] ?_
 exact z.g) : G := ah w h
def nC (h : H) (w : ae G H := by
 intro z
 refine sS [1, 2, 3, 16] [1] ?_
 refine bU ?_
 exact z.g) : G := ah w h
def jr (h : H) (w : ae G H := by
 intro z
 refine kf ?_
 refine rS ?_
 refine rS ?_
 exact z.g) : G := ah w h
def js (h : H) (w : ae G H := by
 intro z
 refine rB gd ?_ (x := lD [val _, val _, val _, sl .v _, sl .v _, val _, val _, val _, val _, sl .v _, val _, val _, val _] dw)
 refine rB gd ?_ (x := cL [(true, [val _, val _, val _, sl _ _, sl _ _, val _, val _, val _, val _, sl _ _, val _, val _, val _])] [(true, [val _, val _, val _, sl .v _, sl .v _, val _, val _, val _, val _, sl .v _, val _, val _, val _])] ru (hs := by exact (rN (x := aH s))))
 refine nh ?_
 exact z.g) : G := ah w h
def nD (h : H) (w : ae G H := by
 intro z
 refine cW ?_
 refine sT [1, 2, 7000] [1] ?_
 exact z.g) : G := ah w h
def nE (h : H) (w : ae G H := by
 intro z
 refine zf g17 ?_
 refine rA ?_ (x := an g17)
 exact z.g) : G := ah w h
def qH (h : H) (w : ae G H := by
 intro z
 refine rB gc ?_ (x := iX)
 refine rA ?_ (x := an gc)
 exact z.g) : G := ah w h
def nF (h : H) (w : ae G H := by
 intro z
 refine nd ?_
 refine rA ?_ (x := lN cz)
 exact z.g) : G := ah w h
def nG (h : H) (w : ae G H := by
 intro z
 refine zt g2 ?_
 refine rA ?_ (x := aG g2)
 exact z.g) : G := ah w h
def nH (h : H) (w : ae G H := by
 intro z
 refine zf gd ?_
 refine rA ?_ (x := an gd)
 exact z.g) : G := ah w h
def nI (h : H) (w : ae G H := by
 intro z
 refine zt gd ?_
 refine rA ?_ (x := aG gd)
 exact z.g) : G := ah w h
def kt (h : H) (w : ae G H := by
 intro z
 refine zt gc ?_
 refine eT ?_
 exact z.g) : G := ah w h
def jt (h : H) (w : ae G H := by
 intro z
 refine sR ?_
 refine cW ?_
 refine sS [0, 1, 4] [] ?_
 exact z.g) : G := ah w h
def nJ (h : H) (w : ae G H := by
 intro z
 refine rA ?_ (x := bX)
 refine rS ?_
 exact z.g) : G := ah w h
def qI (h : H) (w : ae G H := by
 intro z
 refine rB gd ?_ (x := dC)
 refine rA ?_ (x := aG gd)
 exact z.g) : G := ah w h
def wx (h : H) (w : ae G H := by
 intro z
 refine dA 0 ?_ (x := lF nX)
 refine dA 32 ?_ (x := lD [val _, val _, sl .v _, sl .v _] du)
 exact z.g) : G := ah w h
def wy (h : H) (w : ae G H := by
 intro z
 refine sO [(0, _), (1, _), (4, _), (5, _)] [(999, (3, _ ++ ([val _] ++ _)))] ?_
 refine cd ?_
 exact z.g) : G := ah w h
def nK (h : H) (w : ae G H := by
 intro z
 refine cg ?_
 refine sS [0, 1, 4] [] ?_
 exact z.g) : G := ah w h
def nL (h : H) (w : ae G H := by
 intro z
 refine ij ?_
 refine rA ?_ (x := cF)
 exact z.g) : G := ah w h
def nM (h : H) (w : ae G H := by
 intro z
 refine rA ?_ (x := lE [val _] aA)
 refine rM ?_
 refine rA ?_ (x := eQ)
 exact z.g) : G := ah w h
def nN (h : H) (w : ae G H := by
 intro z
 refine kg ?_
 refine rA ?_ (x := cF)
 exact z.g) : G := ah w h
def ku (h : H) (w : ae G H := by
 intro z
 refine ng ?_
 refine rA ?_ (x := fl)
 refine rM ?_
 exact z.g) : G := ah w h
def kv (h : H) (w : ae G H := by
 intro z
 refine pF ?_
 refine rA ?_ (x := gI (cs := [val _]) (by decide) (by exact rfl) (by exact (ak.cons (bor_val _) ak.nil)))
 refine rS ?_
 refine rS ?_
 exact z.g) : G := ah w h
def qJ (h : H) (w : ae G H := by
 intro z
 refine aK ?_
 refine sS [0, 2, 3, 4, 5] [2, 5] ?_
 exact z.g) : G := ah w h
def lI (h : H) (w : ae G H := by
 intro z
 refine lg ?_
 refine fi ?_
 exact z.g) : G := ah w h
def lJ (h : H) (w : ae G H := by
 intro z
 refine rA ?_ (x := lF nW)
 refine rA ?_ (x := lD [val _] aA)
 refine fi ?_
 exact z.g) : G := ah w h
end Go.Proofs.YtmekkgdboplbjaaGreatDoor.M
