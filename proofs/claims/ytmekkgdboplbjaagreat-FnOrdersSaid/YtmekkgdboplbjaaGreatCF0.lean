/- Facts about the program. No condition. -/
import Derived.Test.YtmekkgdboplbjaaGreatCE0
set_option linter.unusedVariables false
namespace Go.Proofs.YtmekkgdboplbjaaGreat
open Go Go.RowKit M PV
set_option maxRecDepth 10000
theorem JA : au Tryz.prog 10 = true := by kernel_rfl
theorem OU : au Tryz.prog 100 = true := by kernel_rfl
theorem JB : au Tryz.prog 102 = true := by kernel_rfl
theorem OV : au Tryz.prog 103 = true := by kernel_rfl
theorem OW : au Tryz.prog 11 = true := by kernel_rfl
theorem OX : au Tryz.prog 12 = true := by kernel_rfl
theorem JC : au Tryz.prog 13 = true := by kernel_rfl
theorem rI : au Tryz.prog 14 = true := by kernel_rfl
theorem pt : au Tryz.prog 142 = true := by kernel_rfl
theorem JD : au Tryz.prog 143 = true := by kernel_rfl
theorem OY : au Tryz.prog 145 = true := by kernel_rfl
theorem OZ : au Tryz.prog 146 = true := by kernel_rfl
theorem O0 : au Tryz.prog 147 = true := by kernel_rfl
theorem JE : au Tryz.prog 148 = true := by kernel_rfl
theorem JF : au Tryz.prog 149 = true := by kernel_rfl
theorem O1 : au Tryz.prog 15 = true := by kernel_rfl
theorem O2 : au Tryz.prog 150 = true := by kernel_rfl
theorem O3 : au Tryz.prog 151 = true := by kernel_rfl
theorem O4 : au Tryz.prog 152 = true := by kernel_rfl
theorem O5 : au Tryz.prog 153 = true := by kernel_rfl
theorem O6 : au Tryz.prog 154 = true := by kernel_rfl
theorem y8 : au Tryz.prog 155 = true := by kernel_rfl
theorem uW : au Tryz.prog 156 = true := by kernel_rfl
theorem O7 : au Tryz.prog 157 = true := by kernel_rfl
theorem O8 : au Tryz.prog 158 = true := by kernel_rfl
theorem O9 : au Tryz.prog 159 = true := by kernel_rfl
theorem JG : au Tryz.prog 16 = true := by kernel_rfl
theorem Pa : au Tryz.prog 161 = true := by kernel_rfl
theorem Pb : au Tryz.prog 162 = true := by kernel_rfl
theorem Pc : au Tryz.prog 163 = true := by kernel_rfl
theorem Pd : au Tryz.prog 168 = true := by kernel_rfl
theorem lM : au Tryz.prog 169 = true := by kernel_rfl
theorem rJ : au Tryz.prog 17 = true := by kernel_rfl
theorem Pe : au Tryz.prog 170 = true := by kernel_rfl
theorem Pf : au Tryz.prog 171 = true := by kernel_rfl
theorem Pg : au Tryz.prog 172 = true := by kernel_rfl
theorem Ph : au Tryz.prog 173 = true := by kernel_rfl
theorem Pi : au Tryz.prog 175 = true := by kernel_rfl
theorem Pj : au Tryz.prog 176 = true := by kernel_rfl
theorem rL : au Tryz.prog 177 = true := by kernel_rfl
theorem Pk : au Tryz.prog 178 = true := by kernel_rfl
theorem Pm : au Tryz.prog 179 = true := by kernel_rfl
theorem Pn : au Tryz.prog 18 = true := by kernel_rfl
theorem JH : au Tryz.prog 180 = true := by kernel_rfl
theorem JI : au Tryz.prog 181 = true := by kernel_rfl
theorem Po : au Tryz.prog 182 = true := by kernel_rfl
theorem Pp : au Tryz.prog 183 = true := by kernel_rfl
theorem JJ : au Tryz.prog 184 = true := by kernel_rfl
theorem JK : au Tryz.prog 185 = true := by kernel_rfl
theorem JL : au Tryz.prog 19 = true := by kernel_rfl
theorem JM : au Tryz.prog 190 = true := by kernel_rfl
theorem y9 : au Tryz.prog 195 = true := by kernel_rfl
theorem JN : au Tryz.prog 196 = true := by kernel_rfl
theorem Pq : au Tryz.prog 198 = true := by kernel_rfl
theorem zb : au Tryz.prog 20 = true := by kernel_rfl
theorem zc : au Tryz.prog 21 = true := by kernel_rfl
theorem JO : au Tryz.prog 227 = true := by kernel_rfl
theorem Pr : au Tryz.prog 228 = true := by kernel_rfl
theorem zd : au Tryz.prog 229 = true := by kernel_rfl
theorem Ps : au Tryz.prog 230 = true := by kernel_rfl
theorem Pt : au Tryz.prog 231 = true := by kernel_rfl
theorem Pu : au Tryz.prog 232 = true := by kernel_rfl
theorem Pv : au Tryz.prog 233 = true := by kernel_rfl
theorem Pw : au Tryz.prog 234 = true := by kernel_rfl
theorem Px : au Tryz.prog 235 = true := by kernel_rfl
theorem ze : au Tryz.prog 236 = true := by kernel_rfl
theorem zg : au Tryz.prog 237 = true := by kernel_rfl
theorem Py : au Tryz.prog 238 = true := by kernel_rfl
theorem JP : au Tryz.prog 239 = true := by kernel_rfl
theorem Pz : au Tryz.prog 240 = true := by kernel_rfl
theorem PA : au Tryz.prog 241 = true := by kernel_rfl
theorem PB : au Tryz.prog 242 = true := by kernel_rfl
theorem PC : au Tryz.prog 243 = true := by kernel_rfl
theorem uX : au Tryz.prog 244 = true := by kernel_rfl
theorem PD : au Tryz.prog 245 = true := by kernel_rfl
theorem JQ : au Tryz.prog 246 = true := by kernel_rfl
theorem PE : au Tryz.prog 247 = true := by kernel_rfl
theorem PF : au Tryz.prog 248 = true := by kernel_rfl
theorem PG : au Tryz.prog 249 = true := by kernel_rfl
theorem PH : au Tryz.prog 250 = true := by kernel_rfl
theorem PI : au Tryz.prog 251 = true := by kernel_rfl
theorem JR : au Tryz.prog 252 = true := by kernel_rfl
theorem PJ : au Tryz.prog 253 = true := by kernel_rfl
theorem PK : au Tryz.prog 254 = true := by kernel_rfl
theorem PL : au Tryz.prog 259 = true := by kernel_rfl
theorem JS : au Tryz.prog 27 = true := by kernel_rfl
theorem PM : au Tryz.prog 271 = true := by kernel_rfl
theorem JT : au Tryz.prog 272 = true := by kernel_rfl
theorem PN : au Tryz.prog 273 = true := by kernel_rfl
theorem PO : au Tryz.prog 274 = true := by kernel_rfl
theorem PP : au Tryz.prog 275 = true := by kernel_rfl
theorem PQ : au Tryz.prog 279 = true := by kernel_rfl
theorem PR : au Tryz.prog 283 = true := by kernel_rfl
theorem JU : au Tryz.prog 29 = true := by kernel_rfl
theorem PS : au Tryz.prog 52 = true := by kernel_rfl
theorem JV : au Tryz.prog 53 = true := by kernel_rfl
theorem JW : au Tryz.prog 54 = true := by kernel_rfl
theorem PT : au Tryz.prog 55 = true := by kernel_rfl
theorem PU : au Tryz.prog 57 = true := by kernel_rfl
theorem JX : au Tryz.prog 58 = true := by kernel_rfl
theorem PW : au Tryz.prog 59 = true := by kernel_rfl
theorem JY : au Tryz.prog 60 = true := by kernel_rfl
theorem JZ : au Tryz.prog 61 = true := by kernel_rfl
theorem PX : au Tryz.prog 62 = true := by kernel_rfl
theorem zh : au Tryz.prog 63 = true := by kernel_rfl
theorem zi : au Tryz.prog 64 = true := by kernel_rfl
theorem PY : au Tryz.prog 66 = true := by kernel_rfl
theorem J0 : au Tryz.prog 68 = true := by kernel_rfl
theorem PZ : au Tryz.prog 69 = true := by kernel_rfl
theorem P0 : au Tryz.prog 7 = true := by kernel_rfl
theorem J1 : au Tryz.prog 70 = true := by kernel_rfl
theorem P3 : au Tryz.prog 71 = true := by kernel_rfl
theorem P4 : au Tryz.prog 72 = true := by kernel_rfl
theorem P5 : au Tryz.prog 73 = true := by kernel_rfl
theorem zj : au Tryz.prog 74 = true := by kernel_rfl
theorem P6 : au Tryz.prog 75 = true := by kernel_rfl
theorem J2 : au Tryz.prog 76 = true := by kernel_rfl
theorem P7 : au Tryz.prog 77 = true := by kernel_rfl
theorem P8 : au Tryz.prog 78 = true := by kernel_rfl
theorem P9 : au Tryz.prog 79 = true := by kernel_rfl
theorem Qa : au Tryz.prog 8 = true := by kernel_rfl
theorem Qb : au Tryz.prog 80 = true := by kernel_rfl
theorem J3 : au Tryz.prog 87 = true := by kernel_rfl
theorem J4 : au Tryz.prog 88 = true := by kernel_rfl
theorem J5 : au Tryz.prog 89 = true := by kernel_rfl
theorem Qc : au Tryz.prog 9 = true := by kernel_rfl
theorem Qd : au Tryz.prog 94 = true := by kernel_rfl
theorem J6 : au Tryz.prog 97 = true := by kernel_rfl
theorem J7 : au Tryz.prog 99 = true := by kernel_rfl
theorem J8 : bq Tryz.prog 124 0 = some 0 := by kernel_rfl
theorem pu : bq Tryz.prog 124 1 = some 1 := by kernel_rfl
theorem J9 : bq Tryz.prog 192 0 = some 0 := by kernel_rfl
theorem uY : bq Tryz.prog 192 1 = some 1 := by kernel_rfl
theorem uZ : bq Tryz.prog 192 2 = some 2 := by kernel_rfl
theorem pv : bq Tryz.prog 268 0 = some 0 := by kernel_rfl
theorem nQ : bq Tryz.prog 268 1 = some 1 := by kernel_rfl
theorem nR : bq Tryz.prog 268 2 = some 2 := by kernel_rfl
theorem gj : dC Tryz.prog 121 = some (52, 4, 64) := by kernel_rfl
theorem lO : dC Tryz.prog 122 = some (243, 1, 24) := by kernel_rfl
theorem nS : dC Tryz.prog 198 = some (27, 1, 24) := by kernel_rfl
theorem fw : dC Tryz.prog 243 = some (268, 3, 40) := by kernel_rfl
theorem Ka : bQ Tryz.prog 121 = some (false, 1) := by kernel_rfl
theorem px : bQ Tryz.prog 122 = some (false, 1) := by kernel_rfl
theorem iT : bQ Tryz.prog 124 = some (true, 2) := by kernel_rfl
theorem zk : bQ Tryz.prog 22 = some (false, 1) := by kernel_rfl
theorem u0 : bQ Tryz.prog 243 = some (false, 1) := by kernel_rfl
theorem zl : bQ Tryz.prog 268 = some (true, 3) := by kernel_rfl
theorem Kb : bQ Tryz.prog 5 = some (false, 1) := by kernel_rfl
theorem my : dz Tryz.prog 124 = some (.agg #[.slice none 0 0, .slice none 0 0]) := by kernel_rfl
theorem Qe : dz Tryz.prog 192 = some (.agg #[.slice none 0 0, .int .i64 0, .int .i64 0]) := by kernel_rfl
theorem Kc : dz Tryz.prog 243 = some (.slice none 0 0) := by kernel_rfl
theorem nU : dz Tryz.prog 268 = some (.agg #[.int .i64 0, .int .i64 0, .slice none 0 0]) := by kernel_rfl
theorem Qf : dz Tryz.prog 27 = some (.slice none 0 0) := by kernel_rfl
theorem mz {Fz : ao} {w : World} : az [sl (.own 52 4) [], sl (.own 243 1) []] Fz w (Value.cells (.agg #[.slice none 0 0, .slice none 0 0])).toList [] := dW (dW (iF))
theorem Qg {Fz : ao} {w : World} : az [sl (.own 5 1) [], val (.int .i64 0), val (.int .i64 0)] Fz w (Value.cells (.agg #[.slice none 0 0, .int .i64 0, .int .i64 0])).toList [] := dW (cJ rfl (cJ rfl (iF)))
theorem u4 {Fz : ao} {w : World} : az [val (.int .i64 0), val (.int .i64 0), sl (.own 3 1) []] Fz w (Value.cells (.agg #[.int .i64 0, .int .i64 0, .slice none 0 0])).toList [] := cJ rfl (cJ rfl (dW (iF)))
end Go.Proofs.YtmekkgdboplbjaaGreat
