/- What functions of the program compute. No condition. -/
import Derived.Test.YtmekkgdboplbjaaGreatDoorRJ1
import Derived.Test.YtmekkgdboplbjaaGreatDoorRI1
set_option linter.all false
set_option maxHeartbeats 8000000
namespace Go.Proofs.YtmekkgdboplbjaaGreatDoor
open Go Go.RowKit M PV Tryz
set_option maxRecDepth 10000
attribute [local irreducible] PV.Lcl PV.LclR RV.Lcl
variable{s:an}
def Vt{sep:an}(hs:s.length≤1048576):et prog gl 54 [(false,[val (.string (B s))]),(false,[val (.string (B sep))])] (aA [(false,[val (.string (B (fB s sep)))]),(false,[val (.string (B (iv s sep)))]),(false,[val (.bool (Lib.cut s sep).2.2)])]):=arj (gm:=0) (G:=gl) (fun h=>h.2.1) Tryz.strings_Cut ab
def Vu(c:UInt8)(hs:s.length≤1048576):et prog gl 99 [(false,[val (.string (B s))]),(false,[val (.string (B [c]))])] (aA [(false,[sl jG ((aq c s).map fm)])]):=arm (gm:=0) (E:=9) (G:=gl) (fun _=>rfl) (fun h=>h.2.1) Tryz.strings_Split ab (Nat.le_refl 1) (ay7 c s)
def aAf{q:an}:aE prog 219 [(false,[val (.string (B s))]),(false,[val (.string (B q))])] (aA [(false,[val (.string (B (qN s q)))]),(false,[val (.bool (Fr s q))])]):=ark Tryz.strings_CutPrefix
def aAg(hs:s.length≤1048576):et prog gl 138 [(false,[val (.string (B s))])] (aA [(false,[val (vI (kk s))]),(false,[PV.err (pZ s)])]):=arn (gs:=1) (gr:=2) (G:=gl) (fun h=>h.2.2.1) (fun h=>h.2.2.2) (fun s v w h1 h2=>(Tryz.strconv_Atoi_ok s h1 v h2 w).mono fun e w' h=>⟨h.1,by rcases h.2 with rfl|⟨t,rfl⟩;exact Below.refl _ _;exact Lib.bytesWorld_below _ _ _⟩) (fun s ev w h1 h2 h3 h4=>(Tryz.strconv_Atoi_syntax s h1 h2 ev w h3 h4).mono fun e w' ⟨N,a,_,_,b⟩=>⟨N,a,b⟩) (fun s ev w h1 h2 h3 h4=>(Tryz.strconv_Atoi_range s h1 h2 ev w h3 h4).mono fun e w' ⟨N,a,_,_,b⟩=>⟨N,a,b⟩) ab
variable{s:an}
def Vx:er prog 27=some [(0,1),(1,1)]:=au
def aAh:prog.underlying 3=some (.int .i64):=au
def aAi:prog.underlying 5=some (.int .u8):=au
def pI:prog.underlying 9=some .string:=au
def Vy(hl:s.length≤1048576):et prog gl 55 [(false,[val (.string (B s))])] (aA [(false,[val (vI (bJ s))]),(false,[val (.bool (cQ s))])]):=by
 refine im (rs:=[(false,[val (vI (bJ s))]),(false,[val (.bool (cQ s))])]) func55 rfl (nl rfl) (jI (aW.cons (bor_val _) aW.nil) kJ) ?_
 intro h0 w0 Fz0
 have hai:=aoa s
 unfold dN at hai
 have hil:=bv (aoa s)
 refine qh ?_
 refine rK ?_
 refine tU ?_
 refine rM ?_
 refine rA ?_ (x:=gL aM aM atw (hs:=by exact (aAg ab)))
 refine bL ?_
 refine oz ?_
 refine rA ?_ (x:=rj (cs:=[PV.err _]) (qs:=[PV.err _]) ak aj uI (by exact (aW.cons (bor_err _) aW.nil)))
 refine rS ?_
 refine rA ?_ (x:=mh (r':=RV.sv false [PV.err _]) (.inr rfl) ak Wi)
 refine bg ?_
 refine sS [0,2,3,4,5,7000] [] ?_
 refine rA ?_ (x:=mh (r':=RV.sv false [PV.err _]) (.inl rfl) ak Wi)
 refine rA ?_ (x:=arq underlying160)
 refine rM ?_
 refine cx 13 ?_ ?_<;>intro ga sga
 refine ko ?_
 refine rY 19 ?_
 refine lH ?_
 exact Zae
 refine fI ?_
 refine rB ga ?_ (x:=gL aM aM jV (hs:=jE))
 refine fI ?_
 refine rB ga ?_ (x:=to)
 refine nq ?_
 refine cx 19 ?_ ?_<;>intro gb sgb
 refine tx ?_
 exact Zae
 refine ir ?_
 refine rB gb ?_ (x:=xc)
 refine zY ?_
 refine cx 23 ?_ ?_<;>intro gc sgc
 refine vH ?_
 exact OL
 refine ow ?_
 refine xq ?_
 refine sc ?_ ?_<;>intro hba
 exact OL
 have hys:ii s=some (kk s):=ayV gI gI gI
 refine aK ?_
 refine sS [0,2,3,4,5,7000] [] ?_
 exact Zag
def aAj(hl:s.length≤1048576):aE prog 135 [(false,[val (.string (B s))])] (aA [(false,[val (vI (bJ s))]),(false,[val (.bool (cQ s))])]):=by
 refine sF func135 fun h0 w0 Fz0=>?_
 refine qh ?_
 refine rK ?_
 refine qk ?_
 refine rK ?_
 refine qm ?_
 refine dp ?_
 refine sS [0,2,3,4,5] [] ?_
 refine cm ?_
 refine sP [0,2,3,4,5,6] [] ?_
 refine sL [0,2,3] [] (fun k:Nat=>k≤s.length∧k≤11) (fun k:Nat=>[(4,RV.int ((fW (s.take k)).1:Int)),(5,RV.int ((fW (s.take k)).2:Int)),(6,RV.int (k:Int))]) (fun k:Nat=>[]) (fun k:Nat=>s.length - k) 0 (by exact ⟨ab,ab⟩) qW ao ?_
 rintro k ⟨hk,ha⟩
 refine bI ?_
 refine rM ?_
 refine rA ?_ (x:=pg pI)
 refine kQ ?_
 refine cx 11 ?_ ?_<;>intro ga sga
 refine Aa ?_
 refine iq ?_
 refine sc ?_ ?_<;>intro hba
 have hlt:k < s.length:=me
 have hk11:k < 11:=me
 refine aY ?_
 refine sS [0,2,3,4,5,6] [] ?_
 refine gn ?_
 refine rA ?_ (x:=sX hlt pI)
 refine rA ?_ (x:=aqA)
 refine rM ?_
 refine cx 21 ?_ ?_<;>intro gb sgb
 refine ir ?_
 refine ir ?_
 refine rB gb ?_ (x:=sX hlt pI)
 refine rB gb ?_ (x:=aqz)
 refine jP ?_
 refine sc ?_ ?_<;>intro hbb
 have hb256:=s[k].toNat_lt
 have hsn:=aob hlt
 have hbg:=Ls s k ab
 have hdg:48≤s[k].toNat∧s[k].toNat≤57:=ln
 rw [if_pos (Fo.2 hdg)] at hsn
 refine Ad ?_
 refine rA ?_ (x:=MY ak ao (bq rfl) br)
 refine gn ?_
 refine rA ?_ (x:=sX hlt pI)
 refine rA ?_ (x:=art ab)
 refine rA ?_ (x:=Zh aAi aAh (by first|exact (congrArg (IntKind.wrap .i64) Zn).trans (IntWalk.i64_in _ ab)|exact IntWalk.i64_in _ ab))
 refine vF ?_
 refine sG [0,2,3,4,5,6] [] ?_
 refine bO ?_
 exact Zai
 exact Zaj
 refine tL ?_
 exact Zaj
 have hend:=aoc (s:=s) (k:=k) ln ab
 rw [hend]
 have hb11:=Ls s 11 ab
 refine gk ?_
 refine Ad ?_
 refine rA ?_ (x:=pg pI)
 refine qf ?_
 refine cx 40 ?_ ?_<;>intro gb sgb
 have h0:0 < s.length:=Gx
 have sgb:=gb
 try simp only [qq] at sgb
 refine ir ?_
 refine rB gb ?_ (x:=NS (ms:=Int.le_refl 0) h0 pI)
 refine rB gb ?_ (x:=NK)
 refine jP ?_
 refine sc ?_ ?_<;>intro hbb
 have hng:s.head?=some 45:=(Fv h0).2 (by have:=hbb;(try simp at this);show s[0].toNat=45;omega)
 have hnv:=aod hng
 refine sG [0,2,3,4,5,6] [] ?_
 refine rM ?_
 refine rA ?_ (x:=NO)
 refine rS ?_
 exact Zak
 have hng:¬s.head?=some 45:=by first|exact UT h0|(rw [Fv h0];have:=hbb;(try simp at this);show ¬s[0].toNat=45;omega)
 have hnv:=Lt hng
 refine aK ?_
 exact Zak
 have h0:¬0 < s.length:=WM
 have sgb:=gb
 try simp only [qq] at sgb
 refine tL ?_
 have hng:¬s.head?=some 45:=WR
 have hnv:=Lt hng
 refine aK ?_
 exact OP
 refine nt ?_
 have hend:=aoc (s:=s) (k:=k) ln ab
 rw [hend]
 have hb11:=Ls s 11 ab
 refine gk ?_
 refine Ad ?_
 refine rA ?_ (x:=pg pI)
 refine qf ?_
 refine cx 40 ?_ ?_<;>intro gb sgb
 have h0:0 < s.length:=Gx
 have sgb:=gb
 try simp only [qq] at sgb
 refine ir ?_
 refine rB gb ?_ (x:=NS (ms:=Int.le_refl 0) h0 pI)
 refine rB gb ?_ (x:=NK)
 refine jP ?_
 refine sc ?_ ?_<;>intro hba
 have hng:s.head?=some 45:=(Fv h0).2 (by have:=hba;(try simp at this);show s[0].toNat=45;omega)
 have hnv:=aod hng
 refine sG [0,2,3,4,5,6] [] ?_
 refine rM ?_
 refine rA ?_ (x:=NO)
 refine rS ?_
 exact OP
 have hng:¬s.head?=some 45:=by first|exact UT h0|(rw [Fv h0];have:=hba;(try simp at this);show ¬s[0].toNat=45;omega)
 have hnv:=Lt hng
 refine aK ?_
 exact OP
 have h0:¬0 < s.length:=WM
 have sgb:=gb
 try simp only [qq] at sgb
 refine tL ?_
 have hng:¬s.head?=some 45:=WR
 have hnv:=Lt hng
 refine cg ?_
 refine Ad ?_
 refine qf ?_
 refine cx 49 ?_ ?_<;>intro gc sgc
 exact OM
 refine Rg ?_
 refine xq ?_
 refine rM ?_
 refine cx 54 ?_ ?_<;>intro gd sgd
 exact ON
 refine Qu ?_
 refine IH ?_
 refine sc ?_ ?_<;>intro hba
 exact CA
 exact OO
def FH(hl:s.length≤1048576):aE prog 52 [(false,[val (.string (B s))])] (aA [(false,[val (vI (bT s))])]):=by
 refine sF func52 fun h0 w0 Fz0=>?_
 refine xD ?_
 refine rM ?_
 refine rA ?_ (x:=cL aM aM atu (hs:=by exact (aAj ab)))
 refine xp ?_
 refine rS ?_
 refine dr ?_
 refine qm ?_
 refine qi ?_
 refine sc ?_ ?_<;>intro hba
 have his:cQ s=false:=cR
 refine qm ?_
 refine cn ?_
 exact (aI (by refine cW ?_;exact (ayY his).symm) tI)
 have his:cQ s=true:=cR
 refine aK ?_
 refine xy ?_
 refine dI ?_
 exact (aI (by refine cW ?_;exact (ayZ his).symm) tI)
def LH{b:Int}(hl:s.length≤1048576)(hu0:0≤b)(hu1:b≤255):aE prog 50 [(false,[val (.string (B s))]),(false,[val (.int .u8 b)])] (aA [(false,[sl jG ((aq (u8 b) s).map fm)])]):=by
 refine sF func50 fun h0 w0 Fz0=>?_
 refine sR ?_
 refine rA ?_ (x:=pN (.inr rfl) ak (sZ (t:=9) (e:=1)))
 refine mw ?_
 refine Zat ?_
 refine dJ ?_
 refine sS [0,1,4,5] [] ?_
 refine dp ?_
 refine sS [0,1,4,5,6] [] ?_
 refine cm ?_
 refine sP [0,1,4,5,6,7] [] ?_
 refine sL [0,1,4] [] (fun k:Nat=>k≤s.length) (fun k:Nat=>[(5,RV.slc jG ((aq (u8 b) (s.take k)).dropLast.map fm)),(6,RV.sc (.string (B ((aq (u8 b) (s.take k)).getLastD [])))),(7,RV.int (k:Int))]) (fun k:Nat=>[]) (fun k:Nat=>s.length - k) 0 ab qW ao ?_
 rintro k hk
 have hdl:=nU (u8 b) (s.take k)
 have hll:=ay6 (c:=u8 b) (s.take k)
 have htl:(s.take k).length=k:=dh
 have hdd:(aq (u8 b) (s.take k)).dropLast.length=(aq (u8 b) (s.take k)).length - 1:=List.length_dropLast
 refine bI ?_
 refine rM ?_
 refine rA ?_ (x:=pg pI)
 refine dC ?_
 refine sc ?_ ?_<;>intro hba
 have hlt:k < s.length:=ab
 refine aY ?_
 refine sS [0,1,4,5,6,7] [] ?_
 refine gn ?_
 refine rA ?_ (x:=sX hlt pI)
 refine rM ?_
 refine rA ?_ (x:=NK)
 refine sc ?_ ?_<;>intro hbb
 have hsy:=ay4 (c:=u8 b) hlt ((US hu0 hu1).1 gy)
 refine sS [0,1,4,5,6,7] [] ?_
 refine vu ?_
 refine As ?_
 refine sG [0,1,4,5,6,7] [] ?_
 refine rK ?_
 exact Zav
 have hsn:=ay5 (c:=u8 b) hlt (fun e=>absurd ((US hu0 hu1).2 e) gy)
 refine sG [0,1,4,5,6,7] [] ?_
 refine gn ?_
 refine rM ?_
 refine qb ?_
 refine rA ?_ (x:=ZV k (k+1) pI (u:=[s[k]'hlt]) ab ab ab ab (by rw [cU hlt,List.drop_append_of_le_length dh,List.drop_eq_nil_of_le dh];rfl))
 refine vX ?_
 refine rS ?_
 exact Zav
 have hend:k=s.length:=ab
 subst hend
 rw [bG]
 rw [bG] at hdl hll hdd htl
 refine be ?_
 refine sS [0,1,4,5,6,7] [] ?_
 refine vu ?_
 refine As ?_
 refine cP ?_
 exact (aI (by refine bC ?_;rw [show (aq (u8 b) s).map fm=((aq (u8 b) s).dropLast++[(aq (u8 b) s).getLastD []]).map fm by rw [←UV],bo];rfl) tI)
def aAk(hl:s.length≤1048576):aE prog 50 [(false,[val (.string (B s))]),(false,[val (.int .u8 32)])] (aA [(false,[sl jG ((aq 32 s).map fm)])]):=LH hl (b:=32) ak ak
def aAl(hl:s.length≤1048576):aE prog 50 [(false,[val (.string (B s))]),(false,[val (.int .u8 44)])] (aA [(false,[sl jG ((aq 44 s).map fm)])]):=LH hl (b:=44) ak ak
def aAm(hl:s.length≤1048576):aE prog 50 [(false,[val (.string (B s))]),(false,[val (.int .u8 58)])] (aA [(false,[sl jG ((aq 58 s).map fm)])]):=LH hl (b:=58) ak ak
def aAn(hl:s.length≤1048576):et prog gl 140 [(false,[val (.string (B s))])] (aA [(false,[sl ai ((uD s).map ar)]),(false,[val (.bool (qM s))])]):=by
 refine im (rs:=[(false,[sl ai ((uD s).map ar)]),(false,[val (.bool (qM s))])]) func140 rfl (nl rfl) (jI (aW.cons (bor_val _) aW.nil) kJ) ?_
 intro h0 w0 Fz0
 have hsl:=nU 44 s
 refine pi ?_
 refine rK ?_
 refine tU ?_
 refine jO ?_
 refine sS [0,2,3,4,7000] [] ?_
 refine rM ?_
 refine rA ?_ (x:=gL dl dl Tw (hs:=by exact (Vu 44 ab)))
 refine rA ?_ (x:=lN dc)
 refine dm ?_
 refine sP [0,2,3,4,11,12,13,7000] [] ?_
 refine sL [0,11,12,7000] [] (fun k:Nat=>k≤(aq 44 s).length∧((aq 44 s).take k).all cQ=true) (fun k:Nat=>[(4,RV.slc ai ((((aq 44 s).take k).map bJ).map ar)),(13,RV.int (k:Int))]) (fun k:Nat=>[]) (fun k:Nat=>(aq 44 s).length - k) 0 (by exact ⟨ab,arx⟩) ej ao ?_
 rintro k ⟨hk,ha⟩
 refine bP ?_
 refine sc ?_ ?_<;>intro hba
 have hlt:k < (aq 44 s).length:=ab
 have hwl:=qO (List.getElem_mem hlt)
 have htl:((aq 44 s).take k).length=k:=dh
 refine aY ?_
 refine sS [0,4,11,12,13,7000] [] ?_
 refine zN ?_
 refine rS ?_
 refine sS [0,4,6,11,12,13,7000] [] ?_
 refine rM ?_
 refine xt ?_
 refine rS ?_
 refine dr ?_
 refine sS [0,4,6,7,8,11,12,13,7000] [] ?_
 refine qi ?_
 refine sc ?_ ?_<;>intro hbb
 have hnn:cQ (aq 44 s)[k]=false:=gy
 have hno:=ay8 hlt hnn
 refine sS [0,4,6,7,8,11,12,13,7000] [] ?_
 refine rP ?_
 refine cn ?_
 exact (aI (by refine bC ?_;rw [ay9 hno];exact rfl) (aI (by refine dQ ?_;exact hno.symm) tI))
 have hnm:cQ (aq 44 s)[k]=true:=gy
 refine aK ?_
 refine sG [0,4,6,7,8,11,12,13,7000] [] ?_
 refine Az ?_
 refine sG [0,4,6,7,8,11,12,13,7000] [] ?_
 refine cc ?_
 refine nx (k+1) (by exact ⟨ab,Ke ha hlt hnm⟩) (e:=(by exact aI Wg (aI aj tI)))
 have hend:k=(aq 44 s).length:=ab
 have hok:qM s=true:=mz (by rw [←hend];exact ha)
 refine be ?_
 refine sS [0,4,11,12,13,7000] [] ?_
 refine bL ?_
 refine dJ ?_
 refine cn ?_
 exact (aI (by refine bC ?_;rw [aza hok,hend,bG]) (aI (by refine dQ ?_;exact hok.symm) tI))
def aAo(hl:s.length≤1048576):et prog gl 220 [(false,[val (.string (B s))])] (aA [(true,[val (vI ((iX s).getD pE).Id),sl ai (((iX s).getD pE).Values.map ar)]),(false,[val (.bool (iX s).isSome)])]):=by
 refine im (rs:=[(true,[val (vI ((iX s).getD pE).Id),sl ai (((iX s).getD pE).Values.map ar)]),(false,[val (.bool (iX s).isSome)])]) func220 rfl (nl rfl) (jI (aW.cons (bor_val _) aW.nil) kJ) ?_
 intro h0 w0 Fz0
 have hca:=Fw s [58]
 have hcz:=Fy s [58]
 have hfl:=wD (oP s)
 refine sR ?_
 refine El ?_
 refine Js ?_
 refine rM ?_
 refine rA ?_ (x:=gL dl dl Tn (hs:=by exact (Vt (sep:=[58]) ab)))
 refine bL ?_
 refine Dj ?_
 refine oq ?_
 refine rS ?_
 refine sS [0,2,3,4,5,6,7000] [2] ?_
 refine DN ?_
 refine sS [0,2,3,4,5,6,7,8,7000] [2] ?_
 refine rM ?_
 refine Zb2 ?_
 refine PM ?_
 refine dJ ?_
 refine rS ?_
 refine sS [0,2,3,4,5,6,7,8,9,10,7000] [2] ?_
 refine rM ?_
 refine bL ?_
 refine rA ?_ (x:=cz (qs:=uZ) (cs:=iA) ak jh nB Vx aj iY rfl aj)
 refine xi ?_
 refine bg ?_
 refine sV [0,2,3,4,5,6,7,8,10,11,7000] [2] [11] ?_
 refine rM ?_
 refine dq ?_
 refine cx 33 ?_ ?_<;>intro ga sga
 refine ko ?_
 refine rY 37 ?_
 refine lH ?_
 exact Zb3
 refine fI ?_
 refine kP ?_
 refine rM ?_
 refine cx 37 ?_ ?_<;>intro gb sgb
 refine tx ?_
 exact Zb3
 refine rB gb ?_ (x:=lD mo jg)
 refine rB gb ?_ (x:=cL jK ly SA (hs:=by exact (Tz (x:=oP s))))
 refine Ao ?_
 refine cx 42 ?_ ?_<;>intro gc sgc
 refine vH ?_
 exact OR
 refine rB gc ?_ (x:=lD mo jg)
 refine rB gc ?_ (x:=gL jK ly Ts (hs:=by exact (Vv (r:=oP s))))
 refine ow ?_
 refine Rp ?_
 refine sc ?_ ?_<;>intro hba
 exact OR
 have hys:=axY (s:=s) cS cS
 refine aK ?_
 refine sS [0,2,3,4,5,6,7,8,10,11,7000] [2,11] ?_
 exact OS
def aAp(hl:s.length≤1048576):aE prog 136 [(false,[val (.string (B s))])] (aA [(true,[val (vI ((iX s).getD pE).Id),sl ai (((iX s).getD pE).Values.map ar)]),(false,[val (.bool (iX s).isSome)])]):=by
 refine sF func136 fun h0 w0 Fz0=>?_
 have hsl:=nU 58 s
 have h0w:0 < (aq 58 s).length:=ab
 have hw0:=qO (List.getElem_mem h0w)
 have hfl:=wD (lY s)
 refine sR ?_
 refine El ?_
 refine rK ?_
 refine sT [0,2,3] [2] ?_
 refine rM ?_
 refine rA ?_ (x:=cL dl dl KE (hs:=by exact (aAm ab)))
 refine dJ ?_
 refine sS [0,2,3,4] [2] ?_
 refine cv ?_
 refine rA ?_ (x:=aS (k:=0) ak dc (bq rfl) eb (by exact eQ h0w rfl) aj)
 refine pn ?_
 refine JR ?_
 refine rA ?_ (x:=cz (qs:=aM) (cs:=iA) ak jh nB Vx aj cN rfl aj)
 refine xi ?_
 refine bg ?_
 refine Jf ?_
 refine jw ?_
 refine sc ?_ ?_<;>intro hba
 have hl2:(aq 58 s).length=2:=XC
 have h1w:1 < (aq 58 s).length:=ab
 have hw1:=qO (List.getElem_mem h1w)
 have hvl:=nU 44 (aq 58 s)[1]
 have hrs:lY s=⟨bT (aq 58 s)[0],Bx (aq 58 s)[1]⟩:=by unfold lY;rw [if_pos hl2,Lu h0w,Lu h1w]
 refine vY ?_
 refine cv ?_
 refine rA ?_ (x:=aS (k:=1) ak dc (bq rfl) eb (by exact eQ h1w rfl) aj)
 refine pn ?_
 refine Zbb ?_
 refine dJ ?_
 refine sS [0,2,3,4,5,6] [2,5] ?_
 refine cm ?_
 refine sP [0,2,3,4,5,6,7] [2,5] ?_
 refine sL [0,2,3,4,5,6] [2] (fun k:Nat=>k≤(aq 44 (aq 58 s)[1]).length) (fun k:Nat=>[(7,RV.int (k:Int))]) (fun k:Nat=>[(5,(27,[val (vI (bT (aq 58 s)[0])),sl ai ((((aq 44 (aq 58 s)[1]).take k).map bT).map ar)]))]) (fun k:Nat=>(aq 44 (aq 58 s)[1]).length - k) 0 ab bu bu ?_
 rintro k hk
 refine bI ?_
 refine Aq ?_
 refine sc ?_ ?_<;>intro hbb
 have hlt:k < (aq 44 (aq 58 s)[1]).length:=ab
 have hwk:=qO (List.getElem_mem hlt)
 have htl:((aq 44 (aq 58 s)[1]).take k).length=k:=dh
 refine aY ?_
 refine sQ [0,2,3,4,5,6,7] [2,5] ?_
 refine cJ ?_
 refine vL ?_
 refine Zbd ?_
 refine Zbe ?_
 refine Zbf ?_
 refine dA 511 ?_ (x:=lF oH)
 refine RH ?_
 refine sW [0,2,3,4,5,6,7] [2] [5] ?_
 exact Zbg
 have hend:k=(aq 44 (aq 58 s)[1]).length:=ab
 subst hend
 rw [bG]
 refine gk ?_
 refine bg ?_
 refine sQ [0,2,3,4,5,6,7] [2,5] ?_
 refine Zbh ?_
 refine sG [0,2,3,4,5,6,7] [2,5] ?_
 refine qj ?_
 refine cx 40 ?_ ?_<;>intro ga sga
 refine gY ?_
 exact Zbj
 refine Zbk ?_
 refine An ?_
 refine sc ?_ ?_<;>intro hbc
 exact Zbj
 have hys:=anO (s:=s) gI gI
 refine aK ?_
 refine sS [0,2,3,4,5,6,7] [2,5] ?_
 exact OS
 have hl2:¬(aq 58 s).length=2:=XC
 have hrs:lY s=⟨bT (aq 58 s)[0],[]⟩:=by unfold lY;rw [if_neg hl2,Lu h0w]
 refine cg ?_
 refine Jd ?_
 refine Zbh ?_
 refine Ab ?_
 refine cx 40 ?_ ?_<;>intro ga sga
 refine gY ?_
 exact Zbo
 refine Zbk ?_
 refine An ?_
 refine sc ?_ ?_<;>intro hbb
 exact Zbo
 have hys:=anO (s:=s) gI gI
 refine RC ?_
 exact OS
variable{s:an}
def Vz:er prog 25=some [(0,1),(1,1),(2,1),(3,1)]:=au
def aoC:er prog 65=some [(0,1),(1,1),(2,1)]:=au
def yH:prog.underlying 9=some .string:=au
def LI{w:an}{l:an}(hl:w.length≤1048576):et prog gl 139 [(false,[val (.string (B w))]),(false,[val (.string (B l))])] (aA [(false,[val (vI (bJ (qN w l)))]),(false,[val (.bool (Fr w l&&cQ (qN w l)))])]):=by
 refine im (rs:=[(false,[val (vI (bJ (qN w l)))]),(false,[val (.bool (Fr w l&&cQ (qN w l)))])]) func139 rfl (nl rfl) aQ ?_
 intro h0 w0 Fz0
 have htp:=azb w l
 refine qh ?_
 refine rK ?_
 refine sS [0,1,4,5,7000] [] ?_
 refine gn ?_
 refine rA ?_ (x:=cL dl dl at4 (hs:=by exact aAf))
 refine xI ?_
 refine sS [0,1,4,5,6,7,7000] [] ?_
 refine DN ?_
 refine sS [0,1,4,5,6,7,8,9,7000] [] ?_
 refine gn ?_
 refine rM ?_
 refine cx 23 ?_ ?_<;>intro ga sga
 refine fI ?_
 refine iq ?_
 exact Zcf
 refine bS.s0f ga ?_
 refine jQ ?_
 exact Zcf
def VA{b:Int}(hl:s.length≤1048576)(hu0:0≤b)(hu1:b≤255):aE prog 133 [(false,[val (.string (B s))]),(false,[val (.int .u8 b)])] (aA [(false,[val (vI (kb (u8 b) s))])]):=by
 refine sF func133 fun h0 w0 Fz0=>?_
 refine tE ?_
 refine rM ?_
 refine rA ?_ (x:=pg yH)
 refine kQ ?_
 refine cx 8 ?_ ?_<;>intro ga sga
 refine gY ?_
 exact Zcg
 have h0:0 < s.length:=MB;have hi0:=(US (x:=s[0]) hu0 hu1);have hi1:=azc (s:=s) (c:=u8 b) h0
 have sga:=ga
 try simp only [qq] at sga
 refine fI ?_
 refine rB ga ?_ (x:=NS (ms:=Int.le_refl 0) h0 yH)
 refine fI ?_
 refine rB ga ?_ (x:=aqB)
 refine jQ ?_
 refine sc ?_ ?_<;>intro hba
 exact Zcg
 have hr:kb (u8 b) s=bT (s.drop 1):=aze me cS
 refine aK ?_
 refine mw ?_
 refine rM ?_
 refine rA ?_ (x:=sSc yH (u:=(s.drop 1)) ab yL)
 refine rA ?_ (x:=cL aM aM up (hs:=by exact (FH sK)))
 refine rS ?_
 exact Zch
def aAs(hl:s.length≤1048576):aE prog 133 [(false,[val (.string (B s))]),(false,[val (.int .u8 113)])] (aA [(false,[val (vI (kb 113 s))])]):=VA hl (b:=113) ak ak
def aAt(hl:s.length≤1048576):aE prog 133 [(false,[val (.string (B s))]),(false,[val (.int .u8 116)])] (aA [(false,[val (vI (kb 116 s))])]):=VA hl (b:=116) ak ak
def aoD(hl:s.length≤1048576):aE prog 133 [(false,[val (.string (B s))]),(false,[val (.int .u8 102)])] (aA [(false,[val (vI (kb 102 s))])]):=VA hl (b:=102) ak ak
def aAu(hl:s.length≤1048576):aE prog 134 [(false,[val (.string (B s))])] (aA [(false,[val (vI (uE s).1)]),(false,[val (vI (uE s).2)])]):=by
 refine sF func134 fun h0 w0 Fz0=>?_
 refine qh ?_
 refine dp ?_
 refine tF ?_
 refine sL [0] [] (fun k:Nat=>k≤s.length∧∀j,j < k→nS s j=false) (fun k:Nat=>[(4,RV.int (k:Int))]) (fun k:Nat=>[]) (fun k:Nat=>s.length - k) 0 (by exact ⟨ab,fun j hj=>absurd hj (Nat.not_lt_zero j)⟩) bu ao ?_
 rintro k ⟨hk,ha⟩
 refine bg ?_
 refine sR ?_
 refine qb ?_
 refine rM ?_
 refine rA ?_ (x:=pg yH)
 refine dC ?_
 refine sc ?_ ?_<;>intro hba
 have hlt:k+1 < s.length:=ab
 refine aY ?_
 refine sS [0,4] [] ?_
 refine gn ?_
 refine qb ?_
 refine rA ?_ (x:=ZV k (k+2) yH (u:=((s.drop k).take 2)) ab ab ab ab (by rw [List.drop_take,Nat.add_sub_cancel_left]))
 refine vZ ?_
 refine sc ?_ ?_<;>intro hbb
 have hdy:nS s k=true:=by unfold nS;simpa using hbb
 have hr:=anY hlt ha hdy
 refine bg ?_
 refine sP [0,4] [] ?_
 refine xu ?_
 refine dt ?_
 refine dA 3 ?_ (x:=sSh k yH (u:=(s.take k)) ab ab (by rw [List.drop_zero]))
 refine dA 7 ?_ (x:=cL aM aM up (hs:=WW))
 refine dt ?_
 refine dt ?_
 refine dA 32 ?_ (x:=mq)
 refine dA 112 ?_ (x:=ZW (k+2) yH (u:=(s.drop (k+2))) ab ab yL)
 refine dA 255 ?_ (x:=cL aM aM up (hs:=WW))
 refine dA 511 ?_ (x:=sA)
 refine dA 1023 ?_ (x:=sA)
 exact Zcj
 have hdn:nS s k=false:=by unfold nS;simpa using hbb
 refine aK ?_
 refine sG [0,4] [] ?_
 refine bO ?_
 refine nx (k+1) (by exact ⟨ab,azf ha hdn⟩)
 have hr:=ayF (w:=s) (fun j hj=>ha j ab)
 refine be ?_
 refine sS [0,4] [] ?_
 refine rK ?_
 refine rK ?_
 exact Zcj
def aAv(hl:s.length≤1048576):et prog gl 56 [(false,[val (.string (B s))])] (aA [(true,[val (vI ((fY s).getD eh).Id),val (vI ((fY s).getD eh).aDb),sl aH (((fY s).getD eh).aC8.map bM),sl ai (((fY s).getD eh).Out.map ar)]),(false,[val (.bool (fY s).isSome)])]):=by
 refine im (rs:=[(true,[val (vI ((fY s).getD eh).Id),val (vI ((fY s).getD eh).aDb),sl aH (((fY s).getD eh).aC8.map bM),sl ai (((fY s).getD eh).Out.map ar)]),(false,[val (.bool (fY s).isSome)])]) func56 rfl (nl rfl) (jI (aW.cons (bor_val _) aW.nil) kJ) ?_
 intro h0 w0 Fz0
 have hsl:=nU 32 s
 have htm:=azi (aq 32 s).length
 have hfl:=Lf (mW (aq 32 s))
 refine sR ?_
 refine AF ?_
 refine Js ?_
 refine Qr ?_
 refine dJ ?_
 refine sS [0,2,3,4,7000] [2] ?_
 refine nn ?_
 refine dr ?_
 refine sS [0,2,3,4,5,7000] [2] ?_
 refine rM ?_
 refine kQ ?_
 refine cx 30 ?_ ?_<;>intro ga sga
 refine ko ?_
 refine rY 35 ?_
 refine kS ?_
 exact OT
 refine fI ?_
 refine rB ga ?_ (x:=Np ak ao (bq rfl) ab)
 refine rB ga ?_ (x:=kN)
 refine nq ?_
 refine cx 35 ?_ ?_<;>intro gb sgb
 refine tK ?_
 exact OT
 refine ir ?_
 refine IY ?_
 refine sc ?_ ?_<;>intro hba
 exact OT
 have hn4:4≤(aq 32 s).length:=ln
 have hn2:(aq 32 s).length%2=0:=ln
 have hn10:(aq 32 s).length≤10:=ln
 have h0w:0 < (aq 32 s).length:=ab
 have h1w:1 < (aq 32 s).length:=ab
 have hlw:(aq 32 s).length - 1 < (aq 32 s).length:=ab
 have hwd0:=ij 32 s 0
 have hwd1:=ij 32 s 1
 have hwd2:=ij 32 s ((aq 32 s).length - 1)
 refine aK ?_
 refine sS [0,2,3,4,5,7000] [2] ?_
 refine Dm ?_
 refine rA ?_ (x:=gL dl dl KD (hs:=by exact (LI (l:=[113]) ab)))
 refine xI ?_
 refine sS [0,2,3,4,5,6,7,7000] [2] ?_
 refine vp ?_
 refine rA ?_ (x:=gL dl dl KD (hs:=by exact (LI (l:=[116]) ab)))
 refine xI ?_
 refine sS [0,2,3,4,5,6,7,8,9,7000] [2] ?_
 refine iO ?_
 refine rA ?_ (x:=hP)
 refine Zcp ?_
 refine Zb2 ?_
 refine PM ?_
 refine dJ ?_
 refine rS ?_
 refine sS [0,2,3,4,5,6,7,8,9,10,11,7000] [2] ?_
 refine gn ?_
 refine bL ?_
 refine rA ?_ (x:=cz (qs:=Ha) (cs:=jL) ak lM yg Vz aj sJ rfl aj)
 refine zL ?_
 refine sV [0,2,3,4,5,6,7,8,9,11,12,7000] [2] [12] ?_
 refine gn ?_
 refine cx 68 ?_ ?_<;>intro gc sgc
 refine ow ?_
 refine vD ?_
 refine cx 71 ?_ ?_<;>intro gd sgd
 refine Jc ?_
 exact Zcq
 refine Jk ?_
 exact Zcq
 refine bS.s0f gc ?_
 refine DU ?_
 refine rN 71 ?_
 refine Ac ?_
 refine dr ?_
 refine sS [0,2,3,4,5,6,7,8,9,11,12,13,7000] [2,12] ?_
 refine cm ?_
 refine Zcs ?_
 rintro k hk
 refine bI ?_
 refine xC ?_
 refine dC ?_
 refine sc ?_ ?_<;>intro hbb
 have hlt:k < (((aq 32 s).length - 4) / 2):=ab
 have h2w:2+2 * k < (aq 32 s).length:=ab
 have h3w:3+2 * k < (aq 32 s).length:=ab
 have hcl:=anX (aq 32 s) k
 have hw2:=ij 32 s (2+2 * k)
 have hw3:=ij 32 s (3+2 * k)
 have hca:=Fw ((aq 32 s).getD (3+2 * k) []) [46,46]
 have hcz:=Fy ((aq 32 s).getD (3+2 * k) []) [46,46]
 refine aY ?_
 refine JU ?_
 refine Zcu ?_
 refine Zcv ?_
 refine xI ?_
 refine Zcw ?_
 refine qb ?_
 refine Qe ?_
 refine Zcy ?_
 refine Dj ?_
 refine oq ?_
 refine rS ?_
 refine Zcz ?_
 refine Zd0 ?_
 refine Zd1 ?_
 refine gn ?_
 refine rM ?_
 refine Zd2 ?_
 refine Zd3 ?_
 refine Zd4 ?_
 refine gn ?_
 refine cx 118 ?_ ?_<;>intro gd sgd
 refine Jc ?_
 refine rM ?_
 refine cx 121 ?_ ?_<;>intro ge sge
 refine rB ge ?_ (x:=sM)
 refine Ar ?_
 refine cx 124 ?_ ?_<;>intro gf sgf
 refine rB gf ?_ (x:=sM)
 refine rA ?_ (x:=cd gf)
 exact CB
 refine bS.s0f gf ?_
 refine rA ?_ (x:=bF gf)
 exact CB
 refine bS.s0f ge ?_
 refine rA ?_ (x:=bF ge)
 exact OU
 refine Jk ?_
 exact Zd7
 have hend:k=(((aq 32 s).length - 4) / 2):=ab
 subst hend
 refine gk ?_
 refine JU ?_
 refine rM ?_
 refine dq ?_
 refine cx 129 ?_ ?_<;>intro gd sgd
 refine vC ?_
 exact Zd8
 refine rB gd ?_ (x:=lD iB gD)
 refine rB gd ?_ (x:=cL il ju EA (hs:=WB))
 refine rB gd ?_ (x:=nT)
 refine tV ?_
 refine rM ?_
 refine cx 134 ?_ ?_<;>intro ge sge
 refine zt ge ?_
 refine rA ?_ (x:=cd ge)
 refine fH ?_
 exact HM
 refine rB ge ?_ (x:=lD iB gD)
 refine rB ge ?_ (x:=gL il ju Tb (hs:=Ww))
 refine rB ge ?_ (x:=sM)
 refine rB ge ?_ (x:=to)
 refine rA ?_ (x:=bF ge)
 exact Zda
def aAw(hl:s.length≤1048576):aE prog 51 [(false,[val (.string (B s))])] (aA [(true,[val (vI ((fY s).getD eh).Id),val (vI ((fY s).getD eh).aDb),sl aH (((fY s).getD eh).aC8.map bM),sl ai (((fY s).getD eh).Out.map ar)]),(false,[val (.bool (fY s).isSome)])]):=by
 refine sF func51 fun h0 w0 Fz0=>?_
 have hsl:=nU 32 s
 have hfl:=Lf (sz (aq 32 s))
 refine sR ?_
 refine AF ?_
 refine rK ?_
 refine sT [0,2,3] [2] ?_
 refine It ?_
 refine iP ?_
 refine sS [0,2,3,4] [2] ?_
 refine Aq ?_
 refine sc ?_ ?_<;>intro hba
 have hno:fY s=none:=ayM ab
 refine sS [0,2,3,4] [2] ?_
 exact HL
 have hn4:4≤(aq 32 s).length:=ab
 have h0w:0 < (aq 32 s).length:=ab
 have h1w:1 < (aq 32 s).length:=ab
 have hlw:(aq 32 s).length - 1 < (aq 32 s).length:=ab
 have hwd0:=ij 32 s 0
 have hwd1:=ij 32 s 1
 have hwd2:=ij 32 s ((aq 32 s).length - 1)
 have hvl:=nU 44 ((aq 32 s).getD ((aq 32 s).length - 1) [])
 refine cg ?_
 refine sP [0,2,3,4] [2] ?_
 refine cJ ?_
 refine Zdd ?_
 refine Eo ?_
 refine dA 7 ?_ (x:=cL dl dl KC (hs:=by exact (aAs ab)))
 refine Zdf ?_
 refine dA 48 ?_ (x:=lE [val _] jA)
 refine dA 127 ?_ (x:=cL dl dl KC (hs:=by exact (aAt ab)))
 refine dA 255 ?_ (x:=cz (qs:=dl) (cs:=jL) ak lM yg Vz aj iY rfl aj)
 refine cu.step 0 ao ao (dj.of rfl (gW ak lM yg)) (uT (en.of_ rfl)) au ?_
 refine zp5 ?_
 refine Jf ?_
 refine dr ?_
 refine sS [0,2,3,4,5,6] [2,5] ?_
 refine cm ?_
 refine sP [0,2,3,4,5,6,7] [2,5] ?_
 refine sL [0,2,3,4,5,6] [2] (fun k:Nat=>k≤(((aq 32 s).length - 4) / 2)) (fun k:Nat=>[(7,RV.int (2+2 * (k:Int)))]) (fun k:Nat=>[(5,(25,[val (vI (kb 113 ((aq 32 s).getD 0 []))),val (vI (kb 116 ((aq 32 s).getD 1 []))),sl aH ((uF (aq 32 s) k).map bM),sl ai (([]:List Int).map ar)]))]) (fun k:Nat=>(((aq 32 s).length - 4) / 2) - k) 0 ab bu bu ?_
 rintro k hk
 refine bg ?_
 refine sR ?_
 refine qb ?_
 refine xC ?_
 refine dC ?_
 refine sc ?_ ?_<;>intro hbb
 have hlt:k < (((aq 32 s).length - 4) / 2):=ab
 have h2w:2+2 * k < (aq 32 s).length:=ab
 have h3w:3+2 * k < (aq 32 s).length:=ab
 have hcl:=ayE (aq 32 s) k
 have hw2:=ij 32 s (2+2 * k)
 have hw3:=ij 32 s (3+2 * k)
 refine aY ?_
 refine sT [0,2,3,4,5,6,7] [2,5] ?_
 refine cv ?_
 refine qb ?_
 refine Qe ?_
 refine rA ?_ (x:=cL aM aM att (hs:=by exact (aAu ab)))
 refine xI ?_
 refine sP [0,2,3,4,5,6,7,8,9] [2,5] ?_
 refine Rv ?_
 refine dA 1 ?_ (x:=eP (ms:=[sl _ _]) (qs:=[sl .v _]) ak kq (fun _=>rfl) ay aj gS fp)
 refine gC ?_
 refine dA 12 ?_ (x:=aS (k:=(2+2 * k)) ak dc ao ab FT aj)
 refine dA 28 ?_ (x:=lE [val _] jA)
 refine dA 60 ?_ (x:=cL dl dl KC (hs:=by exact (aoD ab)))
 refine dt ?_
 refine dt ?_
 refine dA 508 ?_ (x:=cz (qs:=cF) (cs:=tn) ak pp Km aoC aj sJ rfl aj)
 refine dA 1020 ?_ (x:=cB (qs:=zo) ak ic pp ak rfl rfl rfl rfl rfl ay cN rfl)
 refine dA 2047 ?_ (x:=eL ak ic pp rfl rfl ak rfl bm bm)
 refine dA 4095 ?_ (x:=lF kV)
 refine dA 8191 ?_ (x:=bR (ag:=false) (vs:=[sl _ _]) kq ao aj ay)
 refine sW [0,2,3,4,5,6,7,8,9] [2] [5] ?_
 refine bO ?_
 refine nx (k+1) ab (e:=oa) (f:=(by exact aI (by rw [ayD,bo];exact rfl) tI))
 have hend:k=(((aq 32 s).length - 4) / 2):=ab
 subst hend
 refine be ?_
 refine sT [0,2,3,4,5,6,7] [2,5] ?_
 refine iO ?_
 refine rA ?_ (x:=hP)
 refine Zcp ?_
 refine Zbb ?_
 refine iP ?_
 refine sS [0,2,3,4,5,6,7,10] [2,5] ?_
 refine cm ?_
 refine sP [0,2,3,4,5,6,7,10,11] [2,5] ?_
 refine sL [0,2,3,4,5,6,7,10] [2] (fun k:Nat=>k≤(aq 44 ((aq 32 s).getD ((aq 32 s).length - 1) [])).length) (fun k:Nat=>[(11,RV.int (k:Int))]) (fun k:Nat=>[(5,(25,[val (vI (kb 113 ((aq 32 s).getD 0 []))),val (vI (kb 116 ((aq 32 s).getD 1 []))),sl aH ((uF (aq 32 s) (((aq 32 s).length - 4) / 2)).map bM),sl ai ((((aq 44 ((aq 32 s).getD ((aq 32 s).length - 1) [])).take k).map bT).map ar)]))]) (fun k:Nat=>(aq 44 ((aq 32 s).getD ((aq 32 s).length - 1) [])).length - k) 0 ab bu bu ?_
 rintro k hk
 refine bI ?_
 refine Aq ?_
 refine sc ?_ ?_<;>intro hbc
 have hlt:k < (aq 44 ((aq 32 s).getD ((aq 32 s).length - 1) [])).length:=ab
 have hwk:=qO (List.getElem_mem hlt)
 have htl:((aq 44 ((aq 32 s).getD ((aq 32 s).length - 1) [])).take k).length=k:=dh
 refine aY ?_
 refine sQ [0,2,3,4,5,6,7,10,11] [2,5] ?_
 refine cJ ?_
 refine dA 0 ?_ (x:=lF AV)
 refine Zbd ?_
 refine Zbe ?_
 refine Zbf ?_
 refine dA 511 ?_ (x:=lF AV)
 refine RH ?_
 refine sW [0,2,3,4,5,6,7,10,11] [2] [5] ?_
 exact Zbg
 have hend:k=(aq 44 ((aq 32 s).getD ((aq 32 s).length - 1) [])).length:=ab
 subst hend
 rw [bG]
 refine gk ?_
 refine sT [0,2,3,4,5,6,7,10,11] [2,5] ?_
 refine tT ?_
 refine rA ?_ (x:=cL il ju ama (hs:=by exact (aoz (q:=sz (aq 32 s)))))
 refine rM ?_
 refine rA ?_ (x:=to)
 refine sc ?_ ?_<;>intro hbd
 have hno:fY s=none:=ayN gI
 refine sS [0,2,3,4,5,6,7,10,11] [2,5] ?_
 exact HL
 have hys:=ayO (s:=s) hn4 gI
 refine aK ?_
 refine sS [0,2,3,4,5,6,7,10,11] [2,5] ?_
 exact Zdg
def aoE:er prog 27=some [(0,1),(1,1)]:=au
def VB:er prog 29=some [(0,1),(1,2),(3,1),(4,1)]:=au
def aAx{ws:List an}(h0w:0 < ws.length)(hw:∀j,(ws.getD j []).length≤1048576):et prog gl 141 [(false,[sl .v (ws.map fm)])] (aA [(true,[val (vI (jn ws).Kind),val (vI (jn ws).Row.Id),sl ai ((jn ws).Row.Values.map ar),val (vI (jn ws).Field),val (vI (jn ws).Value)])]):=by
 refine im (rs:=[(true,[val (vI (jn ws).Kind),val (vI (jn ws).Row.Id),sl ai ((jn ws).Row.Values.map ar),val (vI (jn ws).Field),val (vI (jn ws).Value)])]) func141 rfl (nl rfl) (jI (aW.cons (bor_sl _) aW.nil) kJ) ?_
 intro h0 w0 Fz0
 refine sj 0 fun hl0=>?_
 refine Rh ?_
 refine sT [0,2,7000] [2] ?_
 refine Zdi ?_
 refine bg ?_
 refine jH ?_
 refine sV [0,2,3,7000] [2] [3] ?_
 refine Dm ?_
 refine rz ?_
 refine cx 10 ?_ ?_<;>intro ga sga
 refine QP ?_
 refine vo ?_
 refine rS ?_
 refine sc ?_ ?_<;>intro hba
 have hc0:(ws.getD 0 []=[105,110,115,101,114,116]∧ws.length=2):=eO
 have hr:=azj hc0
 have h1w:1 < ws.length:=ab
 refine sS [0,2,3,7000] [2,3] ?_
 refine QB ?_
 refine sW [0,2,3,7000] [2] [3] ?_
 refine vp ?_
 refine rA ?_ (x:=gL aM aM at5 (hs:=by exact (aAo (hw 1))))
 refine bL ?_
 refine Zdm ?_
 refine xN ?_
 refine RZ ?_
 refine sV [0,2,3,7000] [2] [3] ?_
 exact OV
 have hc0:¬(ws.getD 0 []=[105,110,115,101,114,116]∧ws.length=2):=eO
 refine Dz ?_
 refine rz ?_
 refine cx 29 ?_ ?_<;>intro gb sgb
 refine pm ?_
 refine rB gb ?_ (x:=lN dc)
 refine rB gb ?_ (x:=kL)
 refine DX ?_
 refine sc ?_ ?_<;>intro hbb
 exact Zdr
 have hc1:¬(ws.getD 0 []=[100,101,108,101,116,101]∧ws.length=2):=eO
 refine Dz ?_
 refine rz ?_
 refine cx 49 ?_ ?_<;>intro gc sgc
 refine QQ ?_
 refine Dl ?_
 refine rS ?_
 refine sc ?_ ?_<;>intro hbc
 exact OW
 exact HN
 exact OX
 refine AB ?_
 exact Zdx
 refine lG ?_
 refine qe ?_
 have hc0:¬(ws.getD 0 []=[105,110,115,101,114,116]∧ws.length=2):=eO
 refine Dz ?_
 refine rz ?_
 refine cx 29 ?_ ?_<;>intro gb sgb
 refine pm ?_
 refine rB gb ?_ (x:=lN dc)
 refine rB gb ?_ (x:=kL)
 refine DX ?_
 refine sc ?_ ?_<;>intro hba
 exact Zdr
 exact Zdx
 refine AB ?_
 have hc1:¬(ws.getD 0 []=[100,101,108,101,116,101]∧ws.length=2):=eO
 refine Dz ?_
 refine rz ?_
 refine cx 49 ?_ ?_<;>intro gc sgc
 refine QQ ?_
 refine Dl ?_
 refine rS ?_
 refine sc ?_ ?_<;>intro hba
 exact OW
 exact HN
 exact OX
def aAy{s:an}(hl:s.length≤1048576):et prog gl 57 [(false,[val (.string (B s))])] (aA [(true,[val (vI ((fX s).getD de).Kind),val (vI ((fX s).getD de).Row.Id),sl ai (((fX s).getD de).Row.Values.map ar),val (vI ((fX s).getD de).Field),val (vI ((fX s).getD de).Value)]),(false,[val (.bool (fX s).isSome)])]):=by
 refine im (rs:=[(true,[val (vI ((fX s).getD de).Kind),val (vI ((fX s).getD de).Row.Id),sl ai (((fX s).getD de).Row.Values.map ar),val (vI ((fX s).getD de).Field),val (vI ((fX s).getD de).Value)]),(false,[val (.bool (fX s).isSome)])]) func57 rfl (nl rfl) (jI (aW.cons (bor_val _) aW.nil) kJ) ?_
 intro h0 w0 Fz0
 have hsl:=nU 32 s
 have hfl:=ans (jn (aq 32 s))
 refine Rh ?_
 refine Js ?_
 refine Qr ?_
 refine rA ?_ (x:=gL cf cC aty (hs:=by exact (aAx (ws:=(aq 32 s)) ab (fun j=>Nat.le_trans (ij 32 s j) ab))))
 refine zH ?_
 refine bg ?_
 refine sV [0,2,3,4,7000] [2] [4] ?_
 refine JS ?_
 refine rA ?_ (x:=cL ti pR Sz (hs:=by exact (TB (x:=jn (aq 32 s)))))
 refine dq ?_
 refine cx 11 ?_ ?_<;>intro ga sga
 refine gY ?_
 exact Ze0
 refine rB ga ?_ (x:=lD tm mD)
 refine rB ga ?_ (x:=gL ti pR alQ (hs:=by exact (aoA (u:=jn (aq 32 s)))))
 refine An ?_
 refine sc ?_ ?_<;>intro hba
 exact Ze0
 have hys:=ax4 (s:=s) MJ MJ
 rw [aoe] at hys
 refine aK ?_
 refine sS [0,2,3,4,7000] [2,4] ?_
 exact OZ
def aAz{s:an}(hl:s.length≤1048576):aE prog 53 [(false,[val (.string (B s))])] (aA [(true,[val (vI ((fX s).getD de).Kind),val (vI ((fX s).getD de).Row.Id),sl ai (((fX s).getD de).Row.Values.map ar),val (vI ((fX s).getD de).Field),val (vI ((fX s).getD de).Value)]),(false,[val (.bool (fX s).isSome)])]):=by
 refine sF func53 fun h0 w0 Fz0=>?_
 have hsl:=nU 32 s
 have hfl:=ans (iI s)
 have hwd0:=ij 32 s 0
 have hwd1:=ij 32 s 1
 have hwd2:=ij 32 s 2
 have hwd3:=ij 32 s 3
 refine Rh ?_
 refine rK ?_
 refine sT [0,2,3] [2] ?_
 refine It ?_
 refine dJ ?_
 refine sS [0,2,3,4] [2] ?_
 refine Zdi ?_
 refine bg ?_
 refine jH ?_
 refine Jf ?_
 refine iC ?_
 refine cx 15 ?_ ?_<;>intro ga sga
 have h0w:0 < (aq 32 s).length:=MB
 have sga:=ga
 try simp only [qq] at sga
 refine Dc ?_
 refine JB ?_
 refine rS ?_
 refine sc ?_ ?_<;>intro hba
 have hc0:((aq 32 s).length=2∧(aq 32 s).getD 0 []=[105,110,115,101,114,116]):=eO
 have hr:=azn hc0
 have h1w:1 < (aq 32 s).length:=ab
 refine vY ?_
 refine vp ?_
 refine rA ?_ (x:=cL aM aM atv (hs:=by exact (aAp ab)))
 refine bL ?_
 refine Zdm ?_
 refine xi ?_
 refine rS ?_
 refine sW [0,2,3,4,5,6,7] [2,5] [6] ?_
 refine RU ?_
 refine PE ?_
 refine ot ?_
 refine sU [0,2,3,4,5,6,7] [2] [5,6] ?_
 refine Ze5 ?_
 refine sG [0,2,3,4,5,6,7] [2,5,6] ?_
 refine qj ?_
 refine cx 60 ?_ ?_<;>intro gb sgb
 refine tK ?_
 exact Ze6
 refine If ?_
 refine DS ?_
 refine sc ?_ ?_<;>intro hbb
 exact Ze6
 have hys:=anR (s:=s) gI gI
 refine aK ?_
 refine sS [0,2,3,4,5,6,7] [2,5,6] ?_
 exact OZ
 have hc0:¬((aq 32 s).length=2∧(aq 32 s).getD 0 []=[105,110,115,101,114,116]):=eO
 refine tD ?_
 refine mu ?_
 refine sc ?_ ?_<;>intro hbb
 have hc1:(aq 32 s).length=2:=BP
 have hr:=aof hc0 hc1
 have h1w:1 < (aq 32 s).length:=ab
 refine xr ?_
 refine Zeb ?_
 refine PE ?_
 exact Zec
 have hc1:¬(aq 32 s).length=2:=BP
 refine tD ?_
 refine mu ?_
 refine sc ?_ ?_<;>intro hbc
 have hc2:(aq 32 s).length=4:=ab
 have hr:=aog hc0 hc1 hc2
 have h1w:1 < (aq 32 s).length:=ab
 have h2w:2 < (aq 32 s).length:=ab
 have h3w:3 < (aq 32 s).length:=ab
 refine sP [0,2,3,4,5] [2,5] ?_
 refine cJ ?_
 refine Qj ?_
 refine Eo ?_
 refine Zee ?_
 refine Zef ?_
 refine dA 96 ?_ (x:=lE [val _] jA)
 refine Zeg ?_
 refine Zeh ?_
 refine Zei ?_
 refine ot ?_
 refine sU [0,2,3,4,5] [2] [5] ?_
 exact Zej
 have hc2:¬(aq 32 s).length=4:=ab
 have hr:=aoh hc0 hc1 hc2
 refine cg ?_
 refine Jd ?_
 exact Zej
 refine lG ?_
 refine qe ?_
 have hc0:¬((aq 32 s).length=2∧(aq 32 s).getD 0 []=[105,110,115,101,114,116]):=eO
 refine tD ?_
 refine mu ?_
 refine sc ?_ ?_<;>intro hba
 have hc1:(aq 32 s).length=2:=BP
 have hr:=aof hc0 hc1
 have h1w:1 < (aq 32 s).length:=ab
 refine xr ?_
 refine Zeb ?_
 refine PE ?_
 refine ot ?_
 refine sU [0,2,3,4,5] [2] [5] ?_
 refine PP ?_
 refine qj ?_
 refine cx 60 ?_ ?_<;>intro gb sgb
 exact Pa
 refine If ?_
 refine DS ?_
 refine sc ?_ ?_<;>intro hbb
 exact HO
 exact Pb
 have hc1:¬(aq 32 s).length=2:=BP
 refine tD ?_
 refine mu ?_
 refine sc ?_ ?_<;>intro hbb
 have hc2:(aq 32 s).length=4:=ab
 have hr:=aog hc0 hc1 hc2
 have h1w:1 < (aq 32 s).length:=ab
 have h2w:2 < (aq 32 s).length:=ab
 have h3w:3 < (aq 32 s).length:=ab
 refine sP [0,2,3,4,5] [2,5] ?_
 refine cJ ?_
 refine Qj ?_
 refine Eo ?_
 refine Zee ?_
 refine Zef ?_
 refine dA 96 ?_ (x:=lE [val _] jA)
 refine Zeg ?_
 refine Zeh ?_
 refine Zei ?_
 exact Zec
 have hc2:¬(aq 32 s).length=4:=ab
 have hr:=aoh hc0 hc1 hc2
 refine cg ?_
 refine Jd ?_
 exact Zeo
def LJ:er prog 31=some [(0,1),(1,4),(5,1),(6,1),(7,5),(12,1)]:=au
def VC:prog.underlying 9=some .string:=au
def aAA{s:an}(hl:s.length≤1048576):et prog gl 10 [(false,[val (.string (B s))])] (aA [(true,[val (vI ((bE s).getD cH).Kind),val (vI ((bE s).getD cH).aC7.Id),val (vI ((bE s).getD cH).aC7.aDb),sl aH (((bE s).getD cH).aC7.aC8.map bM),sl ai (((bE s).getD cH).aC7.Out.map ar),val (vI ((bE s).getD cH).Limit),val (vI ((bE s).getD cH).Id),val (vI ((bE s).getD cH).aC9.Kind),val (vI ((bE s).getD cH).aC9.Row.Id),sl ai (((bE s).getD cH).aC9.Row.Values.map ar),val (vI ((bE s).getD cH).aC9.Field),val (vI ((bE s).getD cH).aC9.Value),val (vI ((bE s).getD cH).Steps)]),(false,[val (.bool (bE s).isSome)])]):=by
 refine im (rs:=[(true,[val (vI ((bE s).getD cH).Kind),val (vI ((bE s).getD cH).aC7.Id),val (vI ((bE s).getD cH).aC7.aDb),sl aH (((bE s).getD cH).aC7.aC8.map bM),sl ai (((bE s).getD cH).aC7.Out.map ar),val (vI ((bE s).getD cH).Limit),val (vI ((bE s).getD cH).Id),val (vI ((bE s).getD cH).aC9.Kind),val (vI ((bE s).getD cH).aC9.Row.Id),sl ai (((bE s).getD cH).aC9.Row.Values.map ar),val (vI ((bE s).getD cH).aC9.Field),val (vI ((bE s).getD cH).aC9.Value),val (vI ((bE s).getD cH).Steps)]),(false,[val (.bool (bE s).isSome)])]) func10 rfl (nl rfl) (jI (aW.cons (bor_val _) aW.nil) kJ) ?_
 intro h0 w0 Fz0
 have hca:=Fw s [32]
 have hcz:=Fy s [32]
 have hca2:=Fw (iv s [32]) [32]
 have hcz2:=Fy (iv s [32]) [32]
 refine sR ?_
 refine JV ?_
 refine Js ?_
 refine rM ?_
 refine Zeq ?_
 refine Dj ?_
 refine oq ?_
 refine rS ?_
 refine sS [0,2,3,4,5,6,7000] [2] ?_
 refine Zer ?_
 refine Pt ?_
 refine sV [0,2,3,4,5,6,7,7000] [2] [7] ?_
 refine rM ?_
 refine jH ?_
 refine Rk ?_
 refine sc ?_ ?_<;>intro hba
 have hc0:fB s [32]=[97,100,109,105,116]:=cR
 have hr:=azo hc0
 refine Zeu ?_
 refine sV [0,2,3,4,5,6,7,18,7000] [2] [7] ?_
 refine rM ?_
 refine Zeq ?_
 refine Dj ?_
 refine oq ?_
 refine rS ?_
 refine Sa ?_
 refine rM ?_
 refine xt ?_
 refine rA ?_ (x:=lF wg)
 refine tZ ?_
 refine sW [0,2,3,4,5,6,7,8,9,10,18,7000] [2] [7] ?_
 refine rM ?_
 refine rA ?_ (x:=gL aM aM ava (hs:=by exact (aAv ab)))
 refine bL ?_
 refine Zew ?_
 refine rA ?_ (x:=lF EB)
 refine xR ?_
 refine ot ?_
 refine sU [0,2,3,4,5,6,7,8,9,10,18,7000] [2] [7] ?_
 refine Zex ?_
 refine sG [0,2,3,4,5,6,7,8,9,10,18,7000] [2,7] ?_
 refine PD ?_
 refine dq ?_
 refine cx 68 ?_ ?_<;>intro ga sga
 refine gY ?_
 exact Zez
 refine PC ?_
 refine An ?_
 refine sc ?_ ?_<;>intro hbb
 exact Zez
 have hys:=an9 (s:=s) cS cS
 refine aK ?_
 refine Sa ?_
 exact CD
 have hc0:¬fB s [32]=[97,100,109,105,116]:=cR
 refine Rk ?_
 refine sc ?_ ?_<;>intro hbb
 have hc1:fB s [32]=[99,97,110,99,101,108]:=gy
 have hr:=azp hc0 hc1
 refine Ri ?_
 refine rM ?_
 refine xt ?_
 refine xZ ?_
 refine xk ?_
 refine bg ?_
 refine Zf3 ?_
 refine sG [0,2,3,4,5,6,7,18,7000] [2,7] ?_
 refine PD ?_
 refine dq ?_
 refine cx 68 ?_ ?_<;>intro ga sga
 exact Zf4
 refine PC ?_
 refine An ?_
 refine sc ?_ ?_<;>intro hbc
 exact Pc
 exact Zf6
 have hc1:¬fB s [32]=[99,97,110,99,101,108]:=gy
 refine Rk ?_
 refine sc ?_ ?_<;>intro hbc
 have hc2:fB s [32]=[115,116,101,112]:=gx
 have hr:=azq hc0 hc1 hc2
 refine Ri ?_
 refine rM ?_
 refine xt ?_
 refine ya ?_
 refine tZ ?_
 exact Zf7
 have hc2:¬fB s [32]=[115,116,101,112]:=gx
 have hr:=azr hc0 hc1 hc2
 refine Ri ?_
 refine rM ?_
 refine rA ?_ (x:=gL aM aM avb (hs:=by exact (aAy ab)))
 refine bL ?_
 refine CQ ?_
 refine rA ?_ (x:=lF AX)
 refine Ep ?_
 exact Zf7
def aAB{s:an}(hl:s.length≤1048576):aE prog 9 [(false,[val (.string (B s))])] (aA [(true,[val (vI ((bE s).getD cH).Kind),val (vI ((bE s).getD cH).aC7.Id),val (vI ((bE s).getD cH).aC7.aDb),sl aH (((bE s).getD cH).aC7.aC8.map bM),sl ai (((bE s).getD cH).aC7.Out.map ar),val (vI ((bE s).getD cH).Limit),val (vI ((bE s).getD cH).Id),val (vI ((bE s).getD cH).aC9.Kind),val (vI ((bE s).getD cH).aC9.Row.Id),sl ai (((bE s).getD cH).aC9.Row.Values.map ar),val (vI ((bE s).getD cH).aC9.Field),val (vI ((bE s).getD cH).aC9.Value),val (vI ((bE s).getD cH).Steps)]),(false,[val (.bool (bE s).isSome)])]):=by
 refine sF func9 fun h0 w0 Fz0=>?_
 have hsl:=nU 32 s
 have hwd0:=ij 32 s 0
 have hwd1:=ij 32 s 1
 refine sR ?_
 refine JV ?_
 refine rK ?_
 refine sT [0,2,3] [2] ?_
 refine It ?_
 refine dJ ?_
 refine sS [0,2,3,4] [2] ?_
 refine Zer ?_
 refine Pt ?_
 refine jH ?_
 refine Jf ?_
 refine qf ?_
 refine cx 25 ?_ ?_<;>intro ga sga
 have h0w:0 < (aq 32 s).length:=MB
 have sga:=ga
 try simp only [qq] at sga
 refine Dc ?_
 refine JB ?_
 refine rS ?_
 refine sc ?_ ?_<;>intro hba
 have hc0:(2 < (aq 32 s).length∧(aq 32 s).getD 0 []=[97,100,109,105,116]):=eO
 have hr:=azs hc0
 have h1w:1 < (aq 32 s).length:=ab
 have hn2:=azh hc0.1
 refine Jd ?_
 refine cJ ?_
 refine Zdd ?_
 refine Eo ?_
 refine dA 7 ?_ (x:=pg VC)
 refine Zdf ?_
 refine dA 48 ?_ (x:=lE [val _] jA)
 refine dA 112 ?_ (x:=pg VC)
 refine dA 255 ?_ (x:=mq)
 refine dA 511 ?_ (x:=mq)
 refine dA 1023 ?_ (x:=sA)
 refine sS [0,2,3,4,5,6] [2,5] ?_
 refine gn ?_
 refine rA ?_ (x:=ZW (((aq 32 s).getD 0 []).length+((aq 32 s).getD 1 []).length+2) VC (u:=(s.drop (((aq 32 s).getD 0 []).length+((aq 32 s).getD 1 []).length+2))) ab ab yL)
 refine rA ?_ (x:=cL aM aM au8 (hs:=by exact (aAw sK)))
 refine bL ?_
 refine Zew ?_
 refine zL ?_
 refine rS ?_
 refine sU [0,2,3,4,5,6,7,8] [2,5] [7] ?_
 refine cJ ?_
 refine Qj ?_
 refine Eo ?_
 refine Zfa ?_
 refine dA 0 ?_ (x:=eP (ms:=jL) (qs:=iB) ak gD (fun h=>nomatch h) ay aj Md aQ)
 refine dA 31 ?_ (x:=cz (qs:=[(false,[val _]),(false,[val _]),(true,jL)]) (cs:=tl) ak ER EU LJ aj (by exact (aI (bq rfl) (aI ao (aI ao tI)))) rfl aj)
 refine dA 63 ?_ (x:=bR (ag:=true) (vs:=tl) si ao aj ay)
 refine ot ?_
 refine sU [0,2,3,4,5,6,7,8] [2] [5,7] ?_
 refine Sb ?_
 refine sG [0,2,3,4,5,6,7,8] [2,5,7] ?_
 refine qj ?_
 refine cx 86 ?_ ?_<;>intro gb sgb
 refine tK ?_
 exact Zfc
 refine rB gb ?_ (x:=lD wZ si)
 refine rB gb ?_ (x:=cL tg th Tl (hs:=Mf))
 refine DS ?_
 refine sc ?_ ?_<;>intro hbb
 exact Zfc
 have hys:=UR (s:=s) gI gI
 refine aK ?_
 refine sS [0,2,3,4,5,6,7,8] [2,5,7] ?_
 exact CD
 have hc0:¬(2 < (aq 32 s).length∧(aq 32 s).getD 0 []=[97,100,109,105,116]):=eO
 refine tD ?_
 refine iC ?_
 refine cx 58 ?_ ?_<;>intro gb sgb
 have h0w:0 < (aq 32 s).length:=Gx
 have sgb:=gb
 try simp only [qq] at sgb
 refine Qh ?_
 refine QZ ?_
 refine DX ?_
 refine sc ?_ ?_<;>intro hbb
 have hc1:((aq 32 s).length=2∧(aq 32 s).getD 0 []=[99,97,110,99,101,108]):=eO
 have hr:=aoi hc0 hc1
 have h1w:1 < (aq 32 s).length:=ab
 refine xr ?_
 refine CR ?_
 refine tH ?_
 refine CO ?_
 refine Ab ?_
 refine cx 86 ?_ ?_<;>intro gc sgc
 exact Zfi
 refine Zfj ?_
 refine ow ?_
 refine Rp ?_
 exact Zfk
 have hc1:¬((aq 32 s).length=2∧(aq 32 s).getD 0 []=[99,97,110,99,101,108]):=eO
 refine tD ?_
 refine iC ?_
 refine cx 73 ?_ ?_<;>intro gc sgc
 have h0w:0 < (aq 32 s).length:=MC
 have sgc:=gc
 try simp only [qq] at sgc
 refine Ik ?_
 refine JC ?_
 refine rS ?_
 refine sc ?_ ?_<;>intro hbc
 have hc2:((aq 32 s).length=2∧(aq 32 s).getD 0 []=[115,116,101,112]):=eO
 have hr:=UW hc0 hc1 hc2
 have h1w:1 < (aq 32 s).length:=ab
 refine xr ?_
 refine CR ?_
 refine tH ?_
 refine CO ?_
 refine Ab ?_
 refine cx 86 ?_ ?_<;>intro gd sgd
 exact Pe
 refine xJ ?_
 refine sc ?_ ?_<;>intro hbd
 exact CE
 exact Pd
 have hc2:¬((aq 32 s).length=2∧(aq 32 s).getD 0 []=[115,116,101,112]):=eO
 have hr:=Lv hc0 hc1 hc2
 refine Jl ?_
 refine IA ?_
 refine CQ ?_
 refine zH ?_
 refine rS ?_
 refine IT ?_
 refine tH ?_
 refine IV ?_
 refine qj ?_
 refine cx 86 ?_ ?_<;>intro gd sgd
 exact HP
 refine xJ ?_
 refine sc ?_ ?_<;>intro hbd
 exact CF
 exact HQ
 refine AC ?_
 exact Zfz
 refine AB ?_
 exact Zg0
 refine lG ?_
 refine qe ?_
 have hc0:¬(2 < (aq 32 s).length∧(aq 32 s).getD 0 []=[97,100,109,105,116]):=eO
 refine tD ?_
 refine iC ?_
 refine cx 58 ?_ ?_<;>intro gb sgb
 have h0w:0 < (aq 32 s).length:=Gx
 have sgb:=gb
 try simp only [qq] at sgb
 refine Qh ?_
 refine QZ ?_
 refine DX ?_
 refine sc ?_ ?_<;>intro hba
 have hc1:((aq 32 s).length=2∧(aq 32 s).getD 0 []=[99,97,110,99,101,108]):=eO
 have hr:=aoi hc0 hc1
 have h1w:1 < (aq 32 s).length:=ab
 refine xr ?_
 refine CR ?_
 refine tH ?_
 refine CO ?_
 refine Ab ?_
 refine cx 86 ?_ ?_<;>intro gc sgc
 exact Zfi
 refine Zfj ?_
 refine ow ?_
 refine Rp ?_
 exact Zg1
 exact Zg0
 refine AB ?_
 have hc1:¬((aq 32 s).length=2∧(aq 32 s).getD 0 []=[99,97,110,99,101,108]):=eO
 refine tD ?_
 refine iC ?_
 refine cx 73 ?_ ?_<;>intro gc sgc
 have h0w:0 < (aq 32 s).length:=MC
 have sgc:=gc
 try simp only [qq] at sgc
 refine Ik ?_
 refine JC ?_
 refine rS ?_
 refine sc ?_ ?_<;>intro hba
 have hc2:((aq 32 s).length=2∧(aq 32 s).getD 0 []=[115,116,101,112]):=eO
 have hr:=UW hc0 hc1 hc2
 have h1w:1 < (aq 32 s).length:=ab
 refine xr ?_
 refine CR ?_
 refine tH ?_
 refine CO ?_
 refine Ab ?_
 refine cx 86 ?_ ?_<;>intro gd sgd
 exact Pe
 refine xJ ?_
 exact Zg1
 exact Zg2
 refine AC ?_
 have hc2:¬((aq 32 s).length=2∧(aq 32 s).getD 0 []=[115,116,101,112]):=eO
 have hr:=Lv hc0 hc1 hc2
 refine Jl ?_
 refine IA ?_
 refine CQ ?_
 refine zH ?_
 refine rS ?_
 refine IT ?_
 refine tH ?_
 refine IV ?_
 refine qj ?_
 refine cx 86 ?_ ?_<;>intro gd sgd
 exact HP
 refine xJ ?_
 refine sc ?_ ?_<;>intro hba
 exact CF
 exact HQ
def aAH:er prog 27=some [(0,1),(1,1)]:=au
def aAI{p1 p2:Fl}{s:Store}{i:Int}(hb:da s≤68719476736):et prog gl 25 [(true,[sl .v (s.aC5.map (aG p1 p2)),val (vI s.Now)]),(false,[val (vI i)])] (aA [(false,[val (.string (B (qP s i)))])]):=by
 refine im (rs:=[(false,[val (.string (B (qP s i)))])]) func25 rfl (nl rfl) aQ ?_
 intro h0 w0 Fz0
 refine sn 0 0 fun hl0_0=>?_
 have hbu:=hb
 simp only [da,iR,bh] at hbu
 refine mr ?_
 refine dp ?_
 refine sT [1,2,4,7000] [2] ?_
 refine AQ ?_
 refine zn8 ?_
 refine cx 12 ?_ ?_<;>intro ga sga
 refine gY ?_
 exact Zgc
 refine fI ?_
 refine Dp ?_
 refine IU ?_
 refine CU ?_
 refine jQ ?_
 refine sc ?_ ?_<;>intro hba
 exact Zgc
 have hok:cy s=true∧aF i 0 (s.aC5.length - 1)=true:=Gq
 have hin:=hok.2
 simp only [aF,aR,decide_eq_true_eq] at hin
 obtain ⟨a1,a2,a3,a4,a5,a6⟩:=iE hok.1
 have hil:i.toNat < s.aC5.length:=ab
 have hsl:=a5 _ (List.getElem_mem hil)
 have hgd:s.aC5.getD i.toNat []=s.aC5[i.toNat]:=(dM hil).symm
 have hws:=dK (f:=cX) hil
 have hws2:cX s.aC5[i.toNat]=s.aC5[i.toNat].length+(s.aC5[i.toNat].map df).sum:=rfl
 refine aK ?_
 refine sS [1,2,4,7000] [2] ?_
 refine Dh ?_
 refine sS [1,2,4,5,7000] [2] ?_
 refine tO ?_
 refine Ql ?_
 refine vP ?_
 refine dm ?_
 refine sP [1,2,4,5,26,27,28,7000] [2] ?_
 refine sL [1,2,4,26,27,7000] [2] (fun k:Nat=>k≤s.aC5[i.toNat].length) (fun k:Nat=>[(5,RV.slc jG (((s.aC5[i.toNat].take k).map mX).map fm)),(28,RV.int (k:Int))]) (fun k:Nat=>[]) (fun k:Nat=>s.aC5[i.toNat].length - k) 0 ab kd ao ?_
 rintro k hk
 refine bP ?_
 refine sc ?_ ?_<;>intro hbb
 have hlt:k < s.aC5[i.toNat].length:=ab
 have hvo:=Bb hok.1 hil hlt
 have hv6:=UX hvo a4
 have hfl:=wD (fJ s.aC5[i.toNat][k])
 have hbl:(itoa s.aC5[i.toNat][k].aDk).length≤21:=bv br
 have hdl:(itoa s.aC5[i.toNat][k].aDg).length≤21:=bv br
 have hjl:=Ly hok.1 hil k
 have htk:(s.aC5[i.toNat].take k).length=k:=dh
 have hwm2:=dK (f:=df) hlt
 refine aY ?_
 refine sT [1,2,4,5,26,27,28,7000] [2] ?_
 refine Ay ?_
 refine bg ?_
 refine sU [1,2,4,5,7,26,27,28,7000] [2] [7] ?_
 refine cJ ?_
 refine dA 0 ?_ (x:=lD pc lV)
 refine dA 1 ?_ (x:=cL uY [(true,pc)] amf (hs:=by exact amu ab))
 refine dA 3 ?_ (x:=gL jK ly Ts (hs:=by exact Vv))
 refine dA 7 ?_ (x:=cZ)
 refine dA 0 ?_ (x:=lF nH)
 refine Zbr ?_
 refine dA 127 ?_ (x:=cZ)
 refine dA 255 ?_ (x:=sA)
 refine bg ?_
 refine sS [1,2,4,5,7,8,26,27,28,7000] [2,7] ?_
 refine IP ?_
 refine nu ?_
 refine sc ?_ ?_<;>intro hbc
 have hd:=hbc
 refine sG [1,2,4,5,7,8,26,27,28,7000] [2,7] ?_
 refine rM ?_
 refine rA ?_ (x:=lF la)
 refine Iq ?_
 refine vX ?_
 refine vX ?_
 refine rS ?_
 exact Zge
 have hd:s.aC5[i.toNat][k].aDg = -1:=gx
 refine aK ?_
 exact Zge
 have hend:k=s.aC5[i.toNat].length:=ab
 have hjl:=Ly hok.1 hil k
 subst hend
 rw [bG] at hjl ⊢
 have hml:(s.aC5[i.toNat].map mX).length=s.aC5[i.toNat].length:=aX _
 refine be ?_
 refine sT [1,2,4,5,26,27,28,7000] [2] ?_
 refine Zg6 ?_
 refine dI ?_
 exact (aI (by refine eY ?_;exact gF (by unfold qP;rw [if_pos BH,hgd])) tI)
def aAJ{p1 p2:Fl}{s:Store}{i:Int}(hb:da s≤68719476736):aE prog 26 [(true,[sl .v (s.aC5.map (aG p1 p2)),val (vI s.Now)]),(false,[val (vI i)])] (aA [(false,[val (.string (B (qP s i)))])]):=by
 refine sF func26 fun h0 w0 Fz0=>?_
 refine sn 0 0 fun hl0_0=>?_
 refine mr ?_
 refine DM ?_
 refine Zgf ?_
 refine dq ?_
 refine cx 11 ?_ ?_<;>intro ga sga
 refine gY ?_
 exact Zgg
 refine fI ?_
 refine Dp ?_
 refine IU ?_
 refine JA ?_
 refine sc ?_ ?_<;>intro hba
 exact Zgg
 have hok:cy s=true∧aF i 0 (s.aC5.length - 1)=true:=Gq
 have hin:=hok.2
 simp only [aF,aR,decide_eq_true_eq] at hin
 obtain ⟨a1,a2,a3,a4,a5,a6⟩:=iE hok.1
 have hil:i.toNat < s.aC5.length:=ab
 have hsl:=a5 _ (List.getElem_mem hil)
 have hgd:s.aC5.getD i.toNat []=s.aC5[i.toNat]:=(dM hil).symm
 have hws:=dK (f:=cX) hil
 have hws2:cX s.aC5[i.toNat]=s.aC5[i.toNat].length+(s.aC5[i.toNat].map df).sum:=rfl
 refine aK ?_
 refine sS [1,2,4] [2] ?_
 refine dp ?_
 refine wa ?_
 refine cm ?_
 refine sP [1,2,4,5,6] [2] ?_
 refine sL [1,2,4] [2] (fun k:Nat=>k≤s.aC5[i.toNat].length) (fun k:Nat=>[(5,RV.sc (.string (B (cI ((s.aC5[i.toNat].take k).map mX) [32])))),(6,RV.int (k:Int))]) (fun k:Nat=>[]) (fun k:Nat=>s.aC5[i.toNat].length - k) 0 ab ej ao ?_
 rintro k hk
 refine bI ?_
 refine tO ?_
 refine Ql ?_
 refine Du ?_
 refine sc ?_ ?_<;>intro hbb
 have hlt:k < s.aC5[i.toNat].length:=ab
 have hvo:=Bb hok.1 hil hlt
 have hv6:=UX hvo a4
 have hfl:=wD (fJ s.aC5[i.toNat][k])
 have hbl:(itoa s.aC5[i.toNat][k].aDk).length≤21:=bv br
 have hdl:(itoa s.aC5[i.toNat][k].aDg).length≤21:=bv br
 have hjl:=Ly hok.1 hil k
 have htk:(s.aC5[i.toNat].take k).length=k:=dh
 have hwm2:=dK (f:=df) hlt
 refine aY ?_
 refine sT [1,2,4,5,6] [2] ?_
 refine tO ?_
 refine Ql ?_
 refine rM ?_
 refine Ay ?_
 refine bg ?_
 refine sV [1,2,4,5,6,7] [2] [7] ?_
 refine rM ?_
 refine ov ?_
 refine sc ?_ ?_<;>intro hbc
 have hk0:¬k=0:=ab
 refine sG [1,2,4,5,6,7] [2,7] ?_
 refine rF ?_
 refine rS ?_
 exact Zgi
 have hk0:k=0:=ab
 refine aK ?_
 exact Zgi
 have hend:k=s.aC5[i.toNat].length:=ab
 subst hend
 rw [bG]
 have hle:=ano (ws:=s.aC5[i.toNat].map mX) (by intro y hy;obtain ⟨r,hr,rfl⟩:=List.mem_map.1 hy;exact azu _)
 refine gk ?_
 refine sT [1,2,4,5,6] [2] ?_
 refine JD ?_
 refine sc ?_ ?_<;>intro hbc
 have he:=hbc
 refine sS [1,2,4,5,6] [2] ?_
 refine rK ?_
 exact Zgj
 have he:=hbc
 refine aK ?_
 refine sS [1,2,4,5,6] [2] ?_
 refine tP ?_
 exact Zgj
def aAK{p1 p2 p3:Fl}{l:List cw}(hb:l.length≤1048576):et Tryz.prog gl 29 [(false,[sl .v (l.map (ba p1 p2 p3))])] (aA [(false,[val (.string (B (yF l)))])]):=by
 refine im (rs:=[(false,[val (.string (B (yF l)))])]) Tryz.func29 rfl (nl rfl) (jI (aW.cons (bor_sl _) aW.nil) kJ) ?_
 intro h0 w0 Fz0
 refine sj 0 fun hl0=>?_
 have htw:=EI l
 refine Jw ?_
 refine cv ?_
 refine rA ?_ (x:=cL cf cC avi (hs:=by exact av9 ab))
 refine JW ?_
 refine Zbt ?_
 refine iP ?_
 refine tU ?_
 refine cm ?_
 refine sP [0,2,3,4,7000] [] ?_
 refine sL [0,2,7000] [] (fun k:Nat=>k≤4) (fun k:Nat=>[(3,RV.slc jG ((oQ l k).map fm)),(4,RV.int (k:Int))]) (fun k:Nat=>[]) (fun k:Nat=>4 - k) 0 ab ej ao ?_
 rintro k hk
 refine xB ?_
 refine sc ?_ ?_<;>intro hba
 have hlt:k < 4:=ab
 have hwl:=Lz (l:=l) (k:=k)
 have htc:=EJ l (k:Int)
 have hil:(itoa (k:Int)).length≤21:=bv br
 have htl:(itoa (qx l (k:Int))).length≤21:=bv br
 refine aY ?_
 refine sG [0,2,3,4,7000] [] ?_
 refine zl1 ?_
 refine vX ?_
 refine iO ?_
 refine rA ?_ (x:=cL gJ gK avj (hs:=by exact awd ab))
 refine JW ?_
 refine rA ?_ (x:=cB (qs:=dl) ak dc qC ak rfl rfl rfl rfl rfl ay iY rfl)
 refine RY ?_
 refine dJ ?_
 refine sG [0,2,3,4,7000] [] ?_
 refine bO ?_
 refine nx (k+1) ab (e:=(by exact aI (by exact bC (by rw [UY,bo];rfl)) (aI aj tI)))
 have hend:k=4:=ab
 subst hend
 have hwl:=Lz (l:=l) (k:=4)
 have hjl:=UZ hb (k:=4) ab
 refine be ?_
 refine sS [0,2,3,4,7000] [] ?_
 refine cv ?_
 refine rA ?_ (x:=cL gJ gK Bh (hs:=by exact (Bn ab ab)))
 exact Zgl
def aAL{p1 p2 p3:Fl}{l:List cw}(hb:l.length≤1048576):aE Tryz.prog 30 [(false,[sl .v (l.map (ba p1 p2 p3))])] (aA [(false,[val (.string (B (yF l)))])]):=by
 refine sF Tryz.func30 fun h0 w0 Fz0=>?_
 refine sj 0 fun hl0=>?_
 have htw:=EI l
 have htl0:(itoa (ui l)).length≤21:=bv br
 refine xD ?_
 refine cv ?_
 refine rA ?_ (x:=cL cf cC avk (hs:=by exact awa ab))
 refine Df ?_
 refine dr ?_
 refine tF ?_
 refine sL [0,2] [] (fun k:Nat=>k≤4) (fun k:Nat=>[(3,RV.sc (.string (B (cI (oQ l k) [32])))),(4,RV.int (k:Int))]) (fun k:Nat=>[]) (fun k:Nat=>4 - k) 0 ab (by exact aI (by exact congrArg (fun z=>some (RV.sc (.string (B z)))) (by simp [oQ,cI,Lib.join_cons,Lib.joinTail])) (aI aj tI)) ao ?_
 rintro k hk
 refine xB ?_
 refine sc ?_ ?_<;>intro hba
 have hlt:k < 4:=ab
 have hwl:=Lz (l:=l) (k:=k)
 have htc:=EJ l (k:Int)
 have hil:(itoa (k:Int)).length≤21:=bv br
 have htl:(itoa (qx l (k:Int))).length≤21:=bv br
 have hjl:=UZ hb (k:=k) ab
 refine Jv ?_
 refine rF ?_
 refine rM ?_
 refine Df ?_
 refine vX ?_
 refine iO ?_
 refine rA ?_ (x:=cL gJ gK avl (hs:=by exact awe ab))
 refine Df ?_
 refine rS ?_
 refine DJ ?_
 refine nx (k+1) ab (e:=(by exact aI (by exact congrArg (fun z=>some (RV.sc (.string (B z)))) (by rw [UY,SH azw];simp [bn])) (aI aj tI)))
 have hend:k=4:=ab
 subst hend
 refine be ?_
 refine xy ?_
 exact Zgl
end Go.Proofs.YtmekkgdboplbjaaGreatDoor
