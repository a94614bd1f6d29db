/- What functions of the program compute. No condition. -/
import Derived.Test.YtmekkgdboplbjaaGreatDoorDK1
import Derived.Test.YtmekkgdboplbjaaGreatDoorDG1
import Derived.Test.YtmekkgdboplbjaaGreatDoorDI1
set_option linter.all false
namespace Go.Proofs.YtmekkgdboplbjaaGreatDoor
open Go Go.RowKit M PV Tryz
set_option maxRecDepth 10000
attribute [local irreducible] PV.Lcl PV.LclR RV.Lcl
def PF{q:ac9}:db prog gl 105 [(true,[val (vI q.Id),val (vI q.ade),sl .v (q.ada.map bU),sl .v (q.Out.map ax)])] (aJ [(false,[val (.string (B (cw q)))])]):=by
 refine gq (rs:=[(false,[val (.string (B (cw q)))])]) func105 rfl (nl rfl) bn ?_
 intro h0 w0 Fz0
 refine sn 0 2 fun hl0_2=>?_
 refine sn 0 3 fun hl0_3=>?_
 refine nB ?_
 refine uM ?_
 refine qe ?_
 refine fw ?_
 refine sc ?_ ?_<;>intro hba
 have hok:aQ q=false:=gp
 refine oQ ?_
 exact Jp
 have hok:aQ q=true:=gp
 obtain ⟨a1,a2,a3,a4,a5,a6,a7,a8⟩:=py hok
 have hil:(itoa q.Id).length≤21:=dj cR
 have hitl:(itoa q.ade).length≤21:=dj cR
 have hll:=mO a7
 refine dH ?_
 refine sP [1,2,7000] [1] ?_
 refine dr ?_
 refine dA 0 ?_ (x:=lF nJ)
 refine BJ ?_
 refine dA 7 ?_ (x:=dL)
 refine dA 0 ?_ (x:=lF vg)
 refine dA 16 ?_ (x:=lD [val _] bB)
 refine dA 55 ?_ (x:=gL [(false,[val _])] [(false,[val _])] mY (hs:=me))
 refine dA 119 ?_ (x:=dL)
 refine dA 255 ?_ (x:=dq (qs:=[(false,[val _]),(false,[val _])]) ae eo nW ae rfl rfl rfl rfl rfl aH mc rfl)
 refine dA 511 ?_ (x:=tA)
 refine aU ?_
 refine sS [1,2,3,7000] [1] ?_
 refine sf ?_
 refine dM ?_
 refine sP [1,2,3,19,20,21,7000] [1] ?_
 refine sL [1,2,19,20,7000] [1] (fun k:Nat=>k≤q.ada.length) (fun k:Nat=>[(3,RV.slc (.own 9 1) ((eU q k).map nI)),(21,RV.int (k:Int))]) (fun k:Nat=>[]) (fun k:Nat=>q.ada.length - k) 0 ab jm au ?_
 rintro k hk
 refine bO ?_
 refine sc ?_ ?_<;>intro hbb
 have hlt:k < q.ada.length:=ab
 have hck:=a8 k hlt
 have hf1:(itoa q.ada[k].Field).length≤21:=dj cR
 have hf2:(itoa q.ada[k].Low).length≤21:=dj cR
 have hf3:(itoa q.ada[k].High).length≤21:=dj cR
 have hjl:=vL hok k
 have hql:=vK (q:=q) k
 rw [cu] at hql
 refine bA ?_
 refine sT [1,2,3,19,20,21,7000] [1] ?_
 refine xF ?_
 refine BB ?_
 refine sO [(1,_),(2,_),(3,_),(5,_),(19,_),(20,_),(21,_),(7000,_)] [(1,_),(5,(65,gH))] ?_
 refine dr ?_
 refine dA 0 ?_ (x:=tM)
 refine dA 0 ?_ (x:=lF oU)
 refine Ll ?_
 refine dA 14 ?_ (x:=dL)
 refine dA 0 ?_ (x:=lF vi)
 refine dA 32 ?_ (x:=lD [val _] bB)
 refine dA 110 ?_ (x:=gL [(false,[val _])] [(false,[val _])] mY (hs:=me))
 refine dA 238 ?_ (x:=dL)
 refine dA 0 ?_ (x:=lF oV)
 refine dA 512 ?_ (x:=lD [val _] bB)
 refine dA 1774 ?_ (x:=gL [(false,[val _])] [(false,[val _])] mY (hs:=me))
 refine dA 4078 ?_ (x:=dL)
 refine dA 8190 ?_ (x:=dq (qs:=[(false,[val _]),(false,[val _])]) ae eo nW ae rfl rfl rfl rfl rfl aH mc rfl)
 refine dA 16383 ?_ (x:=ir ae eo nW rfl rfl ae rfl ck ck)
 refine dA 32767 ?_ (x:=tA)
 refine sG [1,2,3,5,19,20,21,7000] [1,5] ?_
 refine cf ?_
 refine nx (k+1) ab (e:=(by exact aI (by exact cU (by rw [OC hlt,bL];rfl)) (aI aj tI)))
 have hend:k=q.ada.length:=ab
 subst hend
 have hjl:=vL hok q.ada.length
 have hql:=vK (q:=q) q.ada.length
 rw [cu] at hql
 have hfe:=congrArg List.length (En (q:=q) q.ada.length)
 simp only [aZ,List.length_cons,List.length_nil] at hfe
 refine bv ?_
 refine sT [1,2,3,19,20,21,7000] [1] ?_
 refine bW ?_
 refine Cj ?_
 refine rA ?_ (x:=gL [(false,[sl _ _])] [(false,[sl .v _])] DQ (hs:=by exact (Ek a7 ab)))
 refine rA ?_ (x:=dq (qs:=[(false,[val _]),(false,[val _])]) ae eo nW ae rfl rfl rfl rfl rfl aH (by exact (aI (bI rfl) (aI au tI))) rfl)
 refine LW ?_
 refine rA ?_ (x:=wN (qs:=[(false,[sl _ _]),(false,[val _])]) (as_:=[(false,[sl .v _]),(false,[val _])]) ae DO (by exact (aI au (aI (bI rfl) tI))) (by exact (aI (aI rfl (aA.cons (PV.to_eqv (ds:=(eU q q.ada.length++[[111,117,116],cJ q.Out]).map nI) (by rw [bL];exact rfl)) aA.nil)) (aI (aI rfl (aD aA.nil)) tI))) (by exact (Ej (xs:=eU q q.ada.length++[[111,117,116],cJ q.Out]) (sep:=[32]) (by rw [aZ];simp only [List.length_cons,List.length_nil];omega) ab)))
 refine cW ?_
 exact (aI (by refine eb ?_;exact fK (by unfold cw;rw [if_pos hok])) tI)
def ZP{q:ac9}:aS prog 33 [(true,[val (vI q.Id),val (vI q.ade),sl .v (q.ada.map bU),sl .v (q.Out.map ax)])] (aJ [(false,[val (.string (B (cw q)))])]):=by
 refine sF func33 fun h0 w0 Fz0=>?_
 refine sn 0 2 fun hl0_2=>?_
 refine sn 0 3 fun hl0_3=>?_
 refine nB ?_
 refine oG ?_
 refine qx ?_
 refine rA ?_ (x:=cL [(true,cD)] [(true,cI)] De (hs:=by exact Ef))
 refine fw ?_
 refine sc ?_ ?_<;>intro hba
 have hok:aQ q=false:=gp
 refine sS [1,2] [1] ?_
 exact Jp
 have hok:aQ q=true:=gp
 obtain ⟨a1,a2,a3,a4,a5,a6,a7,a8⟩:=py hok
 have hil:(itoa q.Id).length≤21:=dj cR
 have hitl:(itoa q.ade).length≤21:=dj cR
 have hll:=mO a7
 refine dH ?_
 refine sP [1,2] [1] ?_
 refine dr ?_
 refine dA 0 ?_ (x:=lF nJ)
 refine Lk ?_
 refine dA 7 ?_ (x:=dL)
 refine dA 15 ?_ (x:=dL)
 refine dA 0 ?_ (x:=lF vg)
 refine dA 32 ?_ (x:=lD [val _] bB)
 refine dA 103 ?_ (x:=cL [(false,[val _])] [(false,[val _])] tq (hs:=rq))
 refine dA 255 ?_ (x:=dL)
 refine dA 511 ?_ (x:=sA)
 refine aU ?_
 refine jX ?_
 refine iY ?_
 refine sP [1,2,3,4] [1] ?_
 refine sL [1,2] [1] (fun k:Nat=>k≤q.ada.length) (fun k:Nat=>[(3,RV.sc (.string (B (ee (eU q k) [32])))),(4,RV.int (k:Int))]) (fun k:Nat=>[]) (fun k:Nat=>q.ada.length - k) 0 ab (by exact aI (by exact congrArg (fun z=>some (RV.sc (.string (B z)))) (by simp [eU,ee,Lib.join_cons,Lib.joinTail])) (aI aj tI)) au ?_
 rintro k hk
 refine jU ?_
 refine sf ?_
 refine fx ?_
 refine sc ?_ ?_<;>intro hbb
 have hlt:k < q.ada.length:=ab
 have hck:=a8 k hlt
 have hf1:(itoa q.ada[k].Field).length≤21:=dj cR
 have hf2:(itoa q.ada[k].Low).length≤21:=dj cR
 have hf3:(itoa q.ada[k].High).length≤21:=dj cR
 have hjl:=vL hok k
 have hql:=vK (q:=q) k
 rw [cu] at hql
 refine bA ?_
 refine sQ [1,2,3,4] [1] ?_
 refine dr ?_
 refine jy ?_
 refine dA 1 ?_ (x:=dL)
 refine dA 0 ?_ (x:=lF kK)
 refine dA 4 ?_ (x:=lD [sl .v _] lJ)
 refine jy ?_
 refine dA 28 ?_ (x:=bT ae gK au aj dW aj)
 refine dA 60 ?_ (x:=lg ae oU aH)
 refine dA 124 ?_ (x:=lE [val _] bB)
 refine dA 252 ?_ (x:=cL [(false,[val _])] [(false,[val _])] tq (hs:=rq))
 refine dA 511 ?_ (x:=dL)
 refine dA 1023 ?_ (x:=dL)
 refine dA 0 ?_ (x:=lF kK)
 refine dA 2048 ?_ (x:=lD [sl .v _] lJ)
 refine jy ?_
 refine dA 14336 ?_ (x:=bT ae gK au aj dW aj)
 refine dA 30720 ?_ (x:=lg ae vi aH)
 refine dA 63488 ?_ (x:=lE [val _] bB)
 refine dA 129532 ?_ (x:=cL [(false,[val _])] [(false,[val _])] tq (hs:=rq))
 refine dA 262143 ?_ (x:=dL)
 refine dA 524287 ?_ (x:=dL)
 refine dA 0 ?_ (x:=lF kK)
 refine dA 1048576 ?_ (x:=lD [sl .v _] lJ)
 refine jy ?_
 refine dA 7340032 ?_ (x:=bT ae gK au aj dW aj)
 refine dA 15728640 ?_ (x:=lg ae oV aH)
 refine dA 32505856 ?_ (x:=lE [val _] bB)
 refine dA 66320892 ?_ (x:=cL [(false,[val _])] [(false,[val _])] tq (hs:=rq))
 refine dA 134217727 ?_ (x:=dL)
 refine dA 268435455 ?_ (x:=sA)
 refine sG [1,2,3,4] [1] ?_
 refine jV ?_
 refine nx (k+1) ab (e:=(by exact aI (by exact congrArg (fun z=>some (RV.sc (.string (B z)))) (by rw [OC hlt];unfold gS;rw [MX OD];simp [aW])) (aI aj tI)))
 have hend:k=q.ada.length:=ab
 subst hend
 have hjl:=vL hok q.ada.length
 refine bv ?_
 refine sT [1,2,3,4] [1] ?_
 refine rM ?_
 refine oO ?_
 refine Cj ?_
 refine rA ?_ (x:=cL [(false,[sl _ _])] [(false,[sl .v _])] Of (hs:=by exact (Ou a7 ab)))
 refine oO ?_
 refine cW ?_
 exact (aI (by refine eb ?_;exact fK (by unfold cw;rw [if_pos hok,En])) tI)
def PG{u:adb}:db prog gl 106 [(true,[val (vI u.Kind),val (vI u.Row.Id),sl .v (u.Row.Values.map ax),val (vI u.Field),val (vI u.Value)])] (aJ [(false,[val (.string (B (dO u)))])]):=by
 refine gq (rs:=[(false,[val (.string (B (dO u)))])]) func106 rfl (nl rfl) bn ?_
 intro h0 w0 Fz0
 refine sn 0 2 fun hl0_2=>?_
 refine BR ?_
 refine uM ?_
 refine CK ?_
 refine Mr ?_
 refine fw ?_
 refine sc ?_ ?_<;>intro hba
 have hok:ci u=false:=gp
 refine oQ ?_
 refine bG ?_
 exact (aI (by refine eb ?_;exact fK (by unfold dO;rw [if_neg rn])) tI)
 have hok:ci u=true:=gp
 obtain ⟨a1,a2,a3,a4,a5,a6⟩:=OF hok
 have hrl:=DH u.Row
 have h3:(itoa u.Row.Id).length≤21:=dj cR
 have h4:(itoa u.Field).length≤21:=dj cR
 have h5:(itoa u.Value).length≤21:=dj cR
 refine dH ?_
 refine oQ ?_
 refine oD ?_
 refine fG ?_
 refine uL ?_
 refine sc ?_ ?_<;>intro hbb
 have k1:=hbb
 refine sN ?_
 refine oN ?_
 refine qw ?_
 refine rA ?_ (x:=gL [(true,cO)] [(true,dK)] Oe (hs:=by exact PD))
 refine oO ?_
 refine cW ?_
 exact (aI (by refine eb ?_;exact fK (by unfold dO;rw [if_pos hok,if_pos k1])) tI)
 have k1:=hbb
 refine uL ?_
 refine sc ?_ ?_<;>intro hbc
 have k2:=hbc
 refine sN ?_
 refine oN ?_
 refine nD ?_
 refine BO ?_
 refine cW ?_
 exact (aI (by refine eb ?_;exact fK (by unfold dO;rw [if_pos hok,if_neg k1,if_pos k2])) tI)
 have k2:=hbc
 refine dH ?_
 refine sP [1,2,7,7000] [1] ?_
 refine dr ?_
 refine dA 0 ?_ (x:=lF tf)
 refine dA 1 ?_ (x:=lF mM)
 refine dA 3 ?_ (x:=lD [val _] bB)
 refine dA 7 ?_ (x:=gL [(false,[val _])] [(false,[val _])] mY (hs:=me))
 refine dA 15 ?_ (x:=dL)
 refine dA 31 ?_ (x:=dL)
 refine dA 0 ?_ (x:=lF yv)
 refine dA 64 ?_ (x:=lD [val _] bB)
 refine dA 207 ?_ (x:=gL [(false,[val _])] [(false,[val _])] mY (hs:=me))
 refine dA 511 ?_ (x:=dL)
 refine dA 1023 ?_ (x:=dL)
 refine dA 0 ?_ (x:=lF qB)
 refine dA 2048 ?_ (x:=lD [val _] bB)
 refine dA 6607 ?_ (x:=gL [(false,[val _])] [(false,[val _])] mY (hs:=me))
 refine dA 16383 ?_ (x:=dL)
 refine dA 32767 ?_ (x:=sA)
 refine cv ?_
 exact (aI (by refine eb ?_;exact fK (by unfold dO;rw [if_pos hok,if_neg k1,if_neg k2])) tI)
def ZQ{x:bR}:db prog gl 38 [(true,[val (vI x.Kind),val (vI x.ac9.Id),val (vI x.ac9.ade),sl .v (x.ac9.ada.map bU),sl .v (x.ac9.Out.map ax),val (vI x.Limit),val (vI x.Id),val (vI x.adb.Kind),val (vI x.adb.Row.Id),sl .v (x.adb.Row.Values.map ax),val (vI x.adb.Field),val (vI x.adb.Value),val (vI x.Steps)])] (aJ [(false,[val (.string (B (bP x)))])]):=by
 refine gq (rs:=[(false,[val (.string (B (bP x)))])]) func38 rfl (nl rfl) bn ?_
 intro h0 w0 Fz0
 refine sn 0 3 fun hl0_3=>?_
 refine sn 0 4 fun hl0_4=>?_
 refine sn 0 9 fun hl0_9=>?_
 refine KZ ?_
 refine uM ?_
 refine CL ?_
 refine rA ?_ (x:=cL [(true,ju)] [(true,nu)] DL (hs:=by exact Em))
 refine fw ?_
 refine sc ?_ ?_<;>intro hba
 have hok:ca x=false:=gp
 refine oQ ?_
 refine bG ?_
 exact (aI (by refine eb ?_;exact fK (by unfold bP;rw [if_neg rn])) tI)
 have hok:ca x=true:=gp
 obtain ⟨a1,a2,a3,a4,a5,a6⟩:=XZ hok
 have hql:=OE x.ac9
 have h3:(itoa x.Limit).length≤21:=dj cR
 have h4:(itoa x.Id).length≤21:=dj cR
 have h5:(itoa x.Steps).length≤21:=dj cR
 refine dH ?_
 refine oQ ?_
 refine xR ?_
 refine fG ?_
 refine uL ?_
 refine sc ?_ ?_<;>intro hbb
 have k1:=hbb
 refine aU ?_
 refine sP [1,2,7,7000] [1] ?_
 refine dr ?_
 refine dA 0 ?_ (x:=lF tg)
 refine BJ ?_
 refine dA 7 ?_ (x:=dL)
 refine dA 15 ?_ (x:=dL)
 refine dA 0 ?_ (x:=lF vh)
 refine dA 32 ?_ (x:=lD cI gi)
 refine dA 103 ?_ (x:=gL [(true,cD)] [(true,cI)] DJ (hs:=by exact PF))
 refine dA 255 ?_ (x:=dL)
 refine dA 511 ?_ (x:=sA)
 refine cv ?_
 exact (aI (by refine eb ?_;exact fK (by unfold bP;rw [if_pos hok,if_pos k1])) tI)
 have k1:=hbb
 refine uL ?_
 refine sc ?_ ?_<;>intro hbc
 have k2:=hbc
 refine sN ?_
 refine rA ?_ (x:=lF th)
 refine eA ?_
 refine BO ?_
 refine cW ?_
 exact (aI (by refine eb ?_;exact fK (by unfold bP;rw [if_pos hok,if_neg k1,if_pos k2])) tI)
 have k2:=hbc
 refine uL ?_
 refine sc ?_ ?_<;>intro hbd
 have k3:=hbd
 refine sN ?_
 refine uE ?_
 refine rA ?_ (x:=gL [(true,iX)] [(true,jQ)] NT (hs:=by exact PG))
 refine cW ?_
 exact (aI (by refine eb ?_;exact fK (by unfold bP;rw [if_pos hok,if_neg k1,if_neg k2,if_pos k3])) tI)
 have k3:=hbd
 refine bd ?_
 refine sN ?_
 refine rA ?_ (x:=lF qC)
 refine eA ?_
 refine BO ?_
 refine cW ?_
 exact (aI (by refine eb ?_;exact fK (by unfold bP;rw [if_pos hok,if_neg k1,if_neg k2,if_neg k3])) tI)
end Go.Proofs.YtmekkgdboplbjaaGreatDoor
