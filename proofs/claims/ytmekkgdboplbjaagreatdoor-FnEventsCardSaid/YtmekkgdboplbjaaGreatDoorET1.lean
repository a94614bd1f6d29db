/- What functions of the program compute. No condition. -/
import Derived.Test.YtmekkgdboplbjaaGreatDoorEQ1
import Derived.Test.YtmekkgdboplbjaaGreatDoorEM1
set_option linter.all false
namespace Go.Proofs.YtmekkgdboplbjaaGreatDoor
open Go Go.RowKit M PV Tryz
set_option maxRecDepth 10000
attribute [local irreducible] PV.Lcl PV.LclR RV.Lcl
def alv{q:ax4}:gu prog gl 105 [(true,[val (vI q.Id),val (vI q.ax8),sl .v (q.ax5.map bF),sl .v (q.Out.map ar)])] (aB [(false,[val (.string (B (eE q)))])]):=by
 refine lX (rs:=[(false,[val (.string (B (eE q)))])]) func105 rfl (nl rfl) bg ?_
 intro h0 w0 Fz0
 refine sn 0 2 fun hl0_2=>?_
 refine sn 0 3 fun hl0_3=>?_
 refine py ?_
 refine Iq ?_
 refine Cb ?_
 refine gx ?_
 refine sc ?_ ?_<;>intro hba
 have hok:bN q=false:=gn
 refine sS [1,2,7000] [1] ?_
 exact Zaq
 have hok:bN q=true:=gn
 obtain ⟨a1,a2,a3,a4,a5,a6,a7,a8⟩:=ya hok
 have hil:(itoa q.Id).length≤21:=eH et
 have hitl:(itoa q.ax8).length≤21:=eH et
 have hll:=vk a7
 refine dp ?_
 refine sP [1,2,7000] [1] ?_
 refine cC ?_
 refine dA 0 ?_ (x:=lF kQ)
 refine OD ?_
 refine dA 7 ?_ (x:=fA)
 refine dA 0 ?_ (x:=lF tz)
 refine dA 16 ?_ (x:=lD [val _] bb)
 refine dA 55 ?_ (x:=gL [(false,[val _])] [(false,[val _])] rD (hs:=qE))
 refine dA 119 ?_ (x:=fA)
 refine dA 255 ?_ (x:=cj (qs:=[(false,[val _]),(false,[val _])]) aj eR vt aj rfl rfl rfl rfl rfl az ip rfl)
 refine dA 511 ?_ (x:=tA)
 refine aU ?_
 refine sS [1,2,3,7000] [1] ?_
 refine HG ?_
 refine fK ?_
 refine sP [1,2,3,19,20,21,7000] [1] ?_
 refine sL [1,2,19,20,7000] [1] (fun k:Nat=>k≤q.ax5.length) (fun k:Nat=>[(3,RV.slc un ((im q k).map mS)),(21,RV.int (k:Int))]) (fun k:Nat=>[]) (fun k:Nat=>q.ax5.length - k) 0 ab gp an ?_
 rintro k hk
 refine cY ?_
 refine sc ?_ ?_<;>intro hbb
 have hlt:k < q.ax5.length:=ab
 have hck:=a8 k hlt
 have hf1:(itoa q.ax5[k].Field).length≤21:=eH et
 have hf2:(itoa q.ax5[k].Low).length≤21:=eH et
 have hf3:(itoa q.ax5[k].High).length≤21:=eH et
 have hjl:=Ej hok k
 have hql:=Ei (q:=q) k
 rw [cI] at hql
 refine bv ?_
 refine sT [1,2,3,19,20,21,7000] [1] ?_
 refine Ow ?_
 refine zfm ?_
 refine sO [(1,_),(2,_),(3,_),(5,_),(19,_),(20,_),(21,_),(7000,_)] [(1,_),(5,(65,iY))] ?_
 refine CB ?_
 refine dA 0 ?_ (x:=lF rt)
 refine dA 2 ?_ (x:=lD [val _] bb)
 refine dA 6 ?_ (x:=gL [(false,[val _])] [(false,[val _])] rD (hs:=qE))
 refine dA 14 ?_ (x:=fA)
 refine dA 0 ?_ (x:=lF DC)
 refine dA 32 ?_ (x:=lD [val _] bb)
 refine dA 110 ?_ (x:=gL [(false,[val _])] [(false,[val _])] rD (hs:=qE))
 refine dA 238 ?_ (x:=fA)
 refine dA 0 ?_ (x:=lF vc)
 refine dA 512 ?_ (x:=lD [val _] bb)
 refine dA 1774 ?_ (x:=gL [(false,[val _])] [(false,[val _])] rD (hs:=qE))
 refine dA 4078 ?_ (x:=fA)
 refine dA 8190 ?_ (x:=cj (qs:=[(false,[val _]),(false,[val _])]) aj eR vt aj rfl rfl rfl rfl rfl az ip rfl)
 refine dA 16383 ?_ (x:=fc aj eR vt rfl rfl aj rfl bq bq)
 refine dA 32767 ?_ (x:=tA)
 refine sG [1,2,3,5,19,20,21,7000] [1,5] ?_
 refine dI ?_
 refine nx (k+1) ab (e:=(by exact aI (by exact cz (by rw [akD hlt,bK];rfl)) (aI ak tI)))
 have hend:k=q.ax5.length:=ab
 subst hend
 have hjl:=Ej hok q.ax5.length
 have hql:=Ei (q:=q) q.ax5.length
 rw [cI] at hql
 have hfe:=congrArg List.length (Tn (q:=q) q.ax5.length)
 simp only [bJ,List.length_cons,List.length_nil] at hfe
 refine bI ?_
 refine sT [1,2,3,19,20,21,7000] [1] ?_
 refine cb ?_
 refine PI ?_
 refine rA ?_ (x:=gL [(false,[sl _ _])] [(false,[sl .v _])] aiR (hs:=by exact (ajq a7 ab)))
 refine rA ?_ (x:=cj (qs:=[(false,[val _]),(false,[val _])]) aj eR vt aj rfl rfl rfl rfl rfl az vW rfl)
 refine Zar ?_
 refine rA ?_ (x:=yu (qs:=[(false,[sl _ _]),(false,[val _])]) (as_:=[(false,[sl .v _]),(false,[val _])]) aj aiM VK (by exact (aI (aI rfl (aJ.cons (PV.to_eqv (ds:=(im q q.ax5.length++[[111,117,116],eX q.Out]).map mS) (by rw [bK];exact rfl)) aJ.nil)) (aI (aI rfl (aD aJ.nil)) tI))) (by exact (ajp (xs:=im q q.ax5.length++[[111,117,116],eX q.Out]) (sep:=[32]) (by rw [bJ];simp only [List.length_cons,List.length_nil];omega) ab)))
 refine db ?_
 exact (aI (by refine iL ?_;exact kT (by unfold eE;rw [if_pos hok])) tI)
def alw{q:ax4}:aQ prog 33 [(true,[val (vI q.Id),val (vI q.ax8),sl .v (q.ax5.map bF),sl .v (q.Out.map ar)])] (aB [(false,[val (.string (B (eE q)))])]):=by
 refine sF func33 fun h0 w0 Fz0=>?_
 refine sn 0 2 fun hl0_2=>?_
 refine sn 0 3 fun hl0_3=>?_
 refine py ?_
 refine ma ?_
 refine Hh ?_
 refine gx ?_
 refine sc ?_ ?_<;>intro hba
 have hok:bN q=false:=gn
 refine sS [1,2] [1] ?_
 exact Zaq
 have hok:bN q=true:=gn
 obtain ⟨a1,a2,a3,a4,a5,a6,a7,a8⟩:=ya hok
 have hil:(itoa q.Id).length≤21:=eH et
 have hitl:(itoa q.ax8).length≤21:=eH et
 have hll:=vk a7
 refine dp ?_
 refine sP [1,2] [1] ?_
 refine cC ?_
 refine dA 0 ?_ (x:=lF kQ)
 refine OE ?_
 refine PX ?_
 refine dA 0 ?_ (x:=lF tz)
 refine dA 32 ?_ (x:=lD [val _] bb)
 refine dA 103 ?_ (x:=cL [(false,[val _])] [(false,[val _])] rE (hs:=qF))
 refine dA 255 ?_ (x:=fA)
 refine dA 511 ?_ (x:=sA)
 refine aU ?_
 refine Ix ?_
 refine sL [1,2] [1] (fun k:Nat=>k≤q.ax5.length) (fun k:Nat=>[(3,RV.sc (.string (B (ja (im q k) [32])))),(4,RV.int (k:Int))]) (fun k:Nat=>[]) (fun k:Nat=>q.ax5.length - k) 0 ab (by exact aI (by exact congrArg (fun z=>some (RV.sc (.string (B z)))) (by simp [im,ja,Lib.join_cons,Lib.joinTail])) (aI ak tI)) an ?_
 rintro k hk
 refine cP ?_
 refine IB ?_
 refine sc ?_ ?_<;>intro hbb
 have hlt:k < q.ax5.length:=ab
 have hck:=a8 k hlt
 have hf1:(itoa q.ax5[k].Field).length≤21:=eH et
 have hf2:(itoa q.ax5[k].Low).length≤21:=eH et
 have hf3:(itoa q.ax5[k].High).length≤21:=eH et
 have hjl:=Ej hok k
 have hql:=Ei (q:=q) k
 rw [cI] at hql
 refine bv ?_
 refine sQ [1,2,3,4] [1] ?_
 refine zk ?_
 refine dA 1 ?_ (x:=fA)
 refine xo ?_
 refine dA 4 ?_ (x:=lD [sl .v _] kp)
 refine dS ?_
 refine dA 28 ?_ (x:=aZ aj il an ak bE ak)
 refine dA 60 ?_ (x:=cR aj rt az)
 refine dA 124 ?_ (x:=lE [val _] bb)
 refine dA 252 ?_ (x:=cL [(false,[val _])] [(false,[val _])] rE (hs:=qF))
 refine PR ?_
 refine xo ?_
 refine dA 2048 ?_ (x:=lD [sl .v _] kp)
 refine dS ?_
 refine dA 14336 ?_ (x:=aZ aj il an ak bE ak)
 refine dA 30720 ?_ (x:=cR aj DC az)
 refine dA 63488 ?_ (x:=lE [val _] bb)
 refine dA 129532 ?_ (x:=cL [(false,[val _])] [(false,[val _])] rE (hs:=qF))
 refine dA 262143 ?_ (x:=fA)
 refine dA 524287 ?_ (x:=fA)
 refine xo ?_
 refine dA 1048576 ?_ (x:=lD [sl .v _] kp)
 refine dS ?_
 refine dA 7340032 ?_ (x:=aZ aj il an ak bE ak)
 refine dA 15728640 ?_ (x:=cR aj vc az)
 refine dA 32505856 ?_ (x:=lE [val _] bb)
 refine dA 66320892 ?_ (x:=cL [(false,[val _])] [(false,[val _])] rE (hs:=qF))
 refine dA 134217727 ?_ (x:=fA)
 refine dA 268435455 ?_ (x:=sA)
 refine sG [1,2,3,4] [1] ?_
 refine cB ?_
 refine nx (k+1) ab (e:=(by exact aI (by exact congrArg (fun z=>some (RV.sc (.string (B z)))) (by rw [akD hlt];unfold la;rw [ahT akE];simp [bB])) (aI ak tI)))
 have hend:k=q.ax5.length:=ab
 subst hend
 have hjl:=Ej hok q.ax5.length
 refine bI ?_
 refine sT [1,2,3,4] [1] ?_
 refine rM ?_
 refine rA ?_ (x:=fA)
 refine PI ?_
 refine rA ?_ (x:=cL [(false,[sl _ _])] [(false,[sl .v _])] aiT (hs:=by exact (ajr a7 ab)))
 refine zp ?_
 exact (aI (by refine iL ?_;exact kT (by unfold eE;rw [if_pos hok,Tn])) tI)
def alx{u:ax6}:gu prog gl 106 [(true,[val (vI u.Kind),val (vI u.Row.Id),sl .v (u.Row.Values.map ar),val (vI u.Field),val (vI u.Value)])] (aB [(false,[val (.string (B (fF u)))])]):=by
 refine lX (rs:=[(false,[val (.string (B (fF u)))])]) func106 rfl (nl rfl) bg ?_
 intro h0 w0 Fz0
 refine sn 0 2 fun hl0_2=>?_
 refine yY ?_
 refine Iq ?_
 refine IQ ?_
 refine Zav ?_
 refine gx ?_
 refine sc ?_ ?_<;>intro hba
 have hok:dK u=false:=gn
 refine sS [1,2,7000] [1] ?_
 exact Zaw
 have hok:dK u=true:=gn
 obtain ⟨a1,a2,a3,a4,a5,a6⟩:=Tp hok
 have hrl:=Eh u.Row
 have h3:(itoa u.Row.Id).length≤21:=eH et
 have h4:(itoa u.Field).length≤21:=eH et
 have h5:(itoa u.Value).length≤21:=eH et
 refine dp ?_
 refine sS [1,2,7000] [1] ?_
 refine CZ ?_
 refine Cy ?_
 refine sc ?_ ?_<;>intro hbb
 have k1:=hbb
 refine Ac ?_
 refine uP ?_
 refine zT ?_
 refine rA ?_ (x:=gL [(true,ct)] [(true,fJ)] aiO (hs:=by exact alt))
 exact Zaz
 have k1:=hbb
 refine Cy ?_
 refine sc ?_ ?_<;>intro hbc
 have k2:=hbc
 refine Ac ?_
 refine ta ?_
 refine OG ?_
 exact Zb1
 have k2:=hbc
 refine dp ?_
 refine sP [1,2,7,7000] [1] ?_
 refine cC ?_
 refine Ib ?_
 refine dA 7 ?_ (x:=gL [(false,[val _])] [(false,[val _])] rD (hs:=qE))
 refine dA 15 ?_ (x:=fA)
 refine dA 31 ?_ (x:=fA)
 refine dA 0 ?_ (x:=lF vb)
 refine dA 64 ?_ (x:=lD [val _] bb)
 refine dA 207 ?_ (x:=gL [(false,[val _])] [(false,[val _])] rD (hs:=qE))
 refine PR ?_
 refine dA 0 ?_ (x:=lF pT)
 refine dA 2048 ?_ (x:=lD [val _] bb)
 refine dA 6607 ?_ (x:=gL [(false,[val _])] [(false,[val _])] rD (hs:=qE))
 exact Zb2
def aly{u:ax6}:aQ prog 107 [(true,[val (vI u.Kind),val (vI u.Row.Id),sl .v (u.Row.Values.map ar),val (vI u.Field),val (vI u.Value)])] (aB [(false,[val (.string (B (fF u)))])]):=by
 refine sF func107 fun h0 w0 Fz0=>?_
 refine sn 0 2 fun hl0_2=>?_
 refine yY ?_
 refine ma ?_
 refine IQ ?_
 refine rA ?_ (x:=cL [(true,eP)] [(true,gK)] QX (hs:=Li))
 refine gx ?_
 refine sc ?_ ?_<;>intro hba
 have hok:dK u=false:=gn
 refine sS [1,2] [1] ?_
 exact Zaw
 have hok:dK u=true:=gn
 obtain ⟨a1,a2,a3,a4,a5,a6⟩:=Tp hok
 have hrl:=Eh u.Row
 have h3:(itoa u.Row.Id).length≤21:=eH et
 have h4:(itoa u.Field).length≤21:=eH et
 have h5:(itoa u.Value).length≤21:=eH et
 refine wV ?_
 refine CZ ?_
 refine CO ?_
 refine sc ?_ ?_<;>intro hbb
 have k1:=hbb
 refine sS [1,2,7] [1] ?_
 refine uP ?_
 refine zT ?_
 refine rA ?_ (x:=cL [(true,ct)] [(true,fJ)] aiH (hs:=by exact alu))
 exact Zaz
 have k1:=hbb
 refine CO ?_
 refine sc ?_ ?_<;>intro hbc
 have k2:=hbc
 refine sS [1,2,7] [1] ?_
 refine ta ?_
 refine OH ?_
 exact Zb1
 have k2:=hbc
 refine dp ?_
 refine sP [1,2,7] [1] ?_
 refine cC ?_
 refine Ib ?_
 refine dA 7 ?_ (x:=cL [(false,[val _])] [(false,[val _])] rE (hs:=qF))
 refine dA 15 ?_ (x:=fA)
 refine dA 31 ?_ (x:=fA)
 refine dA 0 ?_ (x:=lF vb)
 refine dA 64 ?_ (x:=lD [val _] bb)
 refine dA 207 ?_ (x:=cL [(false,[val _])] [(false,[val _])] rE (hs:=qF))
 refine PR ?_
 refine dA 0 ?_ (x:=lF pT)
 refine dA 2048 ?_ (x:=lD [val _] bb)
 refine dA 6607 ?_ (x:=cL [(false,[val _])] [(false,[val _])] rE (hs:=qF))
 exact Zb2
def alz{x:cZ}:gu prog gl 38 [(true,[val (vI x.Kind),val (vI x.ax4.Id),val (vI x.ax4.ax8),sl .v (x.ax4.ax5.map bF),sl .v (x.ax4.Out.map ar),val (vI x.Limit),val (vI x.Id),val (vI x.ax6.Kind),val (vI x.ax6.Row.Id),sl .v (x.ax6.Row.Values.map ar),val (vI x.ax6.Field),val (vI x.ax6.Value),val (vI x.Steps)])] (aB [(false,[val (.string (B (eo x)))])]):=by
 refine lX (rs:=[(false,[val (.string (B (eo x)))])]) func38 rfl (nl rfl) bg ?_
 intro h0 w0 Fz0
 refine sn 0 3 fun hl0_3=>?_
 refine sn 0 4 fun hl0_4=>?_
 refine sn 0 9 fun hl0_9=>?_
 refine Hn ?_
 refine Iq ?_
 refine Dk ?_
 refine rA ?_ (x:=cL [(true,cS)] [(true,ej)] DO (hs:=ET))
 refine gx ?_
 refine sc ?_ ?_<;>intro hba
 have hok:dE x=false:=gn
 refine sS [1,2,7000] [1] ?_
 exact Zb5
 have hok:dE x=true:=gn
 obtain ⟨a1,a2,a3,a4,a5,a6⟩:=akG hok
 have hql:=Kc x.ax4
 have h3:(itoa x.Limit).length≤21:=eH et
 have h4:(itoa x.Id).length≤21:=eH et
 have h5:(itoa x.Steps).length≤21:=eH et
 refine dp ?_
 refine sS [1,2,7000] [1] ?_
 refine zF ?_
 refine Cy ?_
 refine sc ?_ ?_<;>intro hbb
 have k1:=hbb
 refine aU ?_
 refine sP [1,2,7,7000] [1] ?_
 refine cC ?_
 refine dA 0 ?_ (x:=lF oP)
 refine OD ?_
 refine PX ?_
 refine Zb6 ?_
 refine dA 103 ?_ (x:=gL [(true,bX)] [(true,di)] Rz (hs:=by exact alv))
 exact Zb7
 have k1:=hbb
 refine Cy ?_
 refine sc ?_ ?_<;>intro hbc
 have k2:=hbc
 refine Ac ?_
 refine rA ?_ (x:=lF pU)
 refine OG ?_
 exact Zb8
 have k2:=hbc
 refine Cy ?_
 refine sc ?_ ?_<;>intro hbd
 have k3:=hbd
 refine Ac ?_
 refine yZ ?_
 refine rA ?_ (x:=gL [(true,eP)] [(true,gK)] ain (hs:=by exact alx))
 exact Zb9
 have k3:=hbd
 refine ba ?_
 refine Ac ?_
 refine xu ?_
 refine OG ?_
 exact Zba
def TY{x:cZ}:aQ prog 39 [(true,[val (vI x.Kind),val (vI x.ax4.Id),val (vI x.ax4.ax8),sl .v (x.ax4.ax5.map bF),sl .v (x.ax4.Out.map ar),val (vI x.Limit),val (vI x.Id),val (vI x.ax6.Kind),val (vI x.ax6.Row.Id),sl .v (x.ax6.Row.Values.map ar),val (vI x.ax6.Field),val (vI x.ax6.Value),val (vI x.Steps)])] (aB [(false,[val (.string (B (eo x)))])]):=by
 refine sF func39 fun h0 w0 Fz0=>?_
 refine sn 0 3 fun hl0_3=>?_
 refine sn 0 4 fun hl0_4=>?_
 refine sn 0 9 fun hl0_9=>?_
 refine Hn ?_
 refine ma ?_
 refine Dk ?_
 refine rA ?_ (x:=cL [(true,cS)] [(true,ej)] Jy (hs:=EU))
 refine gx ?_
 refine sc ?_ ?_<;>intro hba
 have hok:dE x=false:=gn
 refine sS [1,2] [1] ?_
 exact Zb5
 have hok:dE x=true:=gn
 obtain ⟨a1,a2,a3,a4,a5,a6⟩:=akG hok
 have hql:=Kc x.ax4
 have h3:(itoa x.Limit).length≤21:=eH et
 have h4:(itoa x.Id).length≤21:=eH et
 have h5:(itoa x.Steps).length≤21:=eH et
 refine wV ?_
 refine zF ?_
 refine CO ?_
 refine sc ?_ ?_<;>intro hbb
 have k1:=hbb
 refine aU ?_
 refine sP [1,2,7] [1] ?_
 refine cC ?_
 refine dA 0 ?_ (x:=lF oP)
 refine OE ?_
 refine PX ?_
 refine Zb6 ?_
 refine dA 103 ?_ (x:=cL [(true,bX)] [(true,di)] aiI (hs:=by exact alw))
 exact Zb7
 have k1:=hbb
 refine CO ?_
 refine sc ?_ ?_<;>intro hbc
 have k2:=hbc
 refine sS [1,2,7] [1] ?_
 refine rA ?_ (x:=lF pU)
 refine OH ?_
 exact Zb8
 have k2:=hbc
 refine CO ?_
 refine sc ?_ ?_<;>intro hbd
 have k3:=hbd
 refine sS [1,2,7] [1] ?_
 refine yZ ?_
 refine rA ?_ (x:=cL [(true,eP)] [(true,gK)] aio (hs:=by exact aly))
 exact Zb9
 have k3:=hbd
 refine ba ?_
 refine sS [1,2,7] [1] ?_
 refine xu ?_
 refine OH ?_
 exact Zba
end Go.Proofs.YtmekkgdboplbjaaGreatDoor
