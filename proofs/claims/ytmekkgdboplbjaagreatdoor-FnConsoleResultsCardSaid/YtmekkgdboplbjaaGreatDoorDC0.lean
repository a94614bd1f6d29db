/- The logic. No condition. -/
import Derived.Test.YtmekkgdboplbjaaGreatDoorDB0
import Derived.Laws.Strings3
import Derived.Laws.BytesString
import Derived.Laws.Concat
import Derived.Lib.LaidTab
import Derived.Lib.Join
import Derived.Lib.ItoaNum
import Derived.Lib.ItoaLen
import Derived.Sort.Grow
import Derived.Deep.Draws
import Derived.ProofKit
import Derived.OpenShut
import Derived.Carry
import Derived.Below
import Derived.ChangeSame
import Derived.ChangeArms
import Derived.WideKeyArgs
import Derived.Deep.Slices
import Derived.Lib.SplitLaws
import Derived.Lib.AtoiAll
import Derived.Lib.Strings
set_option linter.all false
namespace Go.Proofs.YtmekkgdboplbjaaGreatDoor.M
open Go Go.RowKit
section
abbrev am:=List UInt8
abbrev B(l:am):ByteArray:=⟨l.toArray⟩
abbrev RV.str(l:am):RV:=RV.sc (.string (B l))
section
variable{P:Program}{n:Nat}{T T2:TypeId}{x y:Operand}{d:Nat}{ty:TypeId}{pos:String}{af:Array Edge}{g:Option (Nat×Bool)}{s t:am}
def Sr{w:World}(h:s.length+t.length≤9223372036854775807):Sem.run P (do eqGuard .add T x y (.string (B s)) (.string (B t));binOp .add T (.string (B s)) (.string (B t)):Sem Value) w = .ok (.string (B (s++t))) w:=by
 have e:=run_string_add_sum (P:=P) w (B s) (B t) h
 rw [ByteArray.mk_append_mk] at e
 simp [eqGuard,binOp,e]
def dL(hx:bu x (RV.str s):=by first|exact True.intro|exact bI rfl)(hy:bu y (RV.str t):=by first|exact True.intro|exact bI rfl)(h:s.length+t.length≤9223372036854775807:=by (try simp only [aZ,List.length_cons,List.length_nil]);omega)(hd:d < n:=by decide):Loc P n ⟨some d,.binOp .add T x y T2,ty,pos,af,g⟩ ⟨bg x (RV.str s)++bg y (RV.str t),[],[(d,some (RV.str (s++t)))],[],none⟩:=
 iq hd hx hy rfl fun w=>Sr h
def up(hx:bu x (RV.str s):=by first|exact True.intro|exact bI rfl)(hy:bu y (RV.str t):=by first|exact True.intro|exact bI rfl)(hd:d < n:=by decide):Loc P n ⟨some d,.binOp .eql T x y T2,ty,pos,af,g⟩ ⟨bg x (RV.str s)++bg y (RV.str t),[],[(d,some (RV.bool (s==t)))],[],none⟩:=
 iq hd hx hy rfl fun w=>by simp [eqGuard,binOp,Op.stringOp,ByteArray.toList_mk]
def wX(hx:bu x (RV.str s):=by first|exact True.intro|exact bI rfl)(hy:bu y (RV.str t):=by first|exact True.intro|exact bI rfl)(hd:d < n:=by decide):Loc P n ⟨some d,.binOp .neq T x y T2,ty,pos,af,g⟩ ⟨bg x (RV.str s)++bg y (RV.str t),[],[(d,some (RV.bool (!(s==t))))],[],none⟩:=
 iq hd hx hy rfl fun w=>by simp [eqGuard,binOp,Op.stringOp,ByteArray.toList_mk]
def wY(hT:P.underlying T=some .string){k:Nat}(hd:d < n:=by decide):Loc P n ⟨some d,.call { callee:=.builtin .len,args := #[.tmp k],argTypes := #[T] },ty,pos,af,g⟩ ⟨[(k,RV.str s)],[],[(d,some (RV.int (s.length:Int)))],[],none⟩:=
 Rs (b:=B s) hd hT
def wZ{s:ByteArray}{lo hi:Option Value}(w:World)(hT:P.underlying T=some .string):Sem.run P (Instr.sliceAt T (.string s) lo hi none) w=Sem.run P (Instr.slice T (.string s) lo hi none) w:=by
 simp only [Instr.sliceAt,Sem.run_bind,run_underlying hT,Result.andThen_ok]
def Ss{lo hi:Option Operand}{k:Nat}{i j:Nat}{q r:Int}(hT:P.underlying T=some .string)(hlo:pR lo (i=0) (RV.int q))(hhi:pR hi (j=s.length) (RV.int r))(hq:q=(i:Int))(hr:r=(j:Int))(hij:i≤j)(hj:j≤s.length){u:am}(hu:(s.take j).drop i=u)(hd:d < n:=by decide) :
  Loc P n ⟨some d,.slice T (.tmp k) lo hi none,ty,pos,af,g⟩ ⟨(k,RV.str s)::(rE lo (RV.int q)++rE hi (RV.int r)),[],[(d,some (RV.str u))],[],none⟩:=by
 subst hq hr hu
 have e:∀a b:Nat,(B s).extract a b=B ((s.drop a).take (b - a)):=ByteArray.extract_mk s
 have hsz:(B s).size=s.length:=rfl
 intro h0 w0 Fz0 σ a w K Q hc hr _ _ h5
 obtain ⟨φ,Fz,Fp,hc⟩:=hc
 have ev:a.eval (.tmp k) = .string (B s):=(hc.one_ hr.1).1
 have hres:(s.take j).drop i=(s.drop i).take (j - i):=by rw [List.take_drop,Nat.add_sub_cancel' hij]
 refine cN (v:=.string (B ((s.take j).drop i))) (w':=w) ?_ (h5 _ _ (hc.put0 hd (bH.of_sc rfl)))
 rw [hres]
 unfold execOp
 cases lo with
 | none=>
  have hi0:i=0:=hlo
  subst hi0
  cases hi with
  | none=>
   have hj0:j=s.length:=hhi
   subst hj0
   simp only [Option.map_none,ev,wZ _ hT,run_slice_string_all _ _ _ hT,e,hsz,Sem.run_bind,Result.andThen_ok,Sem.run_pure]
  | some y=>
   have ey:=hc.sc hr.2 hhi
   have hc2:(0:Int)≤(j:Int)∧(j:Int)≤((B s).size:Int):=by rw [hsz];omega
   simp only [Option.map_none,Option.map_some,wZ _ hT,ev,ey,run_slice_string_to_if _ _ _ _ _ hT,if_pos hc2,e,Sem.run_bind,Result.andThen_ok,Sem.run_pure,Int.toNat_natCast]
 | some x=>
  have ex:=hc.sc hr.2.left hlo
  cases hi with
  | none=>
   have hj0:j=s.length:=hhi
   subst hj0
   have hc2:(0:Int)≤(i:Int)∧(i:Int)≤((B s).size:Int):=by rw [hsz];omega
   simp only [Option.map_none,Option.map_some,wZ _ hT,ev,ex,run_slice_string_from_if _ _ _ _ _ hT,if_pos hc2,e,Sem.run_bind,Result.andThen_ok,Sem.run_pure,Int.toNat_natCast]
   rfl
  | some y=>
   have ey:=hc.sc hr.2.right hhi
   simp only [Option.map_none,Option.map_some,wZ _ hT,ev,ex,ey,run_slice_string _ _ _ _ _ _ _ hT (by omega:(0:Int)≤(i:Int)) (by omega:(i:Int)≤(j:Int)) (by rw [hsz];omega:(j:Int)≤((B s).size:Int)),e,Sem.run_bind,Result.andThen_ok,Sem.run_pure,Int.toNat_natCast]
def jv(xs:List Int):am:=xs.map fun n=>UInt8.ofNat n.toNat
def HE:∀(ns:List Int) (s:am),ns.foldl (fun r n=>r.push (UInt8.ofNat n.toNat)) (B s)=B (s++jv ns)
 | [],s=>by simp [jv]
 | n::ns,s=>by
  rw [List.foldl_cons,show (B s).push (UInt8.ofNat n.toNat)=B (s++[UInt8.ofNat n.toNat]) from by apply ByteArray.ext;simp [ByteArray.push],HE ns]
  simp [jv]
def Su{T D e k:Nat}{xs:List Int}{o:Fl}{f:Int→List PV}(hS:P.underlying T=some (.slice e))(he:P.underlying e=some (.int .u8))(hD:P.underlying D=some .string)(hf:∀x,f x=[PV.val (.int .u8 x)])(hd:d < n:=by decide) :
  Loc P n ⟨some d,.convert T D (.tmp k),ty,pos,af,g⟩ ⟨[(k,RV.slc o (xs.map f))],[],[(d,some (RV.str (jv xs)))],[],none⟩:=by
 intro h0 w0 Fz0 σ a w K Q hc hr _ _ h5
 obtain ⟨φ,Fz,Fp,hc⟩:=hc
 obtain ⟨ad,c,e',u,ev,h1,h2,h3,h4,h6⟩:=hc.slrel hr.1
 have es':a.eval (.tmp k) = .slice ad xs.length c:=by rw [←aO (f:=f)];exact ev
 refine cN (v:=.string (B (jv xs))) (w':=w) ?_ (h5 _ _ (hc.put0 hd (bH.of_sc rfl)))
 unfold execOp
 simp only [es',Sem.run_bind,run_convert_bytes_string _ _ _ _ _ _ _ hS he hD]
 rcases h4 with h4|⟨b,off,rfl,h4⟩
 ·have hx:xs=[]:=by simpa using h4
  subst hx
  cases ad with
  | none=>simp [Conv.bytesToString,jv];rfl
  | some ad=>
   rw [run_bytesToString w ad _ c [] (by simp [loadCells,loadCellsFrom])]
   simp [jv];rfl
 ·have hcells:∀(j:Nat) v,(xs.map (Value.int .u8))[j]?=some v→w.cell? ((⟨b,off,none⟩:Addr).add j)=some v:=by
   intro j v hv
   rw [List.getElem?_map,Option.map_eq_some_iff] at hv
   obtain ⟨x,hx,rfl⟩:=hv
   have hj:j < xs.length:=(List.getElem?_eq_some_iff.1 hx).1
   have hm:(xs.map f)[j]?=some [PV.val (.int .u8 x)]:=by rw [List.getElem?_map,hx,←hf];rfl
   have he1:e'=1:=(h3 _ (List.mem_of_getElem? hm)).symm
   subst he1
   have hu:=(h6 j _ 0 _ hm rfl).1
   have:=(h4 j 0 (by simpa using hj) ae).2
   rw [hu] at this
   rw [kx]
   simpa using this
  have hl:=run_loadCells_list (P:=P) (w:=w) ⟨b,off,none⟩ (xs.map (Value.int .u8)) hcells
  rw [aO] at hl
  rw [run_bytesToString w _ _ c xs hl]
  have:=HE xs []
  rw [show (B []:ByteArray)=ByteArray.empty from rfl,List.nil_append] at this
  simp [this]
def Sv{T D e k:Nat}{z:Int}{o:Fl}(hS:P.underlying T=some (.slice e))(he:P.underlying e=some (.int .u8))(hD:P.underlying D=some .string)(hd:d < n:=by decide) :
  Loc P n ⟨some d,.convert T D (.tmp k),ty,pos,af,g⟩ ⟨[(k,RV.slc o [[PV.val (.int .u8 z)]])],[],[(d,some (RV.str (jv [z])))],[],none⟩:=
 Su (xs:=[z]) (f:=fun x=>[PV.val (.int .u8 x)]) hS he hD (fun _=>rfl) hd
def Sw{i j:Int}(hx:bu x (RV.int i):=by first|exact True.intro|exact bI rfl)(hy:bu y (RV.int j):=by first|exact True.intro|exact bI rfl)(hj:j≠0:=by omega)(h:cq (i.tdiv j):=by unfold cq;omega)(hd:d < n:=by decide):Loc P n ⟨some d,.binOp .quo T x y T2,ty,pos,af,g⟩ ⟨bg x (RV.int i)++bg y (RV.int j),[],[(d,some (RV.int (i.tdiv j)))],[],none⟩:=
 iq hd hx hy rfl fun w=>by
  have e:IntKind.i64.wrap (i.tdiv j)=i.tdiv j:=IntWalk.i64_in _ h
  simp [eqGuard,binOp,Op.intDiv,hj,e]
def Sx{i:Int}{k:Nat}(h:cq (-i):=by unfold cq;omega)(hd:d < n:=by decide):Loc P n ⟨some d,.unOp .neg T (.tmp k),ty,pos,af,g⟩ ⟨[(k,RV.int i)],[],[(d,some (RV.int (-i)))],[],none⟩:=by
 intro h0 w0 Fz0 σ a w K Q hc hr _ _ h5
 obtain ⟨φ,Fz,Fp,hc⟩:=hc
 have es':a.eval (.tmp k) = .int .i64 i:=(hc.one_ hr.1).1
 have e:IntKind.i64.wrap (-i) = -i:=IntWalk.i64_in _ h
 refine cN (v:=.int .i64 (-i)) (w':=w) ?_ (h5 _ _ (hc.put0 hd (bH.of_sc rfl)))
 unfold execOp
 simp [es',Op.unary,Op.intArith,e]
end
structure ln where
 rel:ay→World→Prop
 mono:∀{Fz Fz':ay} {w w':World},rel Fz w→eK Fz w Fz' w'→rel Fz' w'
def RV.glob(G:ln):RV where
 holds _ Fz w _ F:=G.rel Fz w∧F=[]
 men _:=false
 mono h k _ _:=⟨G.mono h.1 k,h.2⟩
 lt h:=ku
def db(P:Program)(G:ln)(f:FuncId)(args:List (Bool×List PV))(r:RV):Prop:=
 ∀(w:World) (vs:List Value) (Fz:ay),(∀b o,Fz b o→b < w.heap.size)→G.rel Fz w→fi args Fz w vs→Calls P f vs.toArray w fun e w'=>∃v Fz' F,e = .returned v∧Below w.heap.size w w' ∧
  (∀b o,b < w.heap.size→(Fz' b o↔Fz b o))∧(∀b o,Fz' b o→b < w'.heap.size)∧(∀φ,r.holds φ Fz' w' v F)∧F.Nodup∧∀b,b∈F→w.heap.size≤b∧b < w'.heap.size
def aS.g{P:Program}{G:ln}{f:FuncId}{args:List (Bool×List PV)}{r:RV}(h:aS P f args r):db P G f args r:=fun w vs Fz hz _ hr=>h w vs Fz hz hr
section
variable{P:Program}{n:Nat}{G:ln}
def Sy{f d:Nat}{args:Array Operand}{tys:Array TypeId}{ty:TypeId}{pos:String}{af:Array Edge}{g:Option (Nat×Bool)}{qs as_:List (Bool×List PV)}{r:RV}(hd:d < n)(hf:aL P f=true)(hok:mj args.toList qs)(hto:lj qs as_)(hs:db P G f as_ r) :
  Loc P n ⟨some d,.call { callee:=.value (.func f),args:=args,argTypes:=tys },ty,pos,af,g⟩ ⟨(7000,RV.glob G)::ky args.toList qs,[],[(d,some r)],[],none⟩:=by
 intro h0 w0 Fz0 σ a w K Q hc hr _ _ h5
 obtain ⟨φ,Fz,Fp,hc⟩:=hc
 have hG:G.rel Fz w:=(hc.slot 7000 _ hr.1).1
 have hrel:=hto.rel (hc.relT hr.2 hok)
 unfold Oper.wp
 rw [Ht hf,Oper.upon_enter]
 refine (hs w _ Fz hc.fzl hG hrel).mono ?_
 rintro e w' ⟨v,Fz',F,rfl,hb,hz1,hz2,hv,hn,hF⟩
 refine h5 _ _ ?_
 have k:=hc.world (w':=w') (Fz':=Fz') (X:=F) hb.os hb.tape hb.output hb.size (fun b hb' _=>⟨hb.block b hb',fun o ho=>(hz1 b o hb').1 ho⟩)
  (fun b o ho=>⟨(hz1 b o (hc.fzl b o ho)).2 ho,World.cell?_of_block (hb.block b (hc.fzl b o ho))⟩) hz2 (fun b hb'=>.inr (hF b hb')) hn
 exact ⟨φ,Fz',_,k.push (i:=d) (rv:=r) (v:=v) (F:=F) (X:=[]) hd (hv φ) (fun b hb=>by simpa using hb) (by simpa using hn)⟩
def gq{f:FuncId}{fn:Func}{c:Code}{args rs:List (Bool×List PV)}(hf:P.funcs[f]?=some fn)(hb:fn.body=some c)(hn:args.length≤fn.ntmps)(hbor:∀q,q∈args→aB q.2)
  (h:∀(h0:Nat→Prop) (w0:World) (Fz0:ay),SW P fn.ntmps h0 w0 Fz0 c (St.of ((7000,RV.glob G)::it 0 args) []) (ry P fn.results.toList rs)):db P G f args (aJ rs):=by
 intro w vs Fz hz hG hrel
 refine Ao hf hb hn hbor w Fz ?_ vs hz hrel
 intro a w' hc
 obtain ⟨φ,Fz',Fp,hc⟩:=hc
 have hG':G.rel Fz' w':=G.mono hG fun b o hb=>⟨(hc.fz0 b o (hz b o hb)).2 hb,World.cell?_of_block (hc.bel.block b (hz b o hb))⟩
 have k:=hc.pull 7000
 refine h _ w Fz a w' ⟨φ,Fz',_,{ k with slot:=fun i rv hi=>?_ }⟩
 by_cases h7:i=7000
 ·subst h7
  have e:(St.of ((7000,RV.glob G)::it 0 args) []).s 7000=some (RV.glob G):=rfl
  rw [e] at hi
  injection hi with hi
  subst hi
  exact ⟨hG',et⟩
 ·have e:(St.of ((7000,RV.glob G)::it 0 args) []).s i=(St.of (it 0 args) []).s i:=by
   simp [St.of,lk,beq_eq,h7]
  rw [e] at hi
  exact k.slot i rv (by rw [St.set_s,if_neg h7];exact hi)
end
section
variable{P:Program}{G:ln}{f:FuncId}
def Sz{w w':World}(h:∃k os,w'=Sort.grow (w.drewN k) os):Below w.heap.size w w':=by
 obtain ⟨k,os,rfl⟩:=h
 exact ⟨rfl,rfl,rfl,by simp [Sort.grow,World.drewN],fun b hb=>by simp [Sort.grow,World.drewN,Array.getElem?_append_left hb]⟩
def xb{w w':World}{Fz:ay}{s:am}(hz:∀b o,Fz b o→b < w.heap.size)(hb:Below w.heap.size w w'):∃v Fz' F,Ending.returned (.string (B s)) = .returned v∧Below w.heap.size w w' ∧
  (∀b o,b < w.heap.size→(Fz' b o↔Fz b o))∧(∀b o,Fz' b o→b < w'.heap.size)∧(∀φ,(RV.str s).holds φ Fz' w' v F)∧F.Nodup∧∀b,b∈F→w.heap.size≤b∧b < w'.heap.size:=
 ⟨_,Fz,[],rfl,hb,fun _ _ _=>Iff.rfl,fun b o h=>Nat.lt_of_lt_of_le (hz b o h) hb.size,fun _=>bH.of_sc rfl,List.nodup_nil,fun b hb=>by simp at hb⟩
def ip.sc{v x:Value}{Fz:ay}{w:World}(h:ip false [PV.val x] Fz w v):v=x:=(bH.sc ⟨h.1,(aB.cons (PV.bor_val _) aB.nil).own h.2⟩).1
def ip.sl{v:Value}{es:List (List PV)}{Fz:ay}{w:World}(h:ip false [PV.sl .v es] Fz w v):mf es Fz w v:=
 (bH.atom (p:=PV.sl .v es) ⟨h.1,(aB.cons (PV.bor_sl _) aB.nil).own h.2⟩).1
def SA(tab:∀{Fz w},G.rel Fz w→Lib.TabIs P w "internal/strconv.uint64pow10" .u64 Lib.pow10Tab)
  (c:∀(n:Int),-9223372036854775808≤n→n≤9223372036854775807→∀(w:World),Lib.TabIs P w "internal/strconv.uint64pow10" .u64 Lib.pow10Tab→Calls P f #[.int .i64 n] w fun e w'=>e = .returned (.string ⟨(Lib.itoa n).toArray⟩)∧∃k os,w'=Sort.grow (w.drewN k) os)
  {n:Int} (hn:cq n):db P G f [(false,[PV.val (vI n)])] (aJ [(false,[PV.val (.string (B (Lib.itoa n)))])]):=by
 intro w vs Fz hz hG hr
 obtain ⟨v,vs',rfl,h1,rfl⟩:=hr
 have e:v=vI n:=ip.sc h1
 subst e
 refine (c n hn.1 hn.2 w (tab hG)).mono ?_
 rintro e w' ⟨rfl,hw⟩
 exact xb hz (Sz hw)
def ee(xs:List am)(sep:am):am:=Lib.join xs sep
def SB{e:am→List PV}(he:∀x,e x=[PV.val (.string (B x))])
  (c0:∀(a:Option Addr) (c:Nat) (sep:ByteArray) (w:World),Calls P f #[.slice a 0 c,.string sep] w fun e w'=>e = .returned (.string ⟨#[]⟩)∧w'=w)
  (c:∀(bk o c:Nat) (xs:List ByteArray) (sep:ByteArray) (w:World),(∀(j:Nat) x,xs[j]?=some x→w.cell? ⟨bk,o+j,none⟩=some (.string x))→bk < w.heap.size→xs.length≤140737488355328→xs.length≤c→(Lib.join (xs.map (·.data.toList)) sep.data.toList).length≤140737488355328 →
   Calls P f #[.slice (some ⟨bk,o,none⟩) xs.length c,.string sep] w fun e w'=>e = .returned (.string ⟨(Lib.join (xs.map (·.data.toList)) sep.data.toList).toArray⟩)∧Below w.heap.size w w')
  {xs:List am} {sep:am} (hx:xs.length≤140737488355328) (hl:(ee xs sep).length≤140737488355328):aS P f [(false,[PV.sl .v (xs.map e)]),(false,[PV.val (.string (B sep))])] (aJ [(false,[PV.val (.string (B (ee xs sep)))])]):=by
 intro w vs Fz hz hr
 obtain ⟨v,vs',rfl,h1,v2,vs2,rfl,h2,rfl⟩:=hr
 have e2:v2 = .string (B sep):=ip.sc h2
 subst e2
 obtain ⟨ad,cp,e',u,rfl,k1,k2,k3,k4,k5⟩:=ip.sl h1
 have em:(xs.map B).map (·.data.toList)=xs:=by rw [List.map_map];exact List.map_id _
 rw [aO] at k1 k4 ⊢
 rcases k4 with k4|⟨b,off,rfl,k4⟩
 ·have hx:xs=[]:=by simpa using k4
  subst hx
  refine (c0 ad cp (B sep) w).mono ?_
  rintro e w' ⟨rfl,rfl⟩
  exact xb (s:=[]) hz (Below.refl _ _)
 ·have hc:∀(j:Nat) x,(xs.map B)[j]?=some x→w.cell? ⟨b,off+j,none⟩=some (.string x)∧Fz b (off+j):=by
   intro j x hj
   rw [List.getElem?_map,Option.map_eq_some_iff] at hj
   obtain ⟨y,hy,rfl⟩:=hj
   have hlt:j < xs.length:=(List.getElem?_eq_some_iff.1 hy).1
   have hm:(xs.map e)[j]?=some [PV.val (.string (B y))]:=by rw [List.getElem?_map,hy,←he];rfl
   have he1:e'=1:=(k3 _ (List.mem_of_getElem? hm)).symm
   subst he1
   have hu:=(k5 j _ 0 _ hm rfl).1
   have:=k4 j 0 hlt ae
   rw [hu] at this
   simpa using this.symm
  by_cases h0:xs=[]
  ·subst h0
   refine (c0 (some ⟨b,off,none⟩) cp (B sep) w).mono ?_
   rintro e w' ⟨rfl,rfl⟩
   exact xb (s:=[]) hz (Below.refl _ _)
  ·have hlt:0 < xs.length:=List.length_pos_iff.2 h0
   have hb:b < w.heap.size:=hz b _ (hc 0 (B (xs[0])) (by simp [hlt])).2
   have:=c b off cp (xs.map B) (B sep) w (fun j x hj=>(hc j x hj).1) hb ro (by simpa using k1) (by rw [em];exact hl)
   rw [em,aO] at this
   refine this.mono ?_
   rintro e w' ⟨rfl,hw⟩
   exact xb hz hw
def SC{Fz Fz':ay}{w w':World}{g:Nat}{nm:String}{k:IntKind}{zs:List Int}(hg:P.globalNamed nm=some g)(hz:0 < zs.length)(h:(∀o,Fz g o)∧Lib.TabIs P w nm k zs)(hk:eK Fz w Fz' w'):(∀o,Fz' g o)∧Lib.TabIs P w' nm k zs:=by
 refine ⟨fun o=>(hk g o (h.1 o)).1,?_⟩
 have hc:∀o,w'.cell? ⟨g,o,none⟩=w.cell? ⟨g,o,none⟩:=fun o=>(hk g o (h.1 o)).2
 have h2:=h.2
 unfold Lib.TabIs World.var? at h2 ⊢
 rw [hg] at h2 ⊢
 simp only [Option.bind_some] at h2 ⊢
 cases hw:w.heap[g]? with
 | none=>rw [hw] at h2;cases h2
 | some o=>
  cases o with
  | cells cs t fr=>
   rw [hw] at h2
   injection h2 with h2
   have hc1:∀o,w.cell? ⟨g,o,none⟩=cs[o]?:=fun o=>by simp [World.cell?,hw]
   have h0:(w'.cell? ⟨g,0,none⟩).isSome=true:=by rw [hc,hc1,h2];simp [hz]
   cases hw':w'.heap[g]? with
   | none=>simp [World.cell?,hw'] at h0
   | some o'=>
    cases o' with
    | cells cs' t' fr'=>
     have hc2:∀o,w'.cell? ⟨g,o,none⟩=cs'[o]?:=fun o=>by simp [World.cell?,hw']
     rw [←h2]
     show some cs'=some cs
     congr 1
     apply Array.ext_getElem?
     intro i
     rw [←hc2,hc,hc1]
    | _=>simp [World.cell?,hw'] at h0
  | _=>rw [hw] at h2;cases h2
def HF(P:Program)(g:Nat)(hg:P.globalNamed "internal/strconv.uint64pow10" = some g):ln where
 rel Fz w:=(∀o,Fz g o)∧Lib.TabIs P w "internal/strconv.uint64pow10" .u64 Lib.pow10Tab
 mono h k:=SC hg ae h k
end
end
end Go.Proofs.YtmekkgdboplbjaaGreatDoor.M
namespace Go.Proofs.YtmekkgdboplbjaaGreatDoor.M
open Go Go.RowKit Go.ChangeShapes Go.WideShapes
section
section
variable{H:Type}{enc:TypeId×Value→H}{P:Program}{W W':World}
def HG{sp:Nat→Bool}(hl:laidOutB P=true)(hsame:∀p:MemPlace,p.block < W.heap.size→W.sameAt W' p):∀{ts:List TypeId} {vs:List Value} {ds:List (DataW H)} {ps:List MemPlace},(ts.all fun t=>P.readableRec t&&Nat.blt t P.types.size)=true →
  DataW.TrodAll enc P W 0 (fun _=>true) true ts vs ds ps→(∀p∈ps,p.block < W.heap.size)→(∀p∈ps,sp p.block=true)→DataW.TrodAll enc P W' 0 sp true ts vs ds ps
 | [],vs,ds,ps,_,h,_,_=>by
  obtain ⟨rfl,rfl,rfl⟩:=trodAll_nil h
  exact trodAll_mk0
 | t::ts,vs,ds,ps,ht,h,hlt,hs=>by
  obtain ⟨v,vs',d,ds',p,q,rfl,rfl,rfl,h1,h2⟩:=trodAll_cons h
  rw [List.all_cons,aT,aT,Nat.blt_eq] at ht
  exact trodAll_cons_mk (WideElems.Trod_stays hl ht.1.1 ht.1.2 h1 (fun x hx=>hsame x (hlt x fS)) (fun x hx=>hs x fS))
   (HG hl hsame ht.2 h2 (fun x hx=>hlt x fS) (fun x hx=>hs x fS))
def SD{f:Func}{s:ChangeSpec}{args:Array Value}{ds gs:List (DataW H)}{before:List MemPlace}{k:FuncId}{bt:TypeId}(hl:laidOutB P=true)(hr:(f.params.toList.all fun t=>P.readableRec t&&Nat.blt t P.types.size)=true)
  (hW:DataW.Whole enc P f.params.toList s.vars false W args.toList ds gs before) (hv:s.vars=[]) (hrt:f.resultTypes = #[bt]) (hbt:P.underlying bt=some .bool) (hfn:s.fn H (ds++gs)={ results:=[.lit (.bool true)],args:=ds })
  (hcall:Calls P k args W fun e w'=>e = .returned (.bool true)∧Below W.heap.size W w') :
  Calls P k args W fun e W'=>∃v,e = .returned v∧s.post enc P f false true false false W args v W':=by
 refine hcall.mono fun e W' ⟨he,hb⟩=>⟨_,he,?_⟩
 have hlt:∀p∈before,p.block < W.heap.size:=fun p hp=>hW.lt p hp
 have hW':=hW
 obtain ⟨pa,q,hA,hV,rfl,hz,hn⟩:=hW
 rw [hv] at hV
 obtain ⟨rfl,rfl⟩:=trodVars_none hV
 have hres:∀(b:Nat) (sp:Nat→Bool) (hd:Bool),DataW.TrodAll enc P W' b sp hd f.resultTypes.toList ((Value.bool true).resultList f.resultTypes.size) (s.fn H (ds++[])).results []:=by
  intro b sp hd
  rw [hfn,hrt]
  exact trodAll_cons_mk (p':=[]) (shut_bool hbt _) trodAll_mk0
 have hargs:∀sp:Nat→Bool,(∀p∈pa++[],sp p.block=true)→DataW.TrodAll enc P W' 0 sp true f.params.toList args.toList (s.fn H (ds++[])).args pa:=by
  intro sp hs
  rw [hfn]
  exact HG hl (fun p hp=>hb.same hp) hr hA (fun p hp=>hlt p uc) (fun p hp=>hs p uc)
 have hvars:∀sp:Nat→Bool,DataW.TrodVars enc P W' sp s.vars (s.fn H (ds++[])).vars []:=by
  intro sp
  rw [hfn,hv]
  exact rfl
 have hold:∀p∈pa++[],(fun b=>decide (b < W.heap.size)) p.block=true:=fun p hp=>by simpa using hlt p hp
 have hok:∀(j:Nat) (t:TypeId) (r:Value),f.resultTypes[j]?=some t→((Value.bool true).resultList f.resultTypes.size)[j]?=some r→Value.okWide P W' .any 0 t r:=ok_one hrt rfl (okWide_bool_mk hbt _)
 refine ⟨ds,[],pa++[],[],pa,[],hW',hres _ _ _,hargs _ hold,hvars _,World.keptBut_mono (fun p hp=>⟨hp,?_⟩) (hb.frame (· ∈ pa++[])),fun h=>by cases h⟩
 simpa using hp
def pY(w:World):ay:=fun b _=>b < w.heap.size
def rR(P:Program)(T:TypeId){α:Type}(f:α→List PV)(g:α→Prop):Prop:=
 ∀{H:Type} (enc:TypeId×Value→H) (w:World) (sp:Nat→Bool) (held:Bool) (n:Nat) (cs:List Value) (x:DataW H×List MemPlace),DataW.trod enc P w 0 sp held n T cs=some x→∃a,bE (f a) (pY w) w cs∧g a
def SE{T E e:TypeId}{α:Type}{f:α→List PV}(hu:P.underlying T=some (.slice E))(hc:P.cellsOf E=e)(he:0 < e){g:α→Prop}(hf:rR P E f g)(hlen:∀a,(f a).length=e):rR P T (fun xs:List α=>[PV.sl .v (xs.map f)]) fun xs=>∀x∈xs,g x:=by
 intro H enc w sp held n cs x hx
 subst hc
 rcases Deep.open_slice hu hx with ⟨rfl,_⟩|⟨a,len,cap,m,n',D,Pl,rfl,_,hlc,hcm,hm,_,hel⟩
 ·exact ⟨[],⟨_,[],rfl,⟨⟨none,0,0,fun _ _=>undef,rfl,Nat.le_refl _,Nat.zero_le _,aF,.inl rfl,aF⟩,True.intro⟩,rfl⟩,aF⟩
 ·have hlm:len≤m:=by rw [hm];split<;>omega
  have key:∀i,i < len→∃(y:α×List Value),w.cells? 0 (a.add (i * P.cellsOf E)) (P.cellsOf E)=some y.2∧bE (f y.1) (pY w) w y.2∧g y.1:=by
   intro i hi
   obtain ⟨cs',h1,h2⟩:=hel i ab
   obtain ⟨y,hy⟩:=hf enc w sp held n' cs' _ h2
   exact ⟨(y,cs'),h1,hy⟩
  by_cases hl0:len=0
  ·subst hl0
   exact ⟨[],⟨_,[],rfl,⟨⟨some a,cap,0,fun _ _=>undef,rfl,Nat.zero_le _,hcm,aF,.inl rfl,aF⟩,True.intro⟩,rfl⟩,aF⟩
  ·obtain ⟨y0,_,_⟩:=key 0 ab
   have:Inhabited (α×List Value):=⟨y0⟩
   obtain ⟨F,hF⟩:=Deep.choose_lt key
   obtain ⟨b,off,spt⟩:=a
   have hspt:spt=none:=by
    obtain ⟨_,h2,h3⟩:=World.cells?_some (hF 0 ab).1
    have h4:=h3 0 he
    rw [List.getElem?_eq_getElem (by rw [h2];exact he),Nat.zero_mul] at h4
    cases spt with
    | none=>rfl
    | some s=>simp [Addr.add,World.cell?] at h4;split at h4<;>simp at h4
   subst hspt
   have hcell:∀i j,i < len→j < P.cellsOf E→w.cell? ⟨b,off+(i * P.cellsOf E+j),none⟩=some ((F i).2.getD j undef):=by
    intro i j hi hj
    obtain ⟨_,h2,h3⟩:=World.cells?_some (hF i hi).1
    have h4:=h3 j hj
    rw [kx,kx,Nat.add_assoc] at h4
    rw [h4,List.getD_eq_getElem?_getD,List.getElem?_eq_getElem (by rw [h2];exact hj)];rfl
   refine ⟨(List.range len).map fun i=>(F i).1,⟨_,[],rfl,⟨⟨some ⟨b,off,none⟩,cap,P.cellsOf E,fun i j=>(F i).2.getD j undef,aF,by simpa using hlc,hcm,?_,.inr ⟨b,off,rfl,?_⟩,?_⟩,True.intro⟩,rfl⟩,?_⟩
   ·intro cs hcs
    obtain ⟨y,_,rfl⟩:=List.mem_map.1 hcs
    exact hlen y
   ·intro i j hi hj
    have hi':i < len:=nj
    have h:=hcell i j hi' hj
    exact ⟨World.block_lt_of_cell? w _ h,h⟩
   ·intro i cs j p hi hj
    have hi':i < len:=by have:=(List.getElem?_eq_some_iff.1 hi).1;simpa using this
    simp [hi'] at hi
    subst hi
    obtain ⟨v,hv,hr⟩:=(hF i hi').2.1.at_ hj
    show p.rel _ _ ((F i).2.getD j undef)
    rw [List.getD_eq_getElem?_getD,hv];exact hr
   ·intro y hy
    obtain ⟨i,hi,rfl⟩:=List.mem_map.1 hy
    exact (hF i (List.mem_range.1 hi)).2.2
def SF{T:TypeId}{ag:Bool}{k:Nat}{α:Type}{f:α→List PV}{g:α→Prop}(hT:cl P T=some (ag,k))(hs:rR P T f g){w:World}{r:Reach}{b0:Nat}{v:Value}{d:DataW H}{ps:List MemPlace}(hval:Value.okWide P w r b0 T v)(h:DataW.Trod enc P w 0 (fun _=>true) true T v d ps) :
  ∃a,ip ag (f a) (pY w) w v∧g a:=by
 obtain ⟨n,hn⟩:=h
 obtain ⟨a,ha,hg⟩:=hs enc w _ _ n _ _ hn
 refine ⟨a,⟨?_,ha⟩,hg⟩
 unfold cl at hT
 cases hu:P.underlying T with
 | none=>rw [hu] at hT;cases hT
 | some dd=>
  cases hi:P.info? T with
  | none=>rw [hu,hi] at hT;cases hT
  | some i=>
   rw [hu,hi] at hT
   simp only [Option.some.injEq,Prod.mk.injEq] at hT
   obtain ⟨hT,_⟩:=hT
   unfold Value.okWide at hval
   rw [hu] at hval
   cases dd<;>simp only at hT hval<;>subst hT<;>first
    | (obtain ⟨cs,rfl,_⟩:=hval;rfl)
    | (cases v<;>first|rfl|(simp [Cell.okWide,Cell.ok,hu] at hval))
end
end
end Go.Proofs.YtmekkgdboplbjaaGreatDoor.M
namespace Go.Proofs.YtmekkgdboplbjaaGreatDoor.M
open Go Go.RowKit
section
section
variable{P:Program}{n d:Nat}{ty:TypeId}{pos:String}{af:Array Edge}{g:Option (Nat×Bool)}{G:ln}
def gL{f:Nat}{args:Array Operand}{tys:Array TypeId}{r:RV}(qs as_:List (Bool×List PV))(hf:aL P f=true)(hok:mj args.toList qs:=by repeat' (first|exact True.intro|exact bI rfl|exact GS|apply And.intro))
  (hto:lj qs as_:=by repeat' (first|exact True.intro|exact rfl|exact PV.To.refl _|exact PV.to_none|apply And.intro)) (hs:db P G f as_ r) (hd:d < n:=by decide):Loc P n ⟨some d,.call { callee:=.value (.func f),args:=args,argTypes:=tys },ty,pos,af,g⟩ ⟨(7000,RV.glob G)::ky args.toList qs,[],[(d,some r)],[],none⟩:=Sy hd hf hok hto hs
end
def SG{P:Program}{G:ln}{W:World}{f:FuncId}{vs:List Value}{qs:List (Bool×List PV)}(hs:db P G f qs (aJ [(false,[PV.val (.bool true)])]))(hG:G.rel (pY W) W)(hr:fi qs (pY W) W vs):Calls P f vs.toArray W fun e w'=>e = .returned (.bool true)∧Below W.heap.size W w':=
 (hs W vs (pY W) (fun _ _ h=>h) hG hr).mono fun e w' ⟨v,Fz',F,he,hb,_,_,hv,_⟩=>⟨by rw [he,(bH.sc (hv fun _=>0)).1],hb⟩
end
section
section
variable{h0:Nat→Prop}{n:Nat}{w0 w:World}{Fz0 Fz:ay}{σ:St}{a:Act}{φ:Nat→Nat}{Fp:Nat→List Nat}{P:Program}{c:Code}{Q:Exit→St→Prop}
end
end
end Go.Proofs.YtmekkgdboplbjaaGreatDoor.M
namespace Go.Proofs.YtmekkgdboplbjaaGreatDoor.M
open Go
section
inductive ez(s:Nat→Option RV):List Nat→List (Nat×RV)→Prop
 | nil:ez s [] []
 | cons {k:Nat} {v:RV} {ks:List Nat} {l:List (Nat×RV)} (h:s k=some v) (t:ez s ks l):ez s (k::ks) ((k,v)::l)
def ez.rd{s:Nat→Option RV}{ks:List Nat}{l:List (Nat×RV)}(h:ez s ks l):aN l s:=by
 induction h with
 | nil=>exact True.intro
 | cons h _ ih=>exact And.intro h ih
inductive gY(b:Nat→Option (Nat×List PV)):List Nat→List (Nat×(Nat×List PV))→Prop
 | nil:gY b [] []
 | cons {k:Nat} {v:Nat×List PV} {ks:List Nat} {l:List (Nat×(Nat×List PV))} (h:b k=some v) (t:gY b ks l):gY b (k::ks) ((k,v)::l)
def gY.rd{b:Nat→Option (Nat×List PV)}{ks:List Nat}{l:List (Nat×(Nat×List PV))}(h:gY b ks l):aN l b:=by
 induction h with
 | nil=>exact True.intro
 | cons h _ ih=>exact And.intro h ih
def qq:(∀{p:Prop} [Decidable p],(decide p=true)=p)∧(∀{p:Prop} [Decidable p],decide p=false↔¬p)∧(∀{α:Type} [BEq α] [LawfulBEq α] {a b:α},(a != b)=true↔a≠b)∧(∀{α:Type} [BEq α] [LawfulBEq α] {a b:α},(a==b)=true↔a=b)∧(∀{b:Bool},((!b)=true)=(b=false))∧(∀{b:Bool},((!b)=false)=(b=true))∧(∀{α:Type} {a b:α},(a≠b)=¬a=b)∧(∀{α:Type} [BEq α] [LawfulBEq α] {a b:α},(a != b)=false↔a=b)∧(∀{α:Type} [BEq α] [LawfulBEq α] {a b:α},(a==b)=false↔a≠b):=
 ⟨q1,q2,q3,q4,q5,q6,q7,q8,q9⟩
def HH{L:Nat→Prop}{a b:List PV}(h:az L a)(k:az L b):az L (List.append a b):=az.app h k
def lc{G:Prop}(h:G:=by repeat' (first|with_reducible (first|exact ml.nil|exact az.nil|exact az.vals|exact PV.lcl_val|exact PV.lcl_any|exact RV.lcl_hdr|exact RV.lcl_ptr|exact RV.lcl_gat|exact RV.lcl_phi|apply ml.cons|apply az.cons|apply RV.lcl_nm|apply RV.lcl_sv|apply RV.lcl_gh|apply PV.lcl_nv|apply PV.lcl_own|apply az.flat|apply az.app|apply HH|refine az.map fun _=>?_)|apply az.cons|apply ml.cons|exact az.nil|refine az.map fun _=>?_)):G:=h
def aI{a b:Prop}(x:a)(y:b):a∧b:=⟨x,y⟩
def tI:True:=True.intro
def nl{a b:Nat}(h:Nat.ble a b=true):a≤b:=Nat.le_of_ble_eq_true h
section
variable{P:Program}{n:Nat}{h0:Nat→Prop}{w0:World}{Fz0:ay}{c x y:Code}{σ:St}{Q:Exit→St→Prop}
def sP(ks bs:List Nat){l:List (Nat×RV)}{b:List (Nat×(Nat×List PV))}(h:SW P n h0 w0 Fz0 c (St.of l b) Q)(hl:ez σ.s ks l:=by repeat (first|exact ez.nil|apply ez.cons rfl))(hb:gY σ.b bs b:=by repeat (first|exact gY.nil|apply gY.cons rfl)):SW P n h0 w0 Fz0 c σ Q:=sO l b h hl.rd hb.rd
def sS{id:Nat}{ops:Array Oper}(ks bs:List Nat){l:List (Nat×RV)}{b:List (Nat×(Nat×List PV))}(h:av P n ops (fun τ=>ru (fun τ=>SW P n h0 w0 Fz0 y τ Q) Q .normal τ) ops.toList (St.of l b))(hl:ez σ.s ks l:=by repeat (first|exact ez.nil|apply ez.cons rfl))(hb:gY σ.b bs b:=by repeat (first|exact gY.nil|apply gY.cons rfl)):SW P n h0 w0 Fz0 (.seq (.region id ops false) y) σ Q:=wP (sO l b (rx h) hl.rd hb.rd)
def sG{id:Nat}{ops:Array Oper}(ks bs:List Nat){l:List (Nat×RV)}{b:List (Nat×(Nat×List PV))}(h:av P n ops (fun τ=>Q .normal τ) ops.toList (St.of l b))(hl:ez σ.s ks l:=by repeat (first|exact ez.nil|apply ez.cons rfl))(hb:gY σ.b bs b:=by repeat (first|exact gY.nil|apply gY.cons rfl)):SW P n h0 w0 Fz0 (.region id ops false) σ Q:=sO l b (rx h) hl.rd hb.rd
def sL{ι:Type}(ks bs:List Nat)(I:ι→Prop){l0:List (Nat×RV)}{b0:List (Nat×(Nat×List PV))}(l:ι→List (Nat×RV))(b:ι→List (Nat×(Nat×List PV)))(m:ι→Nat)(i0:ι)(h0':I i0)(hl:aN (l i0) σ.s)(hb:aN (b i0) σ.b)
  (round:∀i,I i→SW P n h0 w0 Fz0 c (St.of (l0++l i) (b0++b i)) (ru (fun τ=>∃j,I j∧m j < m i∧(aN l0 τ.s∧aN b0 τ.b)∧aN (l j) τ.s∧aN (b j) τ.b) Q)) (hl0:ez σ.s ks l0:=by repeat (first|exact ez.nil|apply ez.cons rfl)) (hb0:gY σ.b bs b0:=by repeat (first|exact gY.nil|apply gY.cons rfl)):SW P n h0 w0 Fz0 (.loop c) σ Q:=RC I l b m i0 h0' hl0.rd hb0.rd hl hb round
def sR{id:Nat}{ops:Array Oper}(h:av P n ops (fun τ=>ru (fun τ=>SW P n h0 w0 Fz0 y τ Q) Q .normal τ) ops.toList σ):SW P n h0 w0 Fz0 (.seq (.region id ops false) y) σ Q:=wP (rx h)
end
section
variable{P:Program}{n:Nat}{ops:Array Oper}{σ:St}{QS:St→Prop}{l:List Oper}{d x:Nat}{ty:TypeId}{pos:String}{af:Array Edge}
def rM{v:Value}(y:av P n ops QS l (σ.app ⟨[(x,RV.sc v)],[],[(d,some (RV.sc v))],[],none⟩))(h1:aN [(x,RV.sc v)] σ.s:=by repeat (first|exact True.intro|refine And.intro rfl ?_))(hd:d < n:=by decide):av P n ops QS (⟨some d,.move (.tmp x),ty,pos,af,none⟩::l) σ:=rA y h1 True.intro (sM hd) rfl rfl
def rS{v:Value}(y:av P n ops QS l (σ.app ⟨[(x,RV.sc v)],[],[(d,some (RV.sc v))],[],none⟩))(h1:aN [(x,RV.sc v)] σ.s:=by repeat (first|exact True.intro|refine And.intro rfl ?_))(hd:d < n:=by decide):av P n ops QS (⟨some d,.assign (.tmp x),ty,pos,af,none⟩::l) σ:=rA y h1 True.intro (sA hd) rfl rfl
def rK{v:Value}(y:av P n ops QS l (σ.app ⟨[],[],[(d,some (RV.sc v))],[],none⟩))(h:v.oneCell'=true:=by exact rfl)(hd:d < n:=by decide):av P n ops QS (⟨some d,.assign (.const v),ty,pos,af,none⟩::l) σ:=rA y True.intro True.intro (kA h hd) rfl rfl
end
end
end Go.Proofs.YtmekkgdboplbjaaGreatDoor.M
namespace Go.Proofs.YtmekkgdboplbjaaGreatDoor.M
open Go Go.RowKit
section
inductive lp:List PV→List PV→Prop
 | nil:lp [] []
 | val {v:Value} {l m:List PV} (h:lp l m):lp (PV.val v::l) (PV.val v::m)
 | sl {o:Fl} {es:List (List PV)} {l m:List PV} (h:lp l m):lp (PV.sl o es::l) (PV.sl o es::m)
def lp.eq{l m:List PV}(h:lp l m):l=m:=by
 induction h with
 | nil=>rfl
 | val _ ih=>rw [ih]
 | sl _ ih=>rw [ih]
inductive gt(b:Nat→Option (Nat×List PV)):List Nat→List (Nat×(Nat×List PV))→Prop
 | nil:gt b [] []
 | cons {k T:Nat} {cs ds:List PV} {ks:List Nat} {l:List (Nat×(Nat×List PV))} (h:b k=some (T,cs)) (e:lp cs ds) (t:gt b ks l):gt b (k::ks) ((k,(T,ds))::l)
 | any {k T:Nat} {cs:List PV} {ks:List Nat} {l:List (Nat×(Nat×List PV))} (h:b k=some (T,cs)) (t:gt b ks l):gt b (k::ks) ((k,(T,cs))::l)
def gt.rd{b:Nat→Option (Nat×List PV)}{ks:List Nat}{l:List (Nat×(Nat×List PV))}(h:gt b ks l):aN l b:=by
 induction h with
 | nil=>exact True.intro
 | cons h e _ ih=>exact And.intro (e.eq▸h) ih
 | any h _ ih=>exact And.intro h ih
section
variable{P:Program}{n:Nat}{h0:Nat→Prop}{w0:World}{Fz0:ay}{c x y:Code}{σ:St}{Q:Exit→St→Prop}
def sQ(ks bs:List Nat){l:List (Nat×RV)}{b:List (Nat×(Nat×List PV))}(h:SW P n h0 w0 Fz0 c (St.of l b) Q)(hl:ez σ.s ks l:=by repeat (first|exact ez.nil|apply ez.cons rfl))(hb:gt σ.b bs b:=by repeat (first|exact gt.nil|refine gt.cons rfl zH ?_|apply gt.any rfl)):SW P n h0 w0 Fz0 c σ Q:=sO l b h hl.rd hb.rd
def sT{id:Nat}{ops:Array Oper}(ks bs:List Nat){l:List (Nat×RV)}{b:List (Nat×(Nat×List PV))}(h:av P n ops (fun τ=>ru (fun τ=>SW P n h0 w0 Fz0 y τ Q) Q .normal τ) ops.toList (St.of l b))(hl:ez σ.s ks l:=by repeat (first|exact ez.nil|apply ez.cons rfl))(hb:gt σ.b bs b:=by repeat (first|exact gt.nil|refine gt.cons rfl zH ?_|apply gt.any rfl)):SW P n h0 w0 Fz0 (.seq (.region id ops false) y) σ Q:=wP (sO l b (rx h) hl.rd hb.rd)
def sH{id:Nat}{ops:Array Oper}(ks bs:List Nat){l:List (Nat×RV)}{b:List (Nat×(Nat×List PV))}(h:av P n ops (fun τ=>Q .normal τ) ops.toList (St.of l b))(hl:ez σ.s ks l:=by repeat (first|exact ez.nil|apply ez.cons rfl))(hb:gt σ.b bs b:=by repeat (first|exact gt.nil|refine gt.cons rfl zH ?_|apply gt.any rfl)):SW P n h0 w0 Fz0 (.region id ops false) σ Q:=sO l b (rx h) hl.rd hb.rd
def nx{ι:Type}{I:ι→Prop}{m:ι→Nat}{M:Nat}{C D:Prop}{E F:ι→Prop}(j:ι)(a:I j)(b:m j < M:=by first|omega|(dsimp only;omega))(c:C:=by repeat (first|exact True.intro|refine And.intro rfl ?_))(d:D:=by repeat (first|exact True.intro|refine And.intro rfl ?_))(e:E j:=by repeat (first|exact True.intro|refine And.intro rfl ?_))(f:F j:=by repeat (first|exact True.intro|refine And.intro rfl ?_)):∃j,I j∧m j < M∧(C∧D)∧E j∧F j:=⟨j,a,b,⟨c,d⟩,e,f⟩
def sF{f:FuncId}{fn:Func}{c:Code}{args rs:List (Bool×List PV)}(hf:P.funcs[f]?=some fn)(h:∀(h0:Nat→Prop) (w0:World) (Fz0:ay),SW P fn.ntmps h0 w0 Fz0 c (St.of (it 0 args) []) (ry P fn.results.toList rs))(hb:fn.body=some c:=by exact rfl)(hn:args.length≤fn.ntmps:=by exact Nat.le_of_ble_eq_true rfl)
  (hbor:wR args:=by repeat (first|with_reducible exact iv|with_reducible refine gV (by repeat (first|with_reducible exact aB.nil|with_reducible refine aB.cons (PV.bor_val _) ?_|with_reducible refine aB.cons (PV.bor_sl _) ?_|with_reducible refine aB.cons (PV.bor_lo _ _) ?_)) ?_)):aS P f args (aJ rs):=RE hf hb hn hbor h
def sn(s j:Nat){ag:Bool}{cs:List PV}{o:Fl}{es:List (List PV)}{m:Nat}(h:m≤9223372036854775807→SW P n h0 w0 Fz0 c σ Q)(hs:σ.s s=some (RV.sv ag cs):=by exact rfl)(hj:cs[j]?=some (PV.sl o es):=by exact rfl)(hm:es.length=m:=by first|exact aO _|exact rfl):SW P n h0 w0 Fz0 c σ Q:=RH hs hj fun k=>h (hm▸k)
def sj(s:Nat){o:Fl}{es:List (List PV)}{m:Nat}(h:m≤9223372036854775807→SW P n h0 w0 Fz0 c σ Q)(hs:σ.s s=some (RV.slc o es):=by exact rfl)(hm:es.length=m:=by first|exact aO _|exact rfl):SW P n h0 w0 Fz0 c σ Q:=RD hs fun k=>h (hm▸k)
def sc{t:Nat}{b:Bool}{A B:Prop}(h1:A→SW P n h0 w0 Fz0 x σ Q)(h2:B→SW P n h0 w0 Fz0 y σ Q)(ht:σ.s t=some (RV.bool b):=by exact rfl)(u1:b=true→A:=by first|(intro h;simp only [qq] at h;exact h)|exact id)(u2:b=false→B:=by first|(intro h;simp only [qq] at h;exact h)|exact id):SW P n h0 w0 Fz0 (.cond (.tmp t) x y) σ Q:=An ht (fun k=>h1 (u1 k)) (fun k=>h2 (u2 k))
def cd{t:Nat}(h1:SW P n h0 w0 Fz0 x σ Q)(ht:σ.s t=some (RV.bool true):=by exact rfl):SW P n h0 w0 Fz0 (.cond (.tmp t) x y) σ Q:=An ht (fun _=>h1) (fun k=>nomatch k)
def fW{t:Nat}(h1:SW P n h0 w0 Fz0 y σ Q)(ht:σ.s t=some (RV.bool false):=by exact rfl):SW P n h0 w0 Fz0 (.cond (.tmp t) x y) σ Q:=An ht (fun k=>nomatch k) (fun _=>h1)
end
section
variable{P:Program}{n:Nat}{ops:Array Oper}{σ σ0:St}{QS:St→Prop}{l:List Oper}{o:Oper}{acc:List (Nat×aR)}{C:Nat→aR→Prop}
def cx(s:Nat){b:Bool}{A B:Prop}(h1:b=true→A→av P n ops QS l σ)(h2:b=false→B→av P n ops QS l σ)(ht:σ.s s=some (RV.bool b):=by exact rfl)(u1:b=true→A:=by first|(intro h;simp only [qq] at h;exact h)|exact id)(u2:b=false→B:=by first|(intro h;simp only [qq] at h;exact h)|exact id):av P n ops QS l σ:=av.cases ht (fun k=>h1 k (u1 k)) (fun k=>h2 k (u2 k))
def dx(s:Nat){b:Bool}{A B:Prop}(h1:b=true→A→df P n ops σ0 C QS l acc σ)(h2:b=false→B→df P n ops σ0 C QS l acc σ)(ht:σ.s s=some (RV.bool b):=by exact rfl)(u1:b=true→A:=by first|(intro h;simp only [qq] at h;exact h)|exact id)(u2:b=false→B:=by first|(intro h;simp only [qq] at h;exact h)|exact id):df P n ops σ0 C QS l acc σ:=df.cases ht (fun k=>h1 k (u1 k)) (fun k=>h2 k (u2 k))
inductive Hd(H:Prop):Prop
 | mk (h:H):Hd H
def Hd.g{H:Prop}:Hd H→H:=fun x=>by cases x with|mk h=>exact h
abbrev ah(G H:Prop):=Hd H→G
def ai{G H:Prop}(w:ah G H)(h:H):G:=w ⟨h⟩
def zt{c:Bool}{G H:Prop}(g:c=true)(h:H)(w:c=true→Hd H→G:=by intro g_ h_;(repeat (first|refine av.s0t g_ ?_|refine av.su ?_));exact h_.g):G:=w g ⟨h⟩
def zf{c:Bool}{G H:Prop}(g:c=false)(h:H)(w:c=false→Hd H→G:=by intro g_ h_;(repeat (first|refine av.s0f g_ ?_|refine av.su ?_));exact h_.g):G:=w g ⟨h⟩
def rX{L:aR}(y:av P n ops QS l (σ.app L))(h1:aN L.rs σ.s:=by repeat (first|exact True.intro|refine And.intro rfl ?_))(h2:aN L.rb σ.b:=by repeat (first|exact True.intro|refine And.intro rfl ?_))(x:Loc P n o L)(hg:o.guard=none:=by exact rfl)(ha:∀d,L.al=some d→fp d σ:=by refine Ap ?_;repeat (first|exact fp.of_ rfl|refine fp.app ?_ rfl)):av P n ops QS (o::l) σ:=av.step h1 h2 (dD.of hg x) ha y
end
def rb{b c:Bool}(h:b=c):some (RV.bool b)=some (RV.bool c)∧True:=⟨dh h,True.intro⟩
def SH{L:Nat→Prop}:∀cs,cs∈([]:List (List PV))→az L cs:=fun _ h=>nomatch h
def SI{L:Nat→Prop}:∀cs,cs∈([]:List (List PV))→ix L cs:=fun _ h=>nomatch h
def lq{G:Prop}(h:G:=by repeat' (first|with_reducible (first|exact az.nil|exact az.vals|exact ix.nil|exact PV.lcl_val|exact PV.lclr_val|exact PV.lcl_any|exact RV.lcl_hdr|exact RV.lcl_ptr|exact RV.lcl_gat|exact RV.lcl_phi|exact aB.nil|exact PV.bor_val _|exact PV.bor_sl _|exact PV.bor_lo _ _|exact PV.bor_any|exact PV.bor_clo _ _|exact PV.bor_ep _|apply PV.bor_nv|exact iv|exact ao.nil|exact PV.tob_refl|exact iw.nil|exact OTo.refl|exact OTo.lo|apply az.cons|apply ix.cons|apply aB.cons|apply gV|apply ao.cons|apply iw.cons|apply RV.lcl_nm|apply RV.lcl_sv|apply RV.lcl_gh|apply PV.lcl_nv|apply PV.lcl_own|apply PV.lcl_lo|apply PV.lclr_lo|apply az.flat|apply az.app|apply HH|refine az.map fun _=>?_|refine ix.map fun _=>?_|refine PV.tob_map (fun _=>Nat.le_of_ble_eq_true rfl) (fun _=>?_)|exact True.intro|exact ml.nil|apply ml.cons)|apply az.cons|apply ix.cons|apply ao.cons|apply aB.cons|apply gV|exact az.nil|exact ix.nil|exact ao.nil|exact aB.nil|exact iv|exact SH|exact SI|apply iw.cons|apply RV.lcl_sv|exact RV.lcl_ptr|exact True.intro|exact Or.inl rfl|(refine Or.inl ?_;simp [jt];done)|refine Or.inr ?_|refine And.intro rfl ?_|refine And.intro ?_ ?_|exact rfl|refine az.map fun _=>?_)):G:=h
end
section
def xc{α:Type}{f g:α→List PV}{fN:α×(Nat→Value)→List PV}{e:Nat}(hN:∀x h,fN (x,h)=di h 0 (g x))(hg:∀x,(g x).length=e)(hq:∀x,aA (f x) (g x))(hb:∀x,aB (g x)){Fz:ay}{w:World}:∀{xs:List α} {css:List Value} {F:List Nat},bY e (xs.map f) Fz w css F →
  ∃zs:List (α×(Nat→Value)),zs.map Prod.fst=xs∧css=aV e zs∧bY e (zs.map fN) Fz w css []∧aC (bp f zs) Fz w (aV e zs) F
 | [],css,F,h=>by
  obtain ⟨rfl,rfl⟩:=h
  exact ⟨[],rfl,rfl,⟨rfl,rfl⟩,⟨rfl,rfl⟩⟩
 | x::xs,css,F,h=>by
  obtain ⟨c,d,F1,F2,rfl,rfl,hl,h1,h2⟩:=h
  obtain ⟨zs,e1,e2,e3,e4⟩:=xc hN hg hq hb h2
  obtain ⟨k,hk⟩:=AB hl
  refine ⟨(x,k)::zs,by rw [List.map_cons,e1],?_,?_,?_⟩
  ·rw [hk,e2];rfl
  ·refine ⟨c,d,[],[],rfl,rfl,hl,?_,e3⟩
   rw [hN,wV,hg,←List.range_eq_range',←hk]
   exact wU (hb x) ((hq x).rel h1.rel)
  ·have:aC (f x++bp f zs) Fz w (c++aV e zs) (F1++F2):=h1.append e4
   rw [hk] at this;exact this
section
variable{P:Program}{n:Nat}{h0:Nat→Prop}{w0:World}{Fz0:ay}{σ:St}{Q:Exit→St→Prop}{c:Code}
def SJ{s t e G:Nat}{α:Type}{f g:α→List PV}{fN:α×(Nat→Value)→List PV}{xs:List α}(hs:σ.s s=some (RV.sv false [PV.sl (.own t e) (xs.map f)]))(hsG:Nat.beq s G=false)(hG:σ.s G=none)(hN:∀x h,fN (x,h)=di h 0 (g x))(hg:∀x,(g x).length=e)(hq:∀x,aA (f x) (g x))(hb:∀x,aB (g x))
  (h:∀zs:List (α×(Nat→Value)),zs.map Prod.fst=xs→SW P n h0 w0 Fz0 c ((σ.set s (some (RV.sv false [PV.sl .v (zs.map fN)]))).set G (some (RV.gh (aV e zs) (bp f zs)))) Q):SW P n h0 w0 Fz0 c σ Q:=fun a w hc=>by
 rw [beq_eq,decide_eq_false_iff_not] at hsG
 obtain ⟨φ,Fz,Fp,hc⟩:=hc
 have hv:bH false [PV.sl (.own t e) (xs.map f)] Fz w (a.tmps.getD s undef) (Fp (2 * s+1)):=hc.slot s _ hs
 obtain ⟨hag,v,vs',F1,F2,hv1,hF,ho,hnil,rfl⟩:=hv
 subst hnil
 have ho:da t e (xs.map f) Fz w v F1:=ho
 obtain ⟨css,F',hrow,hll,hfz,rfl,hone⟩:=ho
 obtain ⟨zs,e1,e2,e3,e4⟩:=xc hN hg hq hb hll
 have hlen:(zs.map fN).length=(xs.map f).length:=zG
 have hsl:da t e (zs.map fN) Fz w v (v.ownBlock.toList++[]):=⟨css,[],wl,e3,fun g hg o=>by rw [hlen];exact hfz g hg o,rfl,hone⟩
 have c1:=hc.pull s
 have e0:mv Fp (2 * s+1) 0=Fp (2 * s+1)++Fp 0:=et
 have es:mv Fp (2 * s+1) (2 * s+1)=[]:=et
 have hnd:=c1.nod 0
 rw [e0,hF,dJ] at hnd
 rw [hF,dJ] at e0
 have c2:=c1.reslot (s:=s) (rv:=RV.sv false [PV.sl .v (zs.map fN)]) (by
  rw [es]
  exact ⟨hag,v,[],[],[],hv1,rfl,⟨hsl.rel,rfl⟩,rfl,rfl⟩)
 have c3:=c2.pushG (G:=G) (us:=aV e zs) (cs:=bp f zs) (F:=F') (X:=Fp 0) e4 (fun b hb=>by
   rw [e0]
   rcases List.mem_append.1 hb with hb|hb
   ·simp [hb]
   ·simp [hb])
  (by
   rw [aW] at hnd
   exact (List.nodup_append.1 hnd).2.1)
 exact h zs e1 a w (bl.eqv ⟨_,_,_,c3⟩ (fun i=>by
  simp only [St.set_s]
  split
  ·rfl
  ·split<;>rfl) (fun d=>rfl))
def SK{G H e:Nat}{α:Type}{f:α→List PV}{ys zs:List (α×(Nat→Value))}(hG:σ.s G=some (RV.gh (aV e ys) (bp f ys)))(hH:σ.s H=some (RV.gh (aV e zs) (bp f zs)))(hGH:Nat.beq G H=false)(h:SW P n h0 w0 Fz0 c ((σ.set H none).set G (some (RV.gh (aV e (ys++zs)) (bp f (ys++zs))))) Q):SW P n h0 w0 Fz0 c σ Q:=fun a w hc=>by
 rw [beq_eq,decide_eq_false_iff_not] at hGH
 obtain ⟨φ,Fz,Fp,hc⟩:=hc
 have h1:aC (bp f ys) Fz w (aV e ys) (Fp (2 * G+1)):=hc.slot G _ hG
 have h2:aC (bp f zs) Fz w (aV e zs) (Fp (2 * H+1)):=hc.slot H _ hH
 have ho:aC (bp f (ys++zs)) Fz w (aV e (ys++zs)) (Fp (2 * G+1)++Fp (2 * H+1)):=by
  have e1:bp f (ys++zs)=bp f ys++bp f zs:=by simp [bp]
  have e2:aV e (ys++zs)=aV e ys++aV e zs:=by simp [aV]
  rw [e1,e2];exact h1.append h2
 have c1:=hc.pull H
 have c2:=c1.pull G
 have e1:mv Fp (2 * H+1) (2 * G+1)=Fp (2 * G+1):=Gx
 have e2:mv (mv Fp (2 * H+1)) (2 * G+1) 0=Fp (2 * G+1)++(Fp (2 * H+1)++Fp 0):=by
  rw [←e1];simp [mv]
 have hnd:=c2.nod 0
 rw [e2] at hnd
 have c3:=c2.pushG (G:=G) (F:=Fp (2 * G+1)++Fp (2 * H+1)) (X:=Fp 0) ho (fun b hb=>by rw [e2,←aW];exact hb) (by rw [aW];exact hnd)
 exact h a w (bl.eqv ⟨_,_,_,c3⟩ (fun i=>by
  simp only [St.set_s]
  split
  ·rfl
  ·rfl) (fun d=>rfl))
def HI{d t G e:Nat}{α:Type}{f:α→List PV}{z:α×(Nat→Value)}{zs:List (α×(Nat→Value))}{ps:List PV}(hd:σ.b d=some (t,ps))(hn:Nm ps ((List.range e).map z.2))(hf:∀x,(f x).length=e)(hG:σ.s G=some (RV.gh (aV e (z::zs)) (bp f (z::zs))))
  (h:SW P n h0 w0 Fz0 c ((σ.setB d (some (t,f z.1))).set G (some (RV.gh (aV e zs) (bp f zs)))) Q):SW P n h0 w0 Fz0 c σ Q:=fun a w hc=>by
 obtain ⟨φ,Fz,Fp,hc⟩:=hc
 have hg0:aC (f z.1++bp f zs) Fz w ((List.range e).map z.2++aV e zs) (Fp (2 * G+1)):=hc.slot G _ hG
 obtain ⟨v1,v2,F1,F2,k1,k2,k3,k4⟩:=hg0.split
 obtain ⟨rfl,rfl⟩:=List.append_inj k1 (by rw [k3.len,hf];simp)
 have c1:=hc.pull G
 have e0:mv Fp (2 * G+1) 0=Fp (2 * G+1)++Fp 0:=et
 obtain ⟨cur,h1,h2⟩:=c1.box d (t,ps) hd
 obtain ⟨g1,g2,g3⟩:=c1.bxb d (t,ps) hd
 have hu:cur.toList=(List.range e).map z.2:=hn h2.rel
 have c2:=c1.pullB (d:=d) (cs:=(t,ps)) hd
 generalize hFp1:mv Fp (2 * G+1)=Fp1 at c1 c2 e0 h2 g3
 have hnd:=c2.nod 0
 simp only [if_true] at hnd
 have em:mv Fp1 (2 * d+2) 0=Fp1 (2 * d+2)++Fp1 0:=et
 rw [em,e0,k2] at hnd
 rw [k2] at e0
 have c3:=c2.pushB (d:=d) (g:=φ d) (t:=t) (cs:=f z.1) (F:=F1) (X:=F2++Fp 0) iP h1 (by rw [hu];exact k3) g2
  (fun x hx=>by
   simp only [if_true]
   rw [em,e0]
   rcases List.mem_append.1 hx with hx|hx
   ·simp [hx]
   ·rcases List.mem_cons.1 hx with rfl|hx
    ·simp
    ·rcases List.mem_append.1 hx with hx|hx<;>simp [hx])
  (by
   simp only [jN,cB] at hnd
   obtain ⟨m0,m1⟩:=hnd
   have m2:=(List.nodup_append.1 m1).2.1
   rw [aW,cS] at m2
   rw [cS]
   refine ⟨m2.1,List.nodup_cons.2 ⟨fun hh=>?_,m2.2.1⟩,fun x hx y hy e=>?_⟩
   ·rcases List.mem_append.1 hh with hh|hh
    ·exact m0 (.inr (.inl (.inr hh)))
    ·exact m0 (.inr (.inr hh))
   ·rcases List.mem_cons.1 hy with rfl|hy
    ·exact m0 (.inr (.inl (.inl (e▸hx))))
    ·exact m2.2.2 x hx y hy e)
  (.inl rfl)
 have hn3:=c3.nod 0
 have c4:=c3.pushG (G:=G) (F:=F2) (X:=Fp 0) k4 (fun b hb=>by simp only [cH];rw [if_neg ab];simpa using hb) (by
  simp only [cH] at hn3
  rw [if_neg ab] at hn3
  simpa using hn3)
 exact h a w (bl.eqv ⟨_,_,_,c4⟩ (fun i=>by
  simp only [St.set_s,St.setB_s]
  split<;>rfl) (fun e=>by
  simp only [St.setB_b,St.set_b]
  split<;>rfl))
def AE{d T t e G:Nat}{A B:List PV}{α:Type}{f g:α→List PV}{fN:α×(Nat→Value)→List PV}{xs:List α}(hd:σ.b d=some (T,A++(PV.sl (.own t e) (xs.map f)::B)))(hG:σ.s G=none)(hN:∀x h,fN (x,h)=di h 0 (g x))(hg:∀x,(g x).length=e)(hq:∀x,aA (f x) (g x))(hb:∀x,aB (g x))
  (h:∀zs:List (α×(Nat→Value)),zs.map Prod.fst=xs→SW P n h0 w0 Fz0 c ((σ.setB d (some (T,A++(PV.sl .v (zs.map fN)::B)))).set G (some (RV.gh (aV e zs) (bp f zs)))) Q):SW P n h0 w0 Fz0 c σ Q:=fun a w hc=>by
 obtain ⟨φ,Fz,Fp,hc⟩:=hc
 obtain ⟨cur,h1,h2⟩:=hc.box d _ hd
 obtain ⟨g1,g2,g3⟩:=hc.bxb d _ hd
 obtain ⟨v1,v2,F1,F2,k1,k2,k3,v,vs',E1,E2,rfl,rfl,ho,kB⟩:=h2.split
 have ho:da t e (xs.map f) Fz w v E1:=ho
 obtain ⟨css,F',hrow,hll,hfz,rfl,hone⟩:=ho
 obtain ⟨zs,e1,e2,e3,e4⟩:=xc hN hg hq hb hll
 have hlen:(zs.map fN).length=(xs.map f).length:=zG
 have hsl:da t e (zs.map fN) Fz w v (v.ownBlock.toList++[]):=⟨css,[],wl,e3,fun g hg o=>by rw [hlen];exact hfz g hg o,rfl,hone⟩
 have hnew:aC (A++(PV.sl .v (zs.map fN)::B)) Fz w cur.toList (F1++([]++E2)):=by
  rw [k1]
  exact k3.append ⟨v,vs',[],E2,rfl,rfl,⟨hsl.rel,rfl⟩,kB⟩
 rw [List.nil_append] at hnew
 have c2:=hc.pullB hd
 have hnd:=c2.nod 0
 simp only [if_true] at hnd
 have em:mv Fp (2 * d+2) 0=Fp (2 * d+2)++Fp 0:=et
 have k2':Fp (2 * d+2)=F1++(v.ownBlock.toList++F'++E2):=k2
 rw [em,k2'] at hnd
 rw [k2'] at em
 have hperm:(φ d::(F1++(v.ownBlock.toList++F'++E2)++Fp 0)).Perm ((F1++E2)++φ d::(F'++(v.ownBlock.toList++Fp 0))):=by
  refine (List.Perm.trans ?_ List.perm_middle.symm)
  refine List.Perm.cons _ ?_
  simp only [aW]
  refine fT _ ?_
  show (v.ownBlock.toList++(F'++(E2++Fp 0))).Perm (E2++(F'++(v.ownBlock.toList++Fp 0)))
  have p1:((v.ownBlock.toList++F')++(E2++Fp 0)).Perm ((F'++v.ownBlock.toList)++(E2++Fp 0)):=im _ iT
  have p2:((F'++v.ownBlock.toList)++(E2++Fp 0)).Perm (E2++((F'++v.ownBlock.toList)++Fp 0)):=by
   rw [←aW,←aW]
   exact im _ iT
  have p3:=p1.trans p2
  simpa using p3
 have c3:=c2.pushB (d:=d) (g:=φ d) (t:=T) (cs:=A++(PV.sl .v (zs.map fN)::B)) (F:=F1++E2) (X:=F'++(v.ownBlock.toList++Fp 0)) iP h1 hnew g2
  (fun x hx=>by
   simp only [if_true]
   rw [em]
   exact hperm.mem_iff.2 hx) (hperm.nodup_iff.1 hnd) (.inl rfl)
 have hn3:=c3.nod 0
 have c4:=c3.pushG (G:=G) (F:=F') (X:=v.ownBlock.toList++Fp 0) e4 (fun b hb=>by simp only [cH];rw [if_neg ab];simpa using hb) (by
  simp only [cH] at hn3
  rw [if_neg ab] at hn3
  simpa using hn3)
 exact h zs e1 a w (bl.eqv ⟨_,_,_,c4⟩ (fun i=>by
  simp only [St.set_s,St.setB_s]) (fun e=>by
  simp only [St.setB_b,St.set_b]
  split<;>rfl))
end
end
section
def SL{α:Type}{f g:α→List PV}{fN:α×(Nat→Value)→List PV}{t e:Nat}(hN:∀x h,fN (x,h)=di h 0 (g x))(hg:∀x,(g x).length=e)(hq:∀x,aA (f x) (g x))(hb:∀x,aB (g x)){Fz:ay}{w:World}{xs:List α}{v:Value}{F:List Nat}(h:da t e (xs.map f) Fz w v F) :
  ∃zs:List (α×(Nat→Value)),∃F1 F2,zs.map Prod.fst=xs∧da t e (zs.map fN) Fz w v F1∧aC (bp f zs) Fz w (aV e zs) F2∧F=F1++F2:=by
 obtain ⟨css,F',hrow,hll,hfz,rfl,hone⟩:=h
 obtain ⟨zs,e1,e2,e3,e4⟩:=xc hN hg hq hb hll
 have hlen:(zs.map fN).length=(xs.map f).length:=zG
 exact ⟨zs,v.ownBlock.toList++[],F',e1,⟨css,[],wl,e3,fun g hg o=>by rw [hlen];exact hfz g hg o,rfl,hone⟩,e4,aF⟩
def HJ{α:Type}{f:α→List PV}{ys zs:List (α×(Nat→Value))}:bp f (ys++zs)=bp f ys++bp f zs:=by simp [bp]
def rT{α:Type}{e:Nat}{ys zs:List (α×(Nat→Value))}:aV e (ys++zs)=aV e ys++aV e zs:=by simp [aV]
def xd{α:Type}{a b c d:List α}:(a++b++(c++d)).Perm (a++c++(b++d)):=by
 simp only [aW]
 refine fT _ ?_
 rw [←aW,←aW]
 exact im _ iT
def HK{α:Type}{f g:α→List PV}{fN:α×(Nat→Value)→List PV}{e:Nat}(hN:∀x h,fN (x,h)=di h 0 (g x))(hg:∀x,(g x).length=e)(hf:∀x,(f x).length=e){Fz:ay}{w:World}:∀{zs:List (α×(Nat→Value))} {css:List Value} {F1 F2:List Nat},bY e (zs.map fN) Fz w css F1→aC (bp f zs) Fz w (aV e zs) F2→bY e ((zs.map Prod.fst).map f) Fz w css F2
 | [],css,F1,F2,h,k=>by
  obtain ⟨rfl,rfl⟩:=h
  obtain ⟨_,rfl⟩:=k
  exact ⟨rfl,rfl⟩
 | z::zs,css,F1,F2,h,k=>by
  obtain ⟨c,d,Fa,Fb,rfl,rfl,hl,h1,h2⟩:=h
  have k:aC (f z.1++bp f zs) Fz w ((List.range e).map z.2++aV e zs) F2:=k
  obtain ⟨v1,v2,G1,G2,k1,k2,k3,k4⟩:=k.split
  obtain ⟨rfl,rfl⟩:=List.append_inj k1 (by rw [k3.len,hf];simp)
  have hc:c=(List.range e).map z.2:=by
   have hr:=h1.rel
   rw [show fN z=di z.2 0 (g z.1) from hN z.1 z.2] at hr
   have hk:∀(ps:List PV) (i:Nat) (vs:List Value),bE (di z.2 i ps) Fz w vs→vs=(List.range' i ps.length).map z.2:=by
    intro ps
    induction ps with
    | nil=>intro i vs h;exact h
    | cons p ps ih=>
     intro i vs h
     obtain ⟨v,vs',rfl,h1,h2⟩:=h
     rw [ih _ _ h2,h1.1];rfl
   rw [hk _ _ _ hr,hg,←List.range_eq_range']
  subst hc
  exact ⟨_,d,G1,G2,rfl,k2,hl,k3,HK hN hg hf h2 k4⟩
def HL{α:Type}{f:α→List PV}{e:Nat}(hf:∀x,(f x).length=e){Fz:ay}{w:World}{z:α×(Nat→Value)}{l:List (α×(Nat→Value))}{F:List Nat}(h:aC (bp f (z::l)) Fz w (aV e (z::l)) F):∃F1 F2,F=F1++F2∧aC (f z.1) Fz w ((List.range e).map z.2) F1∧aC (bp f l) Fz w (aV e l) F2:=by
 have h:aC (f z.1++bp f l) Fz w ((List.range e).map z.2++aV e l) F:=h
 obtain ⟨v1,v2,F1,F2,e1,rfl,h1,h2⟩:=h.split
 obtain ⟨rfl,rfl⟩:=List.append_inj e1 (by rw [h1.len,hf];simp)
 exact ⟨F1,F2,rfl,h1,h2⟩
def HM{α:Type}{f:α→List PV}{e:Nat}(hf:∀x,(f x).length=e){Fz:ay}{w:World}{ys zs:List (α×(Nat→Value))}(hs:ys.Sublist zs):∀{F:List Nat},aC (bp f zs) Fz w (aV e zs) F→∃F' R,F.Perm (F'++R)∧aC (bp f ys) Fz w (aV e ys) F':=by
 induction hs with
 | slnil=>exact fun h=>⟨_,[],by rw [dJ],h⟩
 | cons z hs ih=>
  intro F h
  obtain ⟨F1,F2,rfl,h1,h2⟩:=HL hf h
  obtain ⟨F',R,hp,ho⟩:=ih h2
  exact ⟨F',F1++R,(fT _ hp).trans (by rw [←aW,←aW];exact im _ iT),ho⟩
 | cons_cons z hs ih=>
  intro F h
  obtain ⟨F1,F2,rfl,h1,h2⟩:=HL hf h
  obtain ⟨F',R,hp,ho⟩:=ih h2
  refine ⟨F1++F',R,(fT _ hp).trans (by rw [aW]),?_⟩
  exact h1.append ho
def HN{α:Type}{f g:α→List PV}{fN:α×(Nat→Value)→List PV}{t e:Nat}(hN:∀x h,fN (x,h)=di h 0 (g x))(hg:∀x,(g x).length=e)(hf:∀x,(f x).length=e){Fz:ay}{w:World}{zs:List (α×(Nat→Value))}{v:Value}{F1 F2:List Nat}(h:da t e (zs.map fN) Fz w v F1)(k:aC (bp f zs) Fz w (aV e zs) F2):da t e ((zs.map Prod.fst).map f) Fz w v (v.ownBlock.toList++F2):=by
 obtain ⟨css,F',hrow,hll,hfz,rfl,hone⟩:=h
 have hlen:((zs.map Prod.fst).map f).length=(zs.map fN).length:=aF
 exact ⟨css,F2,wl,HK hN hg hf hll k,fun g hg o=>by rw [hlen];exact hfz g hg o,rfl,hone⟩
def HO{t e:Nat}{es:List (List PV)}{Fz:ay}{w:World}{v:Value}{F:List Nat}(h:da t e es Fz w v F):∃F',F=v.ownBlock.toList++F':=by
 obtain ⟨css,F',hrow,hll,hfz,rfl,hone⟩:=h
 exact ⟨F',rfl⟩
def xe{α:Type}{f:α→List PV}{x:α}{xs:List α}{jk:List Value}:bo f (x::xs) jk=f x++bo f xs jk:=by
 unfold bo;rw [List.map_cons,List.flatten_cons,aW]
def HP{α:Type}{f g:α→List PV}{fN:α×(Nat→Value)→List PV}{t e:Nat}(hN:∀x h,fN (x,h)=di h 0 (g x))(hg:∀x,(g x).length=e)(hq:∀x,aA (f x) (g x))(hb:∀x,aB (g x)){jk:List Value}{Fz:ay}{w:World}:∀{xss:List (List α)} {vs:List Value} {F:List Nat},aC (bo (fun xs=>[PV.sl (.own t e) (xs.map f)]) xss jk) Fz w vs F →
  ∃zss:List (List (α×(Nat→Value))),∃F1 F2,zss.map (List.map Prod.fst)=xss∧aC (bo (fun zs=>[PV.sl (.own t e) (zs.map fN)]) zss jk) Fz w vs F1∧aC (bp f zss.flatten) Fz w (aV e zss.flatten) F2∧F.Perm (F1++F2)
 | [],vs,F,h=>⟨[],F,[],rfl,h,⟨rfl,rfl⟩,by rw [dJ]⟩
 | xs::xss,vs,F,h=>by
  rw [xe] at h
  obtain ⟨v,vs',Fa,Fb,rfl,rfl,ho,h2⟩:=h
  obtain ⟨zs,A1,A2,e1,e2,e3,rfl⟩:=SL hN hg hq hb (show da t e (xs.map f) Fz w v Fa from ho)
  obtain ⟨zss,B1,B2,e4,e5,e6,hp⟩:=HP hN hg hq hb h2
  refine ⟨zs::zss,A1++B1,A2++B2,by rw [List.map_cons,e1,e4],?_,?_,?_⟩
  ·rw [xe];exact ⟨v,vs',A1,B1,rfl,rfl,e2,e5⟩
  ·rw [List.flatten_cons,HJ,rT];exact e3.append e6
  ·exact (fT _ hp).trans xd
def SM{α:Type}{f:α→List PV}{e:Nat}(hf:∀x,(f x).length=e):∀l:List (α×(Nat→Value)),(aV e l).length=(bp f l).length:=by
 intro l
 induction l with
 | nil=>rfl
 | cons z l ih=>
  show ((List.range e).map z.2++aV e l).length=(f z.1++bp f l).length
  simp [hf,ih]
def HQ{α:Type}{f g:α→List PV}{fN:α×(Nat→Value)→List PV}{t e:Nat}(hN:∀x h,fN (x,h)=di h 0 (g x))(hg:∀x,(g x).length=e)(hf:∀x,(f x).length=e){jk:List Value}{Fz:ay}{w:World}:∀{zss:List (List (α×(Nat→Value)))} {vs:List Value} {F1 F2:List Nat},aC (bo (fun zs=>[PV.sl (.own t e) (zs.map fN)]) zss jk) Fz w vs F1→aC (bp f zss.flatten) Fz w (aV e zss.flatten) F2 →
  ∃F R,aC (bo (fun xs=>[PV.sl (.own t e) (xs.map f)]) (zss.map (List.map Prod.fst)) jk) Fz w vs F∧(F1++F2).Perm (F++R)
 | [],vs,F1,F2,h,k=>⟨F1,F2,h,List.Perm.refl _⟩
 | zs::zss,vs,F1,F2,h,k=>by
  rw [xe] at h
  obtain ⟨v,vs',G1,Fb,rfl,rfl,ho,h2⟩:=h
  rw [List.flatten_cons,HJ,rT] at k
  obtain ⟨v1,v2,K1,K2,k1,rfl,k3,k4⟩:=k.split
  obtain ⟨rfl,rfl⟩:=List.append_inj k1 (by rw [k3.len];exact SM hf zs)
  have ho:da t e (zs.map fN) Fz w v G1:=ho
  obtain ⟨G',rfl⟩:=HO ho
  have hb:=HN hN hg hf ho k3
  obtain ⟨F,R,e1,hp⟩:=HQ hN hg hf h2 k4
  refine ⟨(v.ownBlock.toList++K1)++F,G'++R,?_,?_⟩
  ·rw [List.map_cons,xe];exact ⟨v,vs',_,F,rfl,rfl,hb,e1⟩
  refine xd.trans ?_
  refine (fT _ hp).trans ?_
  simp only [aW]
  refine fT _ ?_
  have p1:(G'++(K1++(F++R))).Perm ((K1++F)++(G'++R)):=by
   have:=(iT (l₁:=G') (l₂:=K1++F)).append_right R
   simpa only [aW] using this
  simpa only [aW] using p1
section
variable{P:Program}{n:Nat}{h0:Nat→Prop}{w0:World}{Fz0:ay}{σ:St}{Q:Exit→St→Prop}{c:Code}
def SN{d T G:Nat}{A B:List PV}{p:PV}{ι:Type}{q:ι→PV}{us:ι→List Value}{gs:ι→List PV}(hd:σ.b d=some (T,A++(p::B)))(hG:σ.s G=none)(hp:∀{Fz:ay} {w:World} {v:Value} {F:List Nat},p.own Fz w v F→∃i,∃F1 F2,(q i).own Fz w v F1∧aC (gs i) Fz w (us i) F2∧F.Perm (F1++F2))
  (h:∀i,SW P n h0 w0 Fz0 c ((σ.setB d (some (T,A++(q i::B)))).set G (some (RV.gh (us i) (gs i)))) Q):SW P n h0 w0 Fz0 c σ Q:=fun a w hc=>by
 obtain ⟨φ,Fz,Fp,hc⟩:=hc
 obtain ⟨cur,h1,h2⟩:=hc.box d _ hd
 obtain ⟨g1,g2,g3⟩:=hc.bxb d _ hd
 obtain ⟨v1,v2,F1,F2,k1,k2,k3,v,vs',E1,E2,rfl,rfl,ho,kB⟩:=h2.split
 obtain ⟨i,P1,P2,m1,m2,m3⟩:=hp ho
 have hnew:aC (A++(q i::B)) Fz w cur.toList (F1++(P1++E2)):=by
  rw [k1]
  exact k3.append ⟨v,vs',P1,E2,rfl,rfl,m1,kB⟩
 have c2:=hc.pullB hd
 have hnd:=c2.nod 0
 simp only [if_true] at hnd
 have em:mv Fp (2 * d+2) 0=Fp (2 * d+2)++Fp 0:=et
 have k2':Fp (2 * d+2)=F1++(E1++E2):=k2
 rw [em,k2'] at hnd
 rw [k2'] at em
 have hperm:(φ d::(F1++(E1++E2)++Fp 0)).Perm ((F1++(P1++E2))++φ d::(P2++Fp 0)):=by
  refine (List.Perm.trans ?_ List.perm_middle.symm)
  refine List.Perm.cons _ ?_
  simp only [aW]
  refine fT _ ?_
  refine (im _ m3).trans ?_
  simp only [aW]
  refine fT _ ?_
  rw [←aW,←aW]
  exact im _ iT
 have c3:=c2.pushB (d:=d) (g:=φ d) (t:=T) (cs:=A++(q i::B)) (F:=F1++(P1++E2)) (X:=P2++Fp 0) iP h1 hnew g2
  (fun x hx=>by
   simp only [if_true]
   rw [em]
   exact hperm.mem_iff.2 hx) (hperm.nodup_iff.1 hnd) (.inl rfl)
 have hn3:=c3.nod 0
 have c4:=c3.pushG (G:=G) (F:=P2) (X:=Fp 0) m2 (fun b hb=>by simp only [cH];rw [if_neg ab];simpa using hb) (by
  simp only [cH] at hn3
  rw [if_neg ab] at hn3
  simpa using hn3)
 exact h i a w (bl.eqv ⟨_,_,_,c4⟩ (fun i=>by
  simp only [St.set_s,St.setB_s]) (fun e=>by
  simp only [St.setB_b,St.set_b]
  split<;>rfl))
def SO{d T G:Nat}{A B:List PV}{p q:PV}{us:List Value}{gs:List PV}(hd:σ.b d=some (T,A++(q::B)))(hG:σ.s G=some (RV.gh us gs))(hp:∀{Fz:ay} {w:World} {v:Value} {F1 F2:List Nat},q.own Fz w v F1→aC gs Fz w us F2→∃F R,p.own Fz w v F∧(F1++F2).Perm (F++R))
  (h:SW P n h0 w0 Fz0 c ((σ.set G none).setB d (some (T,A++(p::B)))) Q):SW P n h0 w0 Fz0 c σ Q:=fun a w hc=>by
 obtain ⟨φ,Fz,Fp,hc⟩:=hc
 have hg0:aC gs Fz w us (Fp (2 * G+1)):=hc.slot G _ hG
 have c1:=hc.pull G
 have e0:mv Fp (2 * G+1) 0=Fp (2 * G+1)++Fp 0:=et
 obtain ⟨cur,h1,h2⟩:=c1.box d _ hd
 obtain ⟨g1,g2,g3⟩:=c1.bxb d _ hd
 obtain ⟨v1,v2,F1,F2,k1,k2,k3,v,vs',E1,E2,rfl,rfl,ho,kB⟩:=h2.split
 obtain ⟨F,R,m1,m2⟩:=hp ho hg0
 have hnew:aC (A++(p::B)) Fz w cur.toList (F1++(F++E2)):=by
  rw [k1]
  exact k3.append ⟨v,vs',F,E2,rfl,rfl,m1,kB⟩
 have c2:=c1.pullB (d:=d) hd
 generalize hFp1:mv Fp (2 * G+1)=Fp1 at c1 c2 e0 h2 g3 k2
 have hnd:=c2.nod 0
 simp only [if_true] at hnd
 have em:mv Fp1 (2 * d+2) 0=Fp1 (2 * d+2)++Fp1 0:=et
 have k2':Fp1 (2 * d+2)=F1++(E1++E2):=k2
 rw [em,k2',e0] at hnd
 rw [k2',e0] at em
 have hperm:(φ d::(F1++(E1++E2)++(Fp (2 * G+1)++Fp 0))).Perm ((F1++(F++E2))++φ d::(R++Fp 0)):=by
  refine (List.Perm.trans ?_ List.perm_middle.symm)
  refine List.Perm.cons _ ?_
  simp only [aW]
  refine fT _ ?_
  have p1:(E1++(E2++(Fp (2 * G+1)++Fp 0))).Perm ((E1++Fp (2 * G+1))++(E2++Fp 0)):=by
   have:=xd (a:=E1) (b:=E2) (c:=Fp (2 * G+1)) (d:=Fp 0)
   simpa only [aW] using this
  refine p1.trans ((im _ m2).trans ?_)
  have:=xd (a:=F) (b:=R) (c:=E2) (d:=Fp 0)
  simpa only [aW] using this
 have c3:=c2.pushB (d:=d) (g:=φ d) (t:=T) (cs:=A++(p::B)) (F:=F1++(F++E2)) (X:=R++Fp 0) iP h1 hnew g2
  (fun x hx=>by
   simp only [if_true]
   rw [em]
   exact hperm.mem_iff.2 hx) (hperm.nodup_iff.1 hnd) (.inl rfl)
 exact h a w (bl.eqv ⟨_,_,_,c3⟩ (fun i=>rfl) (fun e=>by
  simp only [St.setB_b,St.set_b]
  split<;>rfl))
def HR{d T G:Nat}{cs:List PV}{ι:Type}{q:ι→List PV}{us:ι→List Value}{gs:ι→List PV}(hd:σ.b d=some (T,cs))(hG:σ.s G=none)(hp:∀{Fz:ay} {w:World} {vs:List Value} {F:List Nat},aC cs Fz w vs F→∃i,∃F1 F2,aC (q i) Fz w vs F1∧aC (gs i) Fz w (us i) F2∧F.Perm (F1++F2))
  (h:∀i,SW P n h0 w0 Fz0 c ((σ.setB d (some (T,q i))).set G (some (RV.gh (us i) (gs i)))) Q):SW P n h0 w0 Fz0 c σ Q:=fun a w hc=>by
 obtain ⟨φ,Fz,Fp,hc⟩:=hc
 obtain ⟨cur,h1,h2⟩:=hc.box d _ hd
 obtain ⟨g1,g2,g3⟩:=hc.bxb d _ hd
 obtain ⟨i,P1,P2,m1,m2,m3⟩:=hp h2
 have c2:=hc.pullB hd
 have hnd:=c2.nod 0
 simp only [if_true] at hnd
 have em:mv Fp (2 * d+2) 0=Fp (2 * d+2)++Fp 0:=et
 rw [em] at hnd
 have hperm:(φ d::(Fp (2 * d+2)++Fp 0)).Perm (P1++φ d::(P2++Fp 0)):=by
  refine (List.Perm.trans ?_ List.perm_middle.symm)
  refine List.Perm.cons _ ?_
  rw [←aW]
  exact im _ m3
 have c3:=c2.pushB (d:=d) (g:=φ d) (t:=T) (cs:=q i) (F:=P1) (X:=P2++Fp 0) iP h1 m1 g2
  (fun x hx=>by
   simp only [if_true]
   rw [em]
   exact hperm.mem_iff.2 hx) (hperm.nodup_iff.1 hnd) (.inl rfl)
 have hn3:=c3.nod 0
 have c4:=c3.pushG (G:=G) (F:=P2) (X:=Fp 0) m2 (fun b hb=>by simp only [cH];rw [if_neg ab];simpa using hb) (by
  simp only [cH] at hn3
  rw [if_neg ab] at hn3
  simpa using hn3)
 exact h i a w (bl.eqv ⟨_,_,_,c4⟩ (fun i=>by
  simp only [St.set_s,St.setB_s]) (fun e=>by
  simp only [St.setB_b,St.set_b]
  split<;>rfl))
def HS{d T G:Nat}{ps cs:List PV}{us:List Value}{gs:List PV}(hd:σ.b d=some (T,cs))(hG:σ.s G=some (RV.gh us gs))(hp:∀{Fz:ay} {w:World} {vs:List Value} {F1 F2:List Nat},aC cs Fz w vs F1→aC gs Fz w us F2→∃F R,aC ps Fz w vs F∧(F1++F2).Perm (F++R))
  (h:SW P n h0 w0 Fz0 c ((σ.set G none).setB d (some (T,ps))) Q):SW P n h0 w0 Fz0 c σ Q:=fun a w hc=>by
 obtain ⟨φ,Fz,Fp,hc⟩:=hc
 have hg0:aC gs Fz w us (Fp (2 * G+1)):=hc.slot G _ hG
 have c1:=hc.pull G
 have e0:mv Fp (2 * G+1) 0=Fp (2 * G+1)++Fp 0:=et
 obtain ⟨cur,h1,h2⟩:=c1.box d _ hd
 obtain ⟨g1,g2,g3⟩:=c1.bxb d _ hd
 obtain ⟨F,R,m1,m2⟩:=hp h2 hg0
 have c2:=c1.pullB (d:=d) hd
 generalize hFp1:mv Fp (2 * G+1)=Fp1 at c1 c2 e0 h2 g3 m2
 have hnd:=c2.nod 0
 simp only [if_true] at hnd
 have em:mv Fp1 (2 * d+2) 0=Fp1 (2 * d+2)++Fp1 0:=et
 rw [em,e0] at hnd
 rw [e0] at em
 have hperm:(φ d::(Fp1 (2 * d+2)++(Fp (2 * G+1)++Fp 0))).Perm (F++φ d::(R++Fp 0)):=by
  refine (List.Perm.trans ?_ List.perm_middle.symm)
  refine List.Perm.cons _ ?_
  rw [←aW,←aW]
  exact im _ m2
 have c3:=c2.pushB (d:=d) (g:=φ d) (t:=T) (cs:=ps) (F:=F) (X:=R++Fp 0) iP h1 m1 g2
  (fun x hx=>by
   simp only [if_true]
   rw [em]
   exact hperm.mem_iff.2 hx) (hperm.nodup_iff.1 hnd) (.inl rfl)
 exact h a w (bl.eqv ⟨_,_,_,c3⟩ (fun i=>rfl) (fun e=>by
  simp only [St.setB_b,St.set_b]
  split<;>rfl))
def SP{d T t e G:Nat}{α:Type}{f g:α→List PV}{fN:α×(Nat→Value)→List PV}{xss:List (List α)}{jk:List Value}(hd:σ.b d=some (T,bo (fun xs=>[PV.sl (.own t e) (xs.map f)]) xss jk))(hG:σ.s G=none)(hN:∀x h,fN (x,h)=di h 0 (g x))(hg:∀x,(g x).length=e)(hq:∀x,aA (f x) (g x))(hb:∀x,aB (g x))
  (h:∀zss:List (List (α×(Nat→Value))),zss.map (List.map Prod.fst)=xss→SW P n h0 w0 Fz0 c ((σ.setB d (some (T,bo (fun zs=>[PV.sl (.own t e) (zs.map fN)]) zss jk))).set G (some (RV.gh (aV e zss.flatten) (bp f zss.flatten)))) Q):SW P n h0 w0 Fz0 c σ Q:=
 HR (ι:={zss:List (List (α×(Nat→Value))) // zss.map (List.map Prod.fst)=xss}) (q:=fun i=>bo (fun zs=>[PV.sl (.own t e) (zs.map fN)]) i.1 jk) (us:=fun i=>aV e i.1.flatten) (gs:=fun i=>bp f i.1.flatten) hd hG
  (fun hh=>by
   obtain ⟨zss,F1,F2,e1,e2,e3,e4⟩:=HP hN hg hq hb hh
   exact ⟨⟨zss,e1⟩,F1,F2,e2,e3,e4⟩) (fun i=>h i.1 i.2)
def SQ{d T t e G:Nat}{α:Type}{f g:α→List PV}{fN:α×(Nat→Value)→List PV}{zss:List (List (α×(Nat→Value)))}{ws:List (α×(Nat→Value))}{jk:List Value}(hd:σ.b d=some (T,bo (fun zs=>[PV.sl (.own t e) (zs.map fN)]) zss jk))(hG:σ.s G=some (RV.gh (aV e ws) (bp f ws)))(hN:∀x h,fN (x,h)=di h 0 (g x))(hg:∀x,(g x).length=e)(hf:∀x,(f x).length=e)(hs:zss.flatten.Sublist ws)
  (h:SW P n h0 w0 Fz0 c ((σ.set G none).setB d (some (T,bo (fun xs=>[PV.sl (.own t e) (xs.map f)]) (zss.map (List.map Prod.fst)) jk))) Q):SW P n h0 w0 Fz0 c σ Q:=
 HS hd hG (fun {Fz w vs F1 F2} h1 h2=>by
  obtain ⟨K,R0,hp0,k⟩:=HM hf hs h2
  obtain ⟨F,R,e1,hp⟩:=HQ hN hg hf h1 k
  refine ⟨F,R++R0,e1,?_⟩
  refine (fT _ hp0).trans ?_
  rw [←aW,←aW]
  exact im _ hp) h
end
end
section
section
variable{P:Program}{n:Nat}{h0:Nat→Prop}{w0:World}{Fz0:ay}{σ:St}{Q:Exit→St→Prop}{c:Code}
def HT{d T:Nat}{A B:List PV}{p:PV}{ι:Type}{q:ι→PV}(hd:σ.b d=some (T,A++(p::B)))(hp:∀{Fz:ay} {w:World} {v:Value} {F:List Nat},p.own Fz w v F→∃i,(q i).own Fz w v F)
  (h:∀i,SW P n h0 w0 Fz0 c (σ.setB d (some (T,A++(q i::B)))) Q):SW P n h0 w0 Fz0 c σ Q:=fun a w hc=>by
 obtain ⟨φ,Fz,Fp,hc⟩:=hc
 obtain ⟨cur,h1,h2⟩:=hc.box d _ hd
 obtain ⟨v1,v2,F1,F2,k1,k2,k3,v,vs',E1,E2,rfl,rfl,ho,kB⟩:=h2.split
 obtain ⟨i,hi⟩:=hp ho
 refine h i a w ⟨φ,Fz,Fp,hc.rebox hd fun cur' _ hh=>?_⟩
 have:cur'=cur:=by
  rw [h1] at hh
  injection hh with hh
  injection hh with hh
  exact hh.symm
 subst this
 rw [k1,k2]
 exact k3.append ⟨v,vs',E1,E2,rfl,rfl,hi,kB⟩
def lr(gs:List PV)(us:List Value)(qs:List PV)(us':List Value):Prop:=∀{Fz:ay} {w:World} {F:List Nat},aC gs Fz w us F→∃F' R,aC qs Fz w us' F'∧F.Perm (F'++R)
def lr.nil{gs:List PV}{us:List Value}:lr gs us [] []:=fun {_ _ F} _=>⟨[],F,⟨rfl,rfl⟩,List.Perm.refl _⟩
def lr.keep{p:PV}{u:Value}{gs qs:List PV}{us us':List Value}(h:lr gs us qs us'):lr (p::gs) (u::us) (p::qs) (u::us'):=fun {Fz w F} k=>by
 obtain ⟨v,vs,F1,F2,e1,rfl,h1,h2⟩:=k
 injection e1 with e1 e2
 subst e1 e2
 obtain ⟨F',R,h3,h4⟩:=h h2
 exact ⟨F1++F',R,⟨u,us',F1,F',rfl,rfl,h1,h3⟩,by rw [aW];exact fT _ h4⟩
def lr.drop{p:PV}{u:Value}{gs qs:List PV}{us us':List Value}(h:lr gs us qs us'):lr (p::gs) (u::us) qs us':=fun {Fz w F} k=>by
 obtain ⟨v,vs,F1,F2,e1,rfl,h1,h2⟩:=k
 injection e1 with e1 e2
 subst e1 e2
 obtain ⟨F',R,h3,h4⟩:=h h2
 refine ⟨F',F1++R,h3,?_⟩
 refine (fT F1 h4).trans ?_
 rw [←aW,←aW]
 exact im _ iT
def lr.lit{x:Value}{gs qs:List PV}{us us':List Value}(hx:x.oneCell'=true)(h:lr gs us qs us'):lr gs us (PV.val x::qs) (x::us'):=fun {Fz w F} k=>by
 obtain ⟨F',R,h3,h4⟩:=h k
 exact ⟨F',R,⟨x,us',[],F',rfl,rfl,⟨⟨rfl,hx⟩,rfl⟩,h3⟩,h4⟩
end
end
section
def HU{α:Type}{f:α→List PV}{e:Nat}(hf:∀x,(f x).length=e){Fz:ay}{w:World}{ys rs zs:List (α×(Nat→Value))}(hp:(ys++rs).Perm zs){F:List Nat}(h:aC (bp f zs) Fz w (aV e zs) F):∃F' R,F.Perm (F'++R)∧aC (bp f ys) Fz w (aV e ys) F':=by
 obtain ⟨F1,k1,k2⟩:=Sl hf hp.symm h
 obtain ⟨F',R,k3,k4⟩:=HM hf (List.sublist_append_left ys rs) k2
 exact ⟨F',R,k1.trans k3,k4⟩
def SR{α:Type}{f g:α→List PV}{fN:α×(Nat→Value)→List PV}{t e:Nat}(hN:∀x h,fN (x,h)=di h 0 (g x))(hg:∀x,(g x).length=e)(hf:∀x,(f x).length=e){ys rs zs:List (α×(Nat→Value))}(hp:(ys++rs).Perm zs){xs:List α}(hx:ys.map Prod.fst=xs){Fz:ay}{w:World}{v:Value}{F1 F2:List Nat}(h:(PV.sl (.own t e) (ys.map fN)).own Fz w v F1)(k:aC (bp f zs) Fz w (aV e zs) F2) :
  ∃F R,(PV.sl (.own t e) (xs.map f)).own Fz w v F∧(F1++F2).Perm (F++R):=by
 subst hx
 obtain ⟨F',R,k1,k2⟩:=HU hf hp k
 have h:da t e (ys.map fN) Fz w v F1:=h
 have h2:=HN hN hg hf h k2
 obtain ⟨F3,rfl⟩:=HO h
 refine ⟨_,F3++R,h2,?_⟩
 simp only [aW]
 refine fT _ ?_
 refine (fT F3 k1).trans ?_
 rw [←aW,←aW]
 exact im _ iT
section
variable{P:Program}{n:Nat}{h0:Nat→Prop}{w0:World}{Fz0:ay}{σ:St}{Q:Exit→St→Prop}{c:Code}
def SS{d t e G:Nat}{α:Type}{f g:α→List PV}{fN:α×(Nat→Value)→List PV}(x:α)(hd:σ.b d=some (t,f x))(hG:σ.s G=none)(hN:∀x h,fN (x,h)=di h 0 (g x))(hg:∀x,(g x).length=e)(hq:aA (f x) (g x))(hb:aB (g x))
  (h:∀k:Nat→Value,SW P n h0 w0 Fz0 c ((σ.setB d (some (t,fN (x,k)))).set G (some (RV.gh (aV e [(x,k)]) (bp f [(x,k)])))) Q):SW P n h0 w0 Fz0 c σ Q:=
 HR (ι:=Nat→Value) (q:=fun k=>fN (x,k)) (us:=fun k=>aV e [(x,k)]) (gs:=fun k=>bp f [(x,k)]) hd hG (fun {Fz w vs F} ho=>by
  have hl:vs.length=e:=by rw [ho.len,hq.len,hg]
  obtain ⟨k,hk⟩:=AB hl
  refine ⟨k,[],F,?_,?_,List.Perm.refl _⟩
  ·rw [hN,wV,hg,←List.range_eq_range',←hk]
   exact wU hb (hq.rel ho.rel)
  ·have:aV e [(x,k)]=vs:=by simp [aV,hk]
   rw [this]
   have:bp f [(x,k)]=f x:=by simp [bp]
   rw [this];exact ho) h
def SU{d T t e G:Nat}{A B:List PV}{α:Type}{f g:α→List PV}{fN:α×(Nat→Value)→List PV}{ys zs:List (α×(Nat→Value))}(rs:List (α×(Nat→Value)))(xs:List α)(hd:σ.b d=some (T,A++(PV.sl (.own t e) (ys.map fN)::B)))(hG:σ.s G=some (RV.gh (aV e zs) (bp f zs)))(hN:∀x h,fN (x,h)=di h 0 (g x))(hg:∀x,(g x).length=e)(hf:∀x,(f x).length=e)(hp:(ys++rs).Perm zs)(hx:ys.map Prod.fst=xs)
  (h:SW P n h0 w0 Fz0 c ((σ.set G none).setB d (some (T,A++(PV.sl (.own t e) (xs.map f)::B)))) Q):SW P n h0 w0 Fz0 c σ Q:=
 SO hd hG (fun h1 k=>SR hN hg hf hp hx h1 k) h
def SV{d t e G:Nat}{α:Type}{f g:α→List PV}{fN:α×(Nat→Value)→List PV}{zs ys:List (α×(Nat→Value))}{jk:List Value}(rs:List (α×(Nat→Value)))(xs:List α)(hd:σ.b d=some (t,bo fN ys jk))(hG:σ.s G=some (RV.gh (aV e zs) (bp f zs)))(hN:∀x h,fN (x,h)=di h 0 (g x))(hg:∀x,(g x).length=e)(hf:∀x,(f x).length=e)(hp:(ys++rs).Perm zs)(hx:ys.map Prod.fst=xs)
  (h:SW P n h0 w0 Fz0 c ((σ.set G none).setB d (some (t,bo f xs jk))) Q):SW P n h0 w0 Fz0 c σ Q:=
 HS hd hG (fun {Fz w vs F1 F2} h1 k=>by
  subst hx
  obtain ⟨F',R,k1,k2⟩:=HU hf hp k
  obtain ⟨us,hu,hvs⟩:=AC hN hg (zs:=ys) (js:=jk.map PV.val) h1.rel
  have hju:aC (jk.map PV.val) Fz w us []:=aB.own (fun p hp=>by obtain ⟨v,_,rfl⟩:=List.mem_map.1 hp;exact PV.bor_val _) hvs
  have hall:aC (bo f (ys.map Prod.fst) jk) Fz w vs F':=by
   have:=k2.append hju
   rw [dJ,←hu] at this
   have e2:bo f (ys.map Prod.fst) jk=bp f ys++jk.map PV.val:=by unfold bo bp;rw [List.map_map];rfl
   rw [e2];exact this
  refine ⟨F',F1++R,hall,?_⟩
  refine (fT F1 k1).trans ?_
  rw [←aW,←aW]
  exact im _ iT) h
end
section
variable{P:Program}{n:Nat}{h0:Nat→Prop}{w0:World}{Fz0:ay}{σ:St}{Q:Exit→St→Prop}{c:Code}
def xf{s:Nat}{r r':RV}(hs:σ.s s=some r)(he:r=r')(h:SW P n h0 w0 Fz0 c (σ.set s (some r')) Q):SW P n h0 w0 Fz0 c σ Q:=fun a w hc=>by
 subst he
 obtain ⟨φ,Fz,Fp,hc⟩:=hc
 exact h a w ⟨φ,Fz,Fp,hc.reslot (hc.slot s _ hs)⟩
def SX{d T:Nat}{A B:List PV}{p:PV}(hd:σ.b d=some (T,A++(p::B)))(h:∀v:Value,SW P n h0 w0 Fz0 c (σ.setB d (some (T,A++(PV.nv v p::B)))) Q):SW P n h0 w0 Fz0 c σ Q:=
 HT (ι:=Value) (q:=fun v=>PV.nv v p) hd (fun {Fz w v F} ho=>⟨v,rfl,ho⟩) h
def SY{d T:Nat}{A B:List PV}{v:Value}{p:PV}(hd:σ.b d=some (T,A++(PV.nv v p::B)))(h:SW P n h0 w0 Fz0 c (σ.setB d (some (T,A++(p::B)))) Q):SW P n h0 w0 Fz0 c σ Q:=
 HT (ι:=Unit) (q:=fun _=>p) hd (fun ho=>⟨(),ho.2⟩) fun _=>h
def SZ{d T G:Nat}{A B:List PV}{v:Value}{p q:PV}(hd:σ.b d=some (T,A++(PV.nv v p::B)))(hG:σ.s G=none)(hq:p.To q)(hb:q.Bor)
  (h:SW P n h0 w0 Fz0 c ((σ.setB d (some (T,A++(q::B)))).set G (some (RV.gh [v] [p]))) Q):SW P n h0 w0 Fz0 c σ Q:=
 SN (G:=G) (ι:=Unit) (q:=fun _=>q) (us:=fun _=>[v]) (gs:=fun _=>[p]) hd hG (fun {Fz w v' F} ho=>by
  obtain ⟨rfl,ho⟩:=ho
  exact ⟨(),[],F,hb (hq (p.toRel ho)),⟨v',[],F,[],rfl,aF,ho,rfl,rfl⟩,aF⟩) fun _=>h
end
def gZ(e:Nat)(u:Value)(lo len:Nat):Value:=match u with
 | .slice (some ⟨b,o,q⟩) _ c=>.slice (if c=lo then some ⟨b,o,q⟩ else some ⟨b,o+lo * e,q⟩) len (c - lo)
 | v=>v
def AF{e g m c lo len:Nat}:gZ e (.slice (some ⟨g,0,none⟩) m c) lo len = .slice (some ⟨g,if c=lo then 0 else lo * e,none⟩) len (c - lo):=by
 unfold gZ
 dsimp only
 split<;>simp
def HV(h:Nat→Value):∀{ps:List PV} {i:Nat},aB ps→aB (di h i ps)
 | [],_,hb=>hb
 | p::ps,i,hb=>aB.cons (PV.bor_nv (hb p List.mem_cons_self)) (HV h fun q hq=>hb q (List.mem_cons_of_mem _ hq))
def mo{α:Type}(e:Nat)(zs:List (α×(Nat→Value)))(jk:List Value):List Value:=(aV e zs++jk).drop ((zs.length - 1) * e)
def fX{α:Type}(zs:List α)(i:Nat):List α:=zs.take i++zs.drop (i+1)
def HW{α:Type}{zs:List α}{i:Nat}(h:i < zs.length):(fX zs i).length=zs.length - 1:=by
 unfold fX;rw [aZ,cu,lb];omega
def jR{α:Type}{e:Nat}:∀{zs:List (α×(Nat→Value))},(aV e zs).length=zs.length * e
 | []=>by simp [aV]
 | z::zs=>by
  have:aV e (z::zs)=(List.range e).map z.2++aV e zs:=rfl
  rw [this,aZ,jR,aO,List.length_range,List.length_cons,Nat.succ_mul];omega
def Ta{α:Type}{e cp m:Nat}{zs:List (α×(Nat→Value))}{jk:List Value}(hz:zs.length=m)(hm:0 < m)(hj:m * e+jk.length=cp * e):(m - 1) * e+(mo e zs jk).length=cp * e:=by
 unfold mo
 have h1:(m - 1) * e≤m * e:=Nat.mul_le_mul_right _ ab
 rw [lb,aZ,jR,hz]
 omega
section
variable{P:Program}{n:Nat}
def HX{T E e bs d s G D m cp i j:Nat}{lo hi:Option Operand}{ty:TypeId}{pos:String}{af:Array Edge}{g:Option (Nat×Bool)}{u:Value}{q r:Int}(hd:d < n)(hT:dY P T=some (E,e,bs))
  (hlo:pR lo (i=0) (RV.int q)) (hhi:pR hi (j=m) (RV.int r)) (hq:q=(i:Int)) (hr:r=(j:Int)) (hij:i≤j) (hj:j≤m) :
  Loc P n ⟨some d,.slice T (.tmp s) lo hi none,ty,pos,af,g⟩ ⟨(s,RV.sc u)::(G,RV.gat u D m cp)::(rE lo (RV.int q)++rE hi (RV.int r)),[],[(d,some (RV.sc (gZ e u i (j - i))))],[],none⟩:=by
 subst hq hr
 intro h0 w0 Fz0 σ a w K Q hc hr _ _ h5
 obtain ⟨φ,Fz,Fp,hc⟩:=hc
 obtain ⟨⟨eu,hmc,hcx⟩,_⟩:=hc.slot G _ hr.2.1
 have ev:=(hc.one_ hr.1).1
 obtain ⟨hu,inf,hinf,hsz,_⟩:=mi hT
 have es':a.eval (.tmp s) = .slice (some ⟨φ D,0,none⟩) m cp:=zO
 have hlo':lo.map a.eval=(lo.map fun _=>(.int .i64 (i:Int):Value)):=by
  cases lo with
  | none=>rfl
  | some x=>exact congrArg some (hc.sc hr.2.2.left hlo)
 have hhi':hi.map a.eval=(hi.map fun _=>(.int .i64 (j:Int):Value)):=by
  cases hi with
  | none=>rfl
  | some x=>exact congrArg some (hc.sc hr.2.2.right hhi)
 have e1:gZ e u i (j - i) = .slice (if cp=i then some ⟨φ D,0,none⟩ else (some ⟨φ D,0,none⟩:Option Addr).map (·.add (i * e))) (j - i) (cp - i):=by
  rw [eu]
  unfold gZ
  dsimp only
  split<;>simp [kx]
 refine cN (v:=gZ e u i (j - i)) (w':=w) ?_ (h5 _ _ (hc.put0 hd (bH.of_sc (by rw [e1];rfl))))
 rw [e1]
 unfold execOp
 have hb:(Instr.sliceBounds true m cp (lo.map a.eval) (hi.map a.eval) none).run P w = .ok (i,j,cp) w:=by
  rw [hlo',hhi']
  have b1:(0:Int)≤(j:Int)∧(j:Int)≤(cp:Int):=ab
  have b2:(0:Int)≤(i:Int)∧(i:Int)≤(j:Int):=ab
  cases lo<;>cases hi<;>simp only [pR] at hlo hhi<;>simp [Instr.sliceBounds,Instr.sliceBound,asIntOf,b1,b2, *]<;>omega
 simp only [Instr.sliceAt,Instr.slice,es',Sem.run_bind,run_underlying hu,Result.andThen_ok,Option.map_none,hb,sizeOf,typeInfo,run_program,hinf,hsz,Sem.run_pure]
def Tb{t d s x G D E e bs m cp i:Nat}{ty:TypeId}{pos:String}{af:Array Edge}{gd:Option (Nat×Bool)}{u:Value}{α:Type}{g:α→List PV}{fN:α×(Nat→Value)→List PV}{zs:List (α×(Nat→Value))}{jk:List Value}(hd:d < n)(hT:dY P t=some (E,e,bs))(he:0 < e)(hN:∀x h,fN (x,h)=di h 0 (g x))(hg:∀x,(g x).length=e)(hb:∀x,aB (g x))(hz:zs.length=m)(hi:i < m)(hj:m * e+jk.length=cp * e)(hdG:Nat.beq d G=false) :
  Loc P n ⟨some d,.call { callee:=.builtin .append,args := #[.tmp s,.tmp x],argTypes := #[t,t] },ty,pos,af,gd⟩ ⟨[(s,RV.sc (gZ e u 0 (i - 0))),(x,RV.sc (gZ e u (i+1) (m - (i+1)))),(G,RV.gat u D m cp)],[(D,(E,bo fN zs jk))],[(d,some (RV.sc (gZ e u 0 (m - 1)))),(G,some (RV.gat (gZ e u 0 (m - 1)) D (m - 1) cp))],[(D,some (E,bo fN (fX zs i) (mo e zs jk)))],none⟩:=by
 intro h0 w0 Fz0 σ a w K Q hc hr hrb _ h5
 obtain ⟨φ,Fz,Fp,hc⟩:=hc
 obtain ⟨⟨eu,hmc,hcx⟩,_⟩:=hc.slot G _ hr.2.2.1
 have ev:=(hc.one_ hr.1).1
 have ex:=(hc.one_ hr.2.1).1
 obtain ⟨hu,inf,hinf,hsz,_⟩:=mi hT
 subst hz
 have hbs:σ.b D=some (E,bo fN zs jk):=hrb.1
 obtain ⟨cur,hgc,ho⟩:=hc.box D _ hbs
 obtain ⟨k1,k2,k3⟩:=hc.bxb D _ hbs
 have hone:=ho.one
 obtain ⟨us,hus,hvs⟩:=AC hN hg (zs:=zs) (js:=jk.map PV.val) ho.rel
 have huj:us=jk:=by
  have hk:∀(l:List Value) (us:List Value),bE (l.map PV.val) Fz w us→us=l:=by
   intro l
   induction l with
   | nil=>intro us h;exact h
   | cons v l ih=>
    intro us h
    obtain ⟨v',vs',rfl,h1,h2⟩:=h
    rw [ih _ h2,h1.1]
  exact hk _ _ hvs
 subst huj
 generalize hA:zs.take i=A
 generalize hB:zs.drop (i+1)=B
 have hzs:zs=A++(zs[i]::B):=by rw [←hA,←hB,←List.drop_eq_getElem_cons hi,fh]
 have hAl:A.length=i:=by rw [←hA,cu];omega
 have hBl:B.length=zs.length - (i+1):=by rw [←hB,lb]
 have hval:aV e zs=aV e A++((List.range e).map zs[i].2++aV e B):=by
  conv=>lhs;rw [hzs]
  rw [rT];rfl
 have hcl:cur.toList.length=cp * e:=by rw [hus,aZ,jR];exact hj
 have hcs:cur.size=cp * e:=by rw [←hcl];simp
 have hnl:(aV e B).length=(zs.length - (i+1)) * e:=by rw [jR,hBl]
 have hoff:(i+1) * e+(aV e B).length=zs.length * e:=by rw [hnl,←Nat.add_mul];congr 1;omega
 have hcell:∀j v,(aV e B)[j]?=some v→w.cell? ((⟨φ D,if cp=i+1 then 0 else (i+1) * e,none⟩:Addr).add j)=some v:=by
  intro j v hv
  have hjl:=(List.getElem?_eq_some_iff.1 hv).1
  have hne:¬cp=i+1:=by
   intro e'
   have:zs.length≤i+1:=ab
   have:B.length=0:=ab
   rw [jR,this] at hjl;omega
  rw [if_neg hne,kx]
  have hq:=cell_of_row w (φ D) ((i+1) * e+j) cur E (0,0) hgc
  have hq2:w.cell? ⟨φ D,(i+1) * e+j,none⟩=cur.toList[(i+1) * e+j]?:=by rw [hq];simp
  rw [hq2,hus,hval]
  rw [List.getElem?_append_left (by simp only [aZ,aO,List.length_range,jR,hAl];rw [jR] at hjl;have:=Nat.add_mul i 1 e;omega)]
  rw [List.getElem?_append_right (by rw [jR,hAl];have:=Nat.add_mul i 1 e;omega),List.getElem?_append_right (by rw [jR,hAl];simp only [aO,List.length_range];have:=Nat.add_mul i 1 e;omega)]
  rw [←hv]
  congr 1
  rw [jR,hAl];simp only [aO,List.length_range];have:=Nat.add_mul i 1 e;omega
 have h1:∀v∈aV e B,v.oneCell'=true:=fun v hv=>hone v (by rw [hus,hval];simp [hv])
 have hroom:i+(zs.length - (i+1))≤cp:=ab
 have hfit:i * inf.size+(aV e B).length≤cur.size:=by rw [hsz,hnl,hcs,←Nat.add_mul];exact Nat.mul_le_mul_right _ hroom
 have hrun:=run_append_room (P:=P) w t ty E inf hu hinf (φ D) i cp cur hgc ⟨φ D,if cp=i+1 then 0 else (i+1) * e,none⟩ (zs.length - (i+1)) (cp - (i+1)) (aV e B) (by rw [hnl,hsz]) hcell h1 hroom hfit
 rw [hsz] at hrun
 have hs1:a.eval (.tmp s) = .slice (some ⟨φ D,0,none⟩) i cp:=by
  have:a.eval (.tmp s)=gZ e u 0 (i - 0):=ev
  rw [this,eu,AF]
  simp
 have hs2:a.eval (.tmp x) = .slice (some ⟨φ D,if cp=i+1 then 0 else (i+1) * e,none⟩) (zs.length - (i+1)) (cp - (i+1)):=by
  have:a.eval (.tmp x)=gZ e u (i+1) (zs.length - (i+1)):=ex
  rw [this,eu,AF]
 have hres:gZ e u 0 (zs.length - 1) = .slice (some ⟨φ D,0,none⟩) (i+(zs.length - (i+1))) cp:=by
  rw [eu,AF,show i+(zs.length - (i+1))=zs.length - 1 by omega]
  simp
 have hidx:i+(zs.length - (i+1))=zs.length - 1:=ab
 have c1:=hc.pullB hbs
 generalize hFp1:(fun x=>if x=0 then φ D::mv Fp (2 * D+2) 0 else mv Fp (2 * D+2) x)=Fp1 at c1
 have e0:Fp1 0=φ D::(Fp (2 * D+2)++Fp 0):=by rw [←hFp1];simp [mv]
 generalize hcur:(cur.toList.take (i * e)++aV e B++cur.toList.drop (i * e+(aV e B).length)).toArray=cur' at hrun
 have hw:(w.setRow (φ D) cur').heap.size=w.heap.size:=size_setRow _ _ _
 have hset:(w.setRow (φ D) cur').heap[φ D]?=some (.cells cur' E (0,0)):=setRow_heap w (φ D) cur _ E _ hgc
 have hoth:∀i,i≠φ D→(w.setRow (φ D) cur').heap[i]?=w.heap[i]?:=fun i hi=>setRow_other w (φ D) i _ hi
 have hkeep:eK Fz w Fz (w.setRow (φ D) cur'):=fun i o hio=>⟨hio,World.cell?_of_block (hoth i fun e=>k2 o (e▸hio))⟩
 have c2:=c1.world (w':=w.setRow (φ D) cur') (Fz':=Fz) (X:=Fp1 0) rfl rfl rfl ab
  (fun i hi hi0=>⟨hoth i fun e=>hi0 (by rw [e,e0];simp),fun o ho=>ho⟩) hkeep (fun i o hio=>by rw [hw];exact hc.fzl i o hio)
  (fun i hi=>.inl hi) (c1.nod 0)
 have hlist:cur'.toList=aV e (fX zs i)++mo e zs us:=by
  rw [←hcur]
  show cur.toList.take (i * e)++aV e B++cur.toList.drop (i * e+(aV e B).length)=_
  unfold fX mo
  rw [hA,hB,rT,←hus]
  have t1:cur.toList.take (i * e)=aV e A:=by
   rw [hus,hval,aW]
   exact List.take_left' (by rw [jR,hAl])
  rw [t1,hnl,←Nat.add_mul,show i+(zs.length - (i+1))=zs.length - 1 by omega]
 have hrel:=ho.rel.mono hkeep
 have hnew:aC (bo fN (fX zs i) (mo e zs us)) Fz (w.setRow (φ D) cur') cur'.toList []:=by
  rw [hlist]
  unfold bo
  have hr1:bE ((zs.map fN).flatten) Fz (w.setRow (φ D) cur') (aV e zs):=by
   obtain ⟨v1,v2,q1,q2,q3⟩:=bE.split (show bE ((zs.map fN).flatten++us.map PV.val) Fz (w.setRow (φ D) cur') cur.toList from hrel)
   rw [hus] at q1
   have:=List.append_inj q1 (by
    have hl1:=q2.len
    rw [hl1,jR]
    have:∀l:List (α×(Nat→Value)),(l.map fN).flatten.length=l.length * e:=by
     intro l
     induction l with
     | nil=>simp
     | cons z l ih=>
      rw [List.map_cons,List.flatten_cons,aZ,ih,List.length_cons,Nat.succ_mul,show fN z=di z.2 0 (g z.1) from hN z.1 z.2]
      have:∀(ps:List PV) (i:Nat),(di z.2 i ps).length=ps.length:=by
       intro ps
       induction ps with
       | nil=>intro i;rfl
       | cons p ps ih=>intro i;simp [di,ih]
      rw [this,hg];omega
    rw [this])
   rw [this.1];exact q2
  rw [hzs,bL,List.flatten_append,List.map_cons,List.flatten_cons,rT] at hr1
  obtain ⟨v1,v2,q1,q2,q3⟩:=bE.split hr1
  obtain ⟨v3,v4,q4,q5,q6⟩:=bE.split q3
  have hfl:∀l:List (α×(Nat→Value)),(l.map fN).flatten.length=l.length * e:=by
   intro l
   induction l with
   | nil=>simp
   | cons z l ih=>
    rw [List.map_cons,List.flatten_cons,aZ,ih,List.length_cons,Nat.succ_mul,show fN z=di z.2 0 (g z.1) from hN z.1 z.2]
    have:∀(ps:List PV) (i:Nat),(di z.2 i ps).length=ps.length:=by
     intro ps
     induction ps with
     | nil=>intro i;rfl
     | cons p ps ih=>intro i;simp [di,ih]
    rw [this,hg];omega
  have hfz:(fN zs[i]).length=e:=by have:=hfl [zs[i]];simpa using this
  obtain ⟨rfl,hv2⟩:=List.append_inj q1 (by rw [q2.len,hfl,jR])
  have hv2:(List.range e).map zs[i].2++aV e B=v2:=hv2
  rw [q4] at hv2
  obtain ⟨_,rfl⟩:=List.append_inj hv2 (by rw [q5.len,hfz];simp)
  have hrB:bE (((fX zs i).map fN).flatten) Fz (w.setRow (φ D) cur') (aV e (fX zs i)):=by
   unfold fX
   rw [hA,hB,bL,List.flatten_append,rT]
   exact q2.append q6
  have hbor:aB ((fX zs i).map fN).flatten:=by
   intro p hp
   obtain ⟨l,hl,hp⟩:=List.mem_flatten.1 hp
   obtain ⟨z,_,rfl⟩:=List.mem_map.1 hl
   rw [show fN z=di z.2 0 (g z.1) from hN z.1 z.2] at hp
   exact HV z.2 (hb z.1) p hp
  have hoj:aC ((mo e zs us).map PV.val) Fz (w.setRow (φ D) cur') (mo e zs us) []:=wK fun v hv=>hone v (by
   unfold mo at hv
   rw [←hus] at hv
   exact List.mem_of_mem_drop hv)
  have:=(hbor.own hrB).append hoj
  rwa [dJ] at this
 have c3:=c2.pushB (d:=D) (g:=φ D) (t:=E) (cs:=bo fN (fX zs i) (mo e zs us)) (F:=[]) (X:=Fp 0) iP hset hnew k2
  (fun x hx=>by
   simp only [if_true]
   rw [e0]
   simp only [List.nil_append,jp,cB] at hx ⊢
   rcases hx with hx|hx
   ·exact .inl hx
   ·exact .inr (.inr hx))
  (by
   have hnd:=c1.nod 0
   rw [e0] at hnd
   simp only [List.nil_append]
   rw [jN] at hnd ⊢
   exact ⟨fun hh=>hnd.1 (by simp [hh]),(List.nodup_append.1 hnd.2).2.1⟩) (.inl rfl)
 have c4:=(c3.pull G).reslot (s:=G) (rv:=RV.gat (gZ e u 0 (zs.length - 1)) D (zs.length - 1) cp) ⟨⟨hres.trans (by rw [hidx];simp),ab,hcx⟩,et⟩
 have c5:=c4.put0 (d:=d) (r:=RV.sc (gZ e u 0 (zs.length - 1))) (v:=gZ e u 0 (zs.length - 1)) hd (bH.of_sc (by rw [hres];rfl))
 refine cN (v:=gZ e u 0 (zs.length - 1)) (w':=w.setRow (φ D) cur') ?_ (h5 _ _ (bl.eqv c5 (fun k=>?_) (fun k=>?_)))
 ·rw [hres]
  have es':a.eval (.tmp s)=a.tmps.getD s undef:=rfl
  have ex':a.eval (.tmp x)=a.tmps.getD x undef:=rfl
  unfold execOp
  simp only [resolve,invoke,builtin,Sem.run_bind,Sem.run_pure,Result.andThen_ok,List.map_toArray,List.map_cons,List.map_nil,hs1,hs2,hrun]
 ·show bN [(d,_),(G,_)] σ.s k=_
  have hne:¬d=G:=fun e=>by rw [e] at hdG;simp at hdG
  simp only [bN,St.set,St.setB]
  cases hkd:Nat.beq k d<;>cases hkG:Nat.beq k G
  ·rfl
  ·rfl
  ·rfl
  ·exact absurd ((Nat.eq_of_beq_eq_true hkd).symm.trans (Nat.eq_of_beq_eq_true hkG)) hne
 ·show bN [(D,_)] σ.b k=_
  simp only [bN,St.set,St.setB]
  cases hkd:Nat.beq k D<;>rfl
end
end
section
section
variable{P:Program}{n:Nat}{h0:Nat→Prop}{w0:World}{Fz0:ay}{σ:St}{Q:Exit→St→Prop}{c:Code}
def xg{d t:Nat}{cs:List PV}(qs:List PV)(hd:σ.b d=some (t,cs))(ht:aA cs qs)(hb:aB qs)(h:SW P n h0 w0 Fz0 c (σ.setB d (some (t,qs))) Q):SW P n h0 w0 Fz0 c σ Q:=fun a w hc=>by
 obtain ⟨φ,Fz,Fp,hc⟩:=hc
 obtain ⟨cur,h1,h2⟩:=hc.box d _ hd
 obtain ⟨k1,k2,k3⟩:=hc.bxb d _ hd
 have c1:=hc.pullB hd
 have hn:=c1.nod 0
 rw [if_pos rfl] at hn
 have c2:=c1.pushB (d:=d) (g:=φ d) (t:=t) (cs:=qs) (F:=[]) (X:=mv Fp (2 * d+2) 0) iP h1 (hb.own (ht.rel h2.rel)) k2 (fun b hb=>by rw [if_pos rfl];simpa using hb) (by simpa using hn) (.inl rfl)
 exact h a w (bl.eqv ⟨_,_,_,c2⟩ (fun i=>rfl) (fun e=>by
  simp only [St.setB_b]
  split<;>rfl))
end
def Tc{P:Program}{T:TypeId}(h:P.underlying T=some (.int .u8)):rR P T (fun n:Int=>[PV.val (.int .u8 n)]) fun n=>0≤n∧n≤255:=by
 intro H enc w sp held n cs x hx
 obtain ⟨m,rfl,_,hw⟩:=DataW.trod_int h hx
 exact ⟨m,⟨_,[],rfl,⟨rfl,rfl⟩,rfl⟩,bounds_u8 hw⟩
end
end Go.Proofs.YtmekkgdboplbjaaGreatDoor.M
namespace Go.Proofs.YtmekkgdboplbjaaGreatDoor.M
open Go Go.RowKit
section
section
variable{P:Program}{n:Nat}{h0:Nat→Prop}{w0:World}{Fz0:ay}{σ:St}{Q:Exit→St→Prop}{c:Code}
end
section
variable{P:Program}{n:Nat}{t d s x E e bs b bt:Nat}{ty:TypeId}{pos:String}{af:Array Edge}{g:Option (Nat×Bool)}{z u:Value}{es ys:List (List PV)}{A B cs:List PV}{r:PV}
end
end
end Go.Proofs.YtmekkgdboplbjaaGreatDoor.M
namespace Go.Proofs.YtmekkgdboplbjaaGreatDoor.M
open Go Go.RowKit
section
def pZ(ok:Bool)(v:Value):Prop:=if ok then v = .nilIface else ∃t p,v = .iface t p
def pZ.one{ok:Bool}{v:Value}(h:pZ ok v):v.oneCell'=true:=by
 unfold pZ at h
 split at h
 ·subst h;rfl
 ·obtain ⟨t,p,rfl⟩:=h;rfl
def PV.err(ok:Bool):PV where
 rel _ _ v:=pZ ok v
 own _ _ v F:=pZ ok v∧F=[]
 one h:=h.one
 toRel h:=h.1
 relMono h _:=h
 ownMono h _ _:=h
 lt h:=ku
def PV.bor_err(x:Bool):(PV.err x).Bor:=fun h=>⟨h,rfl⟩
def mp(g:Nat)(ok:Value→Prop)(Fz:ay)(w:World):Prop:=Fz g 0∧∃v,w.cell? ⟨g,0,none⟩=some v∧ok v
def mp.mono{g:Nat}{ok:Value→Prop}{Fz Fz':ay}{w w':World}(h:mp g ok Fz w)(k:eK Fz w Fz' w'):mp g ok Fz' w':=by
 obtain ⟨h1,v,h2,h3⟩:=h
 obtain ⟨k1,k2⟩:=k g 0 h1
 exact ⟨k1,v,k2.trans h2,h3⟩
def xh(v:Value):Prop:=v = .nilIface∨∃t p,v = .iface t p
def Td(P:Program)(g:Nat)(hg:P.globalNamed "internal/strconv.uint64pow10" = some g)(gm gs gr:Nat):ln where
 rel Fz w:=(HF P g hg).rel Fz w∧mp gm (fun v=>∃m,v = .int .i64 m) Fz w∧mp gs xh Fz w∧mp gr xh Fz w
 mono h k:=⟨(HF P g hg).mono h.1 k,h.2.1.mono k,h.2.2.1.mono k,h.2.2.2.mono k⟩
section
variable{P:Program}{G:ln}{f:FuncId}
def oA{x:Value}{qs:List (Bool×List PV)}{vs:List Value}{Fz:ay}{w:World}(hx:x.oneCell'=true)(h:dC qs Fz w vs []):dC ((false,[PV.val x])::qs) Fz w (x::vs) []:=⟨x,vs,[],[],rfl,rfl,bH.of_sc hx,h⟩
def uq{w w':World}{Fz:ay}{vs:List Value}{q1 q2:Bool×List PV}{qs:List (Bool×List PV)}(hz:∀b o,Fz b o→b < w.heap.size)(hb:Below w.heap.size w w')(ho:dC (q1::q2::qs) Fz w' vs []):∃v Fz' F,Ending.returned (.tuple vs.toArray) = .returned v∧Below w.heap.size w w' ∧
  (∀b o,b < w.heap.size→(Fz' b o↔Fz b o))∧(∀b o,Fz' b o→b < w'.heap.size)∧(∀φ,(aJ (q1::q2::qs)).holds φ Fz' w' v F)∧F.Nodup∧∀b,b∈F→w.heap.size≤b∧b < w'.heap.size:=
 ⟨_,Fz,[],rfl,hb,fun _ _ _=>Iff.rfl,fun b o h=>Nat.lt_of_lt_of_le (hz b o h) hb.size,fun _=>⟨_,rfl,ho⟩,List.nodup_nil,fun b hb=>by simp at hb⟩
def Te(w:World)(k:Nat):Below w.heap.size w (w.drewN k):=by
 refine ⟨rfl,rfl,rfl,Nat.le_refl _,fun b hb=>rfl⟩
def Tf{gm:Nat}(hm:∀{Fz w},G.rel Fz w→mp gm (fun v=>∃m,v = .int .i64 m) Fz w)
  (c:∀(s sep:ByteArray) (m:Int) (w:World),s.size < 4294967281→w.cell? ⟨gm,0,none⟩=some (.int .i64 m) →
   Calls P f #[.string s,.string sep] w fun e w'=>e = .returned (.tuple #[.string ⟨(Lib.cut s.data.toList sep.data.toList).1.toArray⟩,.string ⟨(Lib.cut s.data.toList sep.data.toList).2.1.toArray⟩,.bool (Lib.cut s.data.toList sep.data.toList).2.2])∧∃n,w'=w.drewN n)
  {s sep:am} (hs:s.length < 4294967281):db P G f [(false,[PV.val (.string (B s))]),(false,[PV.val (.string (B sep))])]
   (aJ [(false,[PV.val (.string (B (Lib.cut s sep).1))]),(false,[PV.val (.string (B (Lib.cut s sep).2.1))]),(false,[PV.val (.bool (Lib.cut s sep).2.2)])]):=by
 intro w vs Fz hz hG hr
 obtain ⟨v,vs',rfl,h1,v2,vs2,rfl,h2,rfl⟩:=hr
 obtain rfl:v = .string (B s):=ip.sc h1
 obtain rfl:v2 = .string (B sep):=ip.sc h2
 obtain ⟨_,v,hv,m,rfl⟩:=hm hG
 refine (c (B s) (B sep) m w hs hv).mono ?_
 rintro e w' ⟨rfl,n,rfl⟩
 exact uq (vs:=[_,_,_]) hz (Te w n) (oA rfl (oA rfl (oA rfl ⟨rfl,rfl⟩)))
def Tg(c:∀(s p:ByteArray) (w:World),Calls P f #[.string s,.string p] w fun e w'=>e = .returned (.tuple #[.string ⟨(Lib.trimPrefix s.data.toList p.data.toList).toArray⟩,.bool (Lib.hasPrefix s.data.toList p.data.toList)])∧w'=w)
  {s p:am}:aS P f [(false,[PV.val (.string (B s))]),(false,[PV.val (.string (B p))])] (aJ [(false,[PV.val (.string (B (Lib.trimPrefix s p)))]),(false,[PV.val (.bool (Lib.hasPrefix s p))])]):=by
 intro w vs Fz hz hr
 obtain ⟨v,vs',rfl,h1,v2,vs2,rfl,h2,rfl⟩:=hr
 obtain rfl:v = .string (B s):=ip.sc h1
 obtain rfl:v2 = .string (B p):=ip.sc h2
 refine (c (B s) (B p) w).mono ?_
 rintro e w' ⟨rfl,rfl⟩
 exact uq (vs:=[_,_]) hz (Below.refl _ _) (oA rfl (oA rfl ⟨rfl,rfl⟩))
def HY{e:am→List PV}(he:∀x,e x=[PV.val (.string (B x))]){Fz:ay}{w:World}:∀ws:List am,bY 1 (ws.map e) Fz w (ws.map fun x=>.string (B x)) []
 | []=>⟨rfl,rfl⟩
 | x::r=>⟨[.string (B x)],_,[],[],rfl,rfl,rfl,by rw [he];exact ⟨_,[],[],[],rfl,rfl,⟨⟨rfl,rfl⟩,rfl⟩,rfl,rfl⟩,HY he r⟩
def Th{E:Nat}{e:am→List PV}(he:∀x,e x=[PV.val (.string (B x))]){w:World}{Fz:ay}{ws:List am}(hz:∀b o,Fz b o→b < w.heap.size)(hl:ws.length≤maxLen) :
  ∃v Fz' F,Ending.returned (.slice (some ⟨w.heap.size,0,none⟩) ws.length ws.length) = .returned v∧Below w.heap.size w (w.alloc (.cells (ws.map fun x=>Value.string (B x)).toArray E)) ∧
  (∀b o,b < w.heap.size→(Fz' b o↔Fz b o))∧(∀b o,Fz' b o→b < (w.alloc (.cells (ws.map fun x=>Value.string (B x)).toArray E)).heap.size)∧(∀φ,(aJ [(false,[PV.sl (.own E 1) (ws.map e)])]).holds φ Fz' (w.alloc (.cells (ws.map fun x=>Value.string (B x)).toArray E)) v F)∧F.Nodup∧∀b,b∈F→w.heap.size≤b∧b < (w.alloc (.cells (ws.map fun x=>Value.string (B x)).toArray E)).heap.size:=by
 have hsz:(w.alloc (.cells (ws.map fun x=>Value.string (B x)).toArray E)).heap.size=w.heap.size+1:=Array.size_push _
 have hsl:da E 1 (ws.map e) (fun b o=>Fz b o∨(b=w.heap.size∧o < ws.length)) (w.alloc (.cells (ws.map fun x=>Value.string (B x)).toArray E)) (.slice (some ⟨w.heap.size,0,none⟩) ws.length ws.length) [w.heap.size]:=by
  refine ⟨_,[],?_,HY he ws,?_,rm,?_⟩
  ·have:=World.ownsRow_lit (base:=0) (e:=E) (size:=1) w (ws.map fun x=>Value.string (B x)).toArray ws.length (Nat.zero_le _) hl aF
   rw [aO]
   simpa using this
  ·intro g hg o
   simp [Value.ownBlock] at hg
   subst hg
   rw [aO,Nat.mul_one]
   constructor
   ·rintro (h|⟨_,h⟩)
    ·have:=hz _ _ h;omega
    ·exact h
   ·intro h;exact .inr ⟨rfl,h⟩
  ·intro g hg cur t' o hc x hx
   simp [Value.ownBlock] at hg
   subst hg
   rw [heap_alloc_new] at hc
   simp only [Option.some.injEq,Obj.cells.injEq] at hc
   rw [←hc.1] at hx
   obtain ⟨y,_,rfl⟩:=List.mem_map.1 ro
   rfl
 refine ⟨_,fun b o=>Fz b o∨(b=w.heap.size∧o < ws.length),[w.heap.size],rfl,?_,?_,?_,fun _=>bH.of_atom (p:=PV.sl (.own E 1) (ws.map e)) hsl,aF,?_⟩
 ·exact (Below.refl _ _).alloc (Nat.le_refl _) _
 ·intro b o hb
  constructor
  ·rintro (h|⟨h,_⟩)
   ·exact h
   ·omega
  ·exact .inl
 ·rintro b o (h|⟨h,_⟩)
  ·have:=hz _ _ h;omega
  ·omega
 ·intro b hb
  rw [List.mem_singleton] at hb
  omega
def Ti{gm E:Nat}{e:am→List PV}(he:∀x,e x=[PV.val (.string (B x))])(hm:∀{Fz w},G.rel Fz w→mp gm (fun v=>∃m,v = .int .i64 m) Fz w)
  (c:∀(s sep:ByteArray) (m:Int) (w:World),s.size < 4294967281→w.cell? ⟨gm,0,none⟩=some (.int .i64 m)→1≤sep.size →
   Calls P f #[.string s,.string sep] w fun e w'=>e = .returned (.slice (some ⟨w.heap.size,0,none⟩) (Lib.countB s sep+1) (Lib.countB s sep+1))∧w'=w.alloc (.cells ((Lib.splitB sep 0 (Lib.countB s sep) s).map Value.string).toArray E))
  {s sep:am} {ws:List am} (hs:s.length < 4294967281) (h1:1≤sep.length) (hw:Lib.splitK sep 0 (Lib.count s sep) s=ws):db P G f [(false,[PV.val (.string (B s))]),(false,[PV.val (.string (B sep))])] (aJ [(false,[PV.sl (.own E 1) (ws.map e)])]):=by
 intro w vs Fz hz hG hr
 obtain ⟨v,vs',rfl,h1',v2,vs2,rfl,h2,rfl⟩:=hr
 obtain rfl:v = .string (B s):=ip.sc h1'
 obtain rfl:v2 = .string (B sep):=ip.sc h2
 obtain ⟨_,v,hv,m,rfl⟩:=hm hG
 have hd:=Lib.splitB_data (B sep) 0 (Lib.countB (B s) (B sep)) (B s)
 have hd':(Lib.splitB (B sep) 0 (Lib.countB (B s) (B sep)) (B s)).map (·.data.toList)=ws:=hd.trans hw
 have hlen:=Lib.splitB_all (B sep) h1 0 _ (B s) rfl
 have hle:=Lib.countB_le (B sep) h1 (B s).size (B s) (Nat.le_refl _)
 have hwl:ws.length=Lib.countB (B s) (B sep)+1:=by rw [←hd',aO,hlen]
 have hcs:(Lib.splitB (B sep) 0 (Lib.countB (B s) (B sep)) (B s)).map Value.string=ws.map fun x=>Value.string (B x):=by
  rw [←hd',List.map_map];exact List.map_congr_left fun x _=>rfl
 have hc:=c (B s) (B sep) m w hs hv h1
 rw [hcs,←hwl] at hc
 refine hc.mono ?_
 rintro e w' ⟨rfl,rfl⟩
 have hss:(B s).size=s.length:=rfl
 exact Th he hz (by show ws.length≤9223372036854775807;omega)
def gI(s:am):Int:=match Lib.atoiAll s with
 | .ok v=>v
 | Lib.NumEnd.syntax=>0
 | .range=>Lib.atoiSat s
def lu(s:am):Bool:=match Lib.atoiAll s with
 | .ok _=>true
 | _=>false
def Tj{gs gr t:Nat}(hsy:∀{Fz w},G.rel Fz w→mp gs xh Fz w)(hrg:∀{Fz w},G.rel Fz w→mp gr xh Fz w)
  (c0:∀(s:ByteArray) (v:Int) (w:World),s.size≤9223372036854775806→Lib.atoiAll s.data.toList = .ok v→Calls P f #[.string s] w fun e w'=>e = .returned (.tuple #[.int .i64 v,.nilIface])∧Below w.heap.size w w')
  (c1:∀(s:ByteArray) (ev:Value) (w:World),s.size≤281474976710656→Lib.atoiAll s.data.toList=Lib.NumEnd.syntax→w.cell? ⟨gs,0,none⟩=some ev→(ev = .nilIface∨∃te pe,ev = .iface te pe)→Calls P f #[.string s] w fun e w'=>∃N,e = .returned (.tuple #[.int .i64 0,.iface t (.pointer (some ⟨N,0,none⟩))])∧Below w.heap.size w w')
  (c2:∀(s:ByteArray) (ev:Value) (w:World),s.size≤281474976710656→Lib.atoiAll s.data.toList = .range→w.cell? ⟨gr,0,none⟩=some ev→(ev = .nilIface∨∃te pe,ev = .iface te pe)→Calls P f #[.string s] w fun e w'=>∃N,e = .returned (.tuple #[.int .i64 (Lib.atoiSat s.data.toList),.iface t (.pointer (some ⟨N,0,none⟩))])∧Below w.heap.size w w')
  {s:am} (hs:s.length≤281474976710656):db P G f [(false,[PV.val (.string (B s))])] (aJ [(false,[PV.val (vI (gI s))]),(false,[PV.err (lu s)])]):=by
 intro w vs Fz hz hG hr
 obtain ⟨v,vs',rfl,h1',rfl⟩:=hr
 obtain rfl:v = .string (B s):=ip.sc h1'
 have hss:(B s).size=s.length:=rfl
 have he:∀{ok:Bool} {x:Value} {w':World},pZ ok x→dC [(false,[PV.err ok])] Fz w' [x] []:=fun h=>⟨_,[],[],[],rfl,rfl,bH.of_atom (p:=PV.err _) ⟨h,rfl⟩,rfl,rfl⟩
 rcases ha:Lib.atoiAll s with v|_|_
 ·refine (c0 (B s) v w ab ha).mono ?_
  rintro e w' ⟨rfl,hb⟩
  have e1:gI s=v:=zP
  have e2:lu s=true:=zN
  rw [e1,e2]
  exact uq (vs:=[_,_]) hz hb (oA rfl (he rfl))
 ·obtain ⟨_,ev,hv,hk⟩:=hsy hG
  refine (c1 (B s) ev w ab ha hv hk).mono ?_
  rintro e w' ⟨N,rfl,hb⟩
  have e1:gI s=0:=zP
  have e2:lu s=false:=zN
  rw [e1,e2]
  exact uq (vs:=[_,_]) hz hb (oA rfl (he ⟨_,_,rfl⟩))
 ·obtain ⟨_,ev,hv,hk⟩:=hrg hG
  refine (c2 (B s) ev w ab ha hv hk).mono ?_
  rintro e w' ⟨N,rfl,hb⟩
  have e1:gI s=Lib.atoiSat s:=zP
  have e2:lu s=false:=zN
  rw [e1,e2]
  exact uq (vs:=[_,_]) hz hb (oA rfl (he ⟨_,_,rfl⟩))
def Tk{T:TypeId}{ms:_}(hT:P.underlying T=some (.interface ms))(w:World):(Op.equal T .nilIface .nilIface).run P w = .ok true w:=by
 have h:∀d:Nat,(Op.equalIn (d+1) T .nilIface .nilIface).run P w = .ok true w:=fun d=>by simp [Op.equalIn,run_underlying hT]
 exact h 9999
def Tl{T t:TypeId}{p:Value}{ms:_}(hT:P.underlying T=some (.interface ms))(w:World):(Op.equal T (.iface t p) .nilIface).run P w = .ok false w:=by
 have h:∀d:Nat,(Op.equalIn (d+1) T (.iface t p) .nilIface).run P w = .ok false w:=fun d=>by simp [Op.equalIn,run_underlying hT]
 exact h 9999
def Tm{n k d:Nat}{T T2 ty:TypeId}{pos:String}{af:Array Edge}{g:Option (Nat×Bool)}{ok:Bool}{ms:_}(hT:P.underlying T=some (.interface ms))(hd:d < n:=by decide):Loc P n ⟨some d,.binOp .neq T (.tmp k) (.const .nilIface) T2,ty,pos,af,g⟩ ⟨[(k,RV.sv false [PV.err ok])],[],[(d,some (RV.bool (!ok)))],[],none⟩:=by
 intro h0 w0 Fz0 σ a w K Q hc hr _ _ h5
 obtain ⟨φ,Fz,Fp,hc⟩:=hc
 have h:=(bH.atom (hc.slot k _ hr.1)).1
 refine cN (v:=.bool (!ok)) (w':=w) ?_ (h5 _ _ (hc.put0 hd (bH.of_sc rfl)))
 unfold pZ at h
 have e1:a.eval (.tmp k)=a.tmps.getD k undef:=rfl
 have e2:a.eval (.const .nilIface) = .nilIface:=rfl
 unfold execOp
 cases ok with
 | true=>
  rw [if_pos rfl] at h
  simp [e1,e2,h,Sem.run_bind,eqGuard_nil_constR,binOp,Tk hT]
 | false=>
  rw [if_neg aF] at h
  obtain ⟨t,p,h⟩:=h
  have e3:∀w,Sem.run P (eqGuard .neq T (.tmp k) (.const .nilIface) (.iface t p) .nilIface) w = .ok () w:=fun w=>by simp [eqGuard]
  simp [e1,e2,h,Sem.run_bind,e3,binOp,Tl hT]
def Tn{s:am}{k:Nat}(h:k < s.length):∃b,(B s)[((k:Nat):Int).toNat]?=some b∧((b.toNat:Nat):Int)=((s[k].toNat:Nat):Int):=by
 have h':k < (B s).size:=h
 exact ⟨s[k],by rw [Int.toNat_natCast,getElem?_pos (B s) k h'];rfl,rfl⟩
section
variable{n x y d:Nat}{T ty:TypeId}{pos:String}{af:Array Edge}{g:Option (Nat×Bool)}{s:am}{k:Nat}
def sX(hlt:k < s.length)(hS:P.underlying T=some .string)(hd:d < n:=by decide):Loc P n ⟨some d,.index T (.tmp x) (.tmp y),ty,pos,af,g⟩ ⟨[(x,RV.str s),(y,RV.int (k:Int))],[],[(d,some (RV.sc (.int .u8 ((s[k].toNat:Nat):Int))))],[],none⟩:=
 Sj (x:=.tmp x) (y:=.tmp y) (k:=.i64) hS True.intro True.intro ab (Tn hlt) hd
def Tp{b:Nat}{r:Int}(j:Nat)(hS:P.underlying T=some .string){u:am}(hr:r=(j:Int))(hj:j≤s.length)(hu:(s.take j).drop 0=u)(hd:d < n:=by decide):Loc P n ⟨some d,.slice T (.tmp x) none (some (.tmp b)) none,ty,pos,af,g⟩ ⟨(x,RV.str s)::[(b,RV.int r)],[],[(d,some (RV.str u))],[],none⟩:=
 Ss (lo:=none) (hi:=some (.tmp b)) (i:=0) (j:=j) (q:=0) (r:=r) hS rfl True.intro rfl hr (Nat.zero_le _) hj hu hd
def Tq{q:Int}(k:Nat)(hlt:k < s.length)(hS:P.underlying T=some .string)(hq:q=(k:Int))(hd:d < n:=by decide):Loc P n ⟨some d,.index T (.tmp x) (.tmp y),ty,pos,af,g⟩ ⟨[(x,RV.str s),(y,RV.int q)],[],[(d,some (RV.sc (.int .u8 ((s[k].toNat:Nat):Int))))],[],none⟩:=by
 subst hq;exact sX hlt hS hd
end
end
end
end Go.Proofs.YtmekkgdboplbjaaGreatDoor.M
