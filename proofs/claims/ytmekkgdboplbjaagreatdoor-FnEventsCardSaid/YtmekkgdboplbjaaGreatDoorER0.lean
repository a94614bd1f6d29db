/- The library's calls that read texts: cut, split, numbers. No condition. -/
import Derived.Test.YtmekkgdboplbjaaGreatDoorEC0
import Derived.Lib.SplitLaws
import Derived.Lib.AtoiAll
import Derived.Lib.Strings
set_option linter.all false
namespace Go.Proofs.YtmekkgdboplbjaaGreatDoor.M
open Go Go.RowKit
def xV(ok:Bool)(v:Value):Prop:=if ok then v = .nilIface else ∃t p,v = .iface t p
def xV.one{ok:Bool}{v:Value}(h:xV ok v):v.oneCell'=true:=by
 unfold xV at h
 split at h
 ·subst h;rfl
 ·obtain ⟨t,p,rfl⟩:=h;rfl
def PV.err(ok:Bool):PV where
 rel _ _ v:=xV ok v
 own _ _ v F:=xV ok v∧F=[]
 one h:=h.one
 toRel h:=h.1
 relMono h _:=h
 ownMono h _ _:=h
 lt h:=oj
def PV.bor_err(x:Bool):(PV.err x).Bor:=fun h=>⟨h,rfl⟩
def rL(g:Nat)(ok:Value→Prop)(Fz:aA)(w:World):Prop:=Fz g 0∧∃v,w.cell? ⟨g,0,none⟩=some v∧ok v
def rL.mono{g:Nat}{ok:Value→Prop}{Fz Fz':aA}{w w':World}(h:rL g ok Fz w)(k:gX Fz w Fz' w'):rL g ok Fz' w':=by
 obtain ⟨h1,v,h2,h3⟩:=h
 obtain ⟨k1,k2⟩:=k g 0 h1
 exact ⟨k1,v,k2.trans h2,h3⟩
def JG(v:Value):Prop:=v = .nilIface∨∃t p,v = .iface t p
def arQ(P:Program)(g:Nat)(hg:P.globalNamed "internal/strconv.uint64pow10" = some g)(gm gs gr:Nat):pu where
 rel Fz w:=(Xe P g hg).rel Fz w∧rL gm (fun v=>∃m,v = .int .i64 m) Fz w∧rL gs JG Fz w∧rL gr JG Fz w
 mono h k:=⟨(Xe P g hg).mono h.1 k,h.2.1.mono k,h.2.2.1.mono k,h.2.2.2.mono k⟩
section
variable{P:Program}{G:pu}{f:FuncId}
def vv{x:Value}{qs:List (Bool×List PV)}{vs:List Value}{Fz:aA}{w:World}(hx:x.oneCell'=true)(h:eT qs Fz w vs []):eT ((false,[PV.val x])::qs) Fz w (x::vs) []:=⟨x,vs,[],[],rfl,rfl,ce.of_sc hx,h⟩
def DV{w w':World}{Fz:aA}{vs:List Value}{q1 q2:Bool×List PV}{qs:List (Bool×List PV)}(hz:∀b o,Fz b o→b < w.heap.size)(hb:Below w.heap.size w w')(ho:eT (q1::q2::qs) Fz w' vs []):∃v Fz' F,Ending.returned (.tuple vs.toArray) = .returned v∧Below w.heap.size w w' ∧
  (∀b o,b < w.heap.size→(Fz' b o↔Fz b o))∧(∀b o,Fz' b o→b < w'.heap.size)∧(∀φ,(aB (q1::q2::qs)).holds φ Fz' w' v F)∧F.Nodup∧∀b,b∈F→w.heap.size≤b∧b < w'.heap.size:=
 ⟨_,Fz,[],rfl,hb,fun _ _ _=>Iff.rfl,fun b o h=>Nat.lt_of_lt_of_le (hz b o h) hb.size,fun _=>⟨_,rfl,ho⟩,List.nodup_nil,fun b hb=>by simp at hb⟩
def arR(w:World)(k:Nat):Below w.heap.size w (w.drewN k):=by
 refine ⟨rfl,rfl,rfl,Nat.le_refl _,fun b hb=>rfl⟩
def arS{gm:Nat}(hm:∀{Fz w},G.rel Fz w→rL gm (fun v=>∃m,v = .int .i64 m) Fz w)
  (c:∀(s sep:ByteArray) (m:Int) (w:World),s.size < 4294967281→w.cell? ⟨gm,0,none⟩=some (.int .i64 m) →
   Calls P f #[.string s,.string sep] w fun e w'=>e = .returned (.tuple #[.string ⟨(Lib.cut s.data.toList sep.data.toList).1.toArray⟩,.string ⟨(Lib.cut s.data.toList sep.data.toList).2.1.toArray⟩,.bool (Lib.cut s.data.toList sep.data.toList).2.2])∧∃n,w'=w.drewN n)
  {s sep:av} (hs:s.length < 4294967281):gu P G f [(false,[PV.val (.string (B s))]),(false,[PV.val (.string (B sep))])]
   (aB [(false,[PV.val (.string (B (Lib.cut s sep).1))]),(false,[PV.val (.string (B (Lib.cut s sep).2.1))]),(false,[PV.val (.bool (Lib.cut s sep).2.2)])]):=by
 intro w vs Fz hz hG hr
 obtain ⟨v,vs',rfl,h1,v2,vs2,rfl,h2,rfl⟩:=hr
 obtain rfl:v = .string (B s):=lm.sc h1
 obtain rfl:v2 = .string (B sep):=lm.sc h2
 obtain ⟨_,v,hv,m,rfl⟩:=hm hG
 refine (c (B s) (B sep) m w hs hv).mono ?_
 rintro e w' ⟨rfl,n,rfl⟩
 exact DV (vs:=[_,_,_]) hz (arR w n) (vv rfl (vv rfl (vv rfl ⟨rfl,rfl⟩)))
def arT(c:∀(s p:ByteArray) (w:World),Calls P f #[.string s,.string p] w fun e w'=>e = .returned (.tuple #[.string ⟨(Lib.trimPrefix s.data.toList p.data.toList).toArray⟩,.bool (Lib.hasPrefix s.data.toList p.data.toList)])∧w'=w)
  {s p:av}:aQ P f [(false,[PV.val (.string (B s))]),(false,[PV.val (.string (B p))])] (aB [(false,[PV.val (.string (B (Lib.trimPrefix s p)))]),(false,[PV.val (.bool (Lib.hasPrefix s p))])]):=by
 intro w vs Fz hz hr
 obtain ⟨v,vs',rfl,h1,v2,vs2,rfl,h2,rfl⟩:=hr
 obtain rfl:v = .string (B s):=lm.sc h1
 obtain rfl:v2 = .string (B p):=lm.sc h2
 refine (c (B s) (B p) w).mono ?_
 rintro e w' ⟨rfl,rfl⟩
 exact DV (vs:=[_,_]) hz (Below.refl _ _) (vv rfl (vv rfl ⟨rfl,rfl⟩))
def ajl{e:av→List PV}(he:∀x,e x=[PV.val (.string (B x))]){Fz:aA}{w:World}:∀ws:List av,cG 1 (ws.map e) Fz w (ws.map fun x=>.string (B x)) []
 | []=>⟨rfl,rfl⟩
 | x::r=>⟨[.string (B x)],_,[],[],rfl,rfl,rfl,by rw [he];exact ⟨_,[],[],[],rfl,rfl,⟨⟨rfl,rfl⟩,rfl⟩,rfl,rfl⟩,ajl he r⟩
def arU{E:Nat}{e:av→List PV}(he:∀x,e x=[PV.val (.string (B x))]){w:World}{Fz:aA}{ws:List av}(hz:∀b o,Fz b o→b < w.heap.size)(hl:ws.length≤maxLen) :
  ∃v Fz' F,Ending.returned (.slice (some ⟨w.heap.size,0,none⟩) ws.length ws.length) = .returned v∧Below w.heap.size w (w.alloc (.cells (ws.map fun x=>Value.string (B x)).toArray E)) ∧
  (∀b o,b < w.heap.size→(Fz' b o↔Fz b o))∧(∀b o,Fz' b o→b < (w.alloc (.cells (ws.map fun x=>Value.string (B x)).toArray E)).heap.size)∧(∀φ,(aB [(false,[PV.sl (.own E 1) (ws.map e)])]).holds φ Fz' (w.alloc (.cells (ws.map fun x=>Value.string (B x)).toArray E)) v F)∧F.Nodup∧∀b,b∈F→w.heap.size≤b∧b < (w.alloc (.cells (ws.map fun x=>Value.string (B x)).toArray E)).heap.size:=by
 have hsz:(w.alloc (.cells (ws.map fun x=>Value.string (B x)).toArray E)).heap.size=w.heap.size+1:=Array.size_push _
 have hsl:dR E 1 (ws.map e) (fun b o=>Fz b o∨(b=w.heap.size∧o < ws.length)) (w.alloc (.cells (ws.map fun x=>Value.string (B x)).toArray E)) (.slice (some ⟨w.heap.size,0,none⟩) ws.length ws.length) [w.heap.size]:=by
  refine ⟨_,[],?_,ajl he ws,?_,yl,?_⟩
  ·have:=World.ownsRow_lit (base:=0) (e:=E) (size:=1) w (ws.map fun x=>Value.string (B x)).toArray ws.length (Nat.zero_le _) hl aM
   rw [bf]
   simpa using this
  ·intro g hg o
   simp [Value.ownBlock] at hg
   subst hg
   rw [bf,Nat.mul_one]
   constructor
   ·rintro (h|⟨_,h⟩)
    ·have:=hz _ _ h;omega
    ·exact h
   ·intro h;exact .inr ⟨rfl,h⟩
  ·intro g hg cur t' o hc x hx
   simp [Value.ownBlock] at hg
   subst hg
   rw [heap_alloc_new] at hc
   simp only [Option.some.injEq,Obj.cells.injEq] at hc
   rw [←hc.1] at hx
   obtain ⟨y,_,rfl⟩:=List.mem_map.1 Be
   rfl
 refine ⟨_,fun b o=>Fz b o∨(b=w.heap.size∧o < ws.length),[w.heap.size],rfl,?_,?_,?_,fun _=>ce.of_atom (p:=PV.sl (.own E 1) (ws.map e)) hsl,aM,?_⟩
 ·exact (Below.refl _ _).alloc (Nat.le_refl _) _
 ·intro b o hb
  constructor
  ·rintro (h|⟨h,_⟩)
   ·exact h
   ·omega
  ·exact .inl
 ·rintro b o (h|⟨h,_⟩)
  ·have:=hz _ _ h;omega
  ·omega
 ·intro b hb
  rw [List.mem_singleton] at hb
  omega
def arV{gm E:Nat}{e:av→List PV}(he:∀x,e x=[PV.val (.string (B x))])(hm:∀{Fz w},G.rel Fz w→rL gm (fun v=>∃m,v = .int .i64 m) Fz w)
  (c:∀(s sep:ByteArray) (m:Int) (w:World),s.size < 4294967281→w.cell? ⟨gm,0,none⟩=some (.int .i64 m)→1≤sep.size →
   Calls P f #[.string s,.string sep] w fun e w'=>e = .returned (.slice (some ⟨w.heap.size,0,none⟩) (Lib.countB s sep+1) (Lib.countB s sep+1))∧w'=w.alloc (.cells ((Lib.splitB sep 0 (Lib.countB s sep) s).map Value.string).toArray E))
  {s sep:av} {ws:List av} (hs:s.length < 4294967281) (h1:1≤sep.length) (hw:Lib.splitK sep 0 (Lib.count s sep) s=ws):gu P G f [(false,[PV.val (.string (B s))]),(false,[PV.val (.string (B sep))])] (aB [(false,[PV.sl (.own E 1) (ws.map e)])]):=by
 intro w vs Fz hz hG hr
 obtain ⟨v,vs',rfl,h1',v2,vs2,rfl,h2,rfl⟩:=hr
 obtain rfl:v = .string (B s):=lm.sc h1'
 obtain rfl:v2 = .string (B sep):=lm.sc h2
 obtain ⟨_,v,hv,m,rfl⟩:=hm hG
 have hd:=Lib.splitB_data (B sep) 0 (Lib.countB (B s) (B sep)) (B s)
 have hd':(Lib.splitB (B sep) 0 (Lib.countB (B s) (B sep)) (B s)).map (·.data.toList)=ws:=hd.trans hw
 have hlen:=Lib.splitB_all (B sep) h1 0 _ (B s) rfl
 have hle:=Lib.countB_le (B sep) h1 (B s).size (B s) (Nat.le_refl _)
 have hwl:ws.length=Lib.countB (B s) (B sep)+1:=by rw [←hd',bf,hlen]
 have hcs:(Lib.splitB (B sep) 0 (Lib.countB (B s) (B sep)) (B s)).map Value.string=ws.map fun x=>Value.string (B x):=by
  rw [←hd',List.map_map];exact List.map_congr_left fun x _=>rfl
 have hc:=c (B s) (B sep) m w hs hv h1
 rw [hcs,←hwl] at hc
 refine hc.mono ?_
 rintro e w' ⟨rfl,rfl⟩
 have hss:(B s).size=s.length:=rfl
 exact arU he hz (by show ws.length≤9223372036854775807;omega)
def kw(s:av):Int:=match Lib.atoiAll s with
 | .ok v=>v
 | Lib.NumEnd.syntax=>0
 | .range=>Lib.atoiSat s
def qh(s:av):Bool:=match Lib.atoiAll s with
 | .ok _=>true
 | _=>false
def arW{gs gr t:Nat}(hsy:∀{Fz w},G.rel Fz w→rL gs JG Fz w)(hrg:∀{Fz w},G.rel Fz w→rL gr JG Fz w)
  (c0:∀(s:ByteArray) (v:Int) (w:World),s.size≤9223372036854775806→Lib.atoiAll s.data.toList = .ok v→Calls P f #[.string s] w fun e w'=>e = .returned (.tuple #[.int .i64 v,.nilIface])∧Below w.heap.size w w')
  (c1:∀(s:ByteArray) (ev:Value) (w:World),s.size≤281474976710656→Lib.atoiAll s.data.toList=Lib.NumEnd.syntax→w.cell? ⟨gs,0,none⟩=some ev→(ev = .nilIface∨∃te pe,ev = .iface te pe)→Calls P f #[.string s] w fun e w'=>∃N,e = .returned (.tuple #[.int .i64 0,.iface t (.pointer (some ⟨N,0,none⟩))])∧Below w.heap.size w w')
  (c2:∀(s:ByteArray) (ev:Value) (w:World),s.size≤281474976710656→Lib.atoiAll s.data.toList = .range→w.cell? ⟨gr,0,none⟩=some ev→(ev = .nilIface∨∃te pe,ev = .iface te pe)→Calls P f #[.string s] w fun e w'=>∃N,e = .returned (.tuple #[.int .i64 (Lib.atoiSat s.data.toList),.iface t (.pointer (some ⟨N,0,none⟩))])∧Below w.heap.size w w')
  {s:av} (hs:s.length≤281474976710656):gu P G f [(false,[PV.val (.string (B s))])] (aB [(false,[PV.val (vI (kw s))]),(false,[PV.err (qh s)])]):=by
 intro w vs Fz hz hG hr
 obtain ⟨v,vs',rfl,h1',rfl⟩:=hr
 obtain rfl:v = .string (B s):=lm.sc h1'
 have hss:(B s).size=s.length:=rfl
 have he:∀{ok:Bool} {x:Value} {w':World},xV ok x→eT [(false,[PV.err ok])] Fz w' [x] []:=fun h=>⟨_,[],[],[],rfl,rfl,ce.of_atom (p:=PV.err _) ⟨h,rfl⟩,rfl,rfl⟩
 rcases ha:Lib.atoiAll s with v|_|_
 ·refine (c0 (B s) v w ab ha).mono ?_
  rintro e w' ⟨rfl,hb⟩
  have e1:kw s=v:=Lf
  have e2:qh s=true:=Lc
  rw [e1,e2]
  exact DV (vs:=[_,_]) hz hb (vv rfl (he rfl))
 ·obtain ⟨_,ev,hv,hk⟩:=hsy hG
  refine (c1 (B s) ev w ab ha hv hk).mono ?_
  rintro e w' ⟨N,rfl,hb⟩
  have e1:kw s=0:=Lf
  have e2:qh s=false:=Lc
  rw [e1,e2]
  exact DV (vs:=[_,_]) hz hb (vv rfl (he ⟨_,_,rfl⟩))
 ·obtain ⟨_,ev,hv,hk⟩:=hrg hG
  refine (c2 (B s) ev w ab ha hv hk).mono ?_
  rintro e w' ⟨N,rfl,hb⟩
  have e1:kw s=Lib.atoiSat s:=Lf
  have e2:qh s=false:=Lc
  rw [e1,e2]
  exact DV (vs:=[_,_]) hz hb (vv rfl (he ⟨_,_,rfl⟩))
def arX{T:TypeId}{ms:_}(hT:P.underlying T=some (.interface ms))(w:World):(Op.equal T .nilIface .nilIface).run P w = .ok true w:=by
 have h:∀d:Nat,(Op.equalIn (d+1) T .nilIface .nilIface).run P w = .ok true w:=fun d=>by simp [Op.equalIn,run_underlying hT]
 exact h 9999
def arY{T t:TypeId}{p:Value}{ms:_}(hT:P.underlying T=some (.interface ms))(w:World):(Op.equal T (.iface t p) .nilIface).run P w = .ok false w:=by
 have h:∀d:Nat,(Op.equalIn (d+1) T (.iface t p) .nilIface).run P w = .ok false w:=fun d=>by simp [Op.equalIn,run_underlying hT]
 exact h 9999
def arZ{n k d:Nat}{T T2 ty:TypeId}{pos:String}{af:Array Edge}{g:Option (Nat×Bool)}{ok:Bool}{ms:_}(hT:P.underlying T=some (.interface ms))(hd:d < n:=by decide):Loc P n ⟨some d,.binOp .neq T (.tmp k) (.const .nilIface) T2,ty,pos,af,g⟩ ⟨[(k,RV.sv false [PV.err ok])],[],[(d,some (RV.bool (!ok)))],[],none⟩:=by
 intro h0 w0 Fz0 σ a w K Q hc hr _ _ h5
 obtain ⟨φ,Fz,Fp,hc⟩:=hc
 have h:=(ce.atom (hc.slot k _ hr.1)).1
 refine ez (v:=.bool (!ok)) (w':=w) ?_ (h5 _ _ (hc.put0 hd (ce.of_sc rfl)))
 unfold xV at h
 have e1:a.eval (.tmp k)=a.tmps.getD k undef:=rfl
 have e2:a.eval (.const .nilIface) = .nilIface:=rfl
 unfold execOp
 cases ok with
 | true=>
  rw [if_pos rfl] at h
  simp [e1,e2,h,Sem.run_bind,eqGuard_nil_constR,binOp,arX hT]
 | false=>
  rw [if_neg aM] at h
  obtain ⟨t,p,h⟩:=h
  have e3:∀w,Sem.run P (eqGuard .neq T (.tmp k) (.const .nilIface) (.iface t p) .nilIface) w = .ok () w:=fun w=>by simp [eqGuard]
  simp [e1,e2,h,Sem.run_bind,e3,binOp,arY hT]
def ar0{n:Nat}{T T2:TypeId}{x y:Operand}{d:Nat}{ty:TypeId}{pos:String}{af:Array Edge}{g:Option (Nat×Bool)}{i j r:Int}{k:IntKind}(hj:k.wrap (i - j)=r)(hx:bG x (RV.sc (.int k i)):=by first|exact True.intro|exact bi rfl)(hy:bG y (RV.sc (.int k j)):=by first|exact True.intro|exact bi rfl)(hd:d < n:=by decide):Loc P n ⟨some d,.binOp .sub T x y T2,ty,pos,af,g⟩ ⟨bm x (RV.sc (.int k i))++bm y (RV.sc (.int k j)),[],[(d,some (RV.sc (.int k r)))],[],none⟩:=
 gJ hd hx hy rfl fun w=>by simp [eqGuard,binOp,Op.intArith,hj]
def ajm{s:av}{k:Nat}(h:k < s.length):∃b,(B s)[((k:Nat):Int).toNat]?=some b∧((b.toNat:Nat):Int)=((s[k].toNat:Nat):Int):=by
 have h':k < (B s).size:=h
 exact ⟨s[k],by rw [Int.toNat_natCast,getElem?_pos (B s) k h'];rfl,rfl⟩
section
variable{n x y d:Nat}{T ty:TypeId}{pos:String}{af:Array Edge}{g:Option (Nat×Bool)}{s:av}{k:Nat}
def sX(hlt:k < s.length)(hS:P.underlying T=some .string)(hd:d < n:=by decide):Loc P n ⟨some d,.index T (.tmp x) (.tmp y),ty,pos,af,g⟩ ⟨[(x,RV.str s),(y,RV.int (k:Int))],[],[(d,some (RV.sc (.int .u8 ((s[k].toNat:Nat):Int))))],[],none⟩:=
 WR (x:=.tmp x) (y:=.tmp y) (k:=.i64) hS True.intro True.intro ab (ajm hlt) hd
def Sa(hlt:0 < s.length)(hS:P.underlying T=some .string)(hd:d < n:=by decide):Loc P n ⟨some d,.index T (.tmp x) (.const (.int .i64 0)),ty,pos,af,g⟩ ⟨[(x,RV.str s)],[],[(d,some (RV.sc (.int .u8 ((s[0].toNat:Nat):Int))))],[],none⟩:=
 WR (x:=.tmp x) (y:=.const (.int .i64 0)) (k:=.i64) (i:=0) hS True.intro (bi rfl) ab (ajm (k:=0) hlt) hd
def ar1{v:Int}(h:48≤v∧v≤255){T2:TypeId}(hd:d < n:=by decide):Loc P n ⟨some d,.binOp .sub T (.tmp x) (.const (.int .u8 48)) T2,ty,pos,af,g⟩ ⟨[(x,RV.sc (.int .u8 v))],[],[(d,some (RV.sc (.int .u8 (v - 48))))],[],none⟩:=
 ar0 (x:=.tmp x) (y:=.const (.int .u8 48)) (IntWalk.u8_in _ ab) True.intro (bi rfl) hd
def sS2{a b:Nat}{q r:Int}(i j:Nat)(hS:P.underlying T=some .string){u:av}(hq:q=(i:Int))(hr:r=(j:Int))(hij:i≤j)(hj:j≤s.length)(hu:(s.take j).drop i=u)(hd:d < n:=by decide):Loc P n ⟨some d,.slice T (.tmp x) (some (.tmp a)) (some (.tmp b)) none,ty,pos,af,g⟩ ⟨(x,RV.str s)::[(a,RV.int q),(b,RV.int r)],[],[(d,some (RV.str u))],[],none⟩:=
 Gk (lo:=some (.tmp a)) (hi:=some (.tmp b)) (i:=i) (j:=j) (q:=q) (r:=r) hS True.intro True.intro hq hr hij hj hu hd
def Sb{b:Nat}{r:Int}(j:Nat)(hS:P.underlying T=some .string){u:av}(hr:r=(j:Int))(hj:j≤s.length)(hu:(s.take j).drop 0=u)(hd:d < n:=by decide):Loc P n ⟨some d,.slice T (.tmp x) none (some (.tmp b)) none,ty,pos,af,g⟩ ⟨(x,RV.str s)::[(b,RV.int r)],[],[(d,some (RV.str u))],[],none⟩:=
 Gk (lo:=none) (hi:=some (.tmp b)) (i:=0) (j:=j) (q:=0) (r:=r) hS rfl True.intro rfl hr (Nat.zero_le _) hj hu hd
def DW{a:Nat}{q:Int}(i:Nat)(hS:P.underlying T=some .string){u:av}(hq:q=(i:Int))(hi:i≤s.length)(hu:(s.take s.length).drop i=u)(hd:d < n:=by decide):Loc P n ⟨some d,.slice T (.tmp x) (some (.tmp a)) none none,ty,pos,af,g⟩ ⟨(x,RV.str s)::[(a,RV.int q)],[],[(d,some (RV.str u))],[],none⟩:=
 Gk (lo:=some (.tmp a)) (hi:=none) (i:=i) (j:=s.length) (q:=q) (r:=(s.length:Int)) hS True.intro rfl hq rfl hi (Nat.le_refl _) hu hd
def sSc(hS:P.underlying T=some .string){u:av}(hi:1≤s.length)(hu:(s.take s.length).drop 1=u)(hd:d < n:=by decide):Loc P n ⟨some d,.slice T (.tmp x) (some (.const (.int .i64 1))) none none,ty,pos,af,g⟩ ⟨(x,RV.str s)::[],[],[(d,some (RV.str u))],[],none⟩:=
 Gk (lo:=some (.const (.int .i64 1))) (hi:=none) (i:=1) (j:=s.length) (q:=1) (r:=(s.length:Int)) hS (bi rfl) rfl rfl rfl hi (Nat.le_refl _) hu hd
def sXq{q:Int}(k:Nat)(hlt:k < s.length)(hS:P.underlying T=some .string)(hq:q=(k:Int))(hd:d < n:=by decide):Loc P n ⟨some d,.index T (.tmp x) (.tmp y),ty,pos,af,g⟩ ⟨[(x,RV.str s),(y,RV.int q)],[],[(d,some (RV.sc (.int .u8 ((s[k].toNat:Nat):Int))))],[],none⟩:=by
 subst hq;exact sX hlt hS hd
end
end
end Go.Proofs.YtmekkgdboplbjaaGreatDoor.M
