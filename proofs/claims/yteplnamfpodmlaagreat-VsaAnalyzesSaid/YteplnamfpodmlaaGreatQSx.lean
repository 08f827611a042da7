/-
  Part of the proof.
-/
import Derived.Test.YteplnamfpodmlaaGreatQKit
import Derived.Deep.MidRow
import Derived.Orders
import Derived.Laws.StructEq
import Derived.LoopN
set_option linter.unusedVariables false
set_option linter.unusedSimpArgs false
set_option maxRecDepth 100000
open Go.ChangeShapes Go.WideShapes Go.ChangeAt Go.RowKit
section
namespace Go.Proofs.YteplnamfpodmlaaGreat
inductive SX where
 |i (n:Int)|b (v:Bool)|v (d j:Nat)|r (d sz j:Nat) (x:SX)
 |o (p:BinOp) (k:IntKind) (x y:SX)|c (p:BinOp) (x y:SX)|no (x:SX)|eq (x y:SX)|an (x y:SX)
 |it (c x y:SX)|cv (k:IntKind) (x:SX)|mx (x y:SX)|mn (x y:SX)
 deriving DecidableEq,Repr
structure Env where
 int:Nat→Nat→Int
 bool:Nat→Nat→Bool
 adr:Nat→Nat
 base:Nat→Option Addr
def arI(p:BinOp)(k:IntKind)(x y:Int):Int:=
 match p with
 | .add=>k.wrap (x+y)
 | .sub=>k.wrap (x - y)
 | .mul=>k.wrap (x * y)
 | .quo=>k.wrap (x.tdiv y)
 | .rem=>x.tmod y
 | .shl=>k.wrap (x * 2 ^ (min y.toNat k.bits))
 | .shr=>x.fdiv (2 ^ (min y.toNat k.bits))
 |p=>bits p k x y
def cmI(p:BinOp)(x y:Int):Bool:=
 match p with
 | .eql=>x==y
 | .neq=>x != y
 | .lss=>decide (x < y)
 | .leq=>decide (x≤y)
 | .gtr=>decide (y < x)
 | .geq=>decide (y≤x)
 |_=>false
def SX.den(e:Env):SX→Int×Bool
 | .i n=>(n,false)
 | .b u=>(0,u)
 | .v d j=>(e.int d j,e.bool d j)
 | .r d sz j x=>(e.int d ((x.den e).1.toNat * sz+j),e.bool d ((x.den e).1.toNat * sz+j))
 | .o p k x y=>(arI p k (x.den e).1 (y.den e).1,false)
 | .c p x y=>(0,cmI p (x.den e).1 (y.den e).1)
 | .no x=>(0,!(x.den e).2)
 | .eq x y=>(0,(x.den e).2==(y.den e).2)
 | .an x y=>(0,(x.den e).2 && (y.den e).2)
 | .it g x y=>if(g.den e).2 then x.den e else y.den e
 | .cv k x=>(k.wrap (x.den e).1,false)
 | .mx x y=>(if(y.den e).1 > (x.den e).1 then(y.den e).1 else(x.den e).1,false)
 | .mn x y=>(if(y.den e).1 < (x.den e).1 then(y.den e).1 else(x.den e).1,false)
abbrev SX.int(x:SX)(e:Env):Int:=(x.den e).1
abbrev SX.bool(x:SX)(e:Env):Bool:=(x.den e).2
inductive LX where
 |n (k:IntKind) (x:SX)|t (x:SX)|p (d o:Nat)|pi (d o n sz:Nat) (x:SX) (o2:Nat)|q (d sz:Nat) (x:SX) (o:Nat)
 |sl (d:Nat) (len cap:SX)|np|ns
 deriving DecidableEq,Repr
def LX.den(e:Env):LX→Value
 | .n k x=> .int k (x.den e).1
 | .t x=> .bool (x.den e).2
 | .p d o=> .pointer (some ⟨e.adr d,o,none⟩)
 | .pi d o _ sz x o2=> .pointer (some ⟨e.adr d,o+(x.den e).1.toNat * sz+o2,none⟩)
 | .q d sz x o=> .pointer (some (((e.base d).getD default).add ((x.den e).1.toNat * sz+o)))
 | .sl d len cap=> .slice (e.base d) (len.den e).1.toNat (cap.den e).1.toNat
 | .np=> .pointer none
 | .ns=> .slice none 0 0
inductive PX where
 |l (x:LX)|a (xs:List LX)
 deriving DecidableEq,Repr
def PX.den(e:Env):PX→Value
 | .l x=>x.den e
 | .a xs=> .agg (xs.map (·.den e)).toArray
inductive VX where
 |v (x:PX)|tp (xs:List PX)|un|any|gd (c:SX) (x:PX)
 deriving DecidableEq,Repr
def VX.sat(e:Env):VX→Value→Prop
 | .v x,u=>u=x.den e
 | .tp xs,u=>u= .tuple (xs.map (·.den e)).toArray
 | .un,u=>u=undef
 | .any,_=>True
 | .gd c x,u=>((c.den e).2=true→u=x.den e)∧((c.den e).2=false→u=undef)
structure Bk where
 id:Nat
 ty:Nat
 cs:List LX
 deriving DecidableEq,Repr
structure Rw where
 id:Nat
 ks:List (Option IntKind)
 len:SX
 deriving DecidableEq,Repr
inductive Cd where
 |c (x:SX) (v:Bool)|f (d k:Nat) (args:List PX)|g (d k:Nat)
 deriving DecidableEq,Repr
structure St where
 tm:List VX
 hp:List Bk
 rw:List Rw
 cd:List Cd
 nx:Nat
 deriving DecidableEq,Repr
def Env.off(ok:Nat→Bool)(e e':Env):Prop:=∀x,ok x=true→e.int x=e'.int x∧e.bool x=e'.bool x∧e.adr x=e'.adr x∧e.base x=e'.base x
def SX.fr(ok:Nat→Bool):SX→Bool
 | .i _| .b _=>true
 | .v x _=>ok x
 | .r x _ _ y=>ok x && y.fr ok
 | .o _ _ x y| .c _ x y| .eq x y| .an x y| .mx x y| .mn x y=>x.fr ok && y.fr ok
 | .no x| .cv _ x=>x.fr ok
 | .it g x y=>g.fr ok && x.fr ok && y.fr ok
def LX.fr(ok:Nat→Bool):LX→Bool
 | .n _ x| .t x=>x.fr ok
 | .p x _=>ok x
 | .pi y _ _ _ x _| .q y _ x _=>ok y && x.fr ok
 | .sl y m u=>ok y && m.fr ok && u.fr ok
 | .np| .ns=>true
def PX.fr(ok:Nat→Bool):PX→Bool
 | .l x=>x.fr ok
 | .a xs=>xs.all (·.fr ok)
def VX.fr(ok:Nat→Bool):VX→Bool
 | .v x=>x.fr ok
 | .tp xs=>xs.all (·.fr ok)
 | .un| .any=>true
 | .gd c x=>c.fr ok && x.fr ok
def Bk.fr(ok:Nat→Bool)(b:Bk):Bool:=ok b.id && b.cs.all (·.fr ok)
def Rw.fr(ok:Nat→Bool)(r:Rw):Bool:=ok r.id && r.len.fr ok
def Cd.fr(ok:Nat→Bool):Cd→Bool
 | .c x _=>x.fr ok
 | .f x _ args=>ok x && args.all (·.fr ok)
 | .g x _=>(List.range (x+1)).all ok
def St.fr(ok:Nat→Bool)(s:St):Bool:=s.tm.all (·.fr ok) && s.hp.all (·.fr ok) && s.rw.all (·.fr ok) && s.cd.all (·.fr ok)
section
variable{ok:Nat→Bool}{e e':Env}(h:Env.off ok e e')
include h
theorem SX.den_off:∀(x:SX),x.fr ok=true→x.den e=x.den e'
 | .i _,_=>rfl
 | .b _,_=>rfl
 | .v x j,hf=>by simp only [SX.fr]at hf;simp only [SX.den,(h x hf).1,(h x hf).2.1]
 | .r x sz j y,hf=>by
   simp only [SX.fr,Bool.and_eq_true]at hf;simp only [SX.den,(h x hf.1).1,(h x hf.1).2.1,SX.den_off y hf.2]
 | .o _ _ x y,hf=>by simp only [SX.fr,Bool.and_eq_true]at hf;simp only [SX.den,SX.den_off x hf.1,SX.den_off y hf.2]
 | .c _ x y,hf=>by simp only [SX.fr,Bool.and_eq_true]at hf;simp only [SX.den,SX.den_off x hf.1,SX.den_off y hf.2]
 | .eq x y,hf=>by simp only [SX.fr,Bool.and_eq_true]at hf;simp only [SX.den,SX.den_off x hf.1,SX.den_off y hf.2]
 | .an x y,hf=>by simp only [SX.fr,Bool.and_eq_true]at hf;simp only [SX.den,SX.den_off x hf.1,SX.den_off y hf.2]
 | .mx x y,hf=>by simp only [SX.fr,Bool.and_eq_true]at hf;simp only [SX.den,SX.den_off x hf.1,SX.den_off y hf.2]
 | .mn x y,hf=>by simp only [SX.fr,Bool.and_eq_true]at hf;simp only [SX.den,SX.den_off x hf.1,SX.den_off y hf.2]
 | .no x,hf=>by simp only [SX.fr]at hf;simp only [SX.den,SX.den_off x hf]
 | .cv _ x,hf=>by simp only [SX.fr]at hf;simp only [SX.den,SX.den_off x hf]
 | .it g x y,hf=>by
   simp only [SX.fr,Bool.and_eq_true]at hf;simp only [SX.den,SX.den_off g hf.1.1,SX.den_off x hf.1.2,SX.den_off y hf.2]
theorem LX.den_off(x:LX)(hf:x.fr ok=true):x.den e=x.den e':=by
 cases x with
 |n k x=>simp only [LX.den];rw [SX.den_off h _ hf]
 |t x=>simp only [LX.den];rw [SX.den_off h _ hf]
 |p y o=>simp only [LX.fr]at hf;simp only [LX.den];rw [(h _ hf).2.2.1]
 |pi y o m sz x o2=>simp only [LX.fr,Bool.and_eq_true]at hf;simp only [LX.den];rw [(h _ hf.1).2.2.1,SX.den_off h _ hf.2]
 |q y sz x o=>simp only [LX.fr,Bool.and_eq_true]at hf;simp only [LX.den];rw [(h _ hf.1).2.2.2,SX.den_off h _ hf.2]
 |sl y m u=>simp only [LX.fr,Bool.and_eq_true]at hf;simp only [LX.den];rw [(h _ hf.1.1).2.2.2,SX.den_off h _ hf.1.2,SX.den_off h _ hf.2]
 |np=>rfl
 |ns=>rfl
theorem Kd(xs:List LX)(hf:xs.all (·.fr ok)=true):xs.map (·.den e)=xs.map (·.den e'):=
 List.map_congr_left fun x hx=>LX.den_off h x (List.all_eq_true.1 hf x hx)
theorem PX.den_off(x:PX)(hf:x.fr ok=true):x.den e=x.den e':=by
 cases x with
 |l x=>exact LX.den_off h x hf
 |a xs=>simp only [PX.den,Kd h xs hf]
theorem YS(xs:List PX)(hf:xs.all (·.fr ok)=true):xs.map (·.den e)=xs.map (·.den e'):=
 List.map_congr_left fun x hx=>PX.den_off h x (List.all_eq_true.1 hf x hx)
theorem VX.sat_off(x:VX)(hf:x.fr ok=true)(u:Value)(hs:x.sat e u):x.sat e' u:=by
 cases x with
 |v x=>simp only [VX.sat]at hs ⊢;rw [hs,PX.den_off h x hf]
 |tp xs=>simp only [VX.sat]at hs ⊢;rw [hs,YS h xs hf]
 |un=>exact hs
 |any=>trivial
 |gd c x=>
  simp only [VX.fr,Bool.and_eq_true]at hf;simp only [VX.sat]at hs ⊢;rw [←SX.den_off h c hf.1,←PX.den_off h x hf.2];exact hs
end
structure AD where
 val:Value
 int:Nat→Int
 bool:Nat→Bool
def PX.dat(e:Env):PX→AD
 | .l (.sl d len cap)=>⟨(LX.sl d len cap).den e,e.int d,e.bool d⟩
 |x=>⟨x.den e,fun _=>0,fun _=>false⟩
theorem PX.dat_val(e:Env)(x:PX):(x.dat e).val=x.den e:=by
 cases x with
 |l x=>cases x <;> rfl
 |a xs=>rfl
theorem PX.dat_off{ok:Nat→Bool}{e e':Env}(h:Env.off ok e e')(x:PX)(hf:x.fr ok=true):x.dat e=x.dat e':=by
 have hd:=PX.den_off h x hf;cases x with
 |a xs=>simp only [PX.dat,hd]
 |l x=>
  cases x <;> first|(simp only [PX.dat,hd];done)|skip
  simp only [PX.fr,LX.fr,Bool.and_eq_true]at hf;simp only [PX.den]at hd;simp only [PX.dat,hd,(h _ hf.1.1).1,(h _ hf.1.1).2.1]
def Xu(k:Option IntKind)(n:Int)(b:Bool):Value:=
 match k with
 |none=> .bool b
 |some k=> .int k n
def XW(w:World)(A:Option Addr)(len:Nat)(ks:List (Option IntKind))(int:Nat→Int)(bool:Nat→Bool):Prop:=
 ∀i,i < len→∃a,A=some a∧a.block < w.heap.size∧∀(j:Nat) (k:Option IntKind),ks[j]?=some k→w.cell? (a.add (i * ks.length+j))=some (Xu k (int (i * ks.length+j)) (bool (i * ks.length+j)))
theorem XW.keep{w w':World}{A:Option Addr}{len:Nat}{ks:List (Option IntKind)}{int:Nat→Int}{bool:Nat→Bool}(h:XW w A len ks int bool)
 (hs:w.heap.size≤w'.heap.size) (hk:∀p:Addr,(∃a,A=some a∧p.block=a.block)→p.block < w.heap.size→w'.cell? p=w.cell? p):XW w' A len ks int bool:=fun i hi=>by
 obtain⟨a,e,hb,hc⟩:=h i hi;refine⟨a,e,Nat.lt_of_lt_of_le hb hs,fun j k hj=>?_⟩
 have bl:∀n,(a.add n).block=a.block:=fun n=>by unfold Addr.add;split <;> rfl
 rw [hk _ ⟨a,e,bl _⟩ (by rw [bl];exact hb)]
 exact hc j k hj
theorem XW.below{w w':World}{A:Option Addr}{len:Nat}{ks:List (Option IntKind)}{int:Nat→Int}{bool:Nat→Bool}(h:XW w A len ks int bool)(hb:Below w.heap.size w w'):XW w' A len ks int bool:=
 h.keep hb.size fun p _ hp=>hb.cell hp
def Rw.ok(e:Env)(w:World)(r:Rw):Prop:=XW w (e.base r.id) (r.len.den e).1.toNat r.ks (e.int r.id) (e.bool r.id)
inductive SH where
 |l (k:Option IntKind)|a (ks:List (Option IntKind))|sl (ks:List (Option IntKind))
 deriving DecidableEq,Repr
def SH.fits(w:World)(s:SH)(d:AD):Prop:=
 match s with
 | .l none=>∃b,d.val= .bool b
 | .l (some k)=>∃n,d.val= .int k n
 | .a ks=>∃cs:List Value,d.val= .agg cs.toArray∧cs.length=ks.length∧∀(j:Nat) (k:Option IntKind),ks[j]?=some k→∃n b,cs[j]?=some (Xu k n b)
 | .sl ks=>∃A len cap,d.val= .slice A len cap∧XW w A len ks d.int d.bool
def Qcw(w:World):List SH→List AD→Prop
 | [],[]=>True
 |s :: ss,d :: ds=>s.fits w d∧Qcw w ss ds
 |_,_=>False
inductive RS where
 |no|l (k:Option IntKind)|a (ks:List (Option IntKind))|tp (cs:List (Option IntKind ⊕ List (Option IntKind)))
 deriving DecidableEq,Repr
def ZL(int:Nat→Int)(bool:Nat→Bool):Nat→List (Option IntKind)→List Value
 |_,[]=> []
 |j,k :: ks=>Xu k (int j) (bool j) :: ZL int bool (j+1) ks
def YU(int:Nat→Int)(bool:Nat→Bool):Nat→List (Option IntKind ⊕ List (Option IntKind))→List Value
 |_,[]=> []
 |j,.inl k :: cs=>Xu k (int j) (bool j) :: YU int bool (j+1) cs
 |j,.inr ks :: cs=> .agg (ZL int bool j ks).toArray :: YU int bool (j+ks.length) cs
def RS.val(int:Nat→Int)(bool:Nat→Bool):RS→Value
 | .no=> .tuple #[]
 | .l k=>Xu k (int 0) (bool 0)
 | .a ks=> .agg (ZL int bool 0 ks).toArray
 | .tp cs=> .tuple (YU int bool 0 cs).toArray
structure Sg where
 f:FuncId
 args:List SH
 res:RS
 /-- Qsi arguments have like results. -/
 det:Bool:=false
 deriving DecidableEq,Repr
structure Con(P:Program) where
 sg:Sg
 pre:List AD→Prop
 post:List AD→(Nat→Int)→(Nat→Bool)→Prop
 body:∃fn,P.funcs[sg.f]?=some fn∧(fn.name== "runtime.NumGoroutine")=false∧fn.body.isNone=false
 total:sg.det=true→∀ads,∃i b,post ads i b
 same:sg.det=true→∀ads i b i' b',post ads i b→post ads i' b'→sg.res.val i b=sg.res.val i' b'
 sound:∀(ads:List AD) (w:World),Qcw w sg.args ads→pre ads→
  Calls P sg.f (ads.map (·.val)).toArray w fun en w'=>∃int bool,en= .returned (sg.res.val int bool)∧Below w.heap.size w w'∧post ads int bool
end Go.Proofs.YteplnamfpodmlaaGreat
end
section
namespace Go.Proofs.YteplnamfpodmlaaGreat
def SX.mkO(p:BinOp)(k:IntKind)(x y:SX):SX:=
 match x,y with
 | .i m,.i n=> .i (arI p k m n)
 |x,y=> .o p k x y
def SX.mkC(p:BinOp)(x y:SX):SX:=
 match x,y with
 | .i m,.i n=> .b (cmI p m n)
 |x,y=>if p= .eql∧x=y then .b true else .c p x y
def SX.mkNo(x:SX):SX:=
 match x with
 | .b u=> .b !u
 | .no y=>y
 |y=> .no y
def SX.mkCv(k:IntKind)(x:SX):SX:=
 match x with
 | .i n=> .i (k.wrap n)
 |y=> .cv k y
def SX.mkEq(x y:SX):SX:=
 match x,y with
 | .b u,.b u2=> .b (u==u2)
 |x,y=>if x=y then .b true else .eq x y
def SX.mkAn(x y:SX):SX:=
 match x,y with
 | .b true,y=>y
 | .b false,_=> .b false
 |x,.b true=>x
 |_,.b false=> .b false
 |x,y=> .an x y
def SX.mkIt(g x y:SX):SX:=
 match g with
 | .b true=>x
 | .b false=>y
 |g=>if x=y then x else .it g x y
def SX.mkSel(g x y:SX):SX:=
 match x,y with
 |x,.b false=> .mkAn g x
 | .b true,y=> .mkNo (.mkAn (.mkNo g) (.mkNo y))
 |x,y=> .mkIt g x y
def Qo7(p:BinOp)(v:Bool)(m:Int):Option Int:=
 match p,v with
 | .eql,true| .neq,false| .lss,false| .geq,true=>some m
 | .leq,false| .gtr,true=>some (m+1)
 |_,_=>none
def Qoq(p:BinOp)(v:Bool)(m:Int):Option Int:=
 match p,v with
 | .eql,true| .neq,false| .leq,true| .gtr,false=>some m
 | .lss,true| .geq,false=>some (m - 1)
 |_,_=>none
def WY(lo:Option Int)(n:Int):Bool:=match lo with|some l=>decide (n≤l)|none=>false
def below(hi:Option Int)(n:Int):Bool:=match hi with|some h=>decide (h≤n)|none=>false
def Qsl(p:BinOp)(v:Bool)(m:Int)(q:BinOp)(n:Int):Option Bool:=
 let lo:=Qo7 p v m
 let hi:=Qoq p v m
 let unlike:=WY lo (n+1) || below hi (n - 1) || (m==n && ((p== .eql && !v) || (p== .neq && v)))
 let like:=WY lo n && below hi n
 match q with
 | .eql=>if unlike then some false else if like then some true else none
 | .neq=>if unlike then some true else if like then some false else none
 | .lss=>if below hi (n - 1)then some true else if WY lo n then some false else none
 | .leq=>if below hi n then some true else if WY lo (n+1)then some false else none
 | .gtr=>if WY lo (n+1)then some true else if below hi n then some false else none
 | .geq=>if WY lo n then some true else if below hi (n - 1)then some false else none
 |_=>none
def imp(y:SX)(v:Bool)(x:SX):Option Bool:=
 if y=x then some v else
 match y,x with
 | .c p a (.i m),.c q b (.i n)=>if a=b then Qsl p v m q n else none
 |_,_=>none
def Ve:List Cd→SX→Option Bool
 | [],_=>none
 | .c y v :: cs,x=>match imp y v x with|some r=>some r|none=>Ve cs x
 |_ :: cs,x=>Ve cs x
def ask(cs:List Cd)(x:SX):Option Bool:=
 match x with
 | .b u=>some u
 | .no y=>(Ve cs y).map (!·)
 |x=>Ve cs x
def Zo:SX→Bool→List Cd
 | .no y,v=>Zo y !v
 | .an x y,true=>Zo x true ++ Zo y true
 |x,v=> [.c x v]
def ofL:Value→Option LX
 | .int k n=>some (.n k (.i n))
 | .bool b=>some (.t (.b b))
 | .pointer none=>some .np
 | .slice none 0 0=>some .ns
 |_=>none
def K8:List Value→Option (List LX)
 | []=>some []
 |v :: vs=>match ofL v,K8 vs with|some x,some xs=>some (x :: xs)|_,_=>none
def ofV:Value→Option PX
 | .agg cs=>(K8 cs.toList).map .a
 |v=>(ofL v).map .l
def QP:SX→List SX
 | .an x y=>QP x ++ QP y
 | .b true=> []
 |x=> [x]
def QbV(cs:List Cd)(hs:List SX)(c:SX):Bool:=(QP c).all fun y=>decide (y∈hs) || ask cs y==some true
def evV(hs:List SX)(s:St):Operand→Option VX
 | .tmp t=>match s.tm[t]? with|some .any=>none|some (.gd c x)=>if QbV s.cd hs c=true then some (.v x)else none|x=>x
 | .const v=>(ofV v).map .v
 |_=>none
def evP(hs:List SX)(s:St)(x:Operand):Option PX:=match evV hs s x with|some (.v p)=>some p|_=>none
def Ko(hs:List SX)(s:St):List Operand→Option (List PX)
 | []=>some []
 |x :: xs=>match evP hs s x,Ko hs s xs with|some p,some ps=>some (p :: ps)|_,_=>none
def PX.cells:PX→List LX
 | .l x=> [x]
 | .a xs=>xs
def St.put(s:St)(dst:Option Tmp)(v:VX):St:=match dst with|some t=>{s with tm:=s.tm.set t v}|none=>s
def Qlz(P:Program)(t:TypeId):Option Nat:=match P.underlying t with|some (.struct _)|some (.array _ _)=>(P.info? t).map (·.size)|_=>none
def QcX(P:Program)(t:TypeId):Bool:=match P.underlying t with|some (.struct _)|some (.array _ _)|none=>false|_=>true
def geZ(x:SX):SX:= .mkC .geq x (.i 0)
def Qk1(p:BinOp)(k:IntKind)(a:SX)(k':IntKind)(b:SX):Option (VX×List SX):=
 match p with
 | .add| .sub| .mul| .and| .or| .xor| .andNot=>if k=k' then some (.v (.l (.n k (.mkO p k a b))),[])else none
 | .quo| .rem=>if k=k' then some (.v (.l (.n k (.mkO p k a b))),[.mkC .neq b (.i 0)])else none
 | .shl| .shr=>some (.v (.l (.n k (.mkO p k a b))),[geZ b])
 |p=>if k=k' then some (.v (.l (.t (.mkC p a b))),[])else none
def KU(P:Program)(t:TypeId)(xs:List LX)(off:Nat):Option PX:=
 match Qlz P t with
 |some n=>if((xs.drop off).take n).length=n then some (.a ((xs.drop off).take n))else none
 |none=>if QcX P t=true then(xs[off]?).map .l else none
def QcI(g:TypeId→PX→PX→Option SX)(P:Program)(xs ys:List LX):List Field→Option SX
 | []=>some (.b true)
 |f :: fs=>
  if f.name= "_" then none else
  match KU P f.type xs f.offset,KU P f.type ys f.offset with
  |some a,some b=>match g f.type a b,QcI g P xs ys fs with|some u,some v=>some (.mkAn u v)|_,_=>none
  |_,_=>none
def QcG(g:PX→PX→Option SX)(P:Program)(e:TypeId)(n:Nat)(xs ys:List LX):List Nat→Option SX
 | []=>some (.b true)
 |i :: is=>
  match KU P e xs (i * n),KU P e ys (i * n)with
  |some a,some b=>match g a b,QcG g P e n xs ys is with|some u,some v=>some (.mkAn u v)|_,_=>none
  |_,_=>none
def eqX(P:Program):Nat→TypeId→PX→PX→Option SX
 |0,_,_,_=>none
 |d+1,t,x,y=>
  match P.underlying t,x,y with
  |some .bool,.l (.t a),.l (.t b)=>some (.mkEq a b)
  |some (.int _),.l (.n k a),.l (.n k' b)=>if k=k' then some (.mkC .eql a b)else none
  |some (.struct fs),.a xs,.a ys=>if P.stoodInHeld t=true then none else QcI (eqX P d) P xs ys fs.toList
  |some (.array len e),.a xs,.a ys=>match P.info? e with|some ie=>QcG (eqX P d e) P e ie.size xs ys (List.range len)|none=>none
  |_,_,_=>none
def Kp(place:Nat→Option (Nat×Nat))(cells:List LX):List (Nat×PX)→Option (List LX)
 | []=>some cells
 |(i,v) :: rest=>
  match place i with
  |none=>none
  |some (off,size)=>
   if v.cells.length=size∧off+size≤cells.length then Kp place (cells.take off ++ v.cells ++ cells.drop (off+size)) rest else none
def JI(hs:List SX)(s:St):List (Nat×Operand)→Option (List (Nat×PX))
 | []=>some []
 |(i,x) :: xs=>match evP hs s x,JI hs s xs with|some p,some ps=>some ((i,p) :: ps)|_,_=>none
def Kx(P:Program):List Field→Option (List (Nat×Nat))
 | []=>some []
 |f :: fs=>match P.info? f.type,Kx P fs with|some i,some ps=>some ((f.offset,i.size) :: ps)|_,_=>none
def Qak(P:Program)(t:TypeId)(parts:List (Nat×PX)):Option (List LX):=
 match P.info? t,P.underlying t with
 |some it,some (.array _ e)=>
  match it.zero,P.info? e with
  |some z,some ie=>match K8 z.cells.toList with|some zs=>Kp (fun i=>some (i * ie.size,ie.size)) zs parts|none=>none
  |_,_=>none
 |some it,some (.struct fields)=>
  match it.zero,Kx P fields.toList with
  |some z,some places=>match K8 z.cells.toList with|some zs=>Kp (places.toArray[·]?) zs parts|none=>none
  |_,_=>none
 |_,_=>none
def Jl(P:Program)(hs:List SX)(s:St)(o:Op):Option (VX×List SX):=
 match o with
 | .move x=>(evV hs s x).map (·,[])
 | .assign x=>(evV hs s x).map (·,[])
 | .pick c a b=>
   match evP hs s c with
   |some (.l (.t g))=>
    match ask s.cd g with
    |some true=>(evV (QP g ++ hs) s a).map (·,[])
    |some false=>(evV (QP g.mkNo ++ hs) s b).map (·,[])
    |none=>match evP (QP g ++ hs) s a,evP (QP g.mkNo ++ hs) s b with
     |some (.l (.t x)),some (.l (.t y))=>some (.v (.l (.t (.mkSel g x y))),[])
     |_,_=>none
   |_=>none
 | .unOp .not _ x=>match evP hs s x with|some (.l (.t a))=>some (.v (.l (.t (.mkNo a))),[])|_=>none
 | .unOp .neg _ x=>match evP hs s x with|some (.l (.n k a))=>some (.v (.l (.n k (.mkO .sub k (.i 0) a))),[])|_=>none
 | .binOp p t x y _=>
   match evP hs s x,evP hs s y with
   |some (.l (.n k a)),some (.l (.n k' b))=>Qk1 p k a k' b
   |some (.l (.t a)),some (.l (.t b))=>
    match P.underlying t,p with
    |some .bool,.eql=>some (.v (.l (.t (.mkEq a b))),[])
    |some .bool,.neq=>some (.v (.l (.t (.mkNo (.mkEq a b)))),[])
    |_,_=>none
   |some (.a xs),some (.a ys)=>
    if P.eqGuardType P.depth t=true then none else
    match eqX P 6 t (.a xs) (.a ys),p with
    |some g,.eql=>some (.v (.l (.t g)),[])
    |some g,.neq=>some (.v (.l (.t (.mkNo g))),[])
    |_,_=>none
   |_,_=>none
 | .convert src dst x=>
   match P.underlying src,P.underlying dst,evP hs s x with
   |some _,some (.int k),some (.l (.n _ a))=>some (.v (.l (.n k (.mkCv k a))),[])
   |_,_,_=>none
 | .fieldAddr t x f=>
   match P.underlying t with
   |some (.struct fs)=>
    match fs[f]? with
    |some fd=>
     match P.info? fd.type with
     |some fi=>
      if fi.size=0 then none else
      match evP hs s x with
      |some (.l (.p d o))=>some (.v (.l (.p d (o+fd.offset))),[])
      |some (.l (.pi d o n sz i o2))=>some (.v (.l (.pi d o n sz i (o2+fd.offset))),[])
      |some (.l (.q d sz i o))=>some (.v (.l (.q d sz i (o+fd.offset))),[])
      |_=>none
     |none=>none
    |none=>none
   |_=>none
 | .indexAddr t x ix=>
   match P.underlying t,evP hs s x,evP hs s ix with
   |some (.array len e),some (.l (.p d o)),some (.l (.n _ i))=>
    match P.info? e,i with
    |some ie,.i n=>if 0≤n∧n < (len:Int)then some (.v (.l (.p d (o+n.toNat * ie.size))),[])else none
    |some ie,i=>some (.v (.l (.pi d o len ie.size i 0)),[geZ i,.mkC .lss i (.i len)])
    |_,_=>none
   |some (.array len e),some (.l (.q d sz y o)),some (.l (.n _ i))=>
    match P.info? e,i with
    |some ie,.i n=>if 0≤n∧n < (len:Int)then some (.v (.l (.q d sz y (o+n.toNat * ie.size))),[])else none
    |_,_=>none
   |some (.slice e),some (.l (.sl d len _)),some (.l (.n _ i))=>
    match P.info? e,s.rw.find? (·.id==d)with
    |some ie,some r=>if r.len=len then some (.v (.l (.q d ie.size i 0)),[geZ i,.mkC .lss i len,geZ len])else none
    |_,_=>none
   |_,_,_=>none
 | .field t x f=>
   match P.underlying t,evP hs s x with
   |some (.struct fs),some (.a xs)=>
    match fs[f]? with
    |some fd=>
     match Qlz P fd.type with
     |some n=>some (.v (.a ((xs.drop fd.offset).take n)),[])
     |none=>if QcX P fd.type then(xs[fd.offset]?).map fun v=>(.v (.l v),[])else none
    |none=>none
   |_,_=>none
 | .build t parts=>
   match JI hs s parts.toList with
   |some ps=>(Qak P t ps).map fun cs=>(.v (.a cs),[])
   |none=>none
 | .extract x i=>match evV hs s x with|some (.tp ps)=>(ps[i]?).map fun p=>(.v p,[])|_=>none
 | .nilCheck x=>
   match evP hs s x with
   |some (.l (.p d o))=>some (.v (.l (.p d o)),[])
   |_=>none
 | .call {callee:= .builtin .len,args,argTypes}=>
   match args.toList,argTypes[0]? with
   | [x],some t=>
     match P.underlying t,evP hs s x with
     |some (.slice _),some (.l (.sl _ n _))=>some (.v (.l (.n .i64 n)),[geZ n])
     |some (.slice _),some (.l .ns)=>some (.v (.l (.n .i64 (.i 0))),[])
     |_,_=>none
   |_,_=>none
 | .call {callee:= .builtin .max,args,..}=>
   match Ko hs s args.toList with
   |some [.l (.n k x),.l (.n k' y)]=>if k=k' then some (.v (.l (.n k (.mx x y))),[])else none
   |_=>none
 | .call {callee:= .builtin .min,args,..}=>
   match Ko hs s args.toList with
   |some [.l (.n k x),.l (.n k' y)]=>if k=k' then some (.v (.l (.n k (.mn x y))),[])else none
   |_=>none
 |_=>none
def XH(s:St)(d:Nat):Option Bk:=s.hp.find? (·.id==d)
def Quq(s:St)(d:Nat):Option Rw:=s.rw.find? (·.id==d)
def Ww(k:IntKind):List LX→Option (List SX)
 | []=>some []
 | .n k' x :: xs=>if k=k' then(Ww k xs).map (x :: ·)else none
 |_=>none
def Vu:List LX→Option (List SX)
 | []=>some []
 | .t x :: xs=>(Vu xs).map (x :: ·)
 |_=>none
def QcR(x:SX):Nat→List SX→SX
 |_,[]=> .i 0
 |_,[y]=>y
 |k,y :: ys=> .it (.c .eql x (.i k)) y (QcR x (k+1) ys)
def Qgh(x:SX)(ys:List SX):SX:=
 match ys with
 | .v d j :: .v d' j' :: _=>if d=d'∧j < j'∧ys=(List.range ys.length).map (fun k=> .v d (k * (j' - j)+j))then .r d (j' - j) j x else QcR x 0 ys
 |ys=>QcR x 0 ys
def Ql3(x:SX)(ys:List LX):Option LX:=
 match ys with
 | .n k _ :: _=>(Ww k ys).map fun l=> .n k (Qgh x l)
 | .t _ :: _=>(Vu ys).map fun l=> .t (Qgh x l)
 |_=>none
def Qk3(cs:List LX)(o n sz c:Nat):Option (List LX):=go (List.range n)
where
 go:List Nat→Option (List LX)
  | []=>some []
  |k :: ks=>match cs[o+k * sz+c]?,go ks with|some x,some xs=>some (x :: xs)|_,_=>none
def W7(x:SX)(cs:List LX)(o n sz:Nat):List Nat→Option (List LX)
 | []=>some []
 |c :: rest=>match (Qk3 cs o n sz c).bind (Ql3 x),W7 x cs o n sz rest with|some y,some ys=>some (y :: ys)|_,_=>none
def Jy(d sz:Nat)(x:SX)(ks:List (Option IntKind)):List Nat→Option (List LX)
 | []=>some []
 |j :: js=>match ks[j]?,Jy d sz x ks js with
  |some none,some ys=>some (.t (.r d sz j x) :: ys)
  |some (some k),some ys=>some (.n k (.r d sz j x) :: ys)
  |_,_=>none
def Yq(row:Bool)(cs:List LX):Option PX:=if row then some (.a cs)else match cs with| [c]=>some (.l c)|_=>none
def Qfk(P:Program)(t:TypeId):Option (Bool×Nat):=
 match Qlz P t with
 |some n=>some (true,n)
 |none=>if QcX P t=true then some (false,1)else none
def Y0(P:Program)(s:St)(t:TypeId)(a:LX):Option (PX×List SX):=
 match Qfk P t with
 |none=>none
 |some (row,m)=>
  match a with
  | .p d o=>
    match XH s d with
    |some b=>if((b.cs.drop o).take m).length=m then(Yq row ((b.cs.drop o).take m)).map (·,[])else none
    |none=>none
  | .pi d o n sz x o2=>
    match XH s d with
    |some b=>match W7 x b.cs o n sz ((List.range m).map (o2+ ·))with
     |some cs=>(Yq row cs).map (·,[geZ x,.mkC .lss x (.i n)])
     |none=>none
    |none=>none
  | .q d sz x o=>
    match Quq s d with
    |some r=>if r.ks.length=sz then match Jy d sz x r.ks ((List.range m).map (o+ ·))with
     |some cs=>(Yq row cs).map (·,[geZ x,.mkC .lss x r.len])
     |none=>none else none
    |none=>none
  |_=>none
def QkP(g:SX)(x y:LX):Option LX:=
 match x,y with
 | .n k a,.n k' b=>if k=k' then some (.n k (.mkIt g a b))else none
 | .t a,.t b=>some (.t (.mkIt g a b))
 |_,_=>none
def QdA(x:SX)(vs:List LX)(o n sz o2:Nat):Nat→List LX→Option (List LX)
 |_,[]=>some []
 |j,c :: cs=>
  match QdA x vs o n sz o2 (j+1) cs with
  |none=>none
  |some rest=>
   if o≤j∧j < o+n * sz∧o2≤(j - o) % sz∧(j - o) % sz < o2+vs.length then
    match vs[(j - o) % sz - o2]? with
    |some v=>(QkP (.c .eql x (.i ((j - o) / sz:Nat))) v c).map (· :: rest)
    |none=>none
   else some (c :: rest)
def Xq(b:Bk):List Bk→List Bk
 | []=> [b]
 |c :: cs=>if b.id≤c.id then b :: c :: cs else c :: Xq b cs
def YY(s:St)(d:Nat)(cs:List LX):St:={s with hp:=s.hp.map fun b=>if b.id=d then {b with cs:=cs}else b}
def Qa3(P:Program)(s:St)(t:TypeId)(a:LX)(v:PX):Option (St×List SX):=
 match (P.info? t).map (·.size)with
 |none=>none
 |some m=>
  if v.cells.length=m then
   match a with
   | .p d o=>
     match XH s d with
     |some b=>if o+m≤b.cs.length then some (YY s d (b.cs.take o ++ v.cells ++ b.cs.drop (o+m)),[])else none
     |none=>none
   | .pi d o n sz x o2=>
     match XH s d with
     |some b=>if o+n * sz≤b.cs.length∧o2+m≤sz then(QdA x v.cells o n sz o2 0 b.cs).map fun cs=>(YY s d cs,[geZ x,.mkC .lss x (.i n)])else none
     |none=>none
   |_=>none
  else none
def Yg(s:St):SH→PX→Bool
 | .l none,.l (.t _)=>true
 | .l (some k),.l (.n k' _)=>k==k'
 | .a ks,.a xs=>kindsX xs ks
 | .sl ks,.l (.sl d len _)=>match Quq s d with|some r=>decide (r.ks=ks∧r.len=len)|none=>false
 | .sl _,.l .ns=>true
 |_,_=>false
where
 kindsX:List LX→List (Option IntKind)→Bool
  | [],[]=>true
  | .t _ :: xs,none :: ks=>kindsX xs ks
  | .n k' _ :: xs,some k :: ks=>k==k' && kindsX xs ks
  |_,_=>false
def Kq(s:St):List SH→List PX→Bool
 | [],[]=>true
 |h :: hs,p :: ps=>Yg s h p && Kq s hs ps
 |_,_=>false
def JP(d j:Nat):Option IntKind→LX
 |none=> .t (.v d j)
 |some k=> .n k (.v d j)
def Qa(d:Nat):Nat→List (Option IntKind)→List LX
 |_,[]=> []
 |j,k :: ks=>JP d j k :: Qa d (j+1) ks
def J7(d:Nat):Nat→List (Option IntKind ⊕ List (Option IntKind))→List PX
 |_,[]=> []
 |j,.inl k :: cs=> .l (JP d j k) :: J7 d (j+1) cs
 |j,.inr ks :: cs=> .a (Qa d j ks) :: J7 d (j+ks.length) cs
def RS.inst(d:Nat):RS→VX
 | .no=> .tp []
 | .l k=> .v (.l (JP d 0 k))
 | .a ks=> .v (.a (Qa d 0 ks))
 | .tp cs=> .tp (J7 d 0 cs)
def JG(f:FuncId):Nat→List Sg→Option (Nat×Sg)
 |_,[]=>none
 |k,g :: gs=>if g.f=f then some (k,g)else JG f (k+1) gs
def ZI(k:Nat)(ps:List PX):List Cd→Option Nat
 | []=>none
 | .f d k' ps' :: cs=>if k'=k∧ps'=ps then some d else ZI k ps cs
 |_ :: cs=>ZI k ps cs
inductive Ob where
 |cl (cd:List Cd) (x:SX)|pre (cd:List Cd) (k:Nat) (args:List PX)|inv (cd:List Cd) (k d:Nat) (xs:List LX)
 deriving DecidableEq,Repr
def owe(s:St)(xs:List SX):List Ob:=(xs.filter fun x=>ask s.cd x != some true).map (Ob.cl s.cd ·)
structure Cfg where
 n0:Nat
 sg:List Sg
 /-- Loops by an invariant: the first region of the body; the invariant's number; the slots that it speaks of; the slot that counts and the term that it stays below. -/
 lp:List (Nat×Nat×List (Nat×Option IntKind)×Nat×SX)
def Vc(P:Program)(G:Cfg)(id:Nat)(o:Oper)(s:St):Option (St×List Ob):=
 match o.op with
 | .alloc t=>
   if G.n0≤id∧s.fr (· != id)=true then
    match (P.info? t).bind (·.zero)with
    |some z=>(K8 z.cells.toList).map fun cs=>({s with hp:=Xq ⟨id,t,cs⟩ s.hp}.put o.dst (.v (.l (.p id 0))),[])
    |none=>none
   else none
 | .box t x=>
   if G.n0≤id∧s.fr (· != id)=true then(evP [] s x).map fun p=>({s with hp:=Xq ⟨id,t,p.cells⟩ s.hp}.put o.dst (.v (.l (.p id 0))),[])else none
 | .load t a=>
   match evP [] s a with
   |some (.l a)=>(Y0 P s t a).map fun(v,xs)=>(s.put o.dst (.v v),owe s xs)
   |_=>none
 | .store t a x=>
   match evP [] s a,evP [] s x with
   |some (.l a),some v=>(Qa3 P s t a v).map fun(s',xs)=>(s'.put o.dst .un,owe s xs)
   |_,_=>none
 | .call {callee:= .value (.func f),args,..}=>
   match JG f 0 G.sg,Ko [] s args.toList with
   |some (k,g),some ps=>
    match (if g.det then ZI k ps s.cd else none)with
    |some d=>if Kq s g.args ps=true then some (s.put o.dst (g.res.inst d),[.pre s.cd k ps])else none
    |none=>
    if Kq s g.args ps=true∧G.n0≤id∧s.fr (· != id)=true then some ({s with cd:= .f id k ps :: s.cd}.put o.dst (g.res.inst id),[.pre s.cd k ps])else none
   |_,_=>none
 |op=>(Jl P [] s op).map fun(v,xs)=>(s.put o.dst v,owe s xs)
def KV(P:Program)(G:Cfg)(id:Nat)(o:Oper)(y:SX)(s:St):Option (St×List Ob):=
 match o.op with
 | .load t a=>
   match evP (QP y) s a with
   |some (.l a)=>match Y0 P s t a with|some (v,[])=>some (s.put o.dst (.gd y v),[])|_=>none
   |_=>none
 | .call {callee:= .value (.func f),args,..}=>
   match JG f 0 G.sg,Ko (QP y) s args.toList with
   |some (k,g),some ps=>
    if g.det=true∧Kq s g.args ps=true then
     match ZI k ps s.cd with
     |some d=>match g.res.inst d with| .v x=>some (s.put o.dst (.gd y x),[.pre s.cd k ps])|_=>none
     |none=>
      if G.n0≤id∧s.fr (· != id)=true∧y.fr (· != id)=true then
       match g.res.inst id with| .v x=>some ({s with cd:= .f id k ps :: s.cd}.put o.dst (.gd y x),[.pre s.cd k ps])|_=>none
      else none
    else none
   |_,_=>none
 |op=>match Jl P (QP y) s op with|some (.v x,[])=>some (s.put o.dst (.gd y x),[])|_=>none
inductive Md where
 |run|skip|spec (y:SX)
def Qfx(cs:List Cd)(y:SX):Option Bool:=
 if(QP y).all (fun z=>ask cs z==some true)then some true else if(QP y).any (fun z=>ask cs z==some false)then some false else none
def YN(P:Program)(G:Cfg)(id:Nat)(ops:Array Oper)(o:Oper)(s:St):Option (List (Md×St)):=
 let on (y:SX):Option (List (Md×St)):=
  match Qfx s.cd y with
  |some true=>some [(.run,s)]
  |some false=>some [(.skip,s)]
  |none=>if(KV P G id o y s).isSome then some [(.spec y,s)]else some [(.run,{s with cd:=Zo y true ++ s.cd}),(.skip,{s with cd:=Zo y false ++ s.cd})]
 match o.guard with
 |none=>some [(.run,s)]
 |some (j,want)=>
  match ((ops[j]?).bind (·.dst)).bind (s.tm[·]?)with
  |some .un=>some [(.skip,s)]
  |some (.v (.l (.t x)))=>on (if want then x else x.mkNo)
  |some (.gd c (.l (.t x)))=>on (.mkAn c (if want then x else x.mkNo))
  |_=>none
def Kw(P:Program)(G:Cfg)(ops:Array Oper)(id:Nat)(o:Oper):List (Md×St)→Option (List St×List Ob)
 | []=>some ([],[])
 |(.run,s) :: rest=>match Vc P G id o s,Kw P G ops id o rest with|some (s',os),some (ss,os')=>some (s' :: ss,os ++ os')|_,_=>none
 |(.spec y,s) :: rest=>match KV P G id o y s,Kw P G ops id o rest with|some (s',os),some (ss,os')=>some (s' :: ss,os ++ os')|_,_=>none
 |(.skip,s) :: rest=>match Kw P G ops id o rest with|some (ss,os')=>some (s.put o.dst .un :: ss,os')|none=>none
def Qaz(P:Program)(G:Cfg)(ops:Array Oper)(id:Nat)(o:Oper):List St→Option (List St×List Ob)
 | []=>some ([],[])
 |s :: rest=>match (YN P G id ops o s).bind (Kw P G ops id o),Qaz P G ops id o rest with|some (a,x),some (b,y)=>some (a ++ b,x ++ y)|_,_=>none
def WC(P:Program)(G:Cfg)(ops:Array Oper)(nx:Nat):List Nat→List St→Option (List St×List Ob)
 | [],ss=>some (ss,[])
 |i :: is,ss=>
  match ops[i]? with
  |none=>none
  |some o=>match Qaz P G ops (nx+i) o ss with
   |some (ss',os)=>(WC P G ops nx is ss').map fun(r,os')=>(r,os ++ os')
   |none=>none
def Kt:Op→Bool
 | .move _| .assign _| .pick .. | .unOp .. | .binOp .. | .convert .. | .fieldAddr .. | .indexAddr .. | .field .. | .build .. | .extract .. =>true
 | .call {callee:= .builtin .len,..}| .call {callee:= .builtin .max,..}| .call {callee:= .builtin .min,..}=>true
 |_=>false
def Wl{α:Type} [DecidableEq α]:List α→List α
 | []=> []
 |x :: xs=>if x∈xs then Wl xs else x :: Wl xs
def bqL{α:Type}(f:α→α→Bool):List α→List α→Bool
 | [],[]=>true
 |x :: xs,y :: ys=>f x y && bqL f xs ys
 |_,_=>false
def SX.bq:SX→SX→Bool
 | .i m,.i m'=>decide (m=m')
 | .b m,.b m'=>m==m'
 | .v d j,.v d' j'=>d==d' && j==j'
 | .r d sz j x,.r d' sz' j' x'=>d==d' && sz==sz' && j==j' && SX.bq x x'
 | .o p k x y,.o p' k' x' y'=>decide (p=p') && decide (k=k') && SX.bq x x' && SX.bq y y'
 | .c p x y,.c p' x' y'=>decide (p=p') && SX.bq x x' && SX.bq y y'
 | .no x,.no x'=>SX.bq x x'
 | .eq x y,.eq x' y'=>SX.bq x x' && SX.bq y y'
 | .an x y,.an x' y'=>SX.bq x x' && SX.bq y y'
 | .it g x y,.it g' x' y'=>SX.bq g g' && SX.bq x x' && SX.bq y y'
 | .cv k x,.cv k' x'=>decide (k=k') && SX.bq x x'
 | .mx x y,.mx x' y'=>SX.bq x x' && SX.bq y y'
 | .mn x y,.mn x' y'=>SX.bq x x' && SX.bq y y'
 |_,_=>false
def LX.bq:LX→LX→Bool
 | .n k x,.n k' x'=>decide (k=k') && x.bq x'
 | .t x,.t x'=>x.bq x'
 | .p d z,.p d' z'=>d==d' && z==z'
 | .pi d z m sz x z2,.pi d' z' m' sz' x' z2'=>d==d' && z==z' && m==m' && sz==sz' && z2==z2' && x.bq x'
 | .q d sz x z,.q d' sz' x' z'=>d==d' && sz==sz' && z==z' && x.bq x'
 | .sl d l u,.sl d' l' u'=>d==d' && l.bq l' && u.bq u'
 | .np,.np=>true
 | .ns,.ns=>true
 |_,_=>false
def PX.bq:PX→PX→Bool
 | .l x,.l y=>x.bq y
 | .a xs,.a ys=>bqL LX.bq xs ys
 |_,_=>false
def VX.bq:VX→VX→Bool
 | .v x,.v y=>x.bq y
 | .tp xs,.tp ys=>bqL PX.bq xs ys
 | .un,.un=>true
 | .any,.any=>true
 | .gd g x,.gd g' x'=>g.bq g' && x.bq x'
 |_,_=>false
def Bk.bq(b c:Bk):Bool:=b.id==c.id && b.ty==c.ty && bqL LX.bq b.cs c.cs
def Cd.bq:Cd→Cd→Bool
 | .c x v,.c x' v'=>v==v' && x.bq x'
 | .f d k xs,.f d' k' xs'=>d==d' && k==k' && bqL PX.bq xs xs'
 | .g d k,.g d' k'=>d==d' && k==k'
 |_,_=>false
def St.bq(s t:St):Bool:=bqL VX.bq s.tm t.tm && bqL Bk.bq s.hp t.hp && bqL Cd.bq s.cd t.cd && s.nx==t.nx && decide (s.rw=t.rw)
inductive Tr where
 |nil|node (ss:List St) (a b:Tr)
def Qbj(s:St):List St→List St
 | []=> [s]
 |t :: ts=>if s.bq t then t :: ts else t :: Qbj s ts
def Tr.ins(s:St):List Bool→Tr→Tr
 | [],.nil=> .node [s] .nil .nil
 | [],.node ss a b=> .node (Qbj s ss) a b
 |true :: l,.nil=> .node [] (Tr.ins s l .nil) .nil
 |false :: l,.nil=> .node [] .nil (Tr.ins s l .nil)
 |true :: l,.node ss a b=> .node ss (Tr.ins s l a) b
 |false :: l,.node ss a b=> .node ss a (Tr.ins s l b)
def Tr.all(pre:List Bool):Tr→List (List Bool×St)
 | .nil=> []
 | .node ss a b=>ss.map (fun s=>(pre.reverse,s)) ++ (Tr.all (true :: pre) a ++ Tr.all (false :: pre) b)
def Tr.fill:List (List Bool×St)→Tr→Tr
 | [],t=>t
 |e :: es,t=>Tr.fill es (t.ins e.2 e.1)
def QcC(es:List (List Bool×St)):List (List Bool×St):=(Tr.fill es .nil).all []
def Qtd(ops:Array Oper):List (List Nat):=ops.toList.map fun o=>(o.after.toList.filter (Region.binds .any)).map (·.on)
def Qb2(ops:Array Oper)(l:List Bool):List Nat:=
 (List.range ops.size).filter fun i=> !l.getD i true && (((Qtd ops)[i]?).map fun ds=>ds.all fun d=>l.getD d false).getD false
def QlD(ops:Array Oper):List (List Nat):=(List.range ops.size).map fun i=>match ops[i]? with
 |none=> []
 |some oi=>(List.range ops.size).filter fun j=> !(j==i || match ops[j]? with
   |some oj=>oj.after.any (fun e=>Region.binds .any e && e.on==i) || oi.apart ops oj
   |none=>true)
def QnH(ops:Array Oper)(l:List Bool)(i:Nat):Bool:=(ops[i]?).isSome && (((QlD ops)[i]?).getD []).all fun j=>l.getD j true
def Kv(P:Program)(G:Cfg)(ops:Array Oper)(nx:Nat)(l:List Bool)(s:St):Option (List (List Bool×St)×List Ob):=
 let rs:=Qb2 ops l
 match rs with
 | []=>some ([(l,s)],[])
 |rs=>
  match rs.find? fun i=>((ops[i]?).map fun o=>Kt o.op).getD false && QnH ops l i with
  |some i=>one i
  |none=>all rs
where
 one (i:Nat):Option (List (List Bool×St)×List Ob):=
  match ops[i]? with
  |none=>none
  |some o=>(Qaz P G ops (nx+i) o [s]).map fun(ss,os)=>(ss.map fun s'=>(l.set i true,s'),os)
 all:List Nat→Option (List (List Bool×St)×List Ob)
  | []=>some ([],[])
  |i :: is=>match one i,all is with|some (a,x),some (b,y)=>some (a ++ b,x ++ y)|_,_=>none
def YQ(P:Program)(G:Cfg)(ops:Array Oper)(nx:Nat):List (List Bool×St)→Option (List (List Bool×St)×List Ob)
 | []=>some ([],[])
 |(l,s) :: rest=>match Kv P G ops nx l s,YQ P G ops nx rest with|some (a,x),some (b,y)=>some (a ++ b,x ++ y)|_,_=>none
def KO(P:Program)(G:Cfg)(ops:Array Oper)(nx:Nat):Nat→List (List Bool×St)→Option (List St×List Ob)
 |0,es=>if es.all (fun e=>(Qb2 ops e.1).isEmpty)then some (Wl (es.map (·.2)),[])else none
 |n+1,es=>
  match YQ P G ops nx es with
  |some (es',os)=>(KO P G ops nx n (QcC es')).map fun(r,os')=>(r,os ++ os')
  |none=>none
def YW(P:Program)(G:Cfg)(ops:Array Oper)(draw:Bool)(s:St):Option (List St×List Ob):=
 let r:=if draw then(if Region.noSelect ops then KO P G ops s.nx ops.size [(List.replicate ops.size false,s)]else none)else WC P G ops s.nx (List.range ops.size) [s]
 r.map fun(ss,os)=>(ss.map fun s'=>{s' with nx:=s.nx+ops.size},Wl os)
inductive Ex where
 |nor|ex (id:Nat)|rt
 deriving DecidableEq,Repr
def Qr3:Code→Nat
 | .region id _ _=>id
 | .seq a _=>Qr3 a
 | .block _ c| .loop c| .scope c=>Qr3 c
 |_=>0
def VL:Code→List Nat
 | .region _ ops _=>ops.toList.filterMap (·.dst)
 | .seq a b=>VL a ++ VL b
 | .cond _ a b=>VL a ++ VL b
 | .block _ c| .loop c| .scope c=>VL c
 |_=> []
def Yh(d:Nat)(tm:List VX):Nat→List (Nat×Option IntKind)→List VX
 |_,[]=>tm
 |j,(t,k) :: r=>(Yh d tm (j+1) r).set t (.v (.l (JP d j k)))
def QaB(tm:List VX):List Nat→List VX
 | []=>tm
 |t :: ts=>(QaB tm ts).set t .any
def Jm(s:St):List (Nat×Option IntKind)→Option (List LX)
 | []=>some []
 |(t,k) :: r=>match s.tm[t]?,k,Jm s r with
  |some (.v (.l (.n k' x))),some k,some l=>if k=k' then some (.n k' x :: l)else none
  |some (.v (.l (.t x))),none,some l=>some (.t x :: l)
  |_,_,_=>none
def Qad:List VX→List VX→Bool
 | [],[]=>true
 |x :: xs,y :: ys=>(x== .any || x==y) && Qad xs ys
 |_,_=>false
def VZ(s:St)(t:Nat):Option SX:=match s.tm[t]? with|some (.v (.l (.n _ x)))=>some x|_=>none
def VF(f:St→Option (List (Ex×St)×List Ob)):List (Ex×St)→Option (List (Ex×St)×List Ob)
 | []=>some ([],[])
 |(.nor,s) :: r=>match f s,VF f r with|some (a,x),some (b,y)=>some (a ++ b,x ++ y)|_,_=>none
 |x :: r=>(VF f r).map fun(b,y)=>(x :: b,y)
def Vk(f:St→Option (List (Ex×St)×List Ob)):Nat→St→Option (List (Ex×St)×List Ob)
 |0,_=>none
 |m+1,s=>
  match f s with
  |some (es,os)=>(VF (Vk f m) es).map fun(r,os')=>(r,os ++ os')
  |none=>none
def KE(k d:Nat)(sl:List (Nat×Option IntKind))(c:Nat)(up:SX)(tm0:List VX)(h:St)(hp0:List Bk)(rw0:List Rw):List (Ex×St)→Option (List (Ex×St)×List Ob)
 | []=>some ([],[])
 |(.nor,s) :: r=>
  match Jm s sl,VZ h c,VZ s c,KE k d sl c up tm0 h hp0 rw0 r with
  |some xs,some x,some x',some (b,y)=>
   if Qad tm0 s.tm=true∧hp0.all (fun b=>decide (b∈s.hp))=true∧rw0=s.rw∧x.fr (fun z=>decide (z < d+1))=true then
    some (b,.inv s.cd k d xs :: .cl s.cd (.mkC .lss x x') :: .cl s.cd (.mkC .lss x up) :: y)else none
  |_,_,_,_=>none
 |x :: r=>(KE k d sl c up tm0 h hp0 rw0 r).map fun(b,y)=>(x :: b,y)
def Zv(P:Program)(G:Cfg):Nat→Code→St→Option (List (Ex×St)×List Ob)
 |0,_,_=>none
 |n+1,.skip,s=>some ([(.nor,s)],[])
 |n+1,.region _ ops draw,s=>(YW P G ops draw s).map fun(ss,os)=>(ss.map (Ex.nor,·),os)
 |n+1,.seq a b,s=>
  match Zv P G n a s with
  |some (es,os)=>(VF (Zv P G n b) es).map fun(r,os')=>(r,os ++ os')
  |none=>none
 |n+1,.cond c a b,s=>
  match evP [] s c with
  |some (.l (.t x))=>
   match ask s.cd x with
   |some true=>Zv P G n a s
   |some false=>Zv P G n b s
   |none=>
    match Zv P G n a {s with cd:=Zo x true ++ s.cd},Zv P G n b {s with cd:=Zo x false ++ s.cd}with
    |some (r,os),some (r',os')=>some (r ++ r',os ++ os')
    |_,_=>none
  |_=>none
 |n+1,.block id c,s=>(Zv P G n c s).map fun(es,os)=>(es.map fun(x,s')=>(if x= .ex id then .nor else x,s'),os)
 |n+1,.loop c,s=>
  match G.lp.find? (·.1==Qr3 c)with
  |some (_,k,sl,t,up)=>
   let tm0:=QaB s.tm (sl.map (·.1) ++ VL c)
   match Jm s sl with
   |some xs=>
    if G.n0≤s.nx∧s.fr (fun x=>decide (x < s.nx))=true∧up.fr (fun x=>decide (x < s.nx))=true then
     match Zv P {G with n0:=s.nx+1} n c {s with tm:=Yh s.nx tm0 0 sl,cd:= .g s.nx k :: s.cd,nx:=s.nx+1}with
     |some (es,os)=>(KE k s.nx sl t up tm0 {s with tm:=Yh s.nx tm0 0 sl} s.hp s.rw es).map fun(r,os')=>(r,.inv s.cd k s.nx xs :: os ++ os')
     |none=>none
    else none
   |none=>none
  |none=>Vk (Zv P G n c) n s
 |n+1,.exit id,s=>some ([(.ex id,s)],[])
 |n+1,.ret,s=>some ([(.rt,s)],[])
 |_+1,_,_=>none
def JJ(P:Program)(fn:Func)(s:St):Option VX:=
 match fn.results.toList with
 | []=>some (.tp [])
 | [.tmp t]=>match s.tm[t]? with|some (.v p)=>some (.v p)|_=>none
 | [.cell t ty]=>match s.tm[t]? with
   |some (.v (.l (.p d o)))=>match Y0 P s ty (.p d o)with|some (v,[])=>some (.v v)|_=>none
   |_=>none
 |rs=>(go rs).map .tp
where
 go:List ResultVar→Option (List PX)
  | []=>some []
  | .tmp t :: r=>match s.tm[t]?,go r with|some (.v p),some ps=>some (p :: ps)|_,_=>none
  | .cell t ty :: r=>match s.tm[t]?,go r with
    |some (.v (.l (.p d o))),some ps=>match Y0 P s ty (.p d o)with|some (v,[])=>some (v :: ps)|_=>none
    |_,_=>none
structure Lf where
 cd:List Cd
 v:VX
 deriving DecidableEq,Repr
def Ku(P:Program)(fn:Func):List (Ex×St)→Option (List Lf)
 | []=>some []
 |(.ex _,_) :: _=>none
 |(_,s) :: r=>match JJ P fn s,Ku P fn r with|some v,some l=>some (⟨s.cd,v⟩ :: l)|_,_=>none
def QS(P:Program)(G:Cfg)(fuel:Nat)(fn:Func)(args:List PX)(rw:List Rw):Option (List Lf×List Ob):=
 match fn.body with
 |some c=>
  match Zv P G fuel c ⟨args.map .v ++ List.replicate (fn.ntmps - args.length) .un,[],rw,[],G.n0⟩with
  |some (es,os)=>(Ku P fn es).map (·,Wl os)
  |none=>none
 |none=>none
def Qiv(r:Nat×Nat):List LX:=Qa r.1 r.2 [none,none,some .u32,some .u32,some .u32]
def QbD(l:List (Nat×Nat)):List LX:=l.flatMap Qiv
def itX(x:SX)(k:Nat)(a b:LX):LX:=
 match a,b with
 | .t p,.t q=> .t (.it (.c .eql x (.i k)) p q)
 | .n kd p,.n _ q=> .n kd (.it (.c .eql x (.i k)) p q)
 |a,_=>a
def QbE(x:SX)(r:Nat×Nat):Nat→List (Nat×Nat)→List LX
 |_,[]=> []
 |k,q :: qs=>List.zipWith (itX x k) (Qiv r) (Qiv q) ++ QbE x r (k+1) qs
def Zf(x:SX)(r:Nat×Nat)(l:List (Nat×Nat)):List LX:=QbE x r 0 l
def Qh(d:Nat)(x:SX):List LX:= [.t (.r d 5 0 x),.t (.r d 5 1 x),.n .u32 (.r d 5 2 x),.n .u32 (.r d 5 3 x),.n .u32 (.r d 5 4 x)]
end Go.Proofs.YteplnamfpodmlaaGreat
end
section
namespace Go.Proofs.YteplnamfpodmlaaGreat
def Env.cut(e:Env)(d:Nat):Env:=
 ⟨fun x=>if x≤d then e.int x else fun _=>0,fun x=>if x≤d then e.bool x else fun _=>false,fun x=>if x≤d then e.adr x else 0,fun x=>if x≤d then e.base x else none⟩
theorem Env.cut_off{ok:Nat→Bool}{n:Nat}{e e':Env}(h:Env.off ok e e')(hn:(List.range (n+1)).all ok=true):e.cut n=e'.cut n:=by
 have hx:∀x,x≤n→ok x=true:=fun x hx=>List.all_eq_true.1 hn x (List.mem_range.2 (by omega))
 unfold Env.cut;congr 1 <;> funext x <;> by_cases hxn:x≤n <;> simp only [hxn,if_true,if_false]
 ·exact(h x (hx x hxn)).1
 ·exact(h x (hx x hxn)).2.1
 ·exact(h x (hx x hxn)).2.2.1
 ·exact(h x (hx x hxn)).2.2.2
section
variable{P:Program}(C:List (Con P))(I:List (Nat→Env→Prop))
def Cd.holds(e:Env):Cd→Prop
 | .c x v=>(x.den e).2=v
 | .f d k args=>∃c,C[k]?=some c∧c.post (args.map (·.dat e)) (e.int d) (e.bool d)
 | .g d k=>∃i,I[k]?=some i∧i d (e.cut d)
theorem Cd.holds_off{ok:Nat→Bool}{e e':Env}(h:Env.off ok e e')(x:Cd)(hf:x.fr ok=true)(hx:x.holds C I e):x.holds C I e':=by
 cases x with
 |c x v=>simp only [Cd.holds]at hx ⊢;rw [←SX.den_off h x hf];exact hx
 |f y k args=>
  simp only [Cd.fr,Bool.and_eq_true]at hf;obtain⟨c,hc,hp⟩:=hx;refine⟨c,hc,?_⟩;rw [←(h y hf.1).1,←(h y hf.1).2.1,←List.map_congr_left fun x hx=>PX.dat_off h x (List.all_eq_true.1 hf.2 x hx)]
  exact hp
 |g y k=>
  simp only [Cd.fr]at hf;obtain⟨i,hi,hp⟩:=hx;exact⟨i,hi,by rw [←Env.cut_off h hf];exact hp⟩
end
def Z2(e:Env):List VX→List Value→Prop
 | [],[]=>True
 |x :: xs,v :: vs=>x.sat e v∧Z2 e xs vs
 |_,_=>False
section
variable{e:Env}
theorem Z2.get:∀{xs:List VX} {vs:List Value} {t:Nat} {x:VX},Z2 e xs vs→xs[t]?=some x→∃v,vs[t]?=some v∧x.sat e v
 | [],_,_,_,_,h=>by simp at h
 |x :: xs,[],_,_,h,_=>h.elim
 |x :: xs,v :: vs,0,y,h,hx=>by simp at hx;subst hx;exact⟨v,rfl,h.1⟩
 |x :: xs,v :: vs,t+1,y,h,hx=>by simp only [List.getElem?_cons_succ]at hx ⊢;exact Z2.get h.2 hx
theorem Z2.set:∀{xs:List VX} {vs:List Value} (t:Nat) {x:VX} {v:Value},Z2 e xs vs→x.sat e v→Z2 e (xs.set t x) (vs.set t v)
 | [],[],_,_,_,_,_=>trivial
 | [],_ :: _,_,_,_,h,_=>h.elim
 |_ :: _,[],_,_,_,h,_=>h.elim
 |_ :: _,_ :: _,0,_,_,h,hx=>⟨hx,h.2⟩
 |_ :: _,_ :: _,t+1,_,_,h,hx=>⟨h.1,Z2.set t h.2 hx⟩
theorem Z2.off{ok:Nat→Bool}{e':Env}(h:Env.off ok e e'):∀{xs:List VX} {vs:List Value},xs.all (·.fr ok)=true→Z2 e xs vs→Z2 e' xs vs
 | [],[],_,_=>trivial
 | [],_ :: _,_,hs=>hs.elim
 |_ :: _,[],_,hs=>hs.elim
 |x :: xs,v :: vs,hf,hs=>by
  simp only [List.all_cons,Bool.and_eq_true]at hf;exact⟨VX.sat_off h x hf.1 v hs.1,Z2.off h hf.2 hs.2⟩
end
section
variable(e:Env)
theorem SX.mkO_den(p:BinOp)(k:IntKind)(x y:SX):((SX.mkO p k x y).den e).1=arI p k (x.den e).1 (y.den e).1:=by
 unfold SX.mkO;split <;> rfl
theorem SX.mkC_den(p:BinOp)(x y:SX):((SX.mkC p x y).den e).2=cmI p (x.den e).1 (y.den e).1:=by
 unfold SX.mkC;split
 ·rfl
 ·split
  ·rename_i h;obtain⟨rfl,rfl⟩:=h;simp [SX.den,cmI]
  ·rfl
theorem SX.mkNo_den(x:SX):((SX.mkNo x).den e).2= !(x.den e).2:=by
 unfold SX.mkNo;split <;> simp [SX.den]
theorem SX.mkCv_den(k:IntKind)(x:SX):((SX.mkCv k x).den e).1=k.wrap (x.den e).1:=by
 unfold SX.mkCv;split <;> rfl
theorem SX.mkEq_den(x y:SX):((SX.mkEq x y).den e).2=((x.den e).2==(y.den e).2):=by
 unfold SX.mkEq;split
 ·rfl
 ·split
  ·rename_i h;subst h;simp [SX.den]
  ·rfl
theorem SX.mkAn_den(x y:SX):((SX.mkAn x y).den e).2=((x.den e).2 && (y.den e).2):=by
 unfold SX.mkAn;split <;> simp [SX.den]
theorem SX.mkIt_den(g x y:SX):(SX.mkIt g x y).den e=if(g.den e).2 then x.den e else y.den e:=by
 unfold SX.mkIt;split
 ·simp [SX.den]
 ·simp [SX.den]
 ·split
  ·rename_i h;subst h;simp
  ·rfl
end
theorem SX.mkSel_den(e:Env)(g x y:SX):((SX.mkSel g x y).den e).2=if(g.den e).2 then(x.den e).2 else(y.den e).2:=by
 unfold SX.mkSel;split
 ·rw [SX.mkAn_den];cases (g.den e).2 <;> simp [SX.den]
 ·rw [SX.mkNo_den,SX.mkAn_den,SX.mkNo_den,SX.mkNo_den];cases (g.den e).2 <;> simp [SX.den]
 ·rw [SX.mkIt_den];split <;> rfl
theorem Qc1{p:BinOp}{v:Bool}{m x:Int}{q:BinOp}{n:Int}{r:Bool}(h:Qsl p v m q n=some r)(hp:cmI p x m=v):cmI q x n=r:=by
 have lo:∀l,Qo7 p v m=some l→l≤x:=by
  intro l hl;unfold Qo7 at hl;split at hl <;> simp only [Option.some.injEq,reduceCtorEq]at hl <;> subst hl <;> simp [cmI]at hp <;> omega
 have hi:∀l,Qoq p v m=some l→x≤l:=by
  intro l hl;unfold Qoq at hl;split at hl <;> simp only [Option.some.injEq,reduceCtorEq]at hl <;> subst hl <;> simp [cmI]at hp <;> omega
 have ab:∀k,WY (Qo7 p v m) k=true→k≤x:=by
  intro k hk;unfold WY at hk;split at hk
  ·rename_i l hl;have:=lo l hl;simp at hk;omega
  ·cases hk
 have be:∀k,below (Qoq p v m) k=true→x≤k:=by
  intro k hk;unfold below at hk;split at hk
  ·rename_i l hl;have:=hi l hl;simp at hk;omega
  ·cases hk
 have ne:(m==n && ((p== .eql && !v) || (p== .neq && v)))=true→x≠n:=by
  intro hk;simp only [Bool.and_eq_true,Bool.or_eq_true,beq_iff_eq,Bool.not_eq_true']at hk;obtain⟨rfl,⟨rfl,rfl⟩|⟨rfl,rfl⟩⟩:=hk <;> simpa [cmI] using hp
 have un:(WY (Qo7 p v m) (n+1) || below (Qoq p v m) (n - 1) || (m==n && ((p== .eql && !v) || (p== .neq && v))))=true→x≠n:=by
  intro hk;rw [Bool.or_eq_true,Bool.or_eq_true]at hk;rcases hk with (hk|hk)|hk
  ·have:=ab _ hk;omega
  ·have:=be _ hk;omega
  ·exact ne hk
 have li:(WY (Qo7 p v m) n && below (Qoq p v m) n)=true→x=n:=by
  intro hk;rw [Bool.and_eq_true]at hk;have:=ab _ hk.1;have:=be _ hk.2;omega
 unfold Qsl at h
 cases q <;> dsimp only at h <;> first
  |(cases h;done)
  |(split at h
    ·rename_i h1;cases h
     first
      |(have:=un h1;simp [cmI,this];done)
      |(have:=be _ h1;simp [cmI];omega)
      |(have:=ab _ h1;simp [cmI];omega)
    ·split at h
     ·rename_i h1;cases h
      first
       |(have:=li h1;simp [cmI,this];done)
       |(have:=ab _ h1;simp [cmI];omega)
       |(have:=be _ h1;simp [cmI];omega)
     ·cases h)
theorem Qbr{e:Env}{y x:SX}{v r:Bool}(h:imp y v x=some r)(hy:(y.den e).2=v):(x.den e).2=r:=by
 unfold imp at h;split at h
 ·rename_i hx;subst hx;simp only [Option.some.injEq]at h;rw [hy,h]
 ·split at h
  ·split at h
   ·rename_i hab;subst hab;simp only [SX.den]at hy ⊢;exact Qc1 h hy
   ·cases h
  ·cases h
section
variable{P:Program}{C:List (Con P)}{I:List (Nat→Env→Prop)}{e:Env}
theorem Z3:∀{cs:List Cd} {x:SX} {r:Bool},(∀c∈cs,c.holds C I e)→Ve cs x=some r→(x.den e).2=r
 | [],_,_,_,h=>by cases h
 | .c y v :: cs,x,r,hc,h=>by
   unfold Ve at h;split at h
   ·rename_i r' hr;cases h;exact Qbr hr (hc _ (List.mem_cons_self ..))
   ·exact Z3 (fun c hm=>hc c (List.mem_cons_of_mem _ hm)) h
 | .f _ _ _ :: cs,x,r,hc,h=>by
   unfold Ve at h;exact Z3 (fun c hm=>hc c (List.mem_cons_of_mem _ hm)) h
 | .g _ _ :: cs,x,r,hc,h=>by
   unfold Ve at h;exact Z3 (fun c hm=>hc c (List.mem_cons_of_mem _ hm)) h
theorem Zh{cs:List Cd}{x:SX}{r:Bool}(hc:∀c∈cs,c.holds C I e)(h:ask cs x=some r):(x.den e).2=r:=by
 unfold ask at h;split at h
 ·simp only [Option.some.injEq]at h;subst h;rfl
 ·rename_i y;cases hy:Ve cs y with
  |none=>rw [hy]at h;cases h
  |some v=>
   rw [hy]at h;simp only [Option.map_some,Option.some.injEq]at h;have:=Z3 hc hy;simp only [SX.den,this,h]
 ·exact Z3 hc h
theorem Zt:∀(x:SX) (v:Bool),(x.den e).2=v→∀c∈Zo x v,c.holds C I e
 | .no y,v,h,c,hm=>by
   unfold Zo at hm;exact Zt y (!v) (by simp only [SX.den]at h;rw [←h];simp) c hm
 | .an x y,true,h,c,hm=>by
   unfold Zo at hm;simp only [SX.den,Bool.and_eq_true]at h;rcases List.mem_append.1 hm with hm|hm
   ·exact Zt x true h.1 c hm
   ·exact Zt y true h.2 c hm
 | .an x y,false,h,c,hm=>by unfold Zo at hm;simp only [List.mem_singleton]at hm;subst hm;exact h
 | .i _,v,h,c,hm=>by unfold Zo at hm;simp only [List.mem_singleton]at hm;subst hm;exact h
 | .b _,v,h,c,hm=>by unfold Zo at hm;simp only [List.mem_singleton]at hm;subst hm;exact h
 | .v _ _,v,h,c,hm=>by unfold Zo at hm;simp only [List.mem_singleton]at hm;subst hm;exact h
 | .r _ _ _ _,v,h,c,hm=>by unfold Zo at hm;simp only [List.mem_singleton]at hm;subst hm;exact h
 | .o _ _ _ _,v,h,c,hm=>by unfold Zo at hm;simp only [List.mem_singleton]at hm;subst hm;exact h
 | .c _ _ _,v,h,c,hm=>by unfold Zo at hm;simp only [List.mem_singleton]at hm;subst hm;exact h
 | .eq _ _,v,h,c,hm=>by unfold Zo at hm;simp only [List.mem_singleton]at hm;subst hm;exact h
 | .it _ _ _,v,h,c,hm=>by unfold Zo at hm;simp only [List.mem_singleton]at hm;subst hm;exact h
 | .cv _ _,v,h,c,hm=>by unfold Zo at hm;simp only [List.mem_singleton]at hm;subst hm;exact h
 | .mx _ _,v,h,c,hm=>by unfold Zo at hm;simp only [List.mem_singleton]at hm;subst hm;exact h
 | .mn _ _,v,h,c,hm=>by unfold Zo at hm;simp only [List.mem_singleton]at hm;subst hm;exact h
end
theorem QaT{e:Env}{v:Value}{x:LX}(h:ofL v=some x):x.den e=v:=by
 unfold ofL at h;split at h <;> simp only [Option.some.injEq,reduceCtorEq]at h <;> subst h <;> rfl
theorem X7{e:Env}:∀{vs:List Value} {xs:List LX},K8 vs=some xs→xs.map (·.den e)=vs
 | [],xs,h=>by simp only [K8,Option.some.injEq]at h;subst h;rfl
 |v :: vs,xs,h=>by
  unfold K8 at h;split at h
  ·rename_i x xs' h1 h2;cases h;rw [List.map_cons,QaT h1,X7 h2]
  ·cases h
theorem QfL{e:Env}{v:Value}{x:PX}(h:ofV v=some x):x.den e=v:=by
 unfold ofV at h;split at h
 ·rename_i cs;cases hx:K8 cs.toList with
  |none=>rw [hx]at h;cases h
  |some xs=>
   rw [hx]at h;simp only [Option.map_some,Option.some.injEq]at h;subst h;simp only [PX.den,X7 hx]
 ·cases hx:ofL v with
  |none=>rw [hx]at h;cases h
  |some x'=>
   rw [hx]at h;simp only [Option.map_some,Option.some.injEq]at h;subst h;exact QaT hx
theorem PX.cells_den(e:Env)(p:PX):(p.den e).cells=(p.cells.map (·.den e)).toArray:=by
 cases p with
 |l x=>cases x <;> rfl
 |a xs=>rfl
theorem LX.cells_one(e:Env)(x:LX):(x.den e).oneCell'=true:=by cases x <;> rfl
theorem Zq{e:Env}:∀{c:SX},(∀y∈QP c,(y.den e).2=true)↔(c.den e).2=true
 | .an x y=>by
   have h1:=Zq (e:=e) (c:=x);have h2:=Zq (e:=e) (c:=y);simp only [QP,List.mem_append,SX.den,Bool.and_eq_true,←h1,←h2];constructor
   ·intro h;exact⟨fun z hz=>h z (.inl hz),fun z hz=>h z (.inr hz)⟩
   ·intro h z hz;exact hz.elim (h.1 z) (h.2 z)
 | .b true=>by simp [QP,SX.den]
 | .b false=>by simp [QP]
 | .i _=>by simp [QP]
 | .v _ _=>by simp [QP]
 | .r _ _ _ _=>by simp [QP]
 | .o _ _ _ _=>by simp [QP]
 | .c _ _ _=>by simp [QP]
 | .no _=>by simp [QP]
 | .eq _ _=>by simp [QP]
 | .it _ _ _=>by simp [QP]
 | .cv _ _=>by simp [QP]
 | .mx _ _=>by simp [QP]
 | .mn _ _=>by simp [QP]
section
variable{P:Program}(C:List (Con P))(I:List (Nat→Env→Prop))
structure Kn(e:Env)(s:St)(hs:List SX)(a:Act):Prop where
 tm:Z2 e s.tm a.tmps.toList
 cd:∀c∈s.cd,c.holds C I e
 hs:∀h∈hs,(h.den e).2=true
end
section
variable{P:Program}{C:List (Con P)}{I:List (Nat→Env→Prop)}{e:Env}{s:St}{hs:List SX}{a:Act}
theorem Kn.more(hk:Kn C I e s hs a){c:SX}(hc:(c.den e).2=true):Kn C I e s (QP c ++ hs) a:=
 ⟨hk.tm,hk.cd,fun h hm=>by
   rcases List.mem_append.1 hm with hm|hm
   ·exact Zq.2 hc h hm
   ·exact hk.hs h hm⟩
theorem VU(hk:Kn C I e s hs a){c:SX}(h:QbV s.cd hs c=true):(c.den e).2=true:=by
 refine Zq.1 fun y hy=>?_
 have:=List.all_eq_true.1 h y hy;simp only [Bool.or_eq_true,decide_eq_true_eq,beq_iff_eq]at this;rcases this with h1|h1
 ·exact hk.hs y h1
 ·exact Zh hk.cd h1
theorem Xn(hk:Kn C I e s hs a){x:Operand}{v:VX}(h:evV hs s x=some v):v.sat e (a.eval x):=by
 unfold evV at h;split at h
 ·rename_i t
  have val:∀z,s.tm[t]?=some z→z.sat e (a.eval (.tmp t)):=fun z hz=>by
   obtain⟨u,hu,hs⟩:=hk.tm.get hz
   have:a.eval (.tmp t)=u:=by
    simp only [Act.eval,Array.getD_eq_getD_getElem?];rw [←Array.getElem?_toList,hu];rfl
   rw [this];exact hs
  split at h
  ·cases h
  ·rename_i c z hz;split at h
   ·rename_i hkn;cases h;exact(val _ hz).1 (VU hk hkn)
   ·cases h
  ·exact val _ h
 ·rename_i u;cases hx:ofV u with
  |none=>rw [hx]at h;cases h
  |some x'=>
   rw [hx]at h;simp only [Option.map_some,Option.some.injEq]at h;subst h;exact(QfL hx).symm
 ·cases h
theorem Qi(hk:Kn C I e s hs a){x:Operand}{p:PX}(h:evP hs s x=some p):a.eval x=p.den e:=by
 unfold evP at h;split at h
 ·rename_i p' hv;cases h;exact Xn hk hv
 ·cases h
theorem ZN(hk:Kn C I e s hs a):∀{xs:List Operand} {ps:List PX},Ko hs s xs=some ps→xs.map a.eval=ps.map (·.den e)
 | [],ps,h=>by simp only [Ko,Option.some.injEq]at h;subst h;rfl
 |x :: xs,ps,h=>by
  unfold Ko at h;split at h
  ·rename_i p ps' h1 h2;cases h;rw [List.map_cons,List.map_cons,Qi hk h1,ZN hk h2]
  ·cases h
end
end Go.Proofs.YteplnamfpodmlaaGreat
end
section
namespace Go.Proofs.YteplnamfpodmlaaGreat
section
variable{P:Program}{C:List (Con P)}{I:List (Nat→Env→Prop)}{e:Env}{s:St}{a:Act}{w:World}
theorem add_mid(b o n:Nat):(⟨b,o,none⟩:Addr).add n=⟨b,o+n,none⟩:=Addr.add_mid b o n
theorem VJ(a:Addr)(i j:Nat):(a.add i).add j=a.add (i+j):=by
 unfold Addr.add;by_cases hi:i=0 <;> by_cases hj:j=0 <;> simp [hi,hj,Nat.add_assoc]
def Yi(P:Program)(x:Sem Value)(u:Value):Prop:=∀w,x.run P w= .ok u w
theorem Qaj{p:BinOp}{k k':IntKind}{x y:SX}{v:VX}{xs:List SX}{t:TypeId}(h:Qk1 p k x k' y=some (v,xs))(hx:∀x∈xs,(x.den e).2=true) :
 ∃u,v.sat e u∧Yi P (binOp p t (.int k (x.den e).1) (.int k' (y.den e).1)) u:=by
 cases p <;> simp only [Qk1]at h
 case quo|rem=>
  split at h
  ·rename_i hk;subst hk;cases h;have h0:=hx _ (List.mem_singleton.2 rfl);rw [SX.mkC_den]at h0;simp only [cmI,SX.den,bne_iff_ne,ne_eq]at h0;exact⟨_,rfl,fun w=>by simp [binOp,Op.intDiv,h0,PX.den,LX.den,SX.mkO_den,arI]⟩
  ·cases h
 case shl|shr=>
  cases h;have h0:=hx _ (List.mem_singleton.2 rfl);unfold geZ at h0;rw [SX.mkC_den]at h0;have h2:decide ((0:Int)≤(y.den e).1)=true:=h0;have h1:¬(y.den e).1 < 0:=by simpa using h2
  exact⟨_,rfl,fun w=>by simp [binOp,Op.shift,h1,PX.den,LX.den,SX.mkO_den,arI]⟩
 all_goals
  split at h
  ·rename_i hk;subst hk;cases h;refine⟨_,rfl,fun w=>?_⟩
   first
    |(simp [binOp,Op.intArith,PX.den,LX.den,SX.mkO_den,arI];done)
    |(simp [binOp,Op.intCmp,PX.den,LX.den,SX.mkC_den,cmI];done)
    |(simp [binOp,intBits_and,intBits_or,intBits_xor,intBits_andNot,PX.den,LX.den,SX.mkO_den,arI];done)
  ·cases h
theorem QbM{a_ b_:Value}{t:TypeId}{p:BinOp}{x y:Operand}{u:Value}(ha:∃k a k' b,a_=Value.int k a∧b_=Value.int k' b)(h:Yi P (binOp p t a_ b_) u):Yi P (do eqGuard p t x y a_ b_;binOp p t a_ b_) u:=by
 obtain⟨k,a,k',b,rfl,rfl⟩:=ha;intro w;cases p <;> simp [eqGuard,h w]
theorem Y9{t:TypeId}{n:Nat}(h:Qlz P t=some n):∃d i,P.underlying t=some d∧d.isRow=true∧P.info? t=some i∧i.size=n:=by
 unfold Qlz at h;cases hu:P.underlying t with
 |none=>rw [hu]at h;cases h
 |some d=>
  rw [hu]at h
  have hi:∀(_:(P.info? t).map (·.size)=some n),∃i,P.info? t=some i∧i.size=n:=fun h=>by
   cases hi:P.info? t with
   |none=>rw [hi]at h;cases h
   |some i=>rw [hi]at h;simp only [Option.map_some,Option.some.injEq]at h;exact⟨i,rfl,h⟩
  cases d <;> first
   |(obtain⟨i,h1,h2⟩:=hi h;exact⟨_,i,rfl,rfl,h1,h2⟩)
   |(cases h;done)
theorem Qaq{t:TypeId}(h:QcX P t=true):∃d,P.underlying t=some d∧d.isRow=false:=by
 unfold QcX at h;cases hu:P.underlying t with
 |none=>rw [hu]at h;cases h
 |some d=>rw [hu]at h;cases d <;> first|exact⟨_,rfl,rfl⟩|(cases h;done)
theorem Kh{t:TypeId}{d:TypeDesc}(hu:P.underlying t=some d)(w:World):(isAgg t).run P w= .ok d.isRow w:=by
 unfold isAgg;rw [Sem.run_bind,run_underlying hu w];cases d <;> simp [TypeDesc.isRow]
theorem Xw{t:TypeId}{i:TypeInfo}(hi:P.info? t=some i)(w:World):(sizeOf t).run P w= .ok i.size w:=by
 simp [sizeOf,typeInfo,hi]
theorem KR(f:LX→Value)(xs:List LX)(o n:Nat):((xs.map f).toArray.extract o (o+n))=(((xs.drop o).take n).map f).toArray:=by
 apply Array.ext';simp [List.map_take,List.map_drop]
theorem ZR{t:TypeId}{xs:List LX}{o:Nat}{p:PX}(h:KU P t xs o=some p):Yi P (part t (xs.map (·.den e)).toArray o) (p.den e):=by
 unfold KU at h;split at h
 ·rename_i n hn;obtain⟨d,i,hu,hd,hi,hs⟩:=Y9 hn;split at h
  ·cases h;intro w;simp only [part,Sem.run_bind,Kh hu,hd,Result.andThen_ok,if_true,Xw hi,Sem.run_pure,hs,KR,PX.den]
  ·cases h
 ·split at h
  ·rename_i hl;obtain⟨d,hu,hd⟩:=Qaq hl;cases hx:xs[o]? with
   |none=>rw [hx]at h;cases h
   |some x=>
    rw [hx]at h;simp only [Option.map_some,Option.some.injEq]at h;subst h;intro w;have:(xs.map (·.den e)).toArray[o]?=some (x.den e):=by simp [hx]
    simp only [part,Sem.run_bind,Kh hu,hd,Result.andThen_ok,Bool.false_eq_true,if_false,this,Sem.run_pure,PX.den]
  ·cases h
theorem Vz{g:TypeId→PX→PX→Option SX}{d:Nat}(hg:∀t x y u,g t x y=some u→∀w,(Op.equalIn d t (x.den e) (y.den e)).run P w= .ok (u.den e).2 w)(xs ys:List LX) :
 ∀(fs:List Field) (u:SX),QcI g P xs ys fs=some u→∀w,(Op.eqFields d (xs.map (·.den e)).toArray (ys.map (·.den e)).toArray fs).run P w= .ok (u.den e).2 w
 | [],u,h,w=>by simp only [QcI,Option.some.injEq]at h;subst h;simp [Op.eqFields,SX.den]
 |f :: fs,u,h,w=>by
  unfold QcI at h;split at h
  ·cases h
  ·rename_i hn;split at h
   ·rename_i a b ha hb;split at h
    ·rename_i u1 u2 h1 h2;cases h;have r1:=hg _ _ _ _ h1;have r2:=Vz hg xs ys fs u2 h2;simp only [Op.eqFields,ne_eq,hn,not_false_eq_true,if_true,Sem.run_bind,ZR ha _,ZR hb _,Result.andThen_ok,r1,SX.mkAn_den];cases (u1.den e).2
     ·simp
     ·simp [r2]
    ·cases h
   ·cases h
theorem Vy{g:PX→PX→Option SX}{d:Nat}{t:TypeId}{n:Nat}(hg:∀x y u,g x y=some u→∀w,(Op.equalIn d t (x.den e) (y.den e)).run P w= .ok (u.den e).2 w)(xs ys:List LX)(hn:∀w,(sizeOf t).run P w= .ok n w) :
 ∀(is:List Nat) (u:SX),QcG g P t n xs ys is=some u→∀w,(do
  let r ←forIn is (none,()) (fun i (r:Option Bool×Unit)=>do
   let a ←part t (xs.map (·.den e)).toArray (i * n)
   let b ←part t (ys.map (·.den e)).toArray (i * n)
   let c ←Op.equalIn d t a b
   if(!c)=true then pure (ForInStep.done (some false,()))else pure (ForInStep.yield (none,())))
  match r.1 with
  |some a=>pure a
  |none=>pure true:Sem Bool).run P w= .ok (u.den e).2 w
 | [],u,h,w=>by simp only [QcG,Option.some.injEq]at h;subst h;simp [SX.den]
 |i :: is,u,h,w=>by
  unfold QcG at h;split at h
  ·rename_i a b ha hb;split at h
   ·rename_i u1 u2 h1 h2;cases h;have r1:=hg _ _ _ h1;have r2:=Vy hg xs ys hn is u2 h2 w;simp only [Sem.run_bind]at r2;simp only [List.forIn_cons,Sem.run_bind,ZR ha _,ZR hb _,Result.andThen_ok,r1,SX.mkAn_den];cases (u1.den e).2
    ·simp
    ·simp only [Bool.not_true,Bool.false_eq_true,if_false,Sem.run_pure,Result.andThen_ok,Bool.true_and];exact r2
   ·cases h
  ·cases h
theorem K6:∀(d:Nat) (t:TypeId) (x y:PX) (u:SX),eqX P d t x y=some u→∀n w,(Op.equalIn (d+n) t (x.den e) (y.den e)).run P w= .ok (u.den e).2 w
 |0,_,_,_,_,h,_,_=>by cases h
 |d+1,t,x,y,u,h,n,w=>by
  have ih:=fun t x y u h=>K6 d t x y u h n
  rw [show d+1+n=(d+n)+1 by omega]
  unfold eqX at h;split at h
  ·rename_i a b hu;cases h;simp only [PX.den,LX.den,run_equalIn_bool w _ t _ _ hu,SX.mkEq_den]
  ·rename_i k0 k a k' b hu;split at h
   ·rename_i hk;subst hk;cases h;simp only [PX.den,LX.den,run_equalIn_int w _ t _ _ _ _ hu,SX.mkC_den,cmI]
   ·cases h
  ·rename_i fs xs ys hu;split at h
   ·cases h
   ·rename_i hst;have hf:P.fieldsOf t=fs:=by unfold Program.fieldsOf;rw [hu]
    simp only [PX.den];rw [run_equalIn_struct w (d+n) t _ _ (by rw [hf];exact hu) (by simpa using hst),hf]
    exact Vz (fun t x y u h w=>ih t x y u h w) xs ys _ u h w
  ·rename_i len el xs ys hu;split at h
   ·rename_i ie hi;have r:=Vy (t:=el) (fun x y u h w=>ih el x y u h w) xs ys (Xw hi) _ u h w
    simp only [PX.den];simp only [Op.equalIn,Sem.run_bind,run_underlying hu,Result.andThen_ok,Xw hi,Std.Legacy.Range.forIn_eq_forIn_range',Std.Legacy.Range.size,Nat.sub_zero,Nat.add_one_sub_one,Nat.div_one,List.range_eq_range']at r ⊢;refine Eq.trans ?_ r;congr 1;funext a w';obtain⟨o,_⟩:=a;cases o <;> rfl
   ·cases h
  ·cases h
end
end Go.Proofs.YteplnamfpodmlaaGreat
end
section
namespace Go.Proofs.YteplnamfpodmlaaGreat
section
variable{P:Program}{C:List (Con P)}{I:List (Nat→Env→Prop)}{e:Env}{s:St}{hs:List SX}{a:Act}{w:World}
theorem WZ{t:TypeId}{f:Nat}{fs:Array Field}{fd:Field}{fi:TypeInfo}(hu:P.underlying t=some (.struct fs))(hf:fs[f]?=some fd)(hi:P.info? fd.type=some fi)(h0:¬fi.size=0)(ad:Addr) :
 Yi P (Instr.fieldAt t (.pointer (some ad)) f) (.pointer (some (ad.add fd.offset))):=fun w=>by
 simp only [Instr.fieldAt,Sem.run_bind,run_underlying hu,Result.andThen_ok,hf,Instr.sureAddr,Sem.run_pure,fieldPlace,Xw hi,h0,if_false]
theorem ZG{t el:TypeId}{len:Nat}{ie:TypeInfo}{k:IntKind}{i:Int}(hu:P.underlying t=some (.array len el))(hi:P.info? el=some ie)(h0:0≤i)(h1:i < len)(ad:Addr) :
 Yi P (Instr.indexAt t (.pointer (some ad)) (.int k i)) (.pointer (some (ad.add (i.toNat * ie.size)))):=fun w=>by
 simp [Instr.indexAt,asIntOf,run_underlying hu,Instr.sureAddr,h0,h1,Xw hi]
theorem JH{t el:TypeId}{len cap:Nat}{ie:TypeInfo}{k:IntKind}{i:Int}(hu:P.underlying t=some (.slice el))(hi:P.info? el=some ie)(h0:0≤i)(h1:i < len)(ad:Addr) :
 Yi P (Instr.indexAt t (.slice (some ad) len cap) (.int k i)) (.pointer (some (ad.add (i.toNat * ie.size)))):=fun w=>by
 simp [Instr.indexAt,asIntOf,run_underlying hu,h0,h1,Xw hi]
theorem XC{place:Nat→Option (Nat×Nat)}:∀{parts:List (Nat×PX)} {cells cs:List LX},Kp place cells parts=some cs→
 Instr.fill place (cells.map (·.den e)).toArray (parts.map fun p=>(p.1,p.2.den e))=some (cs.map (·.den e)).toArray
 | [],cells,cs,h=>by simp only [Kp,Option.some.injEq]at h;subst h;rfl
 |(i,v) :: rest,cells,cs,h=>by
  unfold Kp at h;cases hp:place i with
  |none=>rw [hp]at h;cases h
  |some os=>
   obtain⟨off,size⟩:=os;rw [hp]at h
   dsimp only at h
   split at h
   ·rename_i hc;have ih:=XC h
    have h1:¬((v.den e).cells.size≠size∨off+(v.den e).cells.size > (cells.map (·.den e)).toArray.size):=by
     rw [PX.cells_den];simp only [List.size_toArray,List.length_map];omega
    have hset:∀(vs:List Value) (j:Nat) (cs:Array Value),off+j+vs.length≤cs.size→(vs.zipIdx j).foldl (fun cs (x:Value×Nat)=>cs.setIfInBounds (off+x.2) x.1) cs=(cs.toList.take (off+j) ++ vs ++ cs.toList.drop (off+j+vs.length)).toArray:=by
     intro vs
     induction vs with
     |nil=>intro j cs _;simp
     |cons x vs ihv=>
      intro j cs hl;simp only [List.length_cons]at hl;rw [List.zipIdx_cons,List.foldl_cons,ihv (j+1) _ (by simp;omega)]
      apply Array.ext';simp only [Array.toList_setIfInBounds,List.length_cons];have hl':off+j < cs.toList.length:=by simp;omega
      rw [←Nat.add_assoc,List.take_succ_eq_append_getElem (by simp;omega),List.getElem_set_self,List.take_set_of_le (by omega),List.drop_set_of_lt (by omega),show off+j+1+vs.length=off+j+(vs.length+1)by omega]
      simp
    have h2:=hset (v.cells.map (·.den e)) 0 (cells.map (·.den e)).toArray (by simp only [List.length_map,List.size_toArray];omega)
    simp only [List.map_cons,Instr.fill,hp,Nat.add_zero,List.length_map]at h2 ⊢;rw [if_neg (by simpa using h1),PX.cells_den]
    rw [←ih];congr 1;rw [←Array.foldl_toList,Array.toList_zipIdx];rw [h2,hc.1];simp
   ·cases h
theorem V7:∀{fs:List Field} {ps:List (Nat×Nat)},Kx P fs=some ps→fs.mapM (fun f=>(P.info? f.type).map fun i=>(f.offset,i.size))=some ps
 | [],ps,h=>by simp only [Kx,Option.some.injEq]at h;subst h;rfl
 |f :: fs,ps,h=>by
  unfold Kx at h;split at h
  ·rename_i i ps' h1 h2;cases h;simp [List.mapM_cons,h1,V7 h2]
  ·cases h
theorem YG{t:TypeId}{parts:List (Nat×PX)}{cs:List LX}(h:Qak P t parts=some cs):P.built t (parts.map fun p=>(p.1,p.2.den e))=some (cs.map (·.den e)).toArray:=by
 unfold Qak at h;unfold Program.built;split at h
 ·rename_i it len el hi hu;split at h
  ·rename_i z ie hz hie;split at h
   ·rename_i zs hzs;have:=XC (e:=e) h;rw [X7 hzs]at this;simp only [hi,hu,hz,hie];exact this
   ·cases h
  ·cases h
 ·rename_i it fields hi hu;split at h
  ·rename_i z places hz hpl;split at h
   ·rename_i zs hzs;have:=XC (e:=e) h;rw [X7 hzs]at this;simp only [hi,hu,hz,V7 hpl];exact this
   ·cases h
  ·cases h
 ·cases h
theorem XR(ht:Kn C I e s hs a):∀{xs:List (Nat×Operand)} {ps:List (Nat×PX)},JI hs s xs=some ps→xs.map (fun p=>(p.1,a.eval p.2))=ps.map fun p=>(p.1,p.2.den e)
 | [],ps,h=>by simp only [JI,Option.some.injEq]at h;subst h;rfl
 |(i,x) :: xs,ps,h=>by
  unfold JI at h;split at h
  ·rename_i p ps' h1 h2;cases h;rw [List.map_cons,List.map_cons,XR ht h2,Qi ht h1]
  ·cases h
theorem Ql{α β:Type}{f:α→β}{x:Option α}{y:β}(h:x.map f=some y):∃a,x=some a∧f a=y:=by
 cases x with
 |none=>cases h
 |some a=>exact⟨a,rfl,by simpa using h⟩
theorem Zn{x:SX}(h:((geZ x).den e).2=true):0≤(x.den e).1:=by
 unfold geZ at h;rw [SX.mkC_den]at h;have h2:decide ((0:Int)≤(x.den e).1)=true:=h
 simpa using h2
theorem ZB{x y:SX}(h:((SX.mkC .lss x y).den e).2=true):(x.den e).1 < (y.den e).1:=by
 rw [SX.mkC_den]at h
 simpa [cmI] using h
theorem Xj{o:Oper}{v:VX}{xs:List SX}(ht:Kn C I e s hs a)
 (hb:∀r∈s.rw,0 < (r.len.den e).1.toNat→∃ad,e.base r.id=some ad)
 (h:Jl P hs s o.op=some (v,xs)) (hx:∀x∈xs,(x.den e).2=true):∃u,v.sat e u∧∀w,(execOp a.eval o).run P w= .ok (.value u) w:=by
 obtain⟨dst,op,type,pos,after,guard⟩:=o
 dsimp only at h
 cases op <;> (unfold Jl at h;try dsimp only at h) <;> try (cases h;done)
 case move x=>
  obtain⟨y,hy,hv⟩:=Ql h;simp only [Prod.mk.injEq]at hv;obtain⟨rfl,rfl⟩:=hv;exact⟨_,Xn ht hy,fun w=>by simp [execOp]⟩
 case assign x=>
  obtain⟨y,hy,hv⟩:=Ql h;simp only [Prod.mk.injEq]at hv;obtain⟨rfl,rfl⟩:=hv;exact⟨_,Xn ht hy,fun w=>by simp [execOp]⟩
 case pick c x y=>
  split at h
  ·rename_i g hg;have hg':=Qi ht hg
   have ex:∀w,(execOp a.eval ⟨dst,.pick c x y,type,pos,after,guard⟩).run P w= .ok (.value (if(g.den e).2=true then a.eval x else a.eval y)) w:=fun w=>by
    simp only [execOp,hg',PX.den,LX.den,asBool,Sem.run_bind,Sem.run_pure,Result.andThen_ok]
   split at h
   ·rename_i ha;obtain⟨z,hz,hv⟩:=Ql h;simp only [Prod.mk.injEq]at hv;obtain⟨rfl,rfl⟩:=hv;exact⟨_,Xn (ht.more (Zh ht.cd ha)) hz,fun w=>by rw [ex,Zh ht.cd ha,if_pos rfl]⟩
   ·rename_i ha;obtain⟨z,hz,hv⟩:=Ql h;simp only [Prod.mk.injEq]at hv;obtain⟨rfl,rfl⟩:=hv;exact⟨_,Xn (ht.more (by rw [SX.mkNo_den,Zh ht.cd ha];rfl)) hz,fun w=>by rw [ex,Zh ht.cd ha,if_neg (by simp)]⟩
   ·split at h
    ·rename_i y1 y2 h1 h2;cases h;refine⟨_,rfl,fun w=>?_⟩
     rw [ex];cases hgd:(g.den e).2
     ·rw [if_neg (by simp),Qi (ht.more (by rw [SX.mkNo_den,hgd];rfl)) h2]
      simp [PX.den,LX.den,SX.mkSel_den,hgd]
     ·rw [if_pos rfl,Qi (ht.more hgd) h1];simp [PX.den,LX.den,SX.mkSel_den,hgd]
    ·cases h
  ·cases h
 case unOp p t x=>
  cases p <;> dsimp only at h <;> try (cases h;done)
  case neg=>
   split at h
   ·rename_i k y hy;cases h;exact⟨_,rfl,fun w=>by simp [execOp,Qi ht hy,PX.den,LX.den,Op.unary,Op.intArith,SX.mkO_den,arI,SX.den]⟩
   ·cases h
  case not=>
   split at h
   ·rename_i y hy;cases h;exact⟨_,rfl,fun w=>by simp [execOp,Qi ht hy,PX.den,LX.den,Op.unary,SX.mkNo_den]⟩
   ·cases h
 case binOp p t x y yt=>
  split at h
  ·rename_i k z k' z' h1 h2;obtain⟨u,hu,hy⟩:=Qaj (P:=P) (e:=e) (t:=t) h hx;refine⟨u,hu,fun w=>?_⟩
   have:=QbM (x:=x) (y:=y) (a_:= .int k (z.den e).1) (b_:= .int k' (z'.den e).1) ⟨_,_,_,_,rfl,rfl⟩ hy w;simp only [execOp,Qi ht h1,Qi ht h2,PX.den,LX.den];rw [Sem.run_bind,this];simp
  ·rename_i z z' h1 h2;split at h
   ·rename_i hu;cases h;refine⟨_,rfl,fun w=>?_⟩
    simp [execOp,Qi ht h1,Qi ht h2,PX.den,LX.den,eqGuard,binOp,Op.equal,Op.maxDepth,run_equalIn_bool w _ t _ _ hu,SX.mkEq_den]
   ·rename_i hu;cases h;refine⟨_,rfl,fun w=>?_⟩
    simp [execOp,Qi ht h1,Qi ht h2,PX.den,LX.den,eqGuard,binOp,Op.equal,Op.maxDepth,run_equalIn_bool w _ t _ _ hu,SX.mkEq_den,SX.mkNo_den]
   ·cases h
  ·rename_i zs zs' h1 h2;split at h
   ·cases h
   ·rename_i hg;split at h
    ·rename_i p' g hq;cases h;have e1:=Qi ht h1;have e2:=Qi ht h2;simp only [PX.den]at e1 e2;have r:∀w,(Op.equalIn 10000 t (.agg (zs.map (LX.den e)).toArray) (.agg (zs'.map (LX.den e)).toArray)).run P w= .ok (g.den e).2 w:=fun w=>K6 (e:=e) 6 t _ _ g hq 9994 w
     refine⟨_,rfl,fun w=>?_⟩
     show _=Result.ok (Next.value (.bool (g.den e).2)) w;simp only [execOp,e1,e2,Sem.run_bind,run_eqGuard_agg w _ t x y _ _ (by simpa using hg),Result.andThen_ok,run_eql_struct,r,Sem.run_pure]
    ·rename_i p' g hq;cases h;have e1:=Qi ht h1;have e2:=Qi ht h2;simp only [PX.den]at e1 e2;have r:∀w,(Op.equalIn 10000 t (.agg (zs.map (LX.den e)).toArray) (.agg (zs'.map (LX.den e)).toArray)).run P w= .ok (g.den e).2 w:=fun w=>K6 (e:=e) 6 t _ _ g hq 9994 w
     refine⟨_,rfl,fun w=>?_⟩
     show _=Result.ok (Next.value (.bool (g.mkNo.den e).2)) w;simp only [execOp,e1,e2,Sem.run_bind,run_eqGuard_agg w _ t x y _ _ (by simpa using hg),Result.andThen_ok,run_neq_struct,r,Sem.run_pure,SX.mkNo_den]
    ·cases h
  ·cases h
 case convert src dst' x=>
  split at h
  ·rename_i d1 k k1 y hu1 hu2 hy;cases h;exact⟨_,rfl,fun w=>by simp [execOp,Qi ht hy,PX.den,LX.den,convert,run_underlying hu1,run_underlying hu2,Conv.intToInt,SX.mkCv_den]⟩
  ·cases h
 case fieldAddr t x f=>
  split at h
  ·rename_i fs hu;split at h
   ·rename_i fd hf;split at h
    ·rename_i fi hi;split at h
     ·cases h
     ·rename_i h0;have fa:=WZ hu hf hi h0;split at h
      ·rename_i d o hy;cases h;refine⟨_,rfl,fun w=>?_⟩
       have:=fa ⟨e.adr d,o,none⟩ w;simp [execOp,Qi ht hy,PX.den,LX.den,this,add_mid]
      ·rename_i d o n sz i o2 hy;cases h;refine⟨_,rfl,fun w=>?_⟩
       have:=fa ⟨e.adr d,o+(i.den e).1.toNat * sz+o2,none⟩ w;simp only [add_mid,Nat.add_assoc]at this;simp only [execOp,Qi ht hy,PX.den,LX.den,Sem.run_bind,Nat.add_assoc,this,Result.andThen_ok,Sem.run_pure]
      ·rename_i d sz i o hy;cases h;refine⟨_,rfl,fun w=>?_⟩
       have:=fa (((e.base d).getD default).add ((i.den e).1.toNat * sz+o)) w;simp [execOp,Qi ht hy,PX.den,LX.den,this,VJ,Nat.add_assoc]
      ·cases h
    ·cases h
   ·cases h
  ·cases h
 case indexAddr t x ix=>
  split at h
  ·rename_i len el d o k i hu hy hi;split at h
   ·rename_i ie n hie;split at h
    ·rename_i hn;cases h;refine⟨_,rfl,fun w=>?_⟩
     have:=ZG (k:=k) hu hie hn.1 hn.2 ⟨e.adr d,o,none⟩ w;simp [execOp,Qi ht hy,Qi ht hi,PX.den,LX.den,SX.den,this,add_mid]
    ·cases h
   ·rename_i ie i' hie _;cases h;have g1:=Zn (hx _ (List.mem_cons_self ..));have g2:=ZB (hx _ (List.mem_cons_of_mem _ (List.mem_cons_self ..)));simp only [SX.den]at g2;refine⟨_,rfl,fun w=>?_⟩
    have:=ZG (k:=k) hu hie g1 g2 ⟨e.adr d,o,none⟩ w;simp [execOp,Qi ht hy,Qi ht hi,PX.den,LX.den,this,add_mid]
   ·cases h
  ·rename_i len el d sz y o k i hu hy hi;split at h
   ·rename_i ie n hie;split at h
    ·rename_i hn;cases h;refine⟨_,rfl,fun w=>?_⟩
     have:=ZG (k:=k) hu hie hn.1 hn.2 (((e.base d).getD default).add ((y.den e).1.toNat * sz+o)) w;simp [execOp,Qi ht hy,Qi ht hi,PX.den,LX.den,SX.den,this,VJ,Nat.add_assoc]
    ·cases h
   ·cases h
  ·rename_i el d len cap k i hu hy hi;split at h
   ·rename_i ie r hie hr;split at h
    ·rename_i hrl;cases h;have g1:=Zn (hx _ (List.mem_cons_self ..));have g2:=ZB (hx _ (List.mem_cons_of_mem _ (List.mem_cons_self ..)));have hm:=List.mem_of_find?_eq_some hr;have hid:r.id=d:=by simpa using List.find?_some hr
     obtain⟨ad,had⟩:=hb r hm (by rw [hrl];omega)
     rw [hid]at had;refine⟨_,rfl,fun w=>?_⟩
     have:=JH (k:=k) (len:=(len.den e).1.toNat) (cap:=(cap.den e).1.toNat) hu hie g1 (by omega) ad w
     simp [execOp,Qi ht hy,Qi ht hi,PX.den,LX.den,had,this]
    ·cases h
   ·cases h
  ·cases h
 case field t x f=>
  split at h
  ·rename_i fs zs hu hy;split at h
   ·rename_i fd hf;split at h
    ·rename_i n hn;cases h;obtain⟨d,i,hu2,hd,hi,hs⟩:=Y9 hn;refine⟨_,rfl,fun w=>?_⟩
     have:(part fd.type (zs.map (·.den e)).toArray fd.offset).run P w= .ok (PX.den e (.a ((zs.drop fd.offset).take n))) w:=by
      simp only [part,Sem.run_bind,Kh hu2,hd,Result.andThen_ok,if_true,Xw hi,Sem.run_pure,hs,KR,PX.den]
     simp [execOp,Qi ht hy,PX.den,Instr.field,run_underlying hu,hf,asAgg]at this ⊢;simp [this]
    ·rename_i hnone;split at h
     ·rename_i hl;obtain⟨y,hz,hv⟩:=Ql h;simp only [Prod.mk.injEq]at hv;obtain⟨rfl,rfl⟩:=hv
      have hp:KU P fd.type zs fd.offset=some (.l y):=by
       unfold KU;simp only [hnone,hl,if_true,hz,Option.map_some]
      refine⟨_,rfl,fun w=>?_⟩
      have:=ZR (e:=e) hp w;simp [execOp,Qi ht hy,PX.den,Instr.field,run_underlying hu,hf,asAgg]at this ⊢;simp [this]
     ·cases h
   ·cases h
  ·cases h
 case build t parts=>
  split at h
  ·rename_i ps hps;obtain⟨cs,hcs,hv⟩:=Ql h;simp only [Prod.mk.injEq]at hv;obtain⟨rfl,rfl⟩:=hv;have hb:=YG (e:=e) hcs;rw [←XR ht hps]at hb;refine⟨_,rfl,fun w=>?_⟩
   have r:=run_build (P:=P) w t (parts.map fun(i,x)=>(i,a.eval x)) _ (by rw [←hb];simp)
   simp [execOp,r,PX.den]
  ·cases h
 case extract x i=>
  split at h
  ·rename_i ps hps;obtain⟨p,hp,hv⟩:=Ql h;simp only [Prod.mk.injEq]at hv;obtain⟨rfl,rfl⟩:=hv;have he:a.eval x=_:=Xn ht hps;exact⟨_,rfl,fun w=>by simp [execOp,he,Instr.extract,hp]⟩
  ·cases h
 case nilCheck x=>
  split at h
  ·rename_i d o hy;cases h;exact⟨_,rfl,fun w=>by simp [execOp,Qi ht hy,PX.den,LX.den]⟩
  ·cases h
 case call c=>
  obtain⟨callee,args,argTypes⟩:=c;cases callee with
  |value f=>cases h
  |invoke r m=>cases h
  |builtin b=>
   cases b <;> dsimp only at h <;> try (cases h;done)
   case len=>
    split at h
    ·rename_i x t hxs ht0;have hargs:args= #[x]:=by apply Array.ext';simp [hxs]
     subst hargs;split at h
     ·rename_i el d n cap hu hy;cases h;have g1:=Zn (hx _ (List.mem_cons_self ..));have hn:((n.den e).1.toNat:Int)=(n.den e).1:=by omega
      refine⟨_,rfl,fun w=>?_⟩
      simp [execOp,resolve,invoke,builtin,Builtin.len_,ht0,Qi ht hy,PX.den,LX.den,run_underlying hu,goInt,hn]
     ·rename_i el hu hy;cases h;refine⟨_,rfl,fun w=>?_⟩
      simp [execOp,resolve,invoke,builtin,Builtin.len_,ht0,Qi ht hy,PX.den,LX.den,run_underlying hu,goInt,SX.den]
     ·cases h
    ·cases h
   case max=>
    split at h
    ·rename_i k z k' z' hps;split at h
     ·rename_i hk;subst hk;cases h;have hm:=ZN ht hps;simp only [List.map_cons,List.map_nil,PX.den,LX.den]at hm;refine⟨_,rfl,fun w=>?_⟩
      have hm':(args.map a.eval).toList= [.int k (z.den e).1,.int k (z'.den e).1]:=by rw [Array.toList_map,hm]
      simp [execOp,resolve,invoke,builtin,Builtin.max_,hm,Builtin.max2,PX.den,LX.den,SX.den]
     ·cases h
    ·cases h
   case min=>
    split at h
    ·rename_i k z k' z' hps;split at h
     ·rename_i hk;subst hk;cases h;have hm:=ZN ht hps;simp only [List.map_cons,List.map_nil,PX.den,LX.den]at hm;refine⟨_,rfl,fun w=>?_⟩
      simp [execOp,resolve,invoke,builtin,Builtin.min_,hm,Builtin.min2,PX.den,LX.den,SX.den]
     ·cases h
    ·cases h
end
end Go.Proofs.YteplnamfpodmlaaGreat
end
section
namespace Go.Proofs.YteplnamfpodmlaaGreat
def Env.agr(n:Nat)(e0 e:Env):Prop:=∀d,d < n→e.int d=e0.int d∧e.bool d=e0.bool d∧e.adr d=e0.adr d∧e.base d=e0.base d
theorem Env.agr_off{ok:Nat→Bool}{n:Nat}{e0 e e':Env}(h:Env.agr n e0 e)(ho:Env.off ok e e')(hd:∀x,x < n→ok x=true):Env.agr n e0 e':=fun x hx=>by
 have h1:=h x hx;have h2:=ho x (hd x hx);exact⟨h2.1.symm.trans h1.1,h2.2.1.symm.trans h1.2.1,h2.2.2.1.symm.trans h1.2.2.1,h2.2.2.2.symm.trans h1.2.2.2⟩
structure Rel{P:Program}(C:List (Con P))(I:List (Nat→Env→Prop))(G:Cfg)(e0:Env)(w0:World)(e:Env)(s:St)(a:Act)(w:World):Prop where
 df:a.defers= []
 tm:Z2 e s.tm a.tmps.toList
 hp:∀b∈s.hp,w0.heap.size≤e.adr b.id∧Blk w (e.adr b.id) b.ty (b.cs.map (·.den e)).toArray
 inj:s.hp.Pairwise fun x y=>e.adr x.id≠e.adr y.id
 rw:∀r∈s.rw,r.ok e w∧∀b∈s.hp,0 < (r.len.den e).1.toNat→∀ad,e.base r.id=some ad→ad.block≠e.adr b.id
 bl:Below w0.heap.size w0 w
 cd:∀c∈s.cd,c.holds C I e
 ex:Env.agr G.n0 e0 e
def Env.upd(e:Env)(d:Nat)(xs:List LX):Env:=
 {e with
  int:=fun x=>if x=d then fun j=>match xs[j]? with|some (.n _ y)=>(y.den e).1|_=>0 else e.int x
  bool:=fun x=>if x=d then fun j=>match xs[j]? with|some (.t y)=>(y.den e).2|_=>false else e.bool x}
def Ob.ok{P:Program}(C:List (Con P))(I:List (Nat→Env→Prop))(n0:Nat)(e0:Env):Ob→Prop
 | .cl cd x=>∀e,Env.agr n0 e0 e→(∀c∈cd,c.holds C I e)→(x.den e).2=true
 | .pre cd k args=>∀e,Env.agr n0 e0 e→(∀c∈cd,c.holds C I e)→∃c,C[k]?=some c∧c.pre (args.map (·.dat e))
 | .inv cd k d xs=>∀e,Env.agr n0 e0 e→(∀c∈cd,c.holds C I e)→∃i,I[k]?=some i∧i d ((e.upd d xs).cut d)
section
variable{P:Program}{C:List (Con P)}{I:List (Nat→Env→Prop)}{G:Cfg}{e0 e e':Env}{w0 w w':World}{s:St}{a:Act}
theorem Rw.ok_off{ok:Nat→Bool}(h:Env.off ok e e'){r:Rw}(hf:r.fr ok=true)(hr:r.ok e w):r.ok e' w:=by
 simp only [Rw.fr,Bool.and_eq_true]at hf;unfold Rw.ok at hr ⊢;rw [←SX.den_off h _ hf.2,←(h _ hf.1).1,←(h _ hf.1).2.1,←(h _ hf.1).2.2.2];exact hr
theorem Rel.off{ok:Nat→Bool}(hR:Rel C I G e0 w0 e s a w)(h:Env.off ok e e')(hf:s.fr ok=true)(hd:∀x,x < G.n0→ok x=true):Rel C I G e0 w0 e' s a w:=by
 simp only [St.fr,Bool.and_eq_true]at hf;obtain⟨⟨⟨f1,f2⟩,f3⟩,f4⟩:=hf
 have hb:∀b∈s.hp,ok b.id=true∧b.cs.map (·.den e)=b.cs.map (·.den e'):=fun b hb=>by
  have:=List.all_eq_true.1 f2 b hb;simp only [Bk.fr,Bool.and_eq_true]at this;exact⟨this.1,Kd h _ this.2⟩
 refine⟨hR.df,hR.tm.off h f1,fun b hm=>?_,?_,fun r hr=>?_,hR.bl,fun c hc=>?_,Env.agr_off hR.ex h hd⟩
 ·have:=hR.hp b hm;rw [←(h _ (hb b hm).1).2.2.1,←(hb b hm).2];exact this
 ·refine hR.inj.imp_of_mem fun {x y} hx hy hxy=>?_
  rw [←(h _ (hb x hx).1).2.2.1,←(h _ (hb y hy).1).2.2.1];exact hxy
 ·have hfr:=List.all_eq_true.1 f3 r hr;have h1:=hR.rw r hr;refine⟨Rw.ok_off h hfr h1.1,fun b hm=>?_⟩
  simp only [Rw.fr,Bool.and_eq_true]at hfr;rw [←SX.den_off h _ hfr.2,←(h _ hfr.1).2.2.2,←(h _ (hb b hm).1).2.2.1];exact h1.2 b hm
 ·exact Cd.holds_off C I h c (List.all_eq_true.1 f4 c hc) (hR.cd c hc)
theorem Rel.put(hR:Rel C I G e0 w0 e s a w){v:VX}{u:Value}(hu:v.sat e u)(dst:Option Tmp):Rel C I G e0 w0 e (s.put dst v) (a.put dst u) w:=by
 cases dst with
 |none=>exact hR
 |some t=>
  refine⟨hR.df,?_,hR.hp,hR.inj,hR.rw,hR.bl,hR.cd,hR.ex⟩;show Z2 e (s.tm.set t v) (a.tmps.setIfInBounds t u).toList;rw [Array.toList_setIfInBounds];exact hR.tm.set t hu
theorem Rel.owed(hR:Rel C I G e0 w0 e s a w){xs:List SX}(ho:∀ob∈owe s xs,ob.ok C I G.n0 e0):∀x∈xs,(x.den e).2=true:=fun x hx=>by
 by_cases hk:ask s.cd x=some true
 ·exact Zh hR.cd hk
 ·have hm:Ob.cl s.cd x∈owe s xs:=by
   unfold owe;exact List.mem_map.2 ⟨x,List.mem_filter.2 ⟨hx,by simpa using hk⟩,rfl⟩
  exact ho _ hm e hR.ex hR.cd
theorem Rel.base(hR:Rel C I G e0 w0 e s a w):∀r∈s.rw,0 < (r.len.den e).1.toNat→∃ad,e.base r.id=some ad:=fun r hr hl=>by
 obtain⟨ad,h,_⟩:=(hR.rw r hr).1 0 hl;exact⟨ad,h⟩
theorem Rel.alloc0(hR:Rel C I G e0 w0 e s a w){id t:Nat}{cs:List LX}(hid:e.adr id=w.heap.size):Rel C I G e0 w0 e {s with hp:=⟨id,t,cs⟩ :: s.hp} a (w.alloc (.cells (cs.map (·.den e)).toArray t)):=by
 have hlt:∀b∈s.hp,e.adr b.id < w.heap.size:=fun b hb=>(hR.hp b hb).2.lt
 refine⟨hR.df,hR.tm,fun b hb=>?_,?_,fun r hr=>?_,hR.bl.alloc hR.bl.size _,hR.cd,hR.ex⟩
 ·rcases List.mem_cons.1 hb with rfl|hb
  ·exact⟨by rw [hid];exact hR.bl.size,by rw [hid];exact Blk.new _ _ _⟩
  ·exact⟨(hR.hp b hb).1,(hR.hp b hb).2.alloc _⟩
 ·refine List.pairwise_cons.2 ⟨fun b hb=>?_,hR.inj⟩
  have:=hlt b hb;show e.adr id≠_;omega
 ·have h1:=hR.rw r hr;refine⟨h1.1.keep (by simp) fun p _ hp=>World.cell?_alloc_lt w _ p hp,fun b hb hl ad had=>?_⟩
  rcases List.mem_cons.1 hb with rfl|hb
  ·obtain⟨ad',h,hlt',_⟩:=h1.1 0 hl;rw [had]at h;cases h;show ad.block≠e.adr id;omega
  ·exact h1.2 b hb hl ad had
theorem Xr(b:Bk):∀(l:List Bk),(Xq b l).Perm (b :: l)
 | []=>List.Perm.refl _
 |c :: cs=>by
  unfold Xq;split
  ·exact List.Perm.refl _
  ·exact((Xr b cs).cons c).trans (List.Perm.swap b c cs)
theorem Rel.perm(hR:Rel C I G e0 w0 e s a w){l:List Bk}(h:l.Perm s.hp):Rel C I G e0 w0 e {s with hp:=l} a w:=
 ⟨hR.df,hR.tm,fun b hb=>hR.hp b (h.mem_iff.1 hb),(h.pairwise_iff (fun {x y} hxy=>Ne.symm hxy)).2 hR.inj,fun r hr=>⟨(hR.rw r hr).1,fun b hb=>(hR.rw r hr).2 b (h.mem_iff.1 hb)⟩,hR.bl,hR.cd,hR.ex⟩
theorem Rel.alloc(hR:Rel C I G e0 w0 e s a w){id t:Nat}{cs:List LX}(hid:e.adr id=w.heap.size):Rel C I G e0 w0 e {s with hp:=Xq ⟨id,t,cs⟩ s.hp} a (w.alloc (.cells (cs.map (·.den e)).toArray t)):=
 (hR.alloc0 (t:=t) (cs:=cs) hid).perm (Xr _ _)
theorem Rel.grow(hR:Rel C I G e0 w0 e s a w)(hb:Below w.heap.size w w'):Rel C I G e0 w0 e s a w':=
 ⟨hR.df,hR.tm,fun b hm=>⟨(hR.hp b hm).1,(hR.hp b hm).2.call hb⟩,hR.inj,fun r hr=>⟨(hR.rw r hr).1.below hb,(hR.rw r hr).2⟩,hR.bl.trans (hb.mono hR.bl.size),hR.cd,hR.ex⟩
theorem Rel.drew(hR:Rel C I G e0 w0 e s a w):Rel C I G e0 w0 e s a w.drew:=
 ⟨hR.df,hR.tm,fun b hm=>⟨(hR.hp b hm).1,(hR.hp b hm).2.drew⟩,hR.inj,fun r hr=>⟨(hR.rw r hr).1,(hR.rw r hr).2⟩,hR.bl.drew,hR.cd,hR.ex⟩
theorem Rel.conds(hR:Rel C I G e0 w0 e s a w){cs:List Cd}(h:∀c∈cs,c.holds C I e):Rel C I G e0 w0 e {s with cd:=cs ++ s.cd} a w:=
 ⟨hR.df,hR.tm,hR.hp,hR.inj,hR.rw,hR.bl,fun c hc=>by rcases List.mem_append.1 hc with hc|hc;exact h c hc;exact hR.cd c hc,hR.ex⟩
theorem Rel.nx(hR:Rel C I G e0 w0 e s a w)(n:Nat):Rel C I G e0 w0 e {s with nx:=n} a w:=⟨hR.df,hR.tm,hR.hp,hR.inj,hR.rw,hR.bl,hR.cd,hR.ex⟩
theorem Rel.kn(hR:Rel C I G e0 w0 e s a w){hs:List SX}(h:∀x∈hs,(x.den e).2=true):Kn C I e s hs a:=⟨hR.tm,hR.cd,h⟩
theorem Rel.kn0(hR:Rel C I G e0 w0 e s a w):Kn C I e s [] a:=hR.kn fun _ h=>(List.not_mem_nil h).elim
theorem Qd2{t:TypeId}{row:Bool}{m:Nat}(h:Qfk P t=some (row,m)):∃d,P.underlying t=some d∧d.isRow=row∧(row=true→∃i,P.info? t=some i∧i.size=m)∧(row=false→m=1):=by
 unfold Qfk at h;split at h
 ·rename_i n hn;cases h;obtain⟨d,i,hu,hd,hi,hs⟩:=Y9 hn;exact⟨d,hu,hd,fun _=>⟨i,hi,hs⟩,fun h=>by cases h⟩
 ·split at h
  ·rename_i hl;cases h;obtain⟨d,hu,hd⟩:=Qaq hl;exact⟨d,hu,hd,(fun h=>by cases h),fun _=>rfl⟩
  ·cases h
theorem Xv{t:TypeId}{row:Bool}{m:Nat}(h:Qfk P t=some (row,m))(ad:Addr)(cs:List Value)(hl:cs.length=m)(hc:∀j v,cs[j]?=some v→w.cell? (ad.add j)=some v) :
 (loadVar t ad).run P w= .ok (if row then .agg cs.toArray else cs.headD undef) w:=by
 obtain⟨d,hu,hd,h1,h2⟩:=Qd2 h;cases row with
 |true=>
  obtain⟨i,hi,hs⟩:=h1 rfl;have:=run_loadCells_list (P:=P) w ad cs hc;simp only [loadVar,Sem.run_bind,Kh hu,hd,Result.andThen_ok,if_true,Xw hi,hs,←hl,this,Sem.run_pure]
 |false=>
  have hm:=h2 rfl;subst hm
  match cs,hl with
  | [v],_=>
    have h0:=hc 0 v rfl;have:ad.add 0=ad:=rfl;rw [this]at h0;simp only [loadVar,Sem.run_bind,Kh hu,hd,Result.andThen_ok,Bool.false_eq_true,if_false,load,Sem.run,h0,List.headD_cons]
theorem K3{row:Bool}{cs:List LX}{v:PX}(h:Yq row cs=some v):v.den e=if row then .agg (cs.map (·.den e)).toArray else(cs.map (·.den e)).headD undef:=by
 unfold Yq at h;cases row with
 |true=>simp only [if_true,Option.some.injEq]at h;subst h;rfl
 |false=>
  simp only [Bool.false_eq_true,if_false]at h;split at h
  ·simp only [Option.some.injEq]at h;subst h;rfl
  ·cases h
theorem Y4{k:IntKind}:∀{xs:List LX} {ys:List SX},Ww k xs=some ys→xs=ys.map (.n k)
 | [],ys,h=>by simp only [Ww,Option.some.injEq]at h;subst h;rfl
 | .n k' x :: xs,ys,h=>by
   unfold Ww at h;split at h
   ·rename_i hk;subst hk;obtain⟨zs,hz,hv⟩:=Ql h;subst hv;rw [List.map_cons,←Y4 hz]
   ·cases h
 | .t _ :: _,_,h=>by cases h
 | .p _ _ :: _,_,h=>by cases h
 | .pi _ _ _ _ _ _ :: _,_,h=>by cases h
 | .q _ _ _ _ :: _,_,h=>by cases h
 | .sl _ _ _ :: _,_,h=>by cases h
 | .np :: _,_,h=>by cases h
 | .ns :: _,_,h=>by cases h
theorem Vv:∀{xs:List LX} {ys:List SX},Vu xs=some ys→xs=ys.map .t
 | [],ys,h=>by simp only [Vu,Option.some.injEq]at h;subst h;rfl
 | .t x :: xs,ys,h=>by
   unfold Vu at h;obtain⟨zs,hz,hv⟩:=Ql h;subst hv;rw [List.map_cons,←Vv hz]
 | .n _ _ :: _,_,h=>by cases h
 | .p _ _ :: _,_,h=>by cases h
 | .pi _ _ _ _ _ _ :: _,_,h=>by cases h
 | .q _ _ _ _ :: _,_,h=>by cases h
 | .sl _ _ _ :: _,_,h=>by cases h
 | .np :: _,_,h=>by cases h
 | .ns :: _,_,h=>by cases h
theorem V3{x:SX}:∀(ys:List SX) (k i:Nat) (y:SX),(x.den e).1=(k+i:Nat)→ys[i]?=some y→(QcR x k ys).den e=y.den e
 | [],_,_,_,_,h=>by simp at h
 | [z],k,i,y,_,h=>by
   cases i with
   |zero=>simp at h;subst h;rfl
   |succ i=>simp at h
 |z :: z' :: zs,k,i,y,hx,h=>by
  unfold QcR;cases i with
  |zero=>
   simp at h;subst h;simp [SX.den,cmI,hx]
  |succ i=>
   simp only [List.getElem?_cons_succ]at h;have:=V3 (z' :: zs) (k+1) i y (by rw [hx];congr 1;omega) h
   have hne:((x.den e).1==(k:Int))=false:=by rw [beq_eq_false_iff_ne,hx];omega
   simp only [SX.den,cmI,hne,Bool.false_eq_true,if_false];exact this
theorem W5{x:SX}{ys:List SX}{i:Nat}{y:SX}(hx:(x.den e).1=i)(h:ys[i]?=some y):(Qgh x ys).den e=y.den e:=by
 unfold Qgh;split
 ·rename_i d j d' j' r;split
  ·rename_i hc;obtain⟨rfl,hj,hy⟩:=hc;rw [hy]at h
   have hl:i < (SX.v d j :: SX.v d j' :: r).length:=by
    rcases Nat.lt_or_ge i (SX.v d j :: SX.v d j' :: r).length with h0|h0
    ·exact h0
    ·rw [List.getElem?_eq_none (by simpa using h0)]at h;cases h
   rw [List.getElem?_map,List.getElem?_range hl]at h;simp only [Option.map_some,Option.some.injEq]at h;subst h;simp only [SX.den,hx,Int.toNat_natCast]
  ·exact V3 _ 0 i y (by rw [hx];congr 1;omega) h
 ·exact V3 _ 0 i y (by rw [hx];congr 1;omega) h
theorem Qdy{x:SX}{ys:List LX}{i:Nat}{y z:LX}(hx:(x.den e).1=i)(h:ys[i]?=some y)(hs:Ql3 x ys=some z):z.den e=y.den e:=by
 unfold Ql3 at hs;split at hs
 ·obtain⟨l,hl,rfl⟩:=Ql hs;rw [Y4 hl,List.getElem?_map]at h;obtain⟨u,hu,rfl⟩:=Ql h;simp only [LX.den,W5 hx hu]
 ·obtain⟨l,hl,rfl⟩:=Ql hs;rw [Vv hl,List.getElem?_map]at h;obtain⟨u,hu,rfl⟩:=Ql h;simp only [LX.den,W5 hx hu]
 ·cases hs
theorem QaE{cs:List LX}{o sz c:Nat}:∀(ks:List Nat) (xs:List LX),Qk3.go cs o sz c ks=some xs→∀(i k:Nat),ks[i]?=some k→∃x,cs[o+k * sz+c]?=some x∧xs[i]?=some x
 | [],_,_,i,k,h=>by simp at h
 |k0 :: ks,xs,h,i,k,hk=>by
  unfold Qk3.go at h;split at h
  ·rename_i x xs' h1 h2;cases h;cases i with
   |zero=>simp at hk;subst hk;exact⟨x,h1,rfl⟩
   |succ i=>simp only [List.getElem?_cons_succ]at hk ⊢;exact QaE ks xs' h2 i k hk
  ·cases h
theorem YA{x:SX}{cs:List LX}{o n sz k:Nat}(hx:(x.den e).1=k)(hk:k < n):∀(js:List Nat) (ys:List LX),W7 x cs o n sz js=some ys→ys.length=js.length∧∀(i j:Nat),js[i]?=some j→∃c y,cs[o+k * sz+j]?=some c∧ys[i]?=some y∧y.den e=c.den e
 | [],ys,h=>by simp only [W7,Option.some.injEq]at h;subst h;exact⟨rfl,fun i j hj=>by simp at hj⟩
 |c :: js,ys,h=>by
  unfold W7 at h;split at h
  ·rename_i y ys' h1 h2;cases h;obtain⟨l1,l2⟩:=YA hx hk js ys' h2;refine⟨by simp [l1],fun i j hj=>?_⟩
   cases i with
   |zero=>
    simp at hj;subst hj;obtain⟨col,hcol,hsel⟩:=Option.bind_eq_some_iff.1 h1;obtain⟨c',hc',hi⟩:=QaE (List.range n) col hcol k k (List.getElem?_range hk);exact⟨c',y,hc',rfl,Qdy hx hi hsel⟩
   |succ i=>simp only [List.getElem?_cons_succ]at hj ⊢;exact l2 i j hj
  ·cases h
theorem XS{d sz:Nat}{x:SX}{ks:List (Option IntKind)}:∀(js:List Nat) (ys:List LX),Jy d sz x ks js=some ys→ys.length=js.length∧∀(i j:Nat),js[i]?=some j→∃k y,ks[j]?=some k∧ys[i]?=some y∧y.den e=Xu k (e.int d ((x.den e).1.toNat * sz+j)) (e.bool d ((x.den e).1.toNat * sz+j))
 | [],ys,h=>by simp only [Jy,Option.some.injEq]at h;subst h;exact⟨rfl,fun i j hj=>by simp at hj⟩
 |j0 :: js,ys,h=>by
  unfold Jy at h;split at h
  ·rename_i ys' h1 h2;cases h;obtain⟨l1,l2⟩:=XS js ys' h2;refine⟨by simp [l1],fun i j hj=>?_⟩
   cases i with
   |zero=>simp at hj;subst hj;exact⟨_,_,h1,rfl,rfl⟩
   |succ i=>simp only [List.getElem?_cons_succ]at hj ⊢;exact l2 i j hj
  ·rename_i k ys' h1 h2;cases h;obtain⟨l1,l2⟩:=XS js ys' h2;refine⟨by simp [l1],fun i j hj=>?_⟩
   cases i with
   |zero=>simp at hj;subst hj;exact⟨_,_,h1,rfl,rfl⟩
   |succ i=>simp only [List.getElem?_cons_succ]at hj ⊢;exact l2 i j hj
  ·cases h
theorem QaC{g t:Nat}{cs:Array Value}(h:Blk w g t cs)(o j:Nat):w.cell? ((⟨g,o,none⟩:Addr).add j)=cs[o+j]?:=by
 rw [add_mid];exact h.walk.1 _
theorem Jv(hR:Rel C I G e0 w0 e s a w){t:TypeId}{p:LX}{v:PX}{xs:List SX}(h:Y0 P s t p=some (v,xs))(hx:∀x∈xs,(x.den e).2=true):∃ad,p.den e= .pointer (some ad)∧(loadVar t ad).run P w= .ok (v.den e) w:=by
 unfold Y0 at h;split at h
 ·cases h
 ·rename_i row m hs;split at h
  ·rename_i d o;split at h
   ·rename_i b hb;split at h
    ·rename_i hl;obtain⟨v',hv,hp⟩:=Ql h;simp only [Prod.mk.injEq]at hp;obtain⟨rfl,rfl⟩:=hp;have hm:=List.mem_of_find?_eq_some hb;have hid:b.id=d:=by simpa using List.find?_some hb
     have hB:=(hR.hp b hm).2;rw [hid]at hB;refine⟨_,rfl,?_⟩;rw [Xv hs _ (((b.cs.drop o).take m).map (·.den e)) (by simpa using hl) (fun j u hu=>?_),K3 hv]
     rw [QaC hB];rw [List.getElem?_map]at hu;obtain⟨c,hc,rfl⟩:=Ql hu
     have hj:j < m:=by
      rcases Nat.lt_or_ge j m with h0|h0
      ·exact h0
      ·rw [List.getElem?_eq_none (by rw [hl];exact h0)]at hc;cases hc
     rw [List.getElem?_take_of_lt hj,List.getElem?_drop]at hc;simp [hc]
    ·cases h
   ·cases h
  ·rename_i d o n sz x o2;split at h
   ·rename_i b hb;split at h
    ·rename_i cs hcs;obtain⟨v',hv,hp⟩:=Ql h;simp only [Prod.mk.injEq]at hp;obtain⟨rfl,rfl⟩:=hp;have g1:=Zn (hx _ (List.mem_cons_self ..));have g2:=ZB (hx _ (List.mem_cons_of_mem _ (List.mem_cons_self ..)));simp only [SX.den]at g2;obtain⟨k,hk⟩:=Int.eq_ofNat_of_zero_le g1;have hm:=List.mem_of_find?_eq_some hb;have hid:b.id=d:=by simpa using List.find?_some hb
     have hB:=(hR.hp b hm).2;rw [hid]at hB;obtain⟨l1,l2⟩:=YA hk (by omega) _ _ hcs
     refine⟨_,rfl,?_⟩;rw [Xv hs _ (cs.map (·.den e)) (by simpa using l1) (fun j u hu=>?_),K3 hv]
     rw [QaC hB]
     have hj:j < m:=by
      rcases Nat.lt_or_ge j m with h0|h0
      ·exact h0
      ·rw [List.getElem?_eq_none (by simp [l1];exact h0)]at hu;cases hu
     obtain⟨c,y,h1,h2,h3⟩:=l2 j (o2+j) (by simp [List.getElem?_range hj])
     rw [List.getElem?_map,h2]at hu;simp only [Option.map_some,Option.some.injEq]at hu;rw [←hu,h3];simp only [hk,Int.toNat_natCast,List.getElem?_toArray,List.getElem?_map];rw [show o+k * sz+o2+j=o+k * sz+(o2+j)by omega,h1]
     rfl
    ·cases h
   ·cases h
  ·rename_i d sz x o;split at h
   ·rename_i r hr;split at h
    ·rename_i hsz;split at h
     ·rename_i cs hcs;obtain⟨v',hv,hp⟩:=Ql h;simp only [Prod.mk.injEq]at hp;obtain⟨rfl,rfl⟩:=hp;have g1:=Zn (hx _ (List.mem_cons_self ..));have g2:=ZB (hx _ (List.mem_cons_of_mem _ (List.mem_cons_self ..)));have hm:=List.mem_of_find?_eq_some hr;have hid:r.id=d:=by simpa using List.find?_some hr
      obtain⟨ad,had,hlt,hcell⟩:=(hR.rw r hm).1 (x.den e).1.toNat (by omega)
      rw [hid]at had;obtain⟨l1,l2⟩:=XS (e:=e) _ _ hcs;refine⟨_,rfl,?_⟩;rw [Xv hs _ (cs.map (·.den e)) (by simpa using l1) (fun j u hu=>?_),K3 hv]
      have hj:j < m:=by
       rcases Nat.lt_or_ge j m with h0|h0
       ·exact h0
       ·rw [List.getElem?_eq_none (by simp [l1];exact h0)]at hu;cases hu
      obtain⟨k,y,h1,h2,h3⟩:=l2 j (o+j) (by simp [List.getElem?_range hj])
      rw [List.getElem?_map,h2]at hu;simp only [Option.map_some,Option.some.injEq]at hu;rw [←hu,h3,had,Option.getD_some,VJ];have:=hcell (o+j) k h1;rw [hsz,hid]at this;rw [show(x.den e).1.toNat * sz+o+j=(x.den e).1.toNat * sz+(o+j)by omega]
      exact this
     ·cases h
    ·cases h
   ·cases h
  ·cases h
end
end Go.Proofs.YteplnamfpodmlaaGreat
end
section
namespace Go.Proofs.YteplnamfpodmlaaGreat
theorem Qct{α:Type}{R:α→α→Prop}(hs:∀x y,R x y→R y x):∀{l:List α},l.Pairwise R→∀x∈l,∀y∈l,x≠y→R x y
 | [],_,x,hx,_,_,_=>by cases hx
 |z :: l,h,x,hx,y,hy,hne=>by
  obtain⟨h1,h2⟩:=List.pairwise_cons.1 h;rcases List.mem_cons.1 hx with e1|m1
  ·rcases List.mem_cons.1 hy with e2|m2
   ·exact absurd (e1.trans e2.symm) hne
   ·rw [e1];exact h1 y m2
  ·rcases List.mem_cons.1 hy with e2|m2
   ·rw [e2];exact hs _ _ (h1 x m1)
   ·exact Qct hs h2 x m1 y m2 hne
theorem WT{α:Type}(xs vs:List α)(p i:Nat)(h:p+vs.length≤xs.length):(xs.take p ++ vs ++ xs.drop (p+vs.length))[i]?=if i < p then xs[i]? else if i < p+vs.length then vs[i - p]? else xs[i]?:=by
 by_cases h1:i < p
 ·rw [if_pos h1,List.append_assoc,List.getElem?_append_left (by simp;omega),List.getElem?_take_of_lt h1]
 ·rw [if_neg h1,List.append_assoc,List.getElem?_append_right (by simp;omega)]
  have hl:(xs.take p).length=p:=by simp;omega
  rw [hl];by_cases h2:i < p+vs.length
  ·rw [if_pos h2,List.getElem?_append_left (by omega)]
  ·rw [if_neg h2,List.getElem?_append_right (by omega),List.getElem?_drop]
   congr 1;omega
section
variable{w w':World}{g t:Nat}{cs:Array Value}
theorem JB:∀(vs:List Value) (o:Nat) {w:World} {cs:Array Value},Blk w g t cs→o+vs.length≤cs.size→Blk (w.setCells g o vs) g t (cs.toList.take o ++ vs ++ cs.toList.drop (o+vs.length)).toArray
 | [],o,w,cs,h,_=>by
   have:(cs.toList.take o ++ ([]:List Value) ++ cs.toList.drop (o+([]:List Value).length)).toArray=cs:=by apply Array.ext';simp
   rw [this];exact h
 |v :: vs,o,w,cs,h,hl=>by
  simp only [List.length_cons]at hl;have h1:=JB vs (o+1) (h.set_ o v) (by simp;omega)
  have:((cs.setIfInBounds o v).toList.take (o+1) ++ vs ++ (cs.setIfInBounds o v).toList.drop (o+1+vs.length)).toArray=(cs.toList.take o ++ v :: vs ++ cs.toList.drop (o+(v :: vs).length)).toArray:=by
   apply Array.ext';simp only [Array.toList_setIfInBounds,List.length_cons];rw [List.take_succ_eq_append_getElem (by simp;omega),List.getElem_set_self,List.take_set_of_le (by omega),List.drop_set_of_lt (by omega),show o+1+vs.length=o+(vs.length+1)by omega]
   simp
  rw [World.setCells,←this];exact h1
theorem QaY:∀(vs:List Value) (o:Nat) {w:World} {b:Nat},Blk w g t cs→g≠b→Blk (w.setCells b o vs) g t cs
 | [],_,_,_,h,_=>h
 |v :: vs,o,w,b,h,hn=>by rw [World.setCells];exact QaY vs (o+1) (h.far hn v) hn
theorem ZF{B:Nat}{a:World}:∀(vs:List Value) (o:Nat) {w:World} {b:Nat},Below B a w→B≤b→Below B a (w.setCells b o vs)
 | [],_,_,_,h,_=>h
 |v :: vs,o,w,b,h,hb=>by rw [World.setCells];exact ZF vs (o+1) (h.setCell hb v) hb
theorem Qae:∀(vs:List Value) (o:Nat) {w:World} {b:Nat},(w.setCells b o vs).heap.size=w.heap.size
 | [],_,_,_=>rfl
 |v :: vs,o,w,b=>by rw [World.setCells,Qae vs (o+1)];simp
end
section
variable{P:Program}{C:List (Con P)}{I:List (Nat→Env→Prop)}{G:Cfg}{e0 e e':Env}{w0 w w':World}{s:St}{a:Act}
theorem QcQ{g:SX}{x y z:LX}(h:QkP g x y=some z):z.den e=if(g.den e).2 then x.den e else y.den e:=by
 unfold QkP at h;split at h
 ·split at h
  ·rename_i hk;subst hk;cases h;simp only [LX.den,SX.mkIt_den];split <;> rfl
  ·cases h
 ·cases h;simp only [LX.den,SX.mkIt_den];split <;> rfl
 ·cases h
theorem WE{x:SX}{vs:List LX}{o n sz o2 k:Nat}(hx:(x.den e).1=k)(hk:k < n)(hm:o2+vs.length≤sz):∀(cs:List LX) (j0:Nat) (ys:List LX),QdA x vs o n sz o2 j0 cs=some ys→
 ys.length=cs.length∧∀(i:Nat) (c:LX),cs[i]?=some c→∃y,ys[i]?=some y∧
  ((o+k * sz+o2≤j0+i∧j0+i < o+k * sz+o2+vs.length→∃v,vs[j0+i - (o+k * sz+o2)]?=some v∧y.den e=v.den e)∧(¬(o+k * sz+o2≤j0+i∧j0+i < o+k * sz+o2+vs.length)→y.den e=c.den e))
 | [],j0,ys,h=>by simp only [QdA,Option.some.injEq]at h;subst h;exact⟨rfl,fun i c hc=>by simp at hc⟩
 |c0 :: cs,j0,ys,h=>by
  unfold QdA at h;split at h
  ·cases h
  ·rename_i rest hrest;obtain⟨l1,l2⟩:=WE hx hk hm cs (j0+1) rest hrest
   have tail:∀(y:LX) (i:Nat) (c:LX),cs[i]?=some c→∃z,(y :: rest)[i+1]?=some z∧
    ((o+k * sz+o2≤j0+(i+1)∧j0+(i+1) < o+k * sz+o2+vs.length→∃v,vs[j0+(i+1) - (o+k * sz+o2)]?=some v∧z.den e=v.den e)∧(¬(o+k * sz+o2≤j0+(i+1)∧j0+(i+1) < o+k * sz+o2+vs.length)→z.den e=c.den e)):=fun y i c hc=>by
    have:=l2 i c hc;rw [show j0+1+i=j0+(i+1)by omega]at this
    simpa using this
   have hkn:k * sz+sz≤n * sz:=by
    have:=Nat.mul_le_mul_right sz (show k+1≤n by omega)
    rwa [Nat.succ_mul]at this
   split at h
   ·rename_i hcond;obtain⟨c1,c2,c3,c4⟩:=hcond;have hdm:=Nat.div_add_mod (j0 - o) sz;split at h
    ·rename_i v hv;obtain⟨y,hy,hys⟩:=Ql h;subst hys;have hy':=QcQ (e:=e) hy;refine⟨by simp [l1],fun i c hc=>?_⟩
     cases i with
     |succ i=>simp only [List.getElem?_cons_succ]at hc;exact tail y i c hc
     |zero=>
      simp at hc;subst hc;refine⟨y,rfl,fun hin=>?_,fun hout=>?_⟩
      ·have hq:(j0 - o) / sz=k:=by
        have e1:j0 - o=(j0 - o - k * sz)+k * sz:=by omega
        have hlt:j0 - o - k * sz < sz:=by omega
        rw [e1,Nat.add_mul_div_right _ _ (by omega),Nat.div_eq_of_lt hlt,Nat.zero_add]
       have hr:(j0 - o) % sz=j0 - o - k * sz:=by rw [hq,Nat.mul_comm]at hdm;omega
       rw [hr]at hv;refine⟨v,by rw [←hv];congr 1;omega,?_⟩
       rw [hy'];simp only [SX.den,cmI,hx,hq,beq_self_eq_true,if_true]
      ·rw [hy']
       have hne:((x.den e).1==(((j0 - o) / sz:Nat):Int))=false:=by
        rw [beq_eq_false_iff_ne,hx];intro hq;have hq':k=(j0 - o) / sz:=by exact_mod_cast hq
        rw [←hq',Nat.mul_comm]at hdm;apply hout;omega
       simp only [SX.den,cmI,hne,Bool.false_eq_true,if_false]
    ·cases h
   ·rename_i hcond;cases h;refine⟨by simp [l1],fun i c hc=>?_⟩
    cases i with
    |succ i=>simp only [List.getElem?_cons_succ]at hc;exact tail c0 i c hc
    |zero=>
     simp at hc;subst hc;refine⟨c0,rfl,fun hin=>?_,fun _=>rfl⟩
     exfalso;apply hcond
     have hq:(j0 - o) / sz=k:=by
      have e1:j0 - o=(j0 - o - k * sz)+k * sz:=by omega
      have hlt:j0 - o - k * sz < sz:=by omega
      rw [e1,Nat.add_mul_div_right _ _ (by omega),Nat.div_eq_of_lt hlt,Nat.zero_add]
     have hdm:=Nat.div_add_mod (j0 - o) sz;rw [hq,Nat.mul_comm]at hdm;refine⟨by omega,by omega,by omega,by omega⟩
theorem Rel.store(hR:Rel C I G e0 w0 e s a w){d:Nat}{b:Bk}(hb:XH s d=some b){cs:List LX}{vs:List Value}{p:Nat}(hl:p+vs.length≤b.cs.length)
 (hcs:cs.map (·.den e)=(b.cs.map (·.den e)).take p ++ vs ++ (b.cs.map (·.den e)).drop (p+vs.length)):Rel C I G e0 w0 e (YY s d cs) a (w.setCells (e.adr d) p vs):=by
 have hm:=List.mem_of_find?_eq_some hb;have hid:b.id=d:=by simpa using List.find?_some hb
 have hB:=hR.hp b hm;rw [hid]at hB
 have hne:∀b'∈s.hp,b'≠b→e.adr b'.id≠e.adr d:=fun b' hb' hn=>by
  have:=Qct (fun x y h=>Ne.symm h) hR.inj b' hb' b hm hn
  rwa [hid]at this
 have hsame:∀b'∈s.hp,b'.id=d→b'=b:=fun b' hb' hi=>by
  by_cases hn:b'=b
  ·exact hn
  ·exact absurd (by rw [hi]) (hne b' hb' hn)
 have hid':∀b':Bk,(if b'.id=d then {b' with cs:=cs}else b').id=b'.id:=fun b'=>by split <;> rfl
 refine⟨hR.df,hR.tm,fun b' hb'=>?_,?_,fun r hr=>?_,ZF _ _ hR.bl hB.1,hR.cd,hR.ex⟩
 ·obtain⟨b1,hb1,rfl⟩:=List.mem_map.1 hb';rw [hid'];refine⟨(hR.hp b1 hb1).1,?_⟩;by_cases hi:b1.id=d
  ·rw [if_pos hi];have:=hsame b1 hb1 hi;subst this;have h2:=JB vs p hB.2 (by simpa using hl)
   rw [hi];simp only at h2 ⊢;rw [hcs];exact h2
  ·rw [if_neg hi];exact QaY vs p (hR.hp b1 hb1).2 (hne b1 hb1 (fun h=>hi (by rw [h,hid])))
 ·refine List.pairwise_map.2 (hR.inj.imp fun {x y} h=>?_)
  rw [hid',hid'];exact h
 ·have h1:=hR.rw r hr;refine⟨?_,fun b' hb'=>?_⟩
  ·by_cases hlen:0 < (r.len.den e).1.toNat
   ·refine h1.1.keep (by rw [Qae];exact Nat.le_refl _) fun q hq _=>?_
    obtain⟨ad,had,hqb⟩:=hq;have:=h1.2 b hm hlen ad had;rw [hid]at this;exact World.cell?_setCells_out _ _ _ _ _ fun hbl _=>absurd (hqb.symm.trans hbl) this
   ·intro i hi;omega
  ·obtain⟨b1,hb1,rfl⟩:=List.mem_map.1 hb';rw [hid'];exact h1.2 b1 hb1
theorem Xg{g t0:Nat}{C0:Array Value}(hB:Blk w g t0 C0){t:TypeId}{m:Nat}(hi:(P.info? t).map (·.size)=some m){o:Nat}{v:PX}(hl:v.cells.length=m)(hb:o+m≤C0.size) :
 (storeVar t ⟨g,o,none⟩ (v.den e)).run P w= .ok () (w.setCells g o (v.cells.map (·.den e))):=by
 cases hq:P.info? t with
 |none=>rw [hq]at hi;cases hi
 |some i=>
  rw [hq]at hi;simp only [Option.map_some,Option.some.injEq]at hi;have h1:(v.den e).cells.toList=v.cells.map (·.den e):=by rw [PX.cells_den]
  have h2:(v.den e).cells.size=m:=by rw [PX.cells_den];simp [hl]
  have h3:=run_storeCells_cells (P:=P) g o (v.cells.map (·.den e)) 0 w (fun j hj=>by
   rw [hB.walk.1];simp only [List.length_map]at hj;simp only [Nat.add_zero];rw [Array.getElem?_eq_getElem (by omega)];rfl) (fun j _=>hB.walk.2 _)
   (fun u hu=>by obtain⟨x,_,rfl⟩:=List.mem_map.1 hu;exact LX.cells_one e x)
  simp only [Nat.add_zero]at h3;simp only [storeVar,Sem.run_bind,Xw hq,Result.andThen_ok,h2,hi,ne_eq,not_true_eq_false,if_false,h1];exact h3
theorem Wa(hR:Rel C I G e0 w0 e s a w){t:TypeId}{p:LX}{v:PX}{s':St}{xs:List SX}(h:Qa3 P s t p v=some (s',xs))(hx:∀x∈xs,(x.den e).2=true) :
 ∃ad w',p.den e= .pointer (some ad)∧(storeVar t ad (v.den e)).run P w= .ok () w'∧Rel C I G e0 w0 e s' a w':=by
 unfold Qa3 at h;split at h
 ·cases h
 ·rename_i m hi;split at h
  ·rename_i hl;split at h
   ·rename_i d o;split at h
    ·rename_i b hb;split at h
     ·rename_i hbd;cases h;have hm:=List.mem_of_find?_eq_some hb;have hid:b.id=d:=by simpa using List.find?_some hb
      have hB:=(hR.hp b hm).2;rw [hid]at hB;refine⟨_,_,rfl,Xg hB hi hl (by simpa using hbd),hR.store hb (by simp only [List.length_map,hl];exact hbd) ?_⟩
      simp only [List.map_append,List.map_take,List.map_drop,List.length_map,hl]
     ·cases h
    ·cases h
   ·rename_i d o n sz x o2;split at h
    ·rename_i b hb;split at h
     ·rename_i hbd;obtain⟨cs,hcs,hp⟩:=Ql h;simp only [Prod.mk.injEq]at hp;obtain⟨rfl,rfl⟩:=hp;have g1:=Zn (hx _ (List.mem_cons_self ..));have g2:=ZB (hx _ (List.mem_cons_of_mem _ (List.mem_cons_self ..)));simp only [SX.den]at g2;obtain⟨k,hk⟩:=Int.eq_ofNat_of_zero_le g1
      have hkn:k * sz+sz≤n * sz:=by
       have:=Nat.mul_le_mul_right sz (show k+1≤n by omega)
       rwa [Nat.succ_mul]at this
      have hm:=List.mem_of_find?_eq_some hb;have hid:b.id=d:=by simpa using List.find?_some hb
      have hB:=(hR.hp b hm).2;rw [hid]at hB;obtain⟨l1,l2⟩:=WE hk (by omega) (by rw [hl];exact hbd.2) b.cs 0 cs hcs
      have hkx:(x.den e).1.toNat=k:=by rw [hk];rfl
      refine⟨_,_,rfl,Xg (o:=o+(x.den e).1.toNat * sz+o2) hB hi hl (by rw [hkx];simp only [List.size_toArray,List.length_map];omega),hR.store hb (by rw [hkx];simp only [List.length_map,hl];omega) ?_⟩
      rw [hkx];apply List.ext_getElem?;intro i;rw [WT _ _ _ _ (by simp only [List.length_map,hl];omega)]
      simp only [List.length_map,hl,List.getElem?_map];cases hc:b.cs[i]? with
      |none=>
       have h0:b.cs.length≤i:=by
        rcases Nat.lt_or_ge i b.cs.length with h1|h1
        ·rw [List.getElem?_eq_getElem h1]at hc;cases hc
        ·exact h1
       rw [if_neg (by omega),if_neg (by omega),List.getElem?_eq_none (by omega)]
      |some c=>
       obtain⟨y,hy,h1,h2⟩:=l2 i c hc;rw [hy];simp only [Nat.zero_add,hl]at h1 h2;by_cases c1:i < o+k * sz+o2
       ·rw [if_pos c1];simp only [Option.map_some];rw [h2 (by omega)]
       ·rw [if_neg c1];by_cases c2:i < o+k * sz+o2+m
        ·rw [if_pos c2];obtain⟨u,hu,he⟩:=h1 ⟨by omega,c2⟩
         rw [hu];simp only [Option.map_some];rw [he]
        ·rw [if_neg c2];simp only [Option.map_some];rw [h2 (by omega)]
     ·cases h
    ·cases h
   ·cases h
  ·cases h
theorem Wq:∀(xs:List LX) (ks:List (Option IntKind)),Yg.kindsX xs ks=true→xs.length=ks.length∧∀(j:Nat) (k:Option IntKind),ks[j]?=some k→∃n b,(xs.map (·.den e))[j]?=some (Xu k n b)
 | [],[],_=>⟨rfl,fun j k h=>by simp at h⟩
 | .t x :: xs,none :: ks,h=>by
   unfold Yg.kindsX at h;obtain⟨h1,h2⟩:=Wq xs ks h;refine⟨by simp [h1],fun j k hk=>?_⟩
   cases j with
   |zero=>simp at hk;subst hk;exact⟨0,(x.den e).2,rfl⟩
   |succ j=>simp only [List.getElem?_cons_succ,List.map_cons]at hk ⊢;exact h2 j k hk
 | .n k' x :: xs,some k0 :: ks,h=>by
   unfold Yg.kindsX at h;simp only [Bool.and_eq_true,beq_iff_eq]at h;obtain⟨h1,h2⟩:=Wq xs ks h.2;refine⟨by simp [h1],fun j k hk=>?_⟩
   cases j with
   |zero=>simp at hk;subst hk;exact⟨(x.den e).1,false,by simp [Xu,LX.den,h.1]⟩
   |succ j=>simp only [List.getElem?_cons_succ,List.map_cons]at hk ⊢;exact h2 j k hk
 | [],_ :: _,h=>by simp [Yg.kindsX]at h
 | .t _ :: _,[],h=>by simp [Yg.kindsX]at h
 | .t _ :: _,some _ :: _,h=>by simp [Yg.kindsX]at h
 | .n _ _ :: _,[],h=>by simp [Yg.kindsX]at h
 | .n _ _ :: _,none :: _,h=>by simp [Yg.kindsX]at h
 | .p _ _ :: _,_,h=>by simp [Yg.kindsX]at h
 | .pi _ _ _ _ _ _ :: _,_,h=>by simp [Yg.kindsX]at h
 | .q _ _ _ _ :: _,_,h=>by simp [Yg.kindsX]at h
 | .sl _ _ _ :: _,_,h=>by simp [Yg.kindsX]at h
 | .np :: _,_,h=>by simp [Yg.kindsX]at h
 | .ns :: _,_,h=>by simp [Yg.kindsX]at h
theorem Qao(hR:Rel C I G e0 w0 e s a w){h:SH}{p:PX}(hf:Yg s h p=true):h.fits w (p.dat e):=by
 unfold Yg at hf;split at hf
 ·exact⟨_,rfl⟩
 ·simp only [beq_iff_eq]at hf;subst hf;exact⟨_,rfl⟩
 ·rename_i ks xs;obtain⟨h1,h2⟩:=Wq (e:=e) xs ks hf;exact⟨xs.map (·.den e),rfl,by simpa using h1,h2⟩
 ·rename_i ks d len cap;split at hf
  ·rename_i r hr;simp only [decide_eq_true_eq]at hf;have hm:=List.mem_of_find?_eq_some hr;have hid:r.id=d:=by simpa using List.find?_some hr
   have:=(hR.rw r hm).1;unfold Rw.ok at this;rw [hid,hf.1,hf.2]at this;exact⟨_,_,_,rfl,this⟩
  ·cases hf
 ·exact⟨none,0,0,rfl,fun i hi=>by omega⟩
 ·cases hf
theorem KS(hR:Rel C I G e0 w0 e s a w):∀{hs:List SH} {ps:List PX},Kq s hs ps=true→Qcw w hs (ps.map (·.dat e))
 | [],[],_=>trivial
 |h :: hs,p :: ps,hf=>by
  simp only [Kq,Bool.and_eq_true]at hf;exact⟨Qao hR hf.1,KS hR hf.2⟩
 | [],_ :: _,h=>by simp [Kq]at h
 |_ :: _,[],h=>by simp [Kq]at h
theorem Kb{d j:Nat}(k:Option IntKind):(JP d j k).den e=Xu k (e.int d j) (e.bool d j):=by cases k <;> rfl
theorem JT{d:Nat}:∀(j:Nat) (ks:List (Option IntKind)),(Qa d j ks).map (·.den e)=ZL (e.int d) (e.bool d) j ks
 |_,[]=>rfl
 |j,k :: ks=>by simp only [Qa,ZL,List.map_cons,Kb,JT (j+1) ks]
theorem JV{d:Nat}:∀(j:Nat) (cs:List (Option IntKind ⊕ List (Option IntKind))),(J7 d j cs).map (·.den e)=YU (e.int d) (e.bool d) j cs
 |_,[]=>rfl
 |j,.inl k :: cs=>by rw [J7,List.map_cons,JV (j+1) cs];simp only [PX.den,Kb,YU]
 |j,.inr ks :: cs=>by rw [J7,List.map_cons,JV (j+ks.length) cs];simp only [PX.den,JT,YU]
theorem inst_sat{d:Nat}(r:RS):(r.inst d).sat e (r.val (e.int d) (e.bool d)):=by
 cases r with
 |no=>rfl
 |l k=>simp only [RS.inst,RS.val,VX.sat,PX.den,Kb]
 |a ks=>simp only [RS.inst,RS.val,VX.sat,PX.den,JT]
 |tp cs=>simp only [RS.inst,RS.val,VX.sat,JV]
theorem X5{f:FuncId}:∀{gs:List Sg} {n k:Nat} {g:Sg},JG f n gs=some (k,g)→g.f=f∧n≤k∧gs[k - n]?=some g
 | [],_,_,_,h=>by cases h
 |g0 :: gs,n,k,g,h=>by
  unfold JG at h;split at h
  ·rename_i hf;cases h;exact⟨hf,Nat.le_refl _,by simp⟩
  ·obtain⟨h1,h2,h3⟩:=X5 h;refine⟨h1,by omega,?_⟩
   rw [show k - n=(k - (n+1))+1 by omega,List.getElem?_cons_succ]
   exact h3
def Env.res(e:Env)(d:Nat)(int:Nat→Int)(bool:Nat→Bool):Env:=
 {e with int:=fun x=>if x=d then int else e.int x,bool:=fun x=>if x=d then bool else e.bool x}
theorem Env.off_res(e:Env)(d:Nat)(int:Nat→Int)(bool:Nat→Bool):Env.off (· != d) e (e.res d int bool):=fun x hx=>by simp only [bne_iff_ne]at hx;simp [Env.res,hx]
def Env.at_(e:Env)(d:Nat)(n:Nat):Env:={e with adr:=fun x=>if x=d then n else e.adr x}
theorem Env.off_at(e:Env)(d n:Nat):Env.off (· != d) e (e.at_ d n):=fun x hx=>by simp only [bne_iff_ne]at hx;simp [Env.at_,hx]
theorem QqT{n d:Nat}(h:n≤d):∀x,x < n→(x != d)=true:=fun x hx=>by simp only [bne_iff_ne];omega
theorem WS{f:FuncId}{fn:Func}{x:Sem Next}{args:Array Value}(hf:P.funcs[f]?=some fn)(hn:(fn.name== "runtime.NumGoroutine")=false)(hb:fn.body.isNone=false) :
 (callFunc f args).run P w= .ok (.enter f args) w:=by
 simp only [callFunc,Sem.run_bind,run_program,Result.andThen_ok,hf,hn,Bool.false_eq_true,if_false,hb,Sem.run_pure]
theorem Zp{k:Nat}{ps:List PX}{d:Nat}:∀{cs:List Cd},ZI k ps cs=some d→ .f d k ps∈cs
 | .f d' k' ps' :: cs,h=>by
   unfold ZI at h;split at h
   ·rename_i he;obtain⟨rfl,rfl⟩:=he;simp only [Option.some.injEq]at h;subst h;exact List.mem_cons_self ..
   ·exact List.mem_cons_of_mem _ (Zp h)
 | .c _ _ :: cs,h=>List.mem_cons_of_mem _ (Zp (by unfold ZI at h;exact h))
 | .g _ _ :: cs,h=>List.mem_cons_of_mem _ (Zp (by unfold ZI at h;exact h))
theorem Qdf{ok:Nat→Bool}{v:Value}{x:LX}(h:ofL v=some x):x.fr ok=true:=by
 unfold ofL at h;split at h <;> simp only [Option.some.injEq,reduceCtorEq]at h <;> subst h <;> rfl
theorem QaU{ok:Nat→Bool}:∀{vs:List Value} {xs:List LX},K8 vs=some xs→xs.all (·.fr ok)=true
 | [],xs,h=>by simp only [K8,Option.some.injEq]at h;subst h;rfl
 |v :: vs,xs,h=>by
  unfold K8 at h;split at h
  ·rename_i x xs' h1 h2;cases h;rw [List.all_cons,Qdf h1,QaU h2];rfl
  ·cases h
theorem Qlg{ok:Nat→Bool}{v:Value}{x:PX}(h:ofV v=some x):x.fr ok=true:=by
 unfold ofV at h;split at h
 ·obtain⟨y,hy,rfl⟩:=Ql h;exact QaU hy
 ·obtain⟨y,hy,rfl⟩:=Ql h;exact Qdf hy
theorem YL{hs:List SX}{s:St}{ok:Nat→Bool}(hf:s.tm.all (·.fr ok)=true):∀{xs:List Operand} {ps:List PX},Ko hs s xs=some ps→ps.all (·.fr ok)=true
 | [],ps,h=>by simp only [Ko,Option.some.injEq]at h;subst h;rfl
 |x :: xs,ps,h=>by
  unfold Ko at h;split at h
  ·rename_i p ps' h1 h2;cases h;rw [List.all_cons,YL hf h2,Bool.and_true];unfold evP at h1;split at h1
   ·rename_i p' hv;simp only [Option.some.injEq]at h1;subst h1;unfold evV at hv;split at hv
    ·rename_i t;split at hv
     ·cases hv
     ·rename_i c z hz;split at hv
      ·simp only [Option.some.injEq,VX.v.injEq]at hv;subst hv;have:=List.all_eq_true.1 hf _ (List.mem_of_getElem? hz);simp only [VX.fr,Bool.and_eq_true]at this;exact this.2
      ·cases hv
     ·exact List.all_eq_true.1 hf _ (List.mem_of_getElem? hv)
    ·rename_i u;obtain⟨q,hq,hqv⟩:=Ql hv;cases hqv;exact Qlg hq
    ·cases hv
   ·cases h1
  ·cases h
theorem XN(hS:C.map (·.sg)=G.sg)(hR:Rel C I G e0 w0 e s a w){hs:List SX}(hk:Kn C I e s hs a){o:Oper}{f:FuncId}{args:Array Operand}{at_:Array TypeId}(hop:o.op= .call ⟨.value (.func f),args,at_⟩){k:Nat}{g:Sg}{ps:List PX}
 (hf:JG f 0 G.sg=some (k,g)) (hps:Ko hs s args.toList=some ps) {c:Con P} (hck:C[k]?=some c) (hpre:c.pre (ps.map (·.dat e))) (hfx:Kq s g.args ps=true) :
 ∀K':Ending→World→Prop,(∀int bool w',Below w.heap.size w w'→c.post (ps.map (·.dat e)) int bool→K' (.returned (g.res.val int bool)) w')→Calls P f (args.map a.eval) w K'∧∀w,(execOp a.eval o).run P w= .ok (.enter f (args.map a.eval)) w:=by
 obtain⟨hgf,_,hgk⟩:=X5 hf
 have hcg:c.sg=g:=by
  rw [←hS,Nat.sub_zero,List.getElem?_map,hck]at hgk
  simpa using hgk
 obtain⟨fn,hfn,hnm,hbd⟩:=c.body;have hfit:=KS hR hfx;rw [←hcg]at hfit hgf;rw [hgf]at hfn;have hsound:=c.sound (ps.map (·.dat e)) w hfit hpre
 have hargs:(args.map a.eval)=((ps.map (·.dat e)).map (·.val)).toArray:=by
  apply Array.ext';rw [Array.toList_map,ZN hk hps];simp [PX.dat_val]
 refine fun K' hK'=>⟨?_,fun w=>?_⟩
 ·rw [hargs,←hgf];refine hsound.mono fun en w' hen=>?_
  obtain⟨int,bool,rfl,hb,hpost⟩:=hen;rw [hcg];exact hK' int bool w' hb hpost
 ·simp only [execOp,hop,Sem.run_bind,resolve,Act.eval,Deferred.ofValue,Sem.run_pure,Result.andThen_ok,invoke];rw [show(#[] ++ args.map a.eval) ++ #[]=args.map a.eval by simp]
  exact WS (x:=Sem.halt (.stuck "")) hfn hnm hbd
theorem Qal(hS:C.map (·.sg)=G.sg){f:FuncId}{k:Nat}{g:Sg}(hf:JG f 0 G.sg=some (k,g)){c:Con P}(hck:C[k]?=some c):c.sg=g:=by
 obtain⟨_,_,hgk⟩:=X5 hf;rw [←hS,Nat.sub_zero,List.getElem?_map,hck]at hgk
 simpa using hgk
theorem Rel.result(hR:Rel C I G e0 w0 e s a w){hs:List SX}{id k:Nat}{ps:List PX}{xs:List Operand}(hps:Ko hs s xs=some ps)(hid:G.n0≤id)(hfr:s.fr (· != id)=true){c:Con P}(hck:C[k]?=some c){int:Nat→Int}{bool:Nat→Bool}(hpost:c.post (ps.map (·.dat e)) int bool) :
 Rel C I G e0 w0 (e.res id int bool) {s with cd:= .f id k ps :: s.cd} a w:=by
 have hRg:=hR.off (Env.off_res e id int bool) hfr (QqT hid);have hi:(e.res id int bool).int id=int:=by simp [Env.res]
 have hbo:(e.res id int bool).bool id=bool:=by simp [Env.res]
 have hf:ps.all (·.fr (· != id))=true:=by
  simp only [St.fr,Bool.and_eq_true]at hfr;exact YL hfr.1.1.1 hps
 exact hRg.conds (cs:= [.f id k ps]) (fun x hx=>by
  rw [List.mem_singleton]at hx;subst hx;refine⟨c,hck,?_⟩;rw [hi,hbo,←List.map_congr_left fun x hx=>PX.dat_off (Env.off_res e id int bool) x (List.all_eq_true.1 hf x hx)]
  exact hpost)
theorem QhE(e:Env)(id:Nat)(int:Nat→Int)(bool:Nat→Bool)(r:RS):(r.inst id).sat (e.res id int bool) (r.val int bool):=by
 have:=inst_sat (e:=e.res id int bool) (d:=id) r;rwa [show(e.res id int bool).int id=int by simp [Env.res],show(e.res id int bool).bool id=bool by simp [Env.res]]at this
theorem KX(hS:C.map (·.sg)=G.sg){id:Nat}{o:Oper}{s':St}{os:List Ob}(h:Vc P G id o s=some (s',os))(hob:∀ob∈os,ob.ok C I G.n0 e0)
 (hR:Rel C I G e0 w0 e s a w) {K:Act→World→Prop} {Q:Exit→Act→World→Prop} (hK:∀e' a' w',Rel C I G e0 w0 e' s' a' w'→K a' w'):o.wp P a w K Q:=by
 have pure:((Jl P [] s o.op).map fun(v,xs)=>(s.put o.dst v,owe s xs))=some (s',os)→o.wp P a w K Q:=fun h=>by
  obtain⟨⟨v,xs⟩,hv,hp⟩:=Ql h;simp only [Prod.mk.injEq]at hp;obtain⟨rfl,rfl⟩:=hp;obtain⟨u,hu,hr⟩:=Xj hR.kn0 hR.base hv (hR.owed hob);unfold Oper.wp;rw [hr];exact hK _ _ _ (hR.put hu _)
 unfold Vc at h;split at h
 ·rename_i t hop;split at h
  ·rename_i hid;split at h
   ·rename_i z hz;obtain⟨cs,hcs,hp⟩:=Ql h;simp only [Prod.mk.injEq]at hp;obtain⟨rfl,rfl⟩:=hp;have hR1:=(hR.off (Env.off_at e id w.heap.size) hid.2 (QqT hid.1)).alloc (id:=id) (t:=t) (cs:=cs) (by simp [Env.at_])
    have hzi:∃i,P.info? t=some i∧i.zero=some z:=by
     cases hi:P.info? t with
     |none=>rw [hi]at hz;cases hz
     |some i=>rw [hi]at hz;exact⟨i,rfl,hz⟩
    obtain⟨i,hi,hz'⟩:=hzi
    have hcells:z.cells=(cs.map (·.den (e.at_ id w.heap.size))).toArray:=by
     rw [X7 hcs]
    unfold Oper.wp
    have:(execOp a.eval o).run P w= .ok (.value (.pointer (some ⟨w.heap.size,0,none⟩))) (w.alloc (.cells z.cells t)):=by
     simp only [execOp,hop];simp [Instr.alloc,zeroValue,typeInfo,hi,hz',newVar,newRow]
    rw [this,hcells];refine hK _ _ _ (hR1.put (v:= .v (.l (.p id 0))) ?_ _);simp [VX.sat,PX.den,LX.den,Env.at_]
   ·cases h
  ·cases h
 ·rename_i t x hop;split at h
  ·rename_i hid;obtain⟨p,hp0,hp⟩:=Ql h;simp only [Prod.mk.injEq]at hp;obtain⟨rfl,rfl⟩:=hp;have hRo:=hR.off (Env.off_at e id w.heap.size) hid.2 (QqT hid.1);have hR1:=hRo.alloc (id:=id) (t:=t) (cs:=p.cells) (by simp [Env.at_])
   have hcells:(a.eval x).cells=(p.cells.map (·.den (e.at_ id w.heap.size))).toArray:=by
    rw [Qi hRo.kn0 hp0,PX.cells_den]
   unfold Oper.wp
   have:(execOp a.eval o).run P w= .ok (.value (.pointer (some ⟨w.heap.size,0,none⟩))) (w.alloc (.cells (a.eval x).cells t)):=by
    simp only [execOp,hop];simp [Instr.box,newVar,newRow]
   rw [this,hcells];refine hK _ _ _ (hR1.put (v:= .v (.l (.p id 0))) ?_ _);simp [VX.sat,PX.den,LX.den,Env.at_]
  ·cases h
 ·rename_i t x hop;split at h
  ·rename_i p hp0;obtain⟨⟨v,xs⟩,hv,hp⟩:=Ql h;simp only [Prod.mk.injEq]at hp;obtain⟨rfl,rfl⟩:=hp;obtain⟨ad,had,hr⟩:=Jv hR hv (hR.owed hob);have hx:=Qi hR.kn0 hp0;simp only [PX.den,had]at hx;unfold Oper.wp
   have:(execOp a.eval o).run P w= .ok (.value (v.den e)) w:=by
    simp only [execOp,hop,hx];simp [Instr.loadAt,Instr.sureAddr,hr]
   rw [this];exact hK _ _ _ (hR.put (v:= .v v) rfl _)
  ·cases h
 ·rename_i t x y hop;split at h
  ·rename_i p v hp0 hv0;obtain⟨⟨s1,xs⟩,hv,hp⟩:=Ql h;simp only [Prod.mk.injEq]at hp;obtain⟨rfl,rfl⟩:=hp;obtain⟨ad,w1,had,hr,hR1⟩:=Wa hR hv (hR.owed hob);have hx:=Qi hR.kn0 hp0;simp only [PX.den,had]at hx;have hy:=Qi hR.kn0 hv0;unfold Oper.wp
   have:(execOp a.eval o).run P w= .ok .skip w1:=by
    simp only [execOp,hop,hx,hy];simp [Instr.storeAt,Instr.sureAddr,hr]
   rw [this];exact hK _ _ _ (hR1.put (v:= .un) rfl _)
  ·cases h
 ·rename_i f args at_ hop;split at h
  ·rename_i k g ps hk hps;split at h
   ·rename_i d hd;split at h
    ·rename_i hfx;cases h;obtain⟨c,hck,hpre⟩:=hob _ (List.mem_singleton.2 rfl) e hR.ex hR.cd;have hcg:=Qal hS hk hck
     have hdet:g.det=true:=by
      cases hg:g.det
      ·rw [hg]at hd;cases hd
      ·rfl
     rw [hdet,if_pos rfl]at hd;obtain⟨c',hc',hp'⟩:=hR.cd _ (Zp hd);rw [hck]at hc';cases hc'
     obtain⟨h1,h2⟩:=XN hS hR hR.kn0 hop hk hps hck hpre hfx (fun| .returned v,w'=>K (a.put o.dst v) w'| .panicked chain,w'=>Q (.panic chain) a w'| .outgrown,_=>LetsOut Q) (fun int bool w' hb hpost=>by
      have hv:=c.same (by rw [hcg];exact hdet) _ _ _ _ _ hpost hp'
      rw [hcg]at hv
      dsimp only
      refine hK _ _ _ ((hR.grow hb).put (v:=g.res.inst d) ?_ _);rw [hv];exact inst_sat g.res)
     unfold Oper.wp;rw [h2,Oper.upon_enter];exact h1
    ·cases h
   ·split at h
    ·rename_i hc;cases h;obtain⟨c,hck,hpre⟩:=hob _ (List.mem_singleton.2 rfl) e hR.ex hR.cd
     obtain⟨h1,h2⟩:=XN hS hR hR.kn0 hop hk hps hck hpre hc.1 (fun| .returned v,w'=>K (a.put o.dst v) w'| .panicked chain,w'=>Q (.panic chain) a w'| .outgrown,_=>LetsOut Q) (fun int bool w' hb hpost=>by
      dsimp only
      exact hK _ _ _ (((hR.grow hb).result hps hc.2.1 hc.2.2 hck hpost).put (v:=g.res.inst id) (QhE e id int bool g.res) _))
     unfold Oper.wp;rw [h2,Oper.upon_enter];exact h1
    ·cases h
  ·cases h
 ·rename_i hop;exact pure h
theorem W9(hS:C.map (·.sg)=G.sg){id:Nat}{o:Oper}{y:SX}{s':St}{os:List Ob}(h:KV P G id o y s=some (s',os))(hob:∀ob∈os,ob.ok C I G.n0 e0)
 (hR:Rel C I G e0 w0 e s a w):((y.den e).2=true→∀(K:Act→World→Prop) (Q:Exit→Act→World→Prop),(∀e' a' w',Rel C I G e0 w0 e' s' a' w'→K a' w')→o.wp P a w K Q)∧
   ((y.den e).2=false→∃e',Rel C I G e0 w0 e' s' (a.put o.dst undef) w):=by
 have yes:∀{x:PX} {e':Env},(y.den e').2=true→(VX.gd y x).sat e' (x.den e'):=fun h=>⟨fun _=>rfl,(fun h'=>by rw [h]at h';cases h')⟩
 have no:∀{x:PX} {e':Env},(y.den e').2=false→(VX.gd y x).sat e' undef:=fun h=>⟨(fun h'=>by rw [h]at h';cases h'),fun _=>rfl⟩
 have kn:(y.den e).2=true→Kn C I e s (QP y) a:=fun hy=>hR.kn (Zq.2 hy)
 have pure:∀x,Jl P (QP y) s o.op=some (.v x,[])→s'=s.put o.dst (.gd y x)→((y.den e).2=true→∀(K:Act→World→Prop) (Q:Exit→Act→World→Prop),(∀e' a' w',Rel C I G e0 w0 e' s' a' w'→K a' w')→o.wp P a w K Q)∧
  ((y.den e).2=false→∃e',Rel C I G e0 w0 e' s' (a.put o.dst undef) w):=fun x hx hs=>by
  subst hs;refine⟨fun hy K Q hK=>?_,fun hy=>⟨e,hR.put (no hy) _⟩⟩
  obtain⟨u,hu,hr⟩:=Xj (kn hy) hR.base hx (fun _ h=>(List.not_mem_nil h).elim)
  unfold Oper.wp;rw [hr];simp only [VX.sat]at hu;subst hu;exact hK _ _ _ (hR.put (yes hy) _)
 unfold KV at h;split at h
 ·rename_i t x hop;split at h
  ·rename_i p hp0;split at h
   ·rename_i v hv;cases h;refine⟨fun hy K Q hK=>?_,fun hy=>⟨e,hR.put (no hy) _⟩⟩
    obtain⟨ad,had,hr⟩:=Jv hR hv (fun _ h=>(List.not_mem_nil h).elim)
    have hx:=Qi (kn hy) hp0;simp only [PX.den,had]at hx;unfold Oper.wp
    have:(execOp a.eval o).run P w= .ok (.value (v.den e)) w:=by
     simp only [execOp,hop,hx];simp [Instr.loadAt,Instr.sureAddr,hr]
    rw [this];exact hK _ _ _ (hR.put (yes hy) _)
   ·cases h
  ·cases h
 ·rename_i f args at_ hop;split at h
  ·rename_i k g ps hk hps;split at h
   ·rename_i hc;split at h
    ·rename_i d hd;split at h
     ·rename_i x hx;cases h;refine⟨fun hy K Q hK=>?_,fun hy=>⟨e,hR.put (no hy) _⟩⟩
      obtain⟨c,hck,hpre⟩:=hob _ (List.mem_singleton.2 rfl) e hR.ex hR.cd;have hcg:=Qal hS hk hck;obtain⟨c',hc',hp'⟩:=hR.cd _ (Zp hd);rw [hck]at hc';cases hc'
      obtain⟨h1,h2⟩:=XN hS hR (kn hy) hop hk hps hck hpre hc.2 (fun| .returned v,w'=>K (a.put o.dst v) w'| .panicked chain,w'=>Q (.panic chain) a w'| .outgrown,_=>LetsOut Q) (fun int bool w' hb hpost=>by
       have hv:=c.same (by rw [hcg];exact hc.1) _ _ _ _ _ hpost hp'
       rw [hcg]at hv;have hi:=inst_sat (e:=e) (d:=d) g.res;rw [hx]at hi;simp only [VX.sat]at hi
       dsimp only
       rw [hv,hi];exact hK _ _ _ ((hR.grow hb).put (yes hy) _))
      unfold Oper.wp;rw [h2,Oper.upon_enter];exact h1
     ·cases h
    ·split at h
     ·rename_i hid;split at h
      ·rename_i x hx;cases h;obtain⟨c,hck,hpre⟩:=hob _ (List.mem_singleton.2 rfl) e hR.ex hR.cd;have hcg:=Qal hS hk hck;have hyf:=hid.2.2;refine⟨fun hy K Q hK=>?_,fun hy=>?_⟩
       ·obtain⟨h1,h2⟩:=XN hS hR (kn hy) hop hk hps hck hpre hc.2 (fun| .returned v,w'=>K (a.put o.dst v) w'| .panicked chain,w'=>Q (.panic chain) a w'| .outgrown,_=>LetsOut Q) (fun int bool w' hb hpost=>by
         dsimp only
         have hi:=QhE e id int bool g.res;rw [hx]at hi;simp only [VX.sat]at hi;rw [hi];exact hK _ _ _ (((hR.grow hb).result hps hid.1 hid.2.1 hck hpost).put (yes (by rw [←SX.den_off (Env.off_res e id int bool) y hyf];exact hy)) _))
        unfold Oper.wp;rw [h2,Oper.upon_enter];exact h1
       ·obtain⟨int,bool,hpost⟩:=c.total (by rw [hcg];exact hc.1) (ps.map (·.dat e))
        exact⟨_,(hR.result hps hid.1 hid.2.1 hck hpost).put (no (by rw [←SX.den_off (Env.off_res e id int bool) y hyf];exact hy)) _⟩
      ·cases h
     ·cases h
   ·cases h
  ·cases h
 ·rename_i hop;split at h
  ·rename_i x hx;cases h;exact pure x hx rfl
  ·cases h
end
end Go.Proofs.YteplnamfpodmlaaGreat
end
section
namespace Go.Proofs.YteplnamfpodmlaaGreat
theorem Jj{α:Type} [DecidableEq α]:∀{l:List α} {x:α},x∈l→x∈Wl l
 |y :: l,x,h=>by
  unfold Wl;split
  ·rename_i hy;rcases List.mem_cons.1 h with rfl|h
   ·exact Jj hy
   ·exact Jj h
  ·rcases List.mem_cons.1 h with rfl|h
   ·exact List.mem_cons_self ..
   ·exact List.mem_cons_of_mem _ (Jj h)
theorem ZO{α:Type}{f:α→α→Bool}(hf:∀x y,f x y=true→x=y):∀{xs ys:List α},bqL f xs ys=true→xs=ys
 | [],[],_=>rfl
 |x :: xs,y :: ys,h=>by
  simp only [bqL,Bool.and_eq_true]at h;rw [hf x y h.1,ZO hf h.2]
 | [],_ :: _,h=>by cases h
 |_ :: _,[],h=>by cases h
theorem SX.bq_eq:∀(x y:SX),x.bq y=true→x=y:=by
 intro x
 induction x <;> intro y h <;> cases y <;> first
  |(unfold SX.bq at h;exact absurd h Bool.false_ne_true)
  |(simp only [SX.bq,Bool.and_eq_true,beq_iff_eq,decide_eq_true_eq]at h;first|(subst h;rfl)|(simp_all;done)|skip)
 all_goals grind
theorem LX.bq_eq(x y:LX)(h:x.bq y=true):x=y:=by
 cases x <;> cases y <;> first
  |rfl
  |(unfold LX.bq at h;exact absurd h Bool.false_ne_true)
  |skip
 all_goals
  simp only [LX.bq,Bool.and_eq_true,beq_iff_eq,decide_eq_true_eq]at h
 all_goals grind [SX.bq_eq]
theorem PX.bq_eq(x y:PX)(h:x.bq y=true):x=y:=by
 cases x <;> cases y <;> first
  |(unfold PX.bq at h;exact absurd h Bool.false_ne_true)
  |(simp only [PX.bq]at h;rw [LX.bq_eq _ _ h])
  |(simp only [PX.bq]at h;rw [ZO LX.bq_eq h])
theorem VX.bq_eq(x y:VX)(h:x.bq y=true):x=y:=by
 cases x <;> cases y <;> first
  |rfl
  |(unfold VX.bq at h;exact absurd h Bool.false_ne_true)
  |(simp only [VX.bq]at h;rw [PX.bq_eq _ _ h])
  |(simp only [VX.bq]at h;rw [ZO PX.bq_eq h])
  |(simp only [VX.bq,Bool.and_eq_true]at h;rw [SX.bq_eq _ _ h.1,PX.bq_eq _ _ h.2])
theorem Bk.bq_eq(x y:Bk)(h:x.bq y=true):x=y:=by
 cases x;cases y;simp only [Bk.bq,Bool.and_eq_true,beq_iff_eq]at h;obtain⟨⟨rfl,rfl⟩,h⟩:=h;rw [ZO LX.bq_eq h]
theorem Cd.bq_eq(x y:Cd)(h:x.bq y=true):x=y:=by
 cases x <;> cases y <;> first
  |(unfold Cd.bq at h;exact absurd h Bool.false_ne_true)
  |skip
 ·simp only [Cd.bq,Bool.and_eq_true,beq_iff_eq]at h;rw [h.1,SX.bq_eq _ _ h.2]
 ·simp only [Cd.bq,Bool.and_eq_true,beq_iff_eq]at h;rw [h.1.1,h.1.2,ZO PX.bq_eq h.2]
 ·simp only [Cd.bq,Bool.and_eq_true,beq_iff_eq]at h;rw [h.1,h.2]
theorem St.bq_eq(x y:St)(h:x.bq y=true):x=y:=by
 cases x;cases y;simp only [St.bq,Bool.and_eq_true,beq_iff_eq,decide_eq_true_eq]at h;obtain⟨⟨⟨⟨h1,h2⟩,h3⟩,rfl⟩,rfl⟩:=h;rw [ZO VX.bq_eq h1,ZO Bk.bq_eq h2,ZO Cd.bq_eq h3]
theorem Wh(s:St):∀(l:List St),s∈Qbj s l
 | []=>List.mem_singleton.2 rfl
 |t :: ts=>by
  unfold Qbj;split
  ·rename_i h;rw [St.bq_eq _ _ h];exact List.mem_cons_self ..
  ·exact List.mem_cons_of_mem _ (Wh s ts)
theorem Wi(s:St):∀{l:List St} {x:St},x∈l→x∈Qbj s l
 |t :: ts,x,h=>by
  unfold Qbj;split
  ·exact h
  ·rcases List.mem_cons.1 h with rfl|h
   ·exact List.mem_cons_self ..
   ·exact List.mem_cons_of_mem _ (Wi s h)
theorem Tr.ins_new(s:St):∀(l pre:List Bool) (t:Tr),(pre.reverse ++ l,s)∈(t.ins s l).all pre
 | [],pre,.nil=>by simp [Tr.ins,Tr.all]
 | [],pre,.node ss a b=>by
   simp only [Tr.ins,Tr.all,List.append_nil];exact List.mem_append_left _ (List.mem_map.2 ⟨s,Wh s ss,rfl⟩)
 |true :: l,pre,.nil=>by
  have:=Tr.ins_new s l (true :: pre) .nil;simp only [List.reverse_cons,List.append_assoc,List.cons_append,List.nil_append]at this;simp only [Tr.ins,Tr.all];exact List.mem_append_right _ (List.mem_append_left _ this)
 |false :: l,pre,.nil=>by
  have:=Tr.ins_new s l (false :: pre) .nil;simp only [List.reverse_cons,List.append_assoc,List.cons_append,List.nil_append]at this;simp only [Tr.ins,Tr.all];exact List.mem_append_right _ (List.mem_append_right _ this)
 |true :: l,pre,.node ss a b=>by
  have:=Tr.ins_new s l (true :: pre) a;simp only [List.reverse_cons,List.append_assoc,List.cons_append,List.nil_append]at this;simp only [Tr.ins,Tr.all];exact List.mem_append_right _ (List.mem_append_left _ this)
 |false :: l,pre,.node ss a b=>by
  have:=Tr.ins_new s l (false :: pre) b;simp only [List.reverse_cons,List.append_assoc,List.cons_append,List.nil_append]at this;simp only [Tr.ins,Tr.all];exact List.mem_append_right _ (List.mem_append_right _ this)
theorem Tr.ins_old(s:St):∀(l pre:List Bool) (t:Tr) {e:List Bool×St},e∈t.all pre→e∈(t.ins s l).all pre
 | [],pre,.nil,e,h=>by cases h
 | [],pre,.node ss a b,e,h=>by
   simp only [Tr.ins,Tr.all]at h ⊢;rcases List.mem_append.1 h with h|h
   ·obtain⟨x,hx,rfl⟩:=List.mem_map.1 h;exact List.mem_append_left _ (List.mem_map.2 ⟨x,Wi s hx,rfl⟩)
   ·exact List.mem_append_right _ h
 |true :: l,pre,.nil,e,h=>by cases h
 |false :: l,pre,.nil,e,h=>by cases h
 |true :: l,pre,.node ss a b,e,h=>by
  simp only [Tr.ins,Tr.all]at h ⊢;rcases List.mem_append.1 h with h|h
  ·exact List.mem_append_left _ h
  ·rcases List.mem_append.1 h with h|h
   ·exact List.mem_append_right _ (List.mem_append_left _ (Tr.ins_old s l (true :: pre) a h))
   ·exact List.mem_append_right _ (List.mem_append_right _ h)
 |false :: l,pre,.node ss a b,e,h=>by
  simp only [Tr.ins,Tr.all]at h ⊢;rcases List.mem_append.1 h with h|h
  ·exact List.mem_append_left _ h
  ·rcases List.mem_append.1 h with h|h
   ·exact List.mem_append_right _ (List.mem_append_left _ h)
   ·exact List.mem_append_right _ (List.mem_append_right _ (Tr.ins_old s l (false :: pre) b h))
theorem Tr.fill_old:∀(es:List (List Bool×St)) (t:Tr) {e:List Bool×St},e∈t.all []→e∈(Tr.fill es t).all []
 | [],_,_,h=>h
 |x :: es,t,e,h=>Tr.fill_old es _ (Tr.ins_old x.2 x.1 [] t h)
theorem Tr.fill_new:∀(es:List (List Bool×St)) (t:Tr) {e:List Bool×St},e∈es→e∈(Tr.fill es t).all []
 |x :: es,t,e,h=>by
  rcases List.mem_cons.1 h with rfl|h
  ·exact Tr.fill_old es _ (Tr.ins_new e.2 e.1 [] t)
  ·exact Tr.fill_new es _ h
theorem V4{es:List (List Bool×St)}{e:List Bool×St}(h:e∈es):e∈QcC es:=Tr.fill_new es _ h
theorem Vp(ops:Array Oper)(l:List Bool):Qb2 ops l=Region.ready .any ops l.toArray:=by
 unfold Qb2 Region.ready;congr 1;funext i;congr 1
 ·simp
 ·unfold Qtd;rw [List.getElem?_map,Array.getElem?_toList];cases ops[i]? with
  |none=>rfl
  |some o=>
   simp only [Option.map_some,Option.getD_some];rw [←Array.all_toList,List.all_map,List.all_filter];congr 1;funext e;simp
theorem Qh8(ops:Array Oper)(l:List Bool)(i:Nat):QnH ops l i=Region.free .any ops l.toArray i:=by
 unfold QnH Region.free;cases hi:ops[i]? with
 |none=>rfl
 |some oi=>
  have hlt:i < ops.size:=by
   rcases Nat.lt_or_ge i ops.size with h|h
   ·exact h
   ·rw [Array.getElem?_eq_none h]at hi;cases hi
  have hw:(QlD ops)[i]?=some ((List.range ops.size).filter fun j=> !(j==i || match ops[j]? with
   |some oj=>oj.after.any (fun e=>Region.binds .any e && e.on==i) || oi.apart ops oj
   |none=>true)):=by
   unfold QlD;rw [List.getElem?_map,List.getElem?_range hlt];simp only [Option.map_some,hi]
   try rfl
  rw [hw];simp only [Option.isSome_some,Bool.true_and,Option.getD_some,List.all_filter];congr 1;funext j;have hg:l.toArray.getD j true=l.getD j true:=by simp
  rw [hg];cases hj:ops[j]? with
  |none=>cases h1:(j==i) <;> cases h2:l.getD j true <;> simp
  |some oj=>
   dsimp only
   generalize ((oj.after.any fun e=>Region.binds .any e && e.on==i) || Oper.apart ops oi oj)=x
   cases h1:(j==i) <;> cases h2:l.getD j true <;> cases x <;> simp
section
variable{P:Program}{C:List (Con P)}{I:List (Nat→Env→Prop)}{G:Cfg}{e0 e e':Env}{w0 w w':World}{s:St}{a:Act}
def Oks(C:List (Con P))(I:List (Nat→Env→Prop))(n0:Nat)(e0:Env)(os:List Ob):Prop:=∀ob∈os,ob.ok C I n0 e0
theorem Oks.sub{os os':List Ob}{n0:Nat}(h:Oks C I n0 e0 os')(hs:∀o∈os,o∈os'):Oks C I n0 e0 os:=fun o ho=>h o (hs o ho)
theorem Oks.left{os os':List Ob}{n0:Nat}(h:Oks C I n0 e0 (os ++ os')):Oks C I n0 e0 os:=h.sub fun o ho=>List.mem_append_left _ ho
theorem Oks.right{os os':List Ob}{n0:Nat}(h:Oks C I n0 e0 (os ++ os')):Oks C I n0 e0 os':=h.sub fun o ho=>List.mem_append_right _ ho
def JL(C:List (Con P))(I:List (Nat→Env→Prop))(G:Cfg)(e0:Env)(w0:World)(ss:List St)(a:Act)(w:World):Prop:=∃s∈ss,∃e,Rel C I G e0 w0 e s a w
theorem JL.mono{ss ss':List St}(h:JL C I G e0 w0 ss a w)(hs:∀s∈ss,s∈ss'):JL C I G e0 w0 ss' a w:=by
 obtain⟨s,hm,e,hR⟩:=h;exact⟨s,hs s hm,e,hR⟩
theorem JY{ops:Array Oper}{j:Nat}(ht:Z2 e s.tm a.tmps.toList){v:VX}(h:((ops[j]?).bind (·.dst)).bind (s.tm[·]?)=some v):∃t u,(ops[j]?).bind (·.dst)=some t∧a.tmps[t]?=some u∧v.sat e u:=by
 obtain⟨t,ht1,ht2⟩:=Option.bind_eq_some_iff.1 h;obtain⟨u,hu,hs⟩:=ht.get ht2;exact⟨t,u,ht1,by rw [←Array.getElem?_toList];exact hu,hs⟩
theorem Vt{y:SX}{r:Bool}(hc:∀c∈s.cd,c.holds C I e)(h:Qfx s.cd y=some r):(y.den e).2=r:=by
 unfold Qfx at h;split at h
 ·rename_i ha;cases h;refine Zq.1 fun z hz=>?_
  have:=List.all_eq_true.1 ha z hz;exact Zh hc (by simpa using this)
 ·split at h
  ·rename_i ha;cases h;obtain⟨z,hz,hz'⟩:=List.any_eq_true.1 ha;have h1:=Zh hc (show ask s.cd z=some false by simpa using hz')
   cases hy:(y.den e).2
   ·rfl
   ·have:=Zq.2 hy z hz;rw [h1]at this;cases this
  ·cases h
def Md.says(e:Env)(m:Md)(b:Bool):Prop:=
 match m with
 | .run=>b=true
 | .skip=>b=false
 | .spec y=>b=(y.den e).2
theorem Ks{id:Nat}{ops:Array Oper}{o:Oper}{l:List (Md×St)}(h:YN P G id ops o s=some l)(hR:Rel C I G e0 w0 e s a w) :
 ∃m s',(m,s')∈l∧Rel C I G e0 w0 e s' a w∧m.says e (Region.wanted o (yielded ops a.tmps)):=by
 have on:∀y:SX,Region.wanted o (yielded ops a.tmps)=(y.den e).2→∀l,(match Qfx s.cd y with
  |some true=>some [(Md.run,s)]
  |some false=>some [(.skip,s)]
  |none=>if(KV P G id o y s).isSome then some [(.spec y,s)]else some [(.run,{s with cd:=Zo y true ++ s.cd}),(.skip,{s with cd:=Zo y false ++ s.cd})])=some l→
   ∃m s',(m,s')∈l∧Rel C I G e0 w0 e s' a w∧m.says e (Region.wanted o (yielded ops a.tmps)):=by
  intro y hw l h;split at h
  ·rename_i hr;cases h;exact⟨_,s,List.mem_singleton.2 rfl,hR,by rw [hw];exact Vt hR.cd hr⟩
  ·rename_i hr;cases h;exact⟨_,s,List.mem_singleton.2 rfl,hR,by rw [hw];exact Vt hR.cd hr⟩
  ·split at h
   ·cases h;exact⟨_,s,List.mem_singleton.2 rfl,hR,hw⟩
   ·cases h;cases hx:(y.den e).2
    ·exact⟨.skip,_,List.mem_cons_of_mem _ (List.mem_singleton.2 rfl),hR.conds (Zt y false hx),by rw [hw,hx];rfl⟩
    ·exact⟨.run,_,List.mem_cons_self ..,hR.conds (Zt y true hx),by rw [hw,hx];rfl⟩
 have wantd:∀(x:SX) (want:Bool),((if want then x else x.mkNo).den e).2=((x.den e).2==want):=fun x want=>by
  cases want
  ·simp [SX.mkNo_den]
  ·simp
 unfold YN at h
 dsimp only at h
 split at h
 ·rename_i hg;cases h;exact⟨.run,s,List.mem_singleton.2 rfl,hR,by simp [Md.says,Region.wanted,hg]⟩
 ·rename_i j want hg;split at h
  ·rename_i hj;cases h;obtain⟨t,u,h1,h2,h3⟩:=JY hR.tm hj;refine⟨.skip,s,List.mem_singleton.2 rfl,hR,?_⟩;simp only [VX.sat]at h3;subst h3;simp [Md.says,Region.wanted,hg,yielded,h1,h2,undef]
  ·rename_i x hj;obtain⟨t,u,h1,h2,h3⟩:=JY hR.tm hj;simp only [VX.sat,PX.den,LX.den]at h3;subst h3;exact on _ (by rw [wantd];simp [Region.wanted,hg,yielded,h1,h2]) l h
  ·rename_i c x hj;obtain⟨t,u,h1,h2,h3⟩:=JY hR.tm hj;refine on _ ?_ l h;rw [SX.mkAn_den,wantd];simp only [VX.sat,PX.den,LX.den]at h3;cases hc:(c.den e).2
   ·have:=h3.2 hc;subst this;simp [Region.wanted,hg,yielded,h1,h2,undef]
   ·have:=h3.1 hc;subst this;simp [Region.wanted,hg,yielded,h1,h2]
  ·cases h
theorem ZQ{ops:Array Oper}{id:Nat}{o:Oper}:∀{l:List (Md×St)} {ss:List St} {os:List Ob},Kw P G ops id o l=some (ss,os)→
 (∀s',(.run,s')∈l→∃s'' os',Vc P G id o s'=some (s'',os')∧s''∈ss∧∀x∈os',x∈os)∧(∀s',(.skip,s')∈l→s'.put o.dst .un∈ss)∧
   (∀y s',(.spec y,s')∈l→∃s'' os',KV P G id o y s'=some (s'',os')∧s''∈ss∧∀x∈os',x∈os)
 | [],ss,os,h=>⟨fun s' h=>(List.not_mem_nil h).elim,fun s' h=>(List.not_mem_nil h).elim,fun y s' h=>(List.not_mem_nil h).elim⟩
 |(m,s1) :: rest,ss,os,h=>by
  cases m with
  |run=>
   unfold Kw at h;split at h
   ·rename_i s2 o1 ss' o2 h1 h2;cases h;obtain⟨i1,i2,i3⟩:=ZQ h2;refine⟨fun s' hm=>?_,fun s' hm=>?_,fun y s' hm=>?_⟩
    ·rcases List.mem_cons.1 hm with hm|hm
     ·cases hm;exact⟨s2,o1,h1,List.mem_cons_self ..,fun x hx=>List.mem_append_left _ hx⟩
     ·obtain⟨s3,o3,h3,h4,h5⟩:=i1 s' hm;exact⟨s3,o3,h3,List.mem_cons_of_mem _ h4,fun x hx=>List.mem_append_right _ (h5 x hx)⟩
    ·rcases List.mem_cons.1 hm with hm|hm
     ·cases hm
     ·exact List.mem_cons_of_mem _ (i2 s' hm)
    ·rcases List.mem_cons.1 hm with hm|hm
     ·cases hm
     ·obtain⟨s3,o3,h3,h4,h5⟩:=i3 y s' hm;exact⟨s3,o3,h3,List.mem_cons_of_mem _ h4,fun x hx=>List.mem_append_right _ (h5 x hx)⟩
   ·cases h
  |spec y0=>
   unfold Kw at h;split at h
   ·rename_i s2 o1 ss' o2 h1 h2;cases h;obtain⟨i1,i2,i3⟩:=ZQ h2;refine⟨fun s' hm=>?_,fun s' hm=>?_,fun y s' hm=>?_⟩
    ·rcases List.mem_cons.1 hm with hm|hm
     ·cases hm
     ·obtain⟨s3,o3,h3,h4,h5⟩:=i1 s' hm;exact⟨s3,o3,h3,List.mem_cons_of_mem _ h4,fun x hx=>List.mem_append_right _ (h5 x hx)⟩
    ·rcases List.mem_cons.1 hm with hm|hm
     ·cases hm
     ·exact List.mem_cons_of_mem _ (i2 s' hm)
    ·rcases List.mem_cons.1 hm with hm|hm
     ·cases hm;exact⟨s2,o1,h1,List.mem_cons_self ..,fun x hx=>List.mem_append_left _ hx⟩
     ·obtain⟨s3,o3,h3,h4,h5⟩:=i3 y s' hm;exact⟨s3,o3,h3,List.mem_cons_of_mem _ h4,fun x hx=>List.mem_append_right _ (h5 x hx)⟩
   ·cases h
  |skip=>
   unfold Kw at h;split at h
   ·rename_i ss' o2 h2;cases h;obtain⟨i1,i2,i3⟩:=ZQ h2;refine⟨fun s' hm=>?_,fun s' hm=>?_,fun y s' hm=>?_⟩
    ·rcases List.mem_cons.1 hm with hm|hm
     ·cases hm
     ·obtain⟨s3,o3,h3,h4,h5⟩:=i1 s' hm;exact⟨s3,o3,h3,List.mem_cons_of_mem _ h4,h5⟩
    ·rcases List.mem_cons.1 hm with hm|hm
     ·cases hm;exact List.mem_cons_self ..
     ·exact List.mem_cons_of_mem _ (i2 s' hm)
    ·rcases List.mem_cons.1 hm with hm|hm
     ·cases hm
     ·obtain⟨s3,o3,h3,h4,h5⟩:=i3 y s' hm;exact⟨s3,o3,h3,List.mem_cons_of_mem _ h4,h5⟩
   ·cases h
theorem VA{ops:Array Oper}{id:Nat}{o:Oper}:∀{l:List St} {ss:List St} {os:List Ob},Qaz P G ops id o l=some (ss,os)→s∈l→
 ∃g ss' os',YN P G id ops o s=some g∧Kw P G ops id o g=some (ss',os')∧(∀x∈ss',x∈ss)∧∀x∈os',x∈os
 |s1 :: rest,ss,os,h,hm=>by
  unfold Qaz at h;split at h
  ·rename_i a1 x1 b1 y1 h1 h2;cases h;rcases List.mem_cons.1 hm with hm|hm
   ·subst hm;obtain⟨g,hg,ho⟩:=Option.bind_eq_some_iff.1 h1;exact⟨g,a1,x1,hg,ho,fun x hx=>List.mem_append_left _ hx,fun x hx=>List.mem_append_left _ hx⟩
   ·obtain⟨g,s2,o2,h3,h4,h5,h6⟩:=VA h2 hm;exact⟨g,s2,o2,h3,h4,fun x hx=>List.mem_append_right _ (h5 x hx),fun x hx=>List.mem_append_right _ (h6 x hx)⟩
  ·cases h
theorem VB(hS:C.map (·.sg)=G.sg){ops:Array Oper}{i id:Nat}{o:Oper}(ho:ops[i]?=some o){l ss:List St}{os:List Ob}(h:Qaz P G ops id o l=some (ss,os))(hm:s∈l)(hob:Oks C I G.n0 e0 os)
 (hR:Rel C I G e0 w0 e s a w) {K:Act→World→Prop} {Q:Exit→Act→World→Prop} (hK:∀a' w',JL C I G e0 w0 ss a' w'→K a' w'):wpOp P ops Q i K a w:=by
 obtain⟨g,ss',os',hg,ho',h1,h2⟩:=VA h hm;obtain⟨m,s',hb,hR',hw⟩:=Ks hg hR;obtain⟨p1,p2,p3⟩:=ZQ ho';unfold wpOp;rw [ho]
 dsimp only
 cases m with
 |run=>
  simp only [Md.says]at hw;rw [if_pos hw];obtain⟨s'',o1,h3,h4,h5⟩:=p1 s' hb;exact .inl (KX hS h3 (fun ob hm=>hob ob (h2 ob (h5 ob hm))) hR' fun e' a' w' hr=>hK a' w' ⟨s'',h1 _ h4,e',hr⟩)
 |skip=>
  simp only [Md.says]at hw;rw [if_neg (by rw [hw];simp)]
  exact hK _ _ ⟨_,h1 _ (p2 s' hb),e,hR'.put (v:= .un) rfl _⟩
 |spec y=>
  simp only [Md.says]at hw;obtain⟨s'',o1,h3,h4,h5⟩:=p3 y s' hb;obtain⟨q1,q2⟩:=W9 hS h3 (fun ob hm=>hob ob (h2 ob (h5 ob hm))) hR'
  cases hy:(y.den e).2
  ·rw [if_neg (by rw [hw,hy];simp)]
   obtain⟨e',hr⟩:=q2 hy;exact hK _ _ ⟨_,h1 _ h4,e',hr⟩
  ·rw [if_pos (by rw [hw,hy])]
   exact .inl (q1 hy _ _ fun e' a' w' hr=>hK a' w' ⟨s'',h1 _ h4,e',hr⟩)
theorem KZ(hS:C.map (·.sg)=G.sg){ops:Array Oper}{nx:Nat}{Q:Exit→Act→World→Prop}:∀{is:List Nat} {l ss:List St} {os:List Ob},WC P G ops nx is l=some (ss,os)→Oks C I G.n0 e0 os→
 (∀a' w',JL C I G e0 w0 ss a' w'→Q .normal a' w')→∀{a:Act} {w:World},JL C I G e0 w0 l a w→wpOps P ops Q is a w
 | [],l,ss,os,h,_,hQ,a,w,hs=>by
   simp only [WC,Option.some.injEq,Prod.mk.injEq]at h;obtain⟨rfl,rfl⟩:=h;exact hQ a w hs
 |i :: is,l,ss,os,h,hob,hQ,a,w,hs=>by
  unfold WC at h;split at h
  ·cases h
  ·rename_i o ho;split at h
   ·rename_i l' o1 h1;obtain⟨⟨r,o2⟩,h2,hp⟩:=Ql h;simp only [Prod.mk.injEq]at hp;obtain⟨rfl,rfl⟩:=hp;obtain⟨s,hm,e,hR⟩:=hs;rw [wpOps_cons];exact VB hS ho h1 hm hob.left hR fun a' w' hs'=>KZ hS h2 hob.right hQ hs'
   ·cases h
theorem Y1{ops:Array Oper}{nx:Nat}{l:List Bool}:∀{is:List Nat} {r:List (List Bool×St)} {os:List Ob},Kv.all P G ops nx l s is=some (r,os)→∀i∈is,∃r' os',Kv.one P G ops nx l s i=some (r',os')∧(∀x∈r',x∈r)∧∀x∈os',x∈os
 |i0 :: is,r,os,h,i,hi=>by
  unfold Kv.all at h;split at h
  ·rename_i a1 x1 b1 y1 h1 h2;cases h;rcases List.mem_cons.1 hi with hi|hi
   ·subst hi;exact⟨a1,x1,h1,fun x hx=>List.mem_append_left _ hx,fun x hx=>List.mem_append_left _ hx⟩
   ·obtain⟨r',o',h3,h4,h5⟩:=Y1 h2 i hi;exact⟨r',o',h3,fun x hx=>List.mem_append_right _ (h4 x hx),fun x hx=>List.mem_append_right _ (h5 x hx)⟩
  ·cases h
theorem Y2{ops:Array Oper}{nx i:Nat}{l:List Bool}{r:List (List Bool×St)}{os:List Ob}(h:Kv.one P G ops nx l s i=some (r,os)) :
 ∃o ss,ops[i]?=some o∧Qaz P G ops (nx+i) o [s]=some (ss,os)∧∀s'∈ss,(l.set i true,s')∈r:=by
 unfold Kv.one at h;split at h
 ·cases h
 ·rename_i o ho;obtain⟨⟨ss,o1⟩,h1,hp⟩:=Ql h;simp only [Prod.mk.injEq]at hp;obtain⟨rfl,rfl⟩:=hp;exact⟨o,ss,ho,h1,fun s' hs'=>List.mem_map.2 ⟨s',hs',rfl⟩⟩
theorem Qb1{id:Nat}{o:Oper}{s':St}{os:List Ob}(hp:Kt o.op=true)(h:Vc P G id o s=some (s',os)):((Jl P [] s o.op).map fun(v,xs)=>(s.put o.dst v,owe s xs))=some (s',os):=by
 obtain⟨dst,op,type,pos,after,guard⟩:=o;unfold Vc at h
 dsimp only at h hp ⊢
 split at h <;> first
  |(simp [Kt]at hp;done)
  |exact h
theorem Qb0{id:Nat}{o:Oper}{y:SX}{s':St}{os:List Ob}(hp:Kt o.op=true)(h:KV P G id o y s=some (s',os)):∃x,Jl P (QP y) s o.op=some (.v x,[])∧s'=s.put o.dst (.gd y x):=by
 obtain⟨dst,op,type,pos,after,guard⟩:=o;unfold KV at h
 dsimp only at h hp ⊢
 split at h
 ·simp [Kt]at hp
 ·simp [Kt]at hp
 ·split at h
  ·rename_i x hx;cases h;exact⟨x,hx,rfl⟩
  ·cases h
theorem JU{ops:Array Oper}{nx:Nat}:∀{es es':List (List Bool×St)} {os:List Ob},YQ P G ops nx es=some (es',os)→∀{l:List Bool} {s:St},(l,s)∈es→∃r os',Kv P G ops nx l s=some (r,os')∧(∀x∈r,x∈es')∧∀x∈os',x∈os
 |(l0,s0) :: es,es',os,h,l,s,hm=>by
  unfold YQ at h;split at h
  ·rename_i a1 x1 b1 y1 h1 h2;cases h;rcases List.mem_cons.1 hm with hm|hm
   ·cases hm;exact⟨a1,x1,h1,fun x hx=>List.mem_append_left _ hx,fun x hx=>List.mem_append_left _ hx⟩
   ·obtain⟨r',o',h3,h4,h5⟩:=JU h2 hm;exact⟨r',o',h3,fun x hx=>List.mem_append_right _ (h4 x hx),fun x hx=>List.mem_append_right _ (h5 x hx)⟩
  ·cases h
theorem K5{ops:Array Oper}{nx:Nat}:∀{n:Nat} {es:List (List Bool×St)} {ss:List St} {os:List Ob},KO P G ops nx n es=some (ss,os)→∀{l:List Bool} {s:St},(l,s)∈es→Region.ready .any ops l.toArray= []→s∈ss
 |0,es,ss,os,h,l,s,hm,_=>by
  unfold KO at h;split at h
  ·cases h;exact Jj (List.mem_map.2 ⟨(l,s),hm,rfl⟩)
  ·cases h
 |n+1,es,ss,os,h,l,s,hm,hr=>by
  unfold KO at h;split at h
  ·rename_i es' o1 h1;obtain⟨⟨r,o2⟩,h2,hp⟩:=Ql h;simp only [Prod.mk.injEq]at hp;obtain⟨rfl,rfl⟩:=hp;obtain⟨r',o',h3,h4,_⟩:=JU h1 hm;unfold Kv at h3;rw [Vp,hr]at h3;simp only [Option.some.injEq,Prod.mk.injEq]at h3;obtain⟨rfl,rfl⟩:=h3;exact K5 h2 (V4 (h4 _ (List.mem_singleton.2 rfl))) hr
  ·cases h
theorem KP(hS:C.map (·.sg)=G.sg){ops:Array Oper}(hsel:Region.noSelect ops=true){nx:Nat}{Q:Exit→Act→World→Prop}(hpan:∀c a w,¬Q (.panic c) a w):∀{n:Nat} {es:List (List Bool×St)} {ss:List St} {os:List Ob},
 KO P G ops nx n es=some (ss,os)→Oks C I G.n0 e0 os→(∀a' w',JL C I G e0 w0 ss a' w'→Q .normal a' w')→∀{l:List Bool} {s:St} {e:Env} {a:Act} {w:World},(l,s)∈es→Rel C I G e0 w0 e s a w→wpAny P .any ops Q n l.toArray a w
 |0,es,ss,os,h,_,hQ,l,s,e,a,w,hm,hR=>by
  have hfin:=K5 h hm;unfold KO at h;split at h
  ·rename_i hall;have:=List.all_eq_true.1 hall (l,s) hm;simp only [List.isEmpty_iff,Vp]at this;exact⟨this,hQ a w ⟨s,hfin this,e,hR⟩⟩
  ·cases h
 |n+1,es,ss,os,h,hob,hQ,l,s,e,a,w,hm,hR=>by
  have hfin:=K5 h hm;by_cases hr:Region.ready .any ops l.toArray= []
  ·exact wpAny_done hr (hQ a w ⟨s,hfin hr,e,hR⟩) _
  unfold KO at h;split at h
  ·rename_i es' o1 h1;obtain⟨⟨r,o2⟩,h2,hp⟩:=Ql h;simp only [Prod.mk.injEq]at hp;obtain⟨rfl,rfl⟩:=hp;obtain⟨r',o',h3,h4,h5⟩:=JU h1 hm
   have next:∀{i:Nat} {s':St} {e':Env} {a':Act} {w':World},(l.set i true,s')∈r'→Rel C I G e0 w0 e' s' a' w'→wpAny P .any ops Q n (l.toArray.setIfInBounds i true) a' w':=fun {i s' e' a' w'} hm' hR'=>by
    have:=KP hS hsel hpan h2 hob.right hQ (V4 (h4 _ hm')) hR';rwa [show(l.set i true).toArray=l.toArray.setIfInBounds i true by simp]at this
   have hob1:Oks C I G.n0 e0 o':=hob.left.sub h5;unfold Kv at h3;rw [Vp]at h3
   dsimp only at h3
   split at h3
   ·rename_i h0;exact absurd h0 hr
   ·split at h3
    ·rename_i i hi;have hir:=List.mem_of_find?_eq_some hi;have hip:=List.find?_some hi;simp only [Bool.and_eq_true,Qh8]at hip;obtain⟨o,ss',ho,hrun,hall⟩:=Y2 h3;rw [ho]at hip;simp only [Option.map_some,Option.getD_some]at hip;obtain⟨g,ss1,os1,hg,hop,m1,m2⟩:=VA hrun (List.mem_singleton.2 rfl);obtain⟨m,s1,hb,hR1,hw⟩:=Ks hg hR;obtain⟨p1,p2,p3⟩:=ZQ hop;cases m with
     |run=>
      simp only [Md.says]at hw;obtain⟨s2,o3,h6,h7,h8⟩:=p1 s1 hb;obtain⟨⟨v,xs⟩,hv,hvp⟩:=Ql (Qb1 hip.1 h6);simp only [Prod.mk.injEq]at hvp;obtain⟨rfl,rfl⟩:=hvp;obtain⟨u,hu,hrun'⟩:=Xj hR1.kn0 hR1.base hv (hR1.owed fun ob hm=>hob1 ob (m2 ob (h8 ob hm)))
      exact wpAny_take ho hsel hip.2 (by simpa using hir) (fun c a w hq=>absurd hq (hpan c _ w)) (.inl ⟨hw,hrun'⟩) (next (hall _ (m1 _ h7)) (hR1.put hu _))
     |skip=>
      simp only [Md.says]at hw;exact wpAny_take ho hsel hip.2 (by simpa using hir) (fun c a w hq=>absurd hq (hpan c _ w)) (.inr ⟨hw,rfl⟩) (next (hall _ (m1 _ (p2 s1 hb))) (hR1.put (v:= .un) rfl _))
     |spec y=>
      simp only [Md.says]at hw;obtain⟨s2,o3,h6,h7,h8⟩:=p3 y s1 hb;obtain⟨x,hx,rfl⟩:=Qb0 hip.1 h6;cases hy:(y.den e).2
      ·exact wpAny_take ho hsel hip.2 (by simpa using hir) (fun c a w hq=>absurd hq (hpan c _ w)) (.inr ⟨by rw [hw,hy],rfl⟩) (next (hall _ (m1 _ h7)) (hR1.put (v:= .gd y x) ⟨(fun h'=>by rw [hy]at h';cases h'),fun _=>rfl⟩ _))
      ·obtain⟨u,hu,hrun'⟩:=Xj (hR1.kn (Zq.2 hy)) hR1.base hx (fun _ h=>(List.not_mem_nil h).elim)
       exact wpAny_take ho hsel hip.2 (by simpa using hir) (fun c a w hq=>absurd hq (hpan c _ w)) (.inl ⟨by rw [hw,hy],hrun'⟩) (next (hall _ (m1 _ h7)) (hR1.put (v:= .gd y x) ⟨fun _=>hu,(fun h'=>by rw [hy]at h';cases h')⟩ _))
    ·refine⟨fun h0=>absurd h0 hr,fun i hi=>?_⟩
     obtain⟨r1,os1,h6,h7,h8⟩:=Y1 h3 i hi;obtain⟨o,ss',ho,hrun,hall⟩:=Y2 h6
     exact VB hS ho hrun (List.mem_singleton.2 rfl) (hob1.sub h8) hR fun a' w' hs'=>by
      obtain⟨s',hs1,e',hR'⟩:=hs';exact next (h7 _ (hall s' hs1)) hR'
  ·cases h
end
def Ex.exit:Ex→Exit
 | .nor=> .normal
 | .ex id=> .exit id
 | .rt=> .ret
section
variable{P:Program}{C:List (Con P)}{I:List (Nat→Env→Prop)}
def Jr(C:List (Con P))(I:List (Nat→Env→Prop))(G:Cfg)(e0:Env)(w0:World)(es:List (Ex×St)):Exit→Act→World→Prop:=fun x a w=>∃y s,(y,s)∈es∧y.exit=x∧∃e,Rel C I G e0 w0 e s a w
theorem Ym{G:Cfg}{e0 e:Env}{w0 w:World}{s:St}{a:Act}(hS:C.map (·.sg)=G.sg)(hmix:P.follows .mixedOrders=true){id:Nat}{ops:Array Oper}{draw:Bool}{ss:List St}{os:List Ob}(h:YW P G ops draw s=some (ss,os))(hob:Oks C I G.n0 e0 os)
 (hR:Rel C I G e0 w0 e s a w):(Code.region id ops draw).wp P (fun x a w=>x= .normal∧JL C I G e0 w0 ss a w) a w:=by
 unfold YW at h
 dsimp only at h
 obtain⟨⟨ss',os'⟩,h1,hp⟩:=Ql h;simp only [Prod.mk.injEq]at hp;obtain⟨rfl,rfl⟩:=hp;have hob':Oks C I G.n0 e0 os':=hob.sub fun o ho=>Jj ho
 have fin:∀a' w',JL C I G e0 w0 ss' a' w'→JL C I G e0 w0 (ss'.map fun s'=>{s' with nx:=s.nx+ops.size}) a' w':=fun a' w' hs=>by
  obtain⟨s',hm,e',hR'⟩:=hs;exact⟨_,List.mem_map.2 ⟨s',hm,rfl⟩,e',hR'.nx _⟩
 cases draw with
 |false=>
  simp only [Bool.false_eq_true,if_false]at h1;exact wp_region (KZ hS h1 hob' (fun a' w' hs=>⟨rfl,fin a' w' hs⟩) ⟨s,List.mem_singleton.2 rfl,e,hR⟩)
 |true=>
  simp only [if_true]at h1;split at h1
  ·rename_i hsel;refine wp_region_any hmix ?_;have:=KP (Q:=fun x a w=>x= .normal∧JL C I G e0 w0 (ss'.map fun s'=>{s' with nx:=s.nx+ops.size}) a w) hS hsel (fun c a w hq=>by cases hq.1) h1 hob' (fun a' w' hs=>⟨rfl,fin a' w' hs⟩) (List.mem_singleton.2 rfl) hR.drew
   simpa using this
  ·cases h1
theorem KH{f:St→Option (List (Ex×St)×List Ob)}:∀{es r:List (Ex×St)} {os:List Ob},VF f es=some (r,os)→∀{x:Ex} {s:St},(x,s)∈es→
 (x= .nor→∃r' os',f s=some (r',os')∧(∀z∈r',z∈r)∧∀z∈os',z∈os)∧(x≠ .nor→(x,s)∈r)
 |(x0,s0) :: es,r,os,h,x,s,hm=>by
  unfold VF at h;split at h
  ·rename_i heq;cases heq
  ·rename_i s1 r1 heq;cases heq;split at h
   ·rename_i a1 x1 b1 y1 h1 h2;cases h;rcases List.mem_cons.1 hm with hm|hm
    ·cases hm;exact⟨fun _=>⟨a1,x1,h1,fun z hz=>List.mem_append_left _ hz,fun z hz=>List.mem_append_left _ hz⟩,fun hn=>absurd rfl hn⟩
    ·obtain⟨i1,i2⟩:=KH h2 hm;refine⟨fun hx=>?_,fun hn=>List.mem_append_right _ (i2 hn)⟩
     obtain⟨r',o',h3,h4,h5⟩:=i1 hx;exact⟨r',o',h3,fun z hz=>List.mem_append_right _ (h4 z hz),fun z hz=>List.mem_append_right _ (h5 z hz)⟩
   ·cases h
  ·rename_i y r1 hne heq;cases heq;obtain⟨⟨b1,y1⟩,h2,hp⟩:=Ql h;simp only [Prod.mk.injEq]at hp;obtain⟨rfl,rfl⟩:=hp;rcases List.mem_cons.1 hm with hm|hm
   ·cases hm;exact⟨fun hx=>by subst hx;exact absurd rfl (hne _),fun _=>List.mem_cons_self ..⟩
   ·obtain⟨i1,i2⟩:=KH h2 hm;exact⟨fun hx=>by obtain⟨r',o',h3,h4,h5⟩:=i1 hx;exact⟨r',o',h3,fun z hz=>List.mem_cons_of_mem _ (h4 z hz),h5⟩,fun hn=>List.mem_cons_of_mem _ (i2 hn)⟩
theorem Vq{G:Cfg}{e0:Env}{w0:World}{es r:List (Ex×St)}{os:List Ob}{f:St→Option (List (Ex×St)×List Ob)}(h:VF f es=some (r,os)){K:Act→World→Prop}
 (hK:∀s r' os' e a w,f s=some (r',os')→(∀z∈r',z∈r)→(∀z∈os',z∈os)→Rel C I G e0 w0 e s a w→K a w) :
 ∀x a w,Jr C I G e0 w0 es x a w→Exit.then K (Jr C I G e0 w0 r) x a w:=fun x a w hp=>by
 obtain⟨y,s,hm,rfl,e,hR⟩:=hp;obtain⟨i1,i2⟩:=KH h hm;cases y with
 |nor=>
  obtain⟨r',o',h3,h4,h5⟩:=i1 rfl;exact hK s r' o' e a w h3 h4 h5 hR
 |ex id=>exact⟨_,s,i2 (by simp),rfl,e,hR⟩
 |rt=>exact⟨_,s,i2 (by simp),rfl,e,hR⟩
theorem Jr.mono{G:Cfg}{e0:Env}{w0:World}{es r:List (Ex×St)}(h:∀z∈es,z∈r):∀x a w,Jr C I G e0 w0 es x a w→Jr C I G e0 w0 r x a w:=fun x a w hp=>by
 obtain⟨y,s,hm,rfl,e,hR⟩:=hp;exact⟨y,s,h _ hm,rfl,e,hR⟩
theorem JQ{G:Cfg}{e0:Env}{w0:World}{c:Code}{f:St→Option (List (Ex×St)×List Ob)}
 (hf:∀s es os e a w,f s=some (es,os)→Oks C I G.n0 e0 os→Rel C I G e0 w0 e s a w→c.wp P (Jr C I G e0 w0 es) a w) :
 ∀(m:Nat) (s:St) (r rr:List (Ex×St)) (os:List Ob) (e:Env) (a:Act) (w:World),Vk f m s=some (r,os)→(∀z∈r,z∈rr)→Oks C I G.n0 e0 os→Rel C I G e0 w0 e s a w→Code.rounds P c (Jr C I G e0 w0 rr) m a w
 |0,_,_,_,_,_,_,_,h,_,_,_=>by cases h
 |m+1,s,r,rr,os,e,a,w,h,hrr,hob,hR=>by
  unfold Vk at h;split at h
  ·rename_i es o1 h1;obtain⟨⟨r2,o2⟩,h2,hp⟩:=Ql h;simp only [Prod.mk.injEq]at hp;obtain⟨rfl,rfl⟩:=hp;rw [rounds_succ];refine wp_mono (hf s es o1 e a w h1 hob.left hR) fun x a' w' hpx=>?_
   have:=Vq h2 (K:=Code.rounds P c (Jr C I G e0 w0 rr) m) (fun s' r' o' e' a'' w'' h3 h4 h5 hR'=>JQ hf m s' r' rr o' e' a'' w'' h3 (fun z hz=>hrr z (h4 z hz)) (hob.right.sub h5) hR') x a' w' hpx
   cases x <;> first
    |exact this
    |exact Jr.mono hrr _ _ _ this
  ·cases h
end
end Go.Proofs.YteplnamfpodmlaaGreat
end
section
namespace Go.Proofs.YteplnamfpodmlaaGreat
section
variable{e e':Env}
theorem Z2.set':∀{xs:List VX} {vs:List Value} (t:Nat) {x:VX},Z2 e xs vs→(∀v,vs[t]?=some v→x.sat e v)→Z2 e (xs.set t x) vs
 | [],[],_,_,_,_=>trivial
 | [],_ :: _,_,_,h,_=>h.elim
 |_ :: _,[],_,_,h,_=>h.elim
 |_ :: _,v :: _,0,_,h,hx=>⟨hx v rfl,h.2⟩
 |_ :: _,_ :: _,t+1,_,h,hx=>⟨h.1,Z2.set' t h.2 fun v hv=>hx v (by simpa using hv)⟩
theorem Qe8{tm:List VX}{vs:List Value}(h:Z2 e tm vs):∀(ts:List Nat),Z2 e (QaB tm ts) vs
 | []=>h
 |t :: ts=>(Qe8 h ts).set' t fun _ _=>trivial
theorem Qn8{ok:Nat→Bool}{tm:List VX}(h:tm.all (·.fr ok)=true):∀(ts:List Nat),(QaB tm ts).all (·.fr ok)=true
 | []=>h
 |t :: ts=>by
  have:=Qn8 h ts;rw [List.all_eq_true]at this ⊢;intro x hx;unfold QaB at hx;rcases List.mem_or_eq_of_mem_set hx with h1|rfl
  ·exact this x h1
  ·rfl
theorem Qa2{s:St}:∀{sl:List (Nat×Option IntKind)} {xs:List LX},Jm s sl=some xs→∀(i t:Nat) (k:Option IntKind),sl[i]?=some (t,k)→∃x,xs[i]?=some x∧s.tm[t]?=some (.v (.l x))∧(match k with|some k=>∃y,x= .n k y|none=>∃y,x= .t y)
 | [],_,_,i,t,k,hi=>by simp at hi
 |(t0,k0) :: r,xs,h,i,t,k,hi=>by
  unfold Jm at h;split at h
  ·rename_i k' x k1 l h1 h2;split at h
   ·rename_i hk;subst hk;cases h;cases i with
    |zero=>simp only [List.getElem?_cons_zero,Option.some.injEq,Prod.mk.injEq]at hi;obtain⟨rfl,rfl⟩:=hi;exact⟨_,rfl,h1,_,rfl⟩
    |succ i=>simp only [List.getElem?_cons_succ]at hi ⊢;exact Qa2 h2 i t k hi
   ·cases h
  ·rename_i x l h1 h2;cases h;cases i with
   |zero=>simp only [List.getElem?_cons_zero,Option.some.injEq,Prod.mk.injEq]at hi;obtain⟨rfl,rfl⟩:=hi;exact⟨_,rfl,h1,_,rfl⟩
   |succ i=>simp only [List.getElem?_cons_succ]at hi ⊢;exact Qa2 h2 i t k hi
  ·cases h
theorem QsN{d:Nat}{xs:List LX}{i:Nat}{x:LX}{k:Option IntKind}(hx:xs[i]?=some x)(hk:match k with|some k=>∃y,x= .n k y|none=>∃y,x= .t y):(JP d i k).den (e.upd d xs)=x.den e:=by
 cases k with
 |none=>obtain⟨y,rfl⟩:=hk;simp [JP,LX.den,SX.den,Env.upd,hx]
 |some k=>obtain⟨y,rfl⟩:=hk;simp [JP,LX.den,SX.den,Env.upd,hx]
theorem QcM{d:Nat}{vs:List Value}{tm:List VX}(hs:Z2 e tm vs):∀(sl:List (Nat×Option IntKind)) (j:Nat),(∀(i t:Nat) (k:Option IntKind),sl[i]?=some (t,k)→∀v,vs[t]?=some v→v=(JP d (j+i) k).den e)→Z2 e (Yh d tm j sl) vs
 | [],_,_=>hs
 |(t,k) :: r,j,h=>by
  unfold Yh;refine Z2.set' t (QcM hs r (j+1) fun i t' k' hi v hv=>?_) fun v hv=>?_
  ·rw [show j+1+i=j+(i+1)by omega]
   exact h (i+1) t' k' (by simpa using hi) v hv
  ·exact h 0 t k rfl v hv
theorem QfM(e:Env)(d:Nat)(xs:List LX):Env.off (fun x=>decide (x < d)) e (e.upd d xs):=fun x hx=>by
 simp only [decide_eq_true_eq]at hx;have:¬x=d:=by omega
 simp [Env.upd,this]
theorem Ya{d:Nat}(h:Env.agr d e e'):Env.off (fun x=>decide (x < d)) e e':=fun x hx=>by
 simp only [decide_eq_true_eq]at hx;have:=h x hx;exact⟨this.1.symm,this.2.1.symm,this.2.2.1.symm,this.2.2.2.symm⟩
theorem Env.agr_refl(n:Nat)(e:Env):Env.agr n e e:=fun _ _=>⟨rfl,rfl,rfl,rfl⟩
theorem Env.agr_trans{n m:Nat}{e0 e1 e2:Env}(h:Env.agr n e0 e1)(h':Env.agr m e1 e2)(hm:n≤m):Env.agr n e0 e2:=fun x hx=>by
 have h1:=h x hx;have h2:=h' x (by omega)
 exact⟨h2.1.trans h1.1,h2.2.1.trans h1.2.1,h2.2.2.1.trans h1.2.2.1,h2.2.2.2.trans h1.2.2.2⟩
theorem Env.agr_upd(e:Env)(d:Nat)(xs:List LX):Env.agr d e (e.upd d xs):=fun x hx=>by
 have:¬x=d:=by omega
 simp [Env.upd,this]
theorem Qdu{ok:Nat→Bool}{e2:Env}(ho:Env.off ok e' e2):∀{xs ys:List VX} {vs:List Value},Qad xs ys=true→xs.all (·.fr ok)=true→Z2 e' ys vs→Z2 e2 xs vs
 | [],[],vs,_,_,h=>by cases vs with|nil=>trivial|cons _ _=>exact h.elim
 |x :: xs,y :: ys,[],_,_,h=>h.elim
 |x :: xs,y :: ys,v :: vs,hs,hf,h=>by
  simp only [Qad,Bool.and_eq_true,Bool.or_eq_true,beq_iff_eq]at hs;simp only [List.all_cons,Bool.and_eq_true]at hf;refine⟨?_,Qdu ho hs.2 hf.2 h.2⟩;rcases hs.1 with rfl|rfl
  ·trivial
  ·exact VX.sat_off ho _ hf.1 _ h.1
 | [],_ :: _,_,hs,_,_=>by simp [Qad]at hs
 |_ :: _,[],_,hs,_,_=>by simp [Qad]at hs
end
section
variable{P:Program}{C:List (Con P)}{I:List (Nat→Env→Prop)}
theorem Oks.base{n0 d:Nat}{e0 e1:Env}{os:List Ob}(h:Oks C I n0 e0 os)(h1:Env.agr n0 e0 e1)(hd:n0≤d):Oks C I d e1 os:=fun ob hm=>by
 have:=h ob hm;cases ob with
 |cl cd x=>exact fun e he hc=>this e (Env.agr_trans h1 he hd) hc
 |pre cd k args=>exact fun e he hc=>this e (Env.agr_trans h1 he hd) hc
 |inv cd k d' xs=>exact fun e he hc=>this e (Env.agr_trans h1 he hd) hc
theorem Rel.rebase{G G':Cfg}{e0 e1 e:Env}{w0 w:World}{s:St}{a:Act}(h:Rel C I G e0 w0 e s a w)(hx:Env.agr G'.n0 e1 e):Rel C I G' e1 w0 e s a w:=⟨h.df,h.tm,h.hp,h.inj,h.rw,h.bl,h.cd,hx⟩
theorem Y3{e:Env}{s:St}{a:Act}(ht:Z2 e s.tm a.tmps.toList){t:Nat}{x:SX}(h:VZ s t=some x):∃k,a.tmps[t]?=some (.int k (x.den e).1):=by
 unfold VZ at h;split at h
 ·rename_i k x' hx;cases h;obtain⟨v,hv,hs⟩:=ht.get hx;simp only [VX.sat]at hs;subst hs;exact⟨k,by rw [←Array.getElem?_toList];exact hv⟩
 ·cases h
theorem JW{k d:Nat}{sl:List (Nat×Option IntKind)}{c:Nat}{up:SX}{tm0:List VX}{h:St}{hp0:List Bk}{rw0:List Rw}:∀{es r:List (Ex×St)} {os:List Ob},KE k d sl c up tm0 h hp0 rw0 es=some (r,os)→∀{y:Ex} {s:St},(y,s)∈es→
 (y≠ .nor→(y,s)∈r)∧(y= .nor→∃xs x x',Jm s sl=some xs∧VZ h c=some x∧VZ s c=some x'∧Qad tm0 s.tm=true∧(∀b∈hp0,b∈s.hp)∧rw0=s.rw∧x.fr (fun z=>decide (z < d+1))=true∧Ob.inv s.cd k d xs∈os∧Ob.cl s.cd (.mkC .lss x x')∈os∧Ob.cl s.cd (.mkC .lss x up)∈os)
 |(y0,s0) :: es,r,os,hr,y,s,hm=>by
  unfold KE at hr;split at hr
  ·rename_i heq;cases heq
  ·rename_i s1 r1 heq;cases heq;split at hr
   ·rename_i xs x x' b y1 h1 h2 h3 h4;split at hr
    ·rename_i hc;simp only [Option.some.injEq,Prod.mk.injEq]at hr;obtain⟨rfl,rfl⟩:=hr;rcases List.mem_cons.1 hm with hm|hm
     ·cases hm;refine⟨fun hn=>absurd rfl hn,fun _=>⟨xs,x,x',h1,h2,h3,hc.1,fun b hb=>?_,hc.2.2.1,hc.2.2.2,List.mem_cons_self ..,List.mem_cons_of_mem _ (List.mem_cons_self ..),List.mem_cons_of_mem _ (List.mem_cons_of_mem _ (List.mem_cons_self ..))⟩⟩
      have:=List.all_eq_true.1 hc.2.1 b hb
      simpa using this
     ·obtain⟨i1,i2⟩:=JW h4 hm;refine⟨i1,fun hn=>?_⟩
      obtain⟨xs',z,z',q1,q2,q3,q4,q5,q6,q7,q8,q9,q10⟩:=i2 hn;exact⟨xs',z,z',q1,q2,q3,q4,q5,q6,q7,List.mem_cons_of_mem _ (List.mem_cons_of_mem _ (List.mem_cons_of_mem _ q8)),List.mem_cons_of_mem _ (List.mem_cons_of_mem _ (List.mem_cons_of_mem _ q9)),List.mem_cons_of_mem _ (List.mem_cons_of_mem _ (List.mem_cons_of_mem _ q10))⟩
    ·cases hr
   ·cases hr
  ·rename_i z r1 hne heq;cases heq;obtain⟨⟨b1,y1⟩,h2,hp⟩:=Ql hr;simp only [Prod.mk.injEq]at hp;obtain⟨rfl,rfl⟩:=hp;rcases List.mem_cons.1 hm with hm|hm
   ·cases hm;exact⟨fun _=>List.mem_cons_self ..,fun hx=>by subst hx;exact absurd rfl (hne _)⟩
   ·obtain⟨i1,i2⟩:=JW h2 hm;exact⟨fun hn=>List.mem_cons_of_mem _ (i1 hn),i2⟩
theorem Wt{w0:World}{G:Cfg}{e0 e:Env}{s:St}{a:Act}{w:World}{c:Code}{k t:Nat}{sl:List (Nat×Option IntKind)}{up:SX}{xs:List LX}{es r:List (Ex×St)}{os os':List Ob}
 (hsl:Jm s sl=some xs) (hn:G.n0≤s.nx) (hfr:s.fr (fun x=>decide (x < s.nx))=true) (hup:up.fr (fun x=>decide (x < s.nx))=true)
 (hbody:∀e1 a w,Oks C I (s.nx+1) e1 os→Rel C I {G with n0:=s.nx+1} e1 w0 e1 {s with tm:=Yh s.nx (QaB s.tm (sl.map (·.1) ++ VL c)) 0 sl,cd:= .g s.nx k :: s.cd,nx:=s.nx+1} a w→c.wp P (Jr C I {G with n0:=s.nx+1} e1 w0 es) a w)
 (hr:KE k s.nx sl t up (QaB s.tm (sl.map (·.1) ++ VL c)) {s with tm:=Yh s.nx (QaB s.tm (sl.map (·.1) ++ VL c)) 0 sl} s.hp s.rw es=some (r,os'))
 (hob:Oks C I G.n0 e0 (.inv s.cd k s.nx xs :: os ++ os')) (hR:Rel C I G e0 w0 e s a w):(Code.loop c).wp P (Jr C I G e0 w0 r) a w:=by
 have hob1:Oks C I G.n0 e0 os:=hob.sub fun o ho=>List.mem_append_left _ (List.mem_cons_of_mem _ ho)
 have hob2:Oks C I G.n0 e0 os':=hob.sub fun o ho=>List.mem_append_right _ ho
 have hinv0:=hob _ (List.mem_append_left _ (List.mem_cons_self ..));have hfr':=hfr;simp only [St.fr,Bool.and_eq_true]at hfr';obtain⟨⟨⟨f1,f2⟩,f3⟩,f4⟩:=hfr';have htm0:=Qn8 f1 (sl.map (·.1) ++ VL c);have ok0:∀x,x < G.n0→decide (x < s.nx)=true:=fun x hx=>by simp;omega
 -- a state at the head, out of one that differs in the slots
 have head:∀(e1:Env) (a1:Act) (w1:World) (ys:List LX) (s1:St),Env.agr s.nx e e1→Jm s1 sl=some ys→Z2 e1 s1.tm a1.tmps.toList→Z2 (e1.upd s.nx ys) (QaB s.tm (sl.map (·.1) ++ VL c)) a1.tmps.toList→a1.defers= []→
  (∀b∈s.hp,w0.heap.size≤e1.adr b.id∧Blk w1 (e1.adr b.id) b.ty (b.cs.map (·.den e1)).toArray)→s.hp.Pairwise (fun x y=>e1.adr x.id≠e1.adr y.id)→
  (∀r∈s.rw,r.ok e1 w1∧∀b∈s.hp,0 < (r.len.den e1).1.toNat→∀ad,e1.base r.id=some ad→ad.block≠e1.adr b.id)→Below w0.heap.size w0 w1→
  (∃i,I[k]?=some i∧i s.nx ((e1.upd s.nx ys).cut s.nx))→
  ∃e2,Env.agr s.nx e e2∧Rel C I {G with n0:=s.nx+1} e2 w0 e2 {s with tm:=Yh s.nx (QaB s.tm (sl.map (·.1) ++ VL c)) 0 sl,cd:= .g s.nx k :: s.cd,nx:=s.nx+1} a1 w1:=by
  intro e1 a1 w1 ys s1 hag hys hs1 hsat hdf hhp hinj hrw hbl hinv;have hag2:Env.agr s.nx e (e1.upd s.nx ys):=Env.agr_trans hag (Env.agr_upd e1 s.nx ys) (Nat.le_refl _);have hoff:=QfM e1 s.nx ys
  have hb:∀b∈s.hp,b.id < s.nx∧b.cs.map (·.den e1)=b.cs.map (·.den (e1.upd s.nx ys)):=fun b hb=>by
   have:=List.all_eq_true.1 f2 b hb;simp only [Bk.fr,Bool.and_eq_true,decide_eq_true_eq]at this;exact⟨this.1,Kd hoff _ this.2⟩
  have hadr:∀b∈s.hp,e1.adr b.id=(e1.upd s.nx ys).adr b.id:=fun b _=>rfl
  refine⟨e1.upd s.nx ys,hag2,hdf,?_,fun b hm=>?_,hinj,fun r hr=>?_,hbl,fun x hx=>?_,Env.agr_refl _ _⟩
  ·refine QcM hsat sl 0 fun i t' k' hi v hv=>?_
   obtain⟨x,h1,h2,h3⟩:=Qa2 hys i t' k' hi;obtain⟨v',hv',hsv⟩:=hs1.get h2;rw [hv]at hv';cases hv';simp only [VX.sat,PX.den]at hsv;rw [hsv,Nat.zero_add,QsN h1 h3]
  ·show _∧Blk w1 (e1.adr b.id) b.ty (b.cs.map (·.den (e1.upd s.nx ys))).toArray;rw [←(hb b hm).2];exact hhp b hm
  ·have hfrr:=List.all_eq_true.1 f3 r hr;have h1:=hrw r hr;refine⟨Rw.ok_off hoff hfrr h1.1,fun b hm=>?_⟩
   simp only [Rw.fr,Bool.and_eq_true]at hfrr;rw [←SX.den_off hoff _ hfrr.2];exact h1.2 b hm
  ·rcases List.mem_cons.1 hx with rfl|hx
   ·exact hinv
   ·exact Cd.holds_off C I (Ya hag2) x (List.all_eq_true.1 f4 x hx) (hR.cd x hx)
 obtain⟨e2,hag2,hR2⟩:=head e a w xs s (Env.agr_refl _ _) hsl hR.tm ((Qe8 hR.tm _).off (QfM e s.nx xs) htm0) hR.df hR.hp hR.inj hR.rw hR.bl (hinv0 e hR.ex hR.cd)
 refine wp_loop (fun a w=>∃e1,Env.agr s.nx e e1∧Rel C I {G with n0:=s.nx+1} e1 w0 e1 {s with tm:=Yh s.nx (QaB s.tm (sl.map (·.1) ++ VL c)) 0 sl,cd:= .g s.nx k :: s.cd,nx:=s.nx+1} a w)
  (fun a _=>match a.tmps[t]? with|some (.int _ x)=>((up.den e).1 - x).toNat|_=>0) ⟨e2,hag2,hR2⟩ fun a1 w1 hI=>?_
 obtain⟨e1,hag1,hR1⟩:=hI;have hb1:Env.agr G.n0 e0 e1:=Env.agr_trans hR.ex hag1 hn;refine wp_mono (hbody e1 a1 w1 (hob1.base hb1 (by omega)) hR1) fun x a' w' hp=>?_
 obtain⟨y,s',hm,rfl,e',hR'⟩:=hp;have hag':Env.agr (s.nx+1) e1 e':=hR'.ex;have hage':Env.agr s.nx e e':=Env.agr_trans hag1 hag' (by omega)
 have hb':Env.agr G.n0 e0 e':=Env.agr_trans hb1 hag' (by omega)
 obtain⟨i1,i2⟩:=JW hr hm;cases y with
 |ex id=>exact⟨_,s',i1 (by simp),rfl,e',hR'.rebase hb'⟩
 |rt=>exact⟨_,s',i1 (by simp),rfl,e',hR'.rebase hb'⟩
 |nor=>
  obtain⟨ys,z,z',q1,q2,q3,q4,q5,q6,q7,q8,q9,q10⟩:=i2 rfl;have hoff1:Env.off (fun x=>decide (x < s.nx)) e' (e'.upd s.nx ys):=QfM e' s.nx ys
  refine⟨?_,?_⟩
  ·refine head e' a' w' ys s' hage' q1 hR'.tm (Qdu hoff1 q4 htm0 hR'.tm) hR'.df (fun b hb=>hR'.hp b (q5 b hb)) ?_ (fun r hr=>?_) hR'.bl (hob2 _ q8 e' hb' hR'.cd)
   ·refine hR1.inj.imp_of_mem fun {x y} hx hy hxy=>?_
    have hxa:=List.all_eq_true.1 f2 x hx;have hya:=List.all_eq_true.1 f2 y hy;simp only [Bk.fr,Bool.and_eq_true,decide_eq_true_eq]at hxa hya;rw [(hag' x.id (by omega)).2.2.1,(hag' y.id (by omega)).2.2.1]
    exact hxy
   ·have hr':r∈s'.rw:=by rw [←q6];exact hr
    exact⟨(hR'.rw r hr').1,fun b hb=>(hR'.rw r hr').2 b (q5 b hb)⟩
  ·have hz:=hob2 _ q9 e' hb' hR'.cd;have hu:=hob2 _ q10 e' hb' hR'.cd;have hz':=ZB hz;have hu':=ZB hu;have e3:(z.den e').1=(z.den e1).1:=by rw [SX.den_off (Ya hag') z q7]
   have e4:(up.den e').1=(up.den e).1:=by rw [SX.den_off (Ya hage') up hup]
   obtain⟨k1,v1⟩:=Y3 hR1.tm q2;obtain⟨k2,v2⟩:=Y3 hR'.tm q3;simp only [v1,v2];omega
theorem QM{w0:World}(hmix:P.follows .mixedOrders=true):∀(n:Nat) (c:Code) (s:St) (G:Cfg) (e0 e:Env) (a:Act) (w:World) (es:List (Ex×St)) (os:List Ob),C.map (·.sg)=G.sg→Zv P G n c s=some (es,os)→Oks C I G.n0 e0 os→Rel C I G e0 w0 e s a w→c.wp P (Jr C I G e0 w0 es) a w
 |0,_,_,_,_,_,_,_,_,_,_,h,_,_=>by unfold Zv at h;cases h
 |n+1,c,s,G,e0,e,a,w,es,os,hS,h,hob,hR=>by
  cases c with
  |skip=>
   unfold Zv at h;cases h;exact wp_skip ⟨.nor,s,List.mem_singleton.2 rfl,rfl,e,hR⟩
  |exit id=>
   unfold Zv at h;cases h;exact wp_exit ⟨.ex id,s,List.mem_singleton.2 rfl,rfl,e,hR⟩
  |ret=>
   unfold Zv at h;cases h;exact wp_ret ⟨.rt,s,List.mem_singleton.2 rfl,rfl,e,hR⟩
  |region id ops draw=>
   unfold Zv at h;obtain⟨⟨ss,o1⟩,h1,hp⟩:=Ql h;simp only [Prod.mk.injEq]at hp;obtain⟨rfl,rfl⟩:=hp;refine wp_mono (Ym hS hmix h1 hob hR) fun x a' w' hx=>?_
   obtain⟨rfl,s',hm,e',hR'⟩:=hx;exact⟨.nor,s',List.mem_map.2 ⟨s',hm,rfl⟩,rfl,e',hR'⟩
  |seq x y=>
   unfold Zv at h;split at h
   ·rename_i es1 o1 h1;obtain⟨⟨r,o2⟩,h2,hp⟩:=Ql h;simp only [Prod.mk.injEq]at hp;obtain⟨rfl,rfl⟩:=hp;refine wp_seq (wp_mono (QM hmix n x s G e0 e a w es1 o1 hS h1 hob.left hR) ?_);exact Vq h2 fun s' r' o' e' a' w' h3 h4 h5 hR'=>wp_mono (QM hmix n y s' G e0 e' a' w' r' o' hS h3 (hob.right.sub h5) hR') (Jr.mono h4)
   ·cases h
  |cond c x y=>
   unfold Zv at h;split at h
   ·rename_i g hg;have hc:=Qi hR.kn0 hg;simp only [PX.den,LX.den]at hc;split at h
    ·rename_i ha;rw [Zh hR.cd ha]at hc;exact wp_cond_true hc (QM hmix n x s G e0 e a w es os hS h hob hR)
    ·rename_i ha;rw [Zh hR.cd ha]at hc;exact wp_cond_false hc (QM hmix n y s G e0 e a w es os hS h hob hR)
    ·split at h
     ·rename_i r1 o1 r2 o2 h1 h2;cases h;refine wp_cond_split hc (fun ht=>?_) fun ht=>?_
      ·exact wp_mono (QM hmix n x _ G e0 e a w r1 o1 hS h1 hob.left (hR.conds (Zt g true ht))) (Jr.mono fun z hz=>List.mem_append_left _ hz)
      ·exact wp_mono (QM hmix n y _ G e0 e a w r2 o2 hS h2 hob.right (hR.conds (Zt g false ht))) (Jr.mono fun z hz=>List.mem_append_right _ hz)
     ·cases h
   ·cases h
  |block id c=>
   unfold Zv at h;obtain⟨⟨es1,o1⟩,h1,hp⟩:=Ql h;simp only [Prod.mk.injEq]at hp;obtain⟨rfl,rfl⟩:=hp;refine wp_block (wp_mono (QM hmix n c s G e0 e a w es1 o1 hS h1 hob hR) fun x a' w' hx=>?_)
   obtain⟨y,s',hm,rfl,e',hR'⟩:=hx;cases y with
   |nor=>exact⟨.nor,s',List.mem_map.2 ⟨_,hm,by simp⟩,rfl,e',hR'⟩
   |rt=>exact⟨.rt,s',List.mem_map.2 ⟨_,hm,by simp⟩,rfl,e',hR'⟩
   |ex id'=>
    show if id'=id then _ else _
    by_cases hid:id'=id
    ·subst hid;rw [if_pos rfl];exact⟨.nor,s',List.mem_map.2 ⟨_,hm,by simp⟩,rfl,e',hR'⟩
    ·rw [if_neg hid];exact⟨.ex id',s',List.mem_map.2 ⟨_,hm,by simp [hid]⟩,rfl,e',hR'⟩
  |loop c=>
   unfold Zv at h;split at h
   ·rename_i k sl t up hlp
    dsimp only at h
    split at h
    ·rename_i xs hxs;split at h
     ·rename_i hc;split at h
      ·rename_i es1 o1 h1;obtain⟨⟨r,o2⟩,h2,hp⟩:=Ql h;simp only [Prod.mk.injEq]at hp;obtain⟨rfl,rfl⟩:=hp;exact Wt hxs hc.1 hc.2.1 hc.2.2 (fun e1 a1 w1 ho hr=>QM hmix n c _ _ e1 e1 a1 w1 es1 o1 hS h1 ho hr) h2 hob hR
      ·cases h
     ·cases h
    ·cases h
   ·refine wp_loop_rounds n (JQ (fun s es os e a w h1 h2 h3=>QM hmix n c s G e0 e a w es os hS h1 h2 h3) n s es es os e a w h (fun z hz=>hz) hob hR)
  |_=>unfold Zv at h;cases h
def Qea(tmps:Array Value):ResultVar→Sem Value
 | .tmp t=>pure (tmps.getD t undef)
 | .cell a t=>do loadVar t (←asAddr (tmps.getD a undef))
theorem YX(fn:Func)(tmps:Array Value):results fn tmps=(do let vs ←fn.results.mapM (Qea tmps);pure (if h:vs.size=1 then vs[0]else .tuple vs)):=by
 have:(fun x:ResultVar=>(match x with| .tmp t=>pure (tmps.getD t undef)| .cell a t=>do loadVar t (←asAddr (tmps.getD a undef)):Sem Value))=Qea tmps:=by
  funext x;cases x <;> rfl
 rw [←this];rfl
theorem Vj{e:Env}{s:St}{a:Act}{w:World}{G:Cfg}{e0:Env}{w0:World}(hR:Rel C I G e0 w0 e s a w):∀{rs:List ResultVar} {ps:List PX},JJ.go P s rs=some ps→
 (rs.mapM (Qea a.tmps)).run P w=Result.ok (ps.map (·.den e)) w
 | [],ps,h=>by simp only [JJ.go,Option.some.injEq]at h;subst h;simp
 | .tmp t :: r,ps,h=>by
   unfold JJ.go at h;split at h
   ·rename_i p ps' h1 h2;cases h;obtain⟨v,hv,hs⟩:=hR.tm.get h1
    have:a.tmps.getD t undef=p.den e:=by
     rw [Array.getD_eq_getD_getElem?,←Array.getElem?_toList,hv];exact hs
    simp only [List.mapM_cons,Qea,Sem.run_bind,Sem.run_pure,Result.andThen_ok,Vj hR h2,this,List.map_cons]
   ·cases h
 | .cell t ty :: r,ps,h=>by
   unfold JJ.go at h;split at h
   ·rename_i d o ps' h1 h2;split at h
    ·rename_i v hv;cases h;obtain⟨u,hu,hs⟩:=hR.tm.get h1;obtain⟨ad,had,hl⟩:=Jv hR hv (fun x hx=>(List.not_mem_nil hx).elim)
     have:a.tmps.getD t undef= .pointer (some ad):=by
      rw [Array.getD_eq_getD_getElem?,←Array.getElem?_toList,hu];simp only [VX.sat,PX.den]at hs;rw [hs,had];rfl
     have h3:(Qea a.tmps (.cell t ty)).run P w= .ok (v.den e) w:=by simp only [Qea,Sem.run_bind,this,asAddr,Sem.run_pure,Result.andThen_ok,hl]
     simp only [List.mapM_cons,Sem.run_bind,h3,Sem.run_pure,Result.andThen_ok,Vj hR h2,List.map_cons]
    ·cases h
   ·cases h
theorem V8{e:Env}{s:St}{a:Act}{w:World}{G:Cfg}{e0:Env}{w0:World}{fn:Func}(hR:Rel C I G e0 w0 e s a w){v:VX}(h:JJ P fn s=some v):∃u,v.sat e u∧(results fn a.tmps).run P w= .ok u w:=by
 have one:∀(r:ResultVar) (p:PX),fn.results.toList= [r]→JJ.go P s [r]=some [p]→(results fn a.tmps).run P w= .ok (p.den e) w:=fun r p hr hg=>by
  have:=Vj hR hg;have hfr:fn.results= #[r]:=by apply Array.ext';simpa using hr
  simp only [List.map_cons,List.map_nil]at this;rw [YX,Sem.run_bind,hfr,Array.mapM_eq_mapM_toList,Sem.run_map,this];simp
 unfold JJ at h;split at h
 ·rename_i hr;cases h;have hfr:fn.results= #[]:=by apply Array.ext';simpa using hr
  exact⟨_,rfl,by simp [results,hfr]⟩
 ·rename_i t hr;split at h
  ·rename_i p hp;cases h;exact⟨_,rfl,one _ p hr (by simp [JJ.go,hp])⟩
  ·cases h
 ·rename_i t ty hr;split at h
  ·rename_i d o hp;split at h
   ·rename_i v' hv;cases h;exact⟨_,rfl,one _ v' hr (by simp [JJ.go,hp,hv])⟩
   ·cases h
  ·cases h
 ·rename_i rs h0 h1 h2;obtain⟨ps,hps,rfl⟩:=Ql h;have:=Vj hR hps;refine⟨_,rfl,?_⟩;have hl:ps.length=fn.results.toList.length:=go_len hps
  have hne:¬ps.length=1:=by
   rw [hl];intro h1'
   match hrs:fn.results.toList,h1' with
   | [.tmp t],_=>exact h1 t hrs
   | [.cell t ty],_=>exact h2 t ty hrs
  rw [YX,Sem.run_bind,Array.mapM_eq_mapM_toList,Sem.run_map,this];simp [hne]
where
 go_len {s:St}:∀{rs:List ResultVar} {ps:List PX},JJ.go P s rs=some ps→ps.length=rs.length
  | [],ps,h=>by simp only [JJ.go,Option.some.injEq]at h;subst h;rfl
  | .tmp t :: r,ps,h=>by
    unfold JJ.go at h;split at h
    ·rename_i p ps' h1 h2;cases h;simp [go_len h2]
    ·cases h
  | .cell t ty :: r,ps,h=>by
    unfold JJ.go at h;split at h
    ·rename_i d o ps' h1 h2;split at h
     ·simp only [Option.some.injEq]at h;subst h;simp [go_len h2]
     ·cases h
    ·cases h
theorem Kc{fn:Func}:∀{es:List (Ex×St)} {ls:List Lf},Ku P fn es=some ls→∀{y:Ex} {s:St},(y,s)∈es→(∀id,y≠ .ex id)∧∃v,JJ P fn s=some v∧⟨s.cd,v⟩∈ls
 |(y0,s0) :: es,ls,h,y,s,hm=>by
  unfold Ku at h;split at h
  ·rename_i heq;cases heq
  ·rename_i heq;cases h
  ·rename_i y1 s1 r1 hne heq;cases heq;split at h
   ·rename_i v l h1 h2;cases h;rcases List.mem_cons.1 hm with hm|hm
    ·cases hm;exact⟨fun id hid=>by subst hid;exact hne _ rfl,v,h1,List.mem_cons_self ..⟩
    ·obtain⟨i1,v',i2,i3⟩:=Kc h2 hm;exact⟨i1,v',i2,List.mem_cons_of_mem _ i3⟩
   ·cases h
theorem VK(hmix:P.follows .mixedOrders=true){G:Cfg}(hS:C.map (·.sg)=G.sg){f:FuncId}{fn:Func}(hf:P.funcs[f]?=some fn){fuel:Nat}{args:List PX}{rws:List Rw}{ls:List Lf}{os:List Ob}
 (hrun:QS P G fuel fn args rws=some (ls,os)) (e0:Env) (w0:World) (hrw:∀r∈rws,r.ok e0 w0) (hob:Oks C I G.n0 e0 os) (R:Ending→World→Prop)
 (hl:∀l∈ls,∀e u w',Env.agr G.n0 e0 e→(∀c∈l.cd,c.holds C I e)→l.v.sat e u→Below w0.heap.size w0 w'→R (.returned u) w'):Calls P f (args.map (·.den e0)).toArray w0 R:=by
 unfold QS at hrun;split at hrun
 ·rename_i c hc;split at hrun
  ·rename_i es o1 h1;obtain⟨ls',h2,hp⟩:=Ql hrun;simp only [Prod.mk.injEq]at hp;obtain⟨rfl,rfl⟩:=hp;have hob':Oks C I G.n0 e0 o1:=hob.sub fun o ho=>Jj ho
   refine calls_of_wp hf hc (wp_mono (QM hmix fuel c _ G e0 e0 _ w0 es o1 hS h1 hob' ⟨rfl,?_,fun b hb=>(List.not_mem_nil hb).elim,List.Pairwise.nil,fun r hr=>⟨hrw r hr,fun b hb=>(List.not_mem_nil hb).elim⟩,Below.refl _ _,fun c hc=>(List.not_mem_nil hc).elim,Env.agr_refl _ _⟩) fun x a w hx=>?_)
   ·have:∀(ps:List PX) (n:Nat),Z2 e0 (ps.map .v ++ List.replicate n .un) (ps.map (·.den e0) ++ List.replicate n undef):=by
     intro ps
     induction ps with
     |nil=>
      intro n
      induction n with
      |zero=>trivial
      |succ n ih=>exact⟨rfl,ih⟩
     |cons p ps ih=>intro n;exact⟨rfl,ih n⟩
    simpa using this args (fn.ntmps - args.length)
   ·obtain⟨y,s,hm,rfl,e,hR⟩:=hx;obtain⟨i1,v,i2,i3⟩:=Kc h2 hm;obtain⟨u,hu,hr⟩:=V8 hR i2;have fin:a.defers= []∧∃v,(results fn a.tmps).run P w= .ok v w∧R (.returned v) w:=⟨hR.df,u,hr,hl _ i3 e u w hR.ex hR.cd hu hR.bl⟩;cases y with
    |nor=>exact fin
    |rt=>exact fin
    |ex id=>exact absurd rfl (i1 id)
  ·cases hrun
 ·cases hrun
end
end Go.Proofs.YteplnamfpodmlaaGreat
end
section
namespace Go.Proofs.YteplnamfpodmlaaGreat
def Qb:List (Option IntKind):= [none,none,some .u32,some .u32,some .u32]
def stK:List (Option IntKind):= [none,none,some .u32,some .u32,some .u32,none,none,some .u32,some .u32,some .u32,none,none,some .u32,some .u32,some .u32,none,none,some .u32,some .u32,some .u32,none,none,some .u32,some .u32,some .u32,none,none,some .u32,some .u32,some .u32,none,none,some .u32,some .u32,some .u32,none,none,some .u32,some .u32,some .u32]
def Qc:List (Option IntKind):= [some .u32,some .u32,some .i64,some .i64,some .i64,some .i64,some .i64,some .i64,some .i64]
def QJ(s:Qd):Nat→Int
 |2=>s.lo
 |3=>s.hi
 |4=>s.st
 |_=>0
def QO(s:Qd):Nat→Bool
 |0=>s.e
 |1=>s.t
 |_=>false
def QU(s:Nat→Qd)(j:Nat):Int:=QJ (s (j / 5)) (j % 5)
def QI(s:Nat→Qd)(j:Nat):Bool:=QO (s (j / 5)) (j % 5)
structure Ins where
 addr:Int
 imm:Int
 op:Int
 form:Int
 width:Int
 cc:Int
 a:Int
 b:Int
 size:Int
 deriving DecidableEq
def KT(x:Int):Prop:= -9223372036854775808≤x∧x≤9223372036854775807
def Zk(x:Int):Prop:=0≤x∧x < 4294967296
def Ins.wf(i:Ins):Prop:=Zk i.addr∧Zk i.imm∧KT i.op∧KT i.form∧KT i.width∧KT i.cc∧KT i.a∧KT i.b∧KT i.size
def Q2(i:Ins):Nat→Int
 |0=>i.addr
 |1=>i.imm
 |2=>i.op
 |3=>i.form
 |4=>i.width
 |5=>i.cc
 |6=>i.a
 |7=>i.b
 |8=>i.size
 |_=>0
def Ins.val(i:Ins):Value:= .agg (ZL (Q2 i) (fun _=>false) 0 Qc).toArray
def Zm(s:Nat→Qd):Value:= .agg (ZL (QU s) (QI s) 0 stK).toArray
def Yw:Value→Int
 | .int _ n=>n
 |_=>0
def QbN:Value→Bool
 | .bool b=>b
 |_=>false
def X3(v:Value)(j:Nat):Value:=
 match v with
 | .agg cs=>cs.getD j undef
 |_=>undef
def QK(d:AD):Qd:=⟨QbN (X3 d.val 0),QbN (X3 d.val 1),Yw (X3 d.val 2),Yw (X3 d.val 3),Yw (X3 d.val 4)⟩
def stD(d:AD):Nat→Qd:=fun k=>⟨QbN (X3 d.val (5 * k)),QbN (X3 d.val (5 * k+1)),Yw (X3 d.val (5 * k+2)),Yw (X3 d.val (5 * k+3)),Yw (X3 d.val (5 * k+4))⟩
def QL(d:AD):Ins:=⟨Yw (X3 d.val 0),Yw (X3 d.val 1),Yw (X3 d.val 2),Yw (X3 d.val 3),Yw (X3 d.val 4),Yw (X3 d.val 5),Yw (X3 d.val 6),Yw (X3 d.val 7),Yw (X3 d.val 8)⟩
def Q3(d:AD):Int:=Yw d.val
def WD(d:AD):Bool:=QbN d.val
theorem Qap{w:World}{ks:List (Option IntKind)}{d:AD}(h:(SH.a ks).fits w d):d.val= .agg (ZL (fun j=>Yw (X3 d.val j)) (fun j=>QbN (X3 d.val j)) 0 ks).toArray:=by
 obtain⟨cs,hv,hl,hc⟩:=h;rw [hv];congr 2
 have key:∀(ks:List (Option IntKind)) (cs':List Value) (j:Nat),cs'.length=ks.length→(∀(i:Nat) (k:Option IntKind),ks[i]?=some k→∃n b,cs'[i]?=some (Xu k n b))→(∀i,cs'[i]?=cs[j+i]?)→
  cs'=ZL (fun j=>Yw (X3 (.agg cs.toArray) j)) (fun j=>QbN (X3 (.agg cs.toArray) j)) j ks:=by
  intro ks
  induction ks with
  |nil=>intro cs' j h _ _;simpa [ZL] using h
  |cons k ks ih=>
   intro cs' j h hk hi
   match cs',h with
   |v :: vs,h=>
    obtain⟨n,b,hv'⟩:=hk 0 k rfl;simp only [List.getElem?_cons_zero,Option.some.injEq]at hv';have hj:cs[j]?=some v:=(hi 0).symm;have hcell:X3 (.agg cs.toArray) j=v:=by simp [X3,hj]
    simp only [ZL];congr 1
    ·rw [hcell,hv'];cases k <;> rfl
    ·exact ih vs (j+1) (by simpa using h) (fun i k' hk'=>by have:=hk (i+1) k' (by simpa using hk');simpa using this) (fun i=>by have:=hi (i+1);rw [show j+1+i=j+(i+1)by omega];simpa using this)
 exact key ks cs 0 hl hc fun i=>by rw [Nat.zero_add]
theorem Zg{w:World}{d:AD}(h:(SH.a Qb).fits w d):d.val=(QK d).val:=Qap h
theorem Jn{w:World}{d:AD}(h:(SH.a stK).fits w d):d.val=Zm (stD d):=(Qap h).trans rfl
theorem Zd{w:World}{d:AD}(h:(SH.a Qc).fits w d):d.val=(QL d).val:=(Qap h).trans rfl
theorem QB{w:World}{k:IntKind}{d:AD}(h:(SH.l (some k)).fits w d):d.val= .int k (Q3 d):=by
 obtain⟨n,hn⟩:=h;simp [Q3,hn,Yw]
theorem QcK{w:World}{d:AD}(h:(SH.l none).fits w d):d.val= .bool (WD d):=by
 obtain⟨b,hb⟩:=h;simp [WD,hb,QbN]
theorem Qm{w:World}{ads:List AD}(h:Qcw w [] ads):ads= []:=by
 cases ads with
 |nil=>rfl
 |cons _ _=>exact h.elim
theorem Qg{w:World}{s:SH}{ss:List SH}{ads:List AD}(h:Qcw w (s :: ss) ads):∃d ds,ads=d :: ds∧s.fits w d∧Qcw w ss ds:=by
 cases ads with
 |nil=>exact h.elim
 |cons d ds=>exact⟨d,ds,rfl,h.1,h.2⟩
def Con.mk'{P:Program}(sg:Sg)(pre:List AD→Prop)(int:List AD→Nat→Int)(bool:List AD→Nat→Bool)
 (body:∃fn,P.funcs[sg.f]?=some fn∧(fn.name== "runtime.NumGoroutine")=false∧fn.body.isNone=false)
 (h:∀(ads:List AD) (w:World),Qcw w sg.args ads→pre ads→Calls P sg.f (ads.map (·.val)).toArray w (Ret (sg.res.val (int ads) (bool ads)) w)):Con P:=
 ⟨sg,pre,fun ads i b=>i=int ads∧b=bool ads,body,fun _ ads=>⟨_,_,rfl,rfl⟩,fun _ ads i b i' b' h h'=>by rw [h.1,h.2,h'.1,h'.2],fun ads w hf hp=>(h ads w hf hp).mono fun e w' ⟨he,hb⟩=>⟨int ads,bool ads,he,hb,rfl,rfl⟩⟩
theorem Oks.nil{P:Program}{C:List (Con P)}{I:List (Nat→Env→Prop)}{n0:Nat}{e0:Env}:Oks C I n0 e0 []:=fun _ h=>(List.not_mem_nil h).elim
theorem Oks.cons{P:Program}{C:List (Con P)}{I:List (Nat→Env→Prop)}{n0:Nat}{e0:Env}{o:Ob}{os:List Ob}(h:o.ok C I n0 e0)(hs:Oks C I n0 e0 os):Oks C I n0 e0 (o :: os):=fun x hx=>by
 rcases List.mem_cons.1 hx with rfl|hx
 ·exact h
 ·exact hs x hx
def QC{α:Type}(p:α→Prop):List α→Prop
 | []=>True
 |x :: xs=>p x∧QC p xs
theorem QC.all{α:Type}{p:α→Prop}:∀{xs:List α},QC p xs→∀x∈xs,p x
 |_ :: _,h,y,hy=>by
  rcases List.mem_cons.1 hy with rfl|hy
  ·exact h.1
  ·exact QC.all h.2 y hy
theorem QC.of{α:Type}{p:α→Prop}:∀{xs:List α},(∀x∈xs,p x)→QC p xs
 | [],_=>trivial
 |x :: xs,h=>⟨h x (List.mem_cons_self ..),QC.of fun y hy=>h y (List.mem_cons_of_mem _ hy)⟩
def Ze{P:Program}(C:List (Con P))(I:List (Nat→Env→Prop))(e:Env):Ob→Prop
 | .cl cd x=>QC (Cd.holds C I e) cd→(x.den e).2=true
 | .pre cd k args=>QC (Cd.holds C I e) cd→match C[k]? with|some c=>c.pre (args.map (·.dat e))|none=>False
 | .inv cd k d xs=>QC (Cd.holds C I e) cd→match I[k]? with|some i=>i d ((e.upd d xs).cut d)|none=>False
theorem Ze.ok{P:Program}{C:List (Con P)}{I:List (Nat→Env→Prop)}{n0:Nat}{e0:Env}{o:Ob}(h:∀e,Env.agr n0 e0 e→Ze C I e o):o.ok C I n0 e0:=by
 cases o with
 |cl cd x=>exact fun e he hc=>h e he (QC.of hc)
 |pre cd k args=>
  intro e he hc;have:=h e he (QC.of hc);unfold Ze at this;cases hk:C[k]? with
  |none=>rw [hk]at this;exact this.elim
  |some c=>rw [hk]at this;exact⟨c,rfl,this⟩
 |inv cd k d xs=>
  intro e he hc;have:=h e he (QC.of hc);unfold Ze at this;cases hk:I[k]? with
  |none=>rw [hk]at this;exact this.elim
  |some c=>rw [hk]at this;exact⟨c,rfl,this⟩
theorem Q5{P:Program}{C:List (Con P)}{I:List (Nat→Env→Prop)}(hmix:P.follows .mixedOrders=true){G:Cfg}(hS:C.map (·.sg)=G.sg){f:FuncId}{fn:Func}(hf:P.funcs[f]?=some fn){fuel:Nat}{args:List PX}{rws:List Rw}{ls:List Lf}{os:List Ob}
 (hrun:QS P G fuel fn args rws=some (ls,os)) (e0:Env) (w0:World) {vs:Array Value} (hvs:(args.map (·.den e0)).toArray=vs) (hrw:∀r∈rws,r.ok e0 w0) (v:Value)
 (hob:QC (fun o=>∀e,Env.agr G.n0 e0 e→Ze C I e o) os)
 (hl:QC (fun l:Lf=>∀e u,Env.agr G.n0 e0 e→QC (Cd.holds C I e) l.cd→l.v.sat e u→u=v) ls):Calls P f vs w0 (Ret v w0):=by
 subst hvs;exact VK hmix hS hf hrun e0 w0 hrw (fun o ho=>Ze.ok (hob.all o ho)) _ fun l hm e u w' he hc hs hb=>⟨by rw [hl.all l hm e u he (QC.of hc) hs],hb⟩
section
variable{P:Program}
theorem QH(sg:Sg)(pre:List AD→Prop)(int:List AD→Nat→Int)(bool:List AD→Nat→Bool)(body)(h)(ads:List AD):(Con.mk' (P:=P) sg pre int bool body h).pre ads=pre ads:=rfl
theorem Q1(sg:Sg)(pre:List AD→Prop)(int:List AD→Nat→Int)(bool:List AD→Nat→Bool)(body)(h)(ads:List AD)(i:Nat→Int)(b:Nat→Bool):(Con.mk' (P:=P) sg pre int bool body h).post ads i b=(i=int ads∧b=bool ads):=rfl
end
def QV(e:Env)(d j:Nat):Qd:=⟨e.bool d j,e.bool d (j+1),e.int d (j+2),e.int d (j+3),e.int d (j+4)⟩
def QdU(e:Env)(d:Nat):Ins:=⟨e.int d 0,e.int d 1,e.int d 2,e.int d 3,e.int d 4,e.int d 5,e.int d 6,e.int d 7,e.int d 8⟩
theorem Q0(e:Env)(d j:Nat):QK (PX.dat e (.a (Qa d j Qb)))=QV e d j:=rfl
theorem Qr(e:Env)(d:Nat):QL (PX.dat e (.a (Qa d 0 Qc)))=QdU e d:=rfl
theorem QE(e:Env)(x0 x1 x2 x3 x4:SX)(k2 k3 k4:IntKind):QK (PX.dat e (.a [.t x0,.t x1,.n k2 x2,.n k3 x3,.n k4 x4]))=⟨(x0.den e).2,(x1.den e).2,(x2.den e).1,(x3.den e).1,(x4.den e).1⟩:=rfl
theorem Qy(e:Env)(k:IntKind)(x:SX):Q3 (PX.dat e (.l (.n k x)))=(x.den e).1:=rfl
theorem QF(e:Env)(x:SX):WD (PX.dat e (.l (.t x)))=(x.den e).2:=rfl
theorem Qk{e:Env}{d:Nat}{s:Qd}(hi:e.int d=QJ s)(hb:e.bool d=QO s):QV e d 0=s:=by unfold QV;rw [hi,hb];rfl
theorem Zi{e:Env}{d:Nat}{i:Ins}(hi:e.int d=Q2 i):QdU e d=i:=by unfold QdU;rw [hi];rfl
theorem QW{e:Env}{d:Nat}{s:Nat→Qd}(hi:e.int d=QU s)(hb:e.bool d=QI s)(k:Nat):QV e d (5 * k)=s k:=by
 unfold QV;rw [hi,hb];have h:∀c,c < 5→(5 * k+c) / 5=k∧(5 * k+c) % 5=c:=fun c hc=>by omega
 have h0:=h 0 (by omega)
 simp only [Nat.add_zero]at h0;simp only [QU,QI,h0,h 1 (by omega),h 2 (by omega),h 3 (by omega),h 4 (by omega),QJ,QO]
theorem Qd5(s:Nat→Qd):Zm s= .agg #[.bool (s 0).e,.bool (s 0).t,.int .u32 (s 0).lo,.int .u32 (s 0).hi,.int .u32 (s 0).st,.bool (s 1).e,.bool (s 1).t,.int .u32 (s 1).lo,.int .u32 (s 1).hi,.int .u32 (s 1).st,.bool (s 2).e,.bool (s 2).t,.int .u32 (s 2).lo,.int .u32 (s 2).hi,.int .u32 (s 2).st,.bool (s 3).e,.bool (s 3).t,.int .u32 (s 3).lo,.int .u32 (s 3).hi,.int .u32 (s 3).st,.bool (s 4).e,.bool (s 4).t,.int .u32 (s 4).lo,.int .u32 (s 4).hi,.int .u32 (s 4).st,.bool (s 5).e,.bool (s 5).t,.int .u32 (s 5).lo,.int .u32 (s 5).hi,.int .u32 (s 5).st,.bool (s 6).e,.bool (s 6).t,.int .u32 (s 6).lo,.int .u32 (s 6).hi,.int .u32 (s 6).st,.bool (s 7).e,.bool (s 7).t,.int .u32 (s 7).lo,.int .u32 (s 7).hi,.int .u32 (s 7).st]:=rfl
theorem Jh{e:Env}{x:PX}{u:Value}(h:(VX.v x).sat e u):u=x.den e:=h
theorem KJ(e:Env)(d j:Nat):PX.den e (.a (Qa d j Qb))=(QV e d j).val:=rfl
theorem QQ{s t:Nat→Qd}(h:∀k,k < 8→s k=t k):Zm s=Zm t:=by
 rw [Qd5,Qd5,h 0 (by omega),h 1 (by omega),h 2 (by omega),h 3 (by omega),h 4 (by omega),h 5 (by omega),h 6 (by omega),h 7 (by omega)]
def Qij(e:Env)(l:List (Nat×Nat))(k:Nat):Qd:=QV e (l.getD k (0,0)).1 (l.getD k (0,0)).2
theorem Vx(e:Env)(r0 r1 r2 r3 r4 r5 r6 r7:Nat×Nat):PX.den e (.a (QbD [r0,r1,r2,r3,r4,r5,r6,r7]))=Zm (Qij e [r0,r1,r2,r3,r4,r5,r6,r7]):=rfl
theorem Qsw(b:Bool)(s t:Qd):(if b then s else t)=⟨if b then s.e else t.e,if b then s.t else t.t,if b then s.lo else t.lo,if b then s.hi else t.hi,if b then s.st else t.st⟩:=by cases b <;> rfl
theorem Qq0(e:Env)(g p q:SX):((SX.it g p q).den e).1=if(g.den e).2 then(p.den e).1 else(q.den e).1:=by simp only [SX.den];split <;> rfl
theorem Qq1(e:Env)(g p q:SX):((SX.it g p q).den e).2=if(g.den e).2 then(p.den e).2 else(q.den e).2:=by simp only [SX.den];split <;> rfl
theorem Qbn(e:Env)(x:SX)(r r0 r1 r2 r3 r4 r5 r6 r7:Nat×Nat):PX.den e (.a (Zf x r [r0,r1,r2,r3,r4,r5,r6,r7]))=Zm fun k=>if(x.den e).1==(k:Int)then QV e r.1 r.2 else Qij e [r0,r1,r2,r3,r4,r5,r6,r7] k:=by
 rw [Qd5];simp only [Qsw];simp only [PX.den,Zf,QbE,Qiv,Qa,JP,List.zipWith_cons_cons,List.zipWith_nil_left,itX,List.cons_append,List.nil_append,List.map_cons,List.map_nil,LX.den,Qq0,Qq1];rfl
theorem Zy(e:Env)(d:Nat):PX.den e (.a (Qa d 0 stK))=Zm fun k=>QV e d (5 * k):=rfl
theorem QY(e:Env)(d:Nat)(x:SX):QK (PX.dat e (.a (Qh d x)))=QV e d ((x.den e).1.toNat * 5):=rfl
theorem Qq2(e:Env)(d:Nat)(x:SX):PX.den e (.a (Qh d x))=(QV e d ((x.den e).1.toNat * 5)).val:=rfl
theorem Qfl(e:Env)(d:Nat):stD (PX.dat e (.a (Qa d 0 stK))) 0=QV e d 0∧stD (PX.dat e (.a (Qa d 0 stK))) 1=QV e d 5∧stD (PX.dat e (.a (Qa d 0 stK))) 2=QV e d 10∧stD (PX.dat e (.a (Qa d 0 stK))) 3=QV e d 15∧
 stD (PX.dat e (.a (Qa d 0 stK))) 4=QV e d 20∧stD (PX.dat e (.a (Qa d 0 stK))) 5=QV e d 25∧stD (PX.dat e (.a (Qa d 0 stK))) 6=QV e d 30∧stD (PX.dat e (.a (Qa d 0 stK))) 7=QV e d 35:=⟨rfl,rfl,rfl,rfl,rfl,rfl,rfl,rfl⟩
theorem Qgm{e:Env}{d:Nat}{s:Nat→Qd}(hi:e.int d=QU s)(hb:e.bool d=QI s)(k:Nat)(hk:k < 8):stD (PX.dat e (.a (Qa d 0 stK))) k=s k:=by
 have h:=QW hi hb k;rw [←h]
 match k,hk with
 |0,_=>rfl
 |1,_=>rfl
 |2,_=>rfl
 |3,_=>rfl
 |4,_=>rfl
 |5,_=>rfl
 |6,_=>rfl
 |7,_=>rfl
end Go.Proofs.YteplnamfpodmlaaGreat
end
section
namespace Go.Proofs.YteplnamfpodmlaaGreat
def QtY(n:Nat)(l:List (Nat×VX)):List VX:=l.foldl (fun tm p=>tm.set p.1 p.2) (List.replicate n .any)
theorem Qiu(e:Env):∀(vs:List Value),Z2 e (List.replicate vs.length .any) vs
 | []=>trivial
 |_ :: vs=>⟨trivial,Qiu e vs⟩
theorem Z2.set_at{e:Env}:∀{xs:List VX} {vs:List Value} (t:Nat) {x:VX} {v:Value},Z2 e xs vs→vs[t]?=some v→x.sat e v→Z2 e (xs.set t x) vs
 | [],[],_,_,_,_,_,_=>trivial
 | [],_ :: _,_,_,_,h,_,_=>h.elim
 |_ :: _,[],_,_,_,h,_,_=>h.elim
 |_ :: _,_ :: _,0,_,_,h,hv,hx=>by
  simp only [List.getElem?_cons_zero,Option.some.injEq]at hv;subst hv;exact⟨hx,h.2⟩
 |_ :: _,_ :: _,t+1,_,_,h,hv,hx=>⟨h.1,Z2.set_at t h.2 (by simpa using hv) hx⟩
theorem QoS{e:Env}{vs:List Value}{n:Nat}(hn:vs.length=n){l:List (Nat×VX)}(h:QC (fun p:Nat×VX=>∃v,vs[p.1]?=some v∧p.2.sat e v) l):Z2 e (QtY n l) vs:=by
 subst hn;unfold QtY
 have key:∀(l:List (Nat×VX)) (tm:List VX),Z2 e tm vs→QC (fun p:Nat×VX=>∃v,vs[p.1]?=some v∧p.2.sat e v) l→Z2 e (l.foldl (fun tm p=>tm.set p.1 p.2) tm) vs:=by
  intro l
  induction l with
  |nil=>intro tm h _;exact h
  |cons p l ih=>
   intro tm h hp;obtain⟨⟨v,hv,hs⟩,hl⟩:=hp;exact ih _ (h.set_at _ hv hs) hl
 exact key l _ (Qiu e vs) h
def Qa6(n:Nat):Code→Option Code
 | .region id ops draw=>if id=n then some (.region id ops draw)else none
 | .seq a b=>if isAt a then some (.seq a b)else(Qa6 n a).or (Qa6 n b)
 | .cond _ a b=>(Qa6 n a).or (Qa6 n b)
 | .block _ c| .loop c| .scope c=>Qa6 n c
 |_=>none
where
 isAt:Code→Bool
  | .region id _ _=>decide (id=n)
  |_=>false
def Qr4(P:Program)(G:Cfg)(fuel:Nat)(fn:Func)(n:Nat)(s:St):Option (List Lf×List Ob):=
 match fn.body.bind (Qa6 n)with
 |some c=>
  match Zv P G fuel c s with
  |some (es,os)=>(Ku P fn es).map (·,Wl os)
  |none=>none
 |none=>none
section
variable{P:Program}{C:List (Con P)}{I:List (Nat→Env→Prop)}
theorem QbW{fn:Func}{G:Cfg}{e0:Env}{w0:World}{es:List (Ex×St)}{ls:List Lf}(h:Ku P fn es=some ls){v:Value}
 (hl:QC (fun l:Lf=>∀e u,Env.agr G.n0 e0 e→QC (Cd.holds C I e) l.cd→l.v.sat e u→u=v) ls):∀x a w,Jr C I G e0 w0 es x a w→bodyPost P fn (Ret v w0) x a w:=fun x a w hx=>by
 obtain⟨y,s,hm,rfl,e,hR⟩:=hx;obtain⟨i1,v',i2,i3⟩:=Kc h hm;obtain⟨u,hu,hr⟩:=V8 hR i2;have fin:a.defers= []∧∃u,(results fn a.tmps).run P w= .ok u w∧Ret v w0 (.returned u) w:=⟨hR.df,u,hr,by rw [hl.all _ i3 e u hR.ex (QC.of hR.cd) hu],hR.bl⟩
 cases y with
 |nor=>exact fin
 |rt=>exact fin
 |ex id=>exact absurd rfl (i1 id)
theorem Ql8(hmix:P.follows .mixedOrders=true){G:Cfg}(hS:C.map (·.sg)=G.sg){fn:Func}{n fuel:Nat}{x y:Code}{s:St}{ls:List Lf}{os:List Ob}(hc:fn.body.bind (Qa6 n)=some (.seq x y))
 (hrun:Qr4 P G fuel fn n s=some (ls,os)) {v:Value} {w0 w:World} {a:Act} {K:Act→World→Prop} (hk:∀a w,y.wp P (bodyPost P fn (Ret v w0)) a w→K a w) (e0:Env) (hR:Rel C I G e0 w0 e0 s a w)
 (hob:QC (fun o=>∀e,Env.agr G.n0 e0 e→Ze C I e o) os)
 (hl:QC (fun l:Lf=>∀e u,Env.agr G.n0 e0 e→QC (Cd.holds C I e) l.cd→l.v.sat e u→u=v) ls):x.wp P (Exit.then K (bodyPost P fn (Ret v w0))) a w:=by
 unfold Qr4 at hrun;rw [hc]at hrun
 dsimp only at hrun
 split at hrun
 ·rename_i es o1 h1;obtain⟨ls',h2,hp⟩:=Ql hrun;simp only [Prod.mk.injEq]at hp;obtain⟨rfl,rfl⟩:=hp;have hob':Oks C I G.n0 e0 o1:=fun o ho=>Ze.ok (hob.all o (Jj ho))
  cases fuel with
  |zero=>unfold Zv at h1;cases h1
  |succ m=>
   unfold Zv at h1;split at h1
   ·rename_i es1 o2 h3;obtain⟨⟨r,o3⟩,h4,hp⟩:=Ql h1;simp only [Prod.mk.injEq]at hp;obtain⟨rfl,rfl⟩:=hp;refine wp_mono (QM hmix m x s G e0 e0 a w es1 o2 hS h3 hob'.left hR) fun z a' w' hz=>?_
    have:=Vq h4 (K:=K) (fun s' r' o' e' a'' w'' h5 h6 h7 hR'=>hk _ _ (wp_mono (QM hmix m y s' G e0 e' a'' w'' r' o' hS h5 (hob'.right.sub h7) hR') fun z a w hz=>QbW h2 hl z a w (Jr.mono h6 z a w hz))) z a' w' hz
    cases z with
    |normal=>exact this
    |_=>exact QbW h2 hl _ _ _ this
   ·cases h1
 ·cases hrun
end
end Go.Proofs.YteplnamfpodmlaaGreat
end
