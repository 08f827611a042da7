/-
  Part of the proof.
-/
import Derived.Test.YteplnamfpodmlaaGreatQSx
import Derived.Laws.StructEq
import Derived.Deep.AppendSrc
import Derived.Laws.MakeOwn
set_option linter.unusedVariables false
set_option linter.unusedSimpArgs false
set_option maxRecDepth 100000
open Go.ChangeShapes Go.WideShapes Go.ChangeAt Go.RowKit
section
namespace Go.Proofs.YteplnamfpodmlaaGreat.T2
inductive SX where
 |i (n:Int)|b (v:Bool)|v (d j:Nat)|r (d sz j:Nat) (x:SX)|r2 (d:Nat) (y:SX) (sz j:Nat) (x:SX)
 |o (p:BinOp) (k:IntKind) (x y:SX)|c (p:BinOp) (x y:SX)|no (x:SX)|eq (x y:SX)|an (x y:SX)
 |it (c x y:SX)|cv (k:IntKind) (x:SX)|mx (x y:SX)|mn (x y:SX)
 deriving DecidableEq,Repr
structure Nm where
 int:Nat→Int
 bool:Nat→Bool
 adr:Nat
 base:Option Addr
 cap:Nat
 nb:Nat→Option Addr
 nc:Nat→Nat
 i2:Nat→Nat→Int
 b2:Nat→Nat→Bool
def Nm.zero:Nm:=⟨fun _=>0,fun _=>false,0,none,0,fun _=>none,fun _=>0,fun _ _=>0,fun _ _=>false⟩
structure Env where
 nm:Nat→Nm
abbrev Env.int(e:Env)(d:Nat):Nat→Int:=(e.nm d).int
abbrev Env.bool(e:Env)(d:Nat):Nat→Bool:=(e.nm d).bool
abbrev Env.adr(e:Env)(d:Nat):Nat:=(e.nm d).adr
abbrev Env.base(e:Env)(d:Nat):Option Addr:=(e.nm d).base
abbrev Env.cap(e:Env)(d:Nat):Nat:=(e.nm d).cap
def SX.den(e:Env):SX→Int×Bool
 | .i n=>(n,false)
 | .b u=>(0,u)
 | .v d j=>(e.int d j,e.bool d j)
 | .r d sz j x=>(e.int d ((x.den e).1.toNat * sz+j),e.bool d ((x.den e).1.toNat * sz+j))
 | .r2 d y sz j x=>((e.nm d).i2 (y.den e).1.toNat ((x.den e).1.toNat * sz+j),(e.nm d).b2 (y.den e).1.toNat ((x.den e).1.toNat * sz+j))
 | .o p k x y=>(arI p k (x.den e).1 (y.den e).1,false)
 | .c p x y=>(0,cmI p (x.den e).1 (y.den e).1)
 | .no x=>(0,!(x.den e).2)
 | .eq x y=>(0,(x.den e).2==(y.den e).2)
 | .an x y=>(0,(x.den e).2 && (y.den e).2)
 | .it g x y=>if(g.den e).2 then x.den e else y.den e
 | .cv k x=>(k.wrap (x.den e).1,false)
 | .mx x y=>(if(y.den e).1 > (x.den e).1 then(y.den e).1 else(x.den e).1,false)
 | .mn x y=>(if(y.den e).1 < (x.den e).1 then(y.den e).1 else(x.den e).1,false)
abbrev SX.int(x:SX)(e:Env):Int:=(x.den e).1
abbrev SX.bool(x:SX)(e:Env):Bool:=(x.den e).2
inductive LX where
 |n (k:IntKind) (x:SX)|t (x:SX)|p (d o:Nat)|pi (d o n sz:Nat) (x:SX) (o2:Nat)|q (d sz:Nat) (x:SX) (o:Nat)
 |qn (d:Nat) (y:SX) (sz:Nat) (x:SX) (o:Nat)|sl (d:Nat) (len:SX)|sb (d n:Nat)|sn (d:Nat) (x:SX)|mp (d:Nat)|fn (f:Nat) (caps:List (Nat×Nat))
 |np|ns|nm
 deriving DecidableEq,Repr
def LX.den(e:Env):LX→Value
 | .n k x=> .int k (x.den e).1
 | .t x=> .bool (x.den e).2
 | .p d o=> .pointer (some ⟨e.adr d,o,none⟩)
 | .pi d o _ sz x o2=> .pointer (some ⟨e.adr d,o+(x.den e).1.toNat * sz+o2,none⟩)
 | .q d sz x o=> .pointer (some (((e.base d).getD default).add ((x.den e).1.toNat * sz+o)))
 | .qn d y sz x o=> .pointer (some ((((e.nm d).nb (y.den e).1.toNat).getD default).add ((x.den e).1.toNat * sz+o)))
 | .sl d len=> .slice (e.base d) (len.den e).1.toNat (e.cap d)
 | .sb d m=> .slice (some ⟨e.adr d,0,none⟩) m m
 | .sn d x=> .slice ((e.nm d).nb (x.den e).1.toNat) (e.int d (x.den e).1.toNat).toNat ((e.nm d).nc (x.den e).1.toNat)
 | .mp d=> .map (some (e.adr d))
 | .fn f caps=> .func (.func f) #[] (caps.map fun p=>Value.pointer (some ⟨e.adr p.1,p.2,none⟩)).toArray
 | .np=> .pointer none
 | .ns=> .slice none 0 0
 | .nm=> .map none
inductive PX where
 |l (x:LX)|a (xs:List LX)
 deriving DecidableEq,Repr
def PX.den(e:Env):PX→Value
 | .l x=>x.den e
 | .a xs=> .agg (xs.map (·.den e)).toArray
inductive VX where
 |v (x:PX)|tp (xs:List PX)|un|any|gd (c:SX) (x:PX)
 deriving DecidableEq,Repr
def VX.sat(e:Env):VX→Value→Prop
 | .v x,u=>u=x.den e
 | .tp xs,u=>u= .tuple (xs.map (·.den e)).toArray
 | .un,u=>u=undef
 | .any,_=>True
 | .gd c x,u=>((c.den e).2=true→u=x.den e)∧((c.den e).2=false→u=undef)
inductive Bd where
 |cells (ty:Nat) (cs:List LX)|row (ks:List (Option IntKind)) (len:SX) (ct:Nat)|map (kk kv:IntKind) (ct:Nat)|nr (ks:List (Option IntKind)) (len:SX) (ct:Nat) (hole:Option SX)
 deriving DecidableEq,Repr
structure Bk where
 id:Nat
 bd:Bd
 deriving DecidableEq,Repr
structure Rw where
 id:Nat
 ks:List (Option IntKind)
 len:SX
 deriving DecidableEq,Repr
inductive Cd where
 |c (x:SX) (v:Bool)|f (d k:Nat) (args:List (PX×Nat))|g (d m k:Nat)
 |z (d:Nat)|u (d:Nat) (src:Option Nat) (x:SX) (sz o:Nat) (cs:List LX)|w (d c:Nat) (x:SX) (v:LX)|a (d c:Nat) (y:SX) (sz:Nat) (cs:List LX)|nu (d c:Nat) (x:SX) (r rc:Nat) (n:SX)
 deriving DecidableEq,Repr
structure St where
 tm:List VX
 up:List (List VX)
 hp:List Bk
 rw:List Rw
 cd:List Cd
 nx:Nat
 deriving DecidableEq,Repr
def Env.off(ok:Nat→Bool)(e e':Env):Prop:=∀x,ok x=true→e.nm x=e'.nm x
def SX.fr(ok:Nat→Bool):SX→Bool
 | .i _| .b _=>true
 | .v x _=>ok x
 | .r x _ _ y=>ok x && y.fr ok
 | .r2 x y _ _ z=>ok x && y.fr ok && z.fr ok
 | .o _ _ x y| .c _ x y| .eq x y| .an x y| .mx x y| .mn x y=>x.fr ok && y.fr ok
 | .no x| .cv _ x=>x.fr ok
 | .it g x y=>g.fr ok && x.fr ok && y.fr ok
def LX.fr(ok:Nat→Bool):LX→Bool
 | .n _ x| .t x=>x.fr ok
 | .p x _| .sb x _| .mp x=>ok x
 | .pi y _ _ _ x _| .q y _ x _| .sl y x| .sn y x=>ok y && x.fr ok
 | .qn y x _ z _=>ok y && x.fr ok && z.fr ok
 | .fn _ caps=>caps.all fun p=>ok p.1
 | .np| .ns| .nm=>true
def PX.fr(ok:Nat→Bool):PX→Bool
 | .l x=>x.fr ok
 | .a xs=>xs.all (·.fr ok)
def VX.fr(ok:Nat→Bool):VX→Bool
 | .v x=>x.fr ok
 | .tp xs=>xs.all (·.fr ok)
 | .un| .any=>true
 | .gd c x=>c.fr ok && x.fr ok
def Bd.fr(ok:Nat→Bool):Bd→Bool
 | .cells _ cs=>cs.all (·.fr ok)
 | .row _ len ct=>len.fr ok && ok ct
 | .map _ _ ct=>ok ct
 | .nr _ len ct hole=>len.fr ok && ok ct && (match hole with|some x=>x.fr ok|none=>true)
def Bk.fr(ok:Nat→Bool)(b:Bk):Bool:=ok b.id && b.bd.fr ok
def Rw.fr(ok:Nat→Bool)(r:Rw):Bool:=ok r.id && r.len.fr ok
def Cd.fr(ok:Nat→Bool):Cd→Bool
 | .c x _=>x.fr ok
 | .f x _ args=>ok x && ok (x+1) && args.all fun p=>p.1.fr ok && ok p.2
 | .g x m _=>(List.range (x+m+1)).all ok
 | .z d=>ok d
 | .u d src x _ _ cs=>ok d && (match src with|some y=>ok y|none=>true) && x.fr ok && cs.all (·.fr ok)
 | .w d d' x v=>ok d && ok d' && x.fr ok && v.fr ok
 | .a d d' y _ cs=>ok d && ok d' && y.fr ok && cs.all (·.fr ok)
 | .nu d d' x r rc k=>ok d && ok d' && x.fr ok && ok r && ok rc && k.fr ok
def St.fr(ok:Nat→Bool)(s:St):Bool:=s.tm.all (·.fr ok) && s.up.all (·.all (·.fr ok)) && s.hp.all (·.fr ok) && s.rw.all (·.fr ok) && s.cd.all (·.fr ok)
section
variable{ok:Nat→Bool}{e e':Env}(h:Env.off ok e e')
include h
theorem SX.den_off:∀(x:SX),x.fr ok=true→x.den e=x.den e'
 | .i _,_=>rfl
 | .b _,_=>rfl
 | .v x j,hf=>by simp only [SX.fr]at hf;simp only [SX.den,Env.int,Env.bool,h x hf]
 | .r x sz j y,hf=>by
   simp only [SX.fr,Bool.and_eq_true]at hf;simp only [SX.den,Env.int,Env.bool,h x hf.1,SX.den_off y hf.2]
 | .r2 x y sz j z,hf=>by
   simp only [SX.fr,Bool.and_eq_true]at hf;simp only [SX.den,h x hf.1.1,SX.den_off y hf.1.2,SX.den_off z hf.2]
 | .o _ _ x y,hf=>by simp only [SX.fr,Bool.and_eq_true]at hf;simp only [SX.den,SX.den_off x hf.1,SX.den_off y hf.2]
 | .c _ x y,hf=>by simp only [SX.fr,Bool.and_eq_true]at hf;simp only [SX.den,SX.den_off x hf.1,SX.den_off y hf.2]
 | .eq x y,hf=>by simp only [SX.fr,Bool.and_eq_true]at hf;simp only [SX.den,SX.den_off x hf.1,SX.den_off y hf.2]
 | .an x y,hf=>by simp only [SX.fr,Bool.and_eq_true]at hf;simp only [SX.den,SX.den_off x hf.1,SX.den_off y hf.2]
 | .mx x y,hf=>by simp only [SX.fr,Bool.and_eq_true]at hf;simp only [SX.den,SX.den_off x hf.1,SX.den_off y hf.2]
 | .mn x y,hf=>by simp only [SX.fr,Bool.and_eq_true]at hf;simp only [SX.den,SX.den_off x hf.1,SX.den_off y hf.2]
 | .no x,hf=>by simp only [SX.fr]at hf;simp only [SX.den,SX.den_off x hf]
 | .cv _ x,hf=>by simp only [SX.fr]at hf;simp only [SX.den,SX.den_off x hf]
 | .it g x y,hf=>by
   simp only [SX.fr,Bool.and_eq_true]at hf;simp only [SX.den,SX.den_off g hf.1.1,SX.den_off x hf.1.2,SX.den_off y hf.2]
theorem LX.den_off(x:LX)(hf:x.fr ok=true):x.den e=x.den e':=by
 cases x with
 |n k x=>simp only [LX.den];rw [SX.den_off h _ hf]
 |t x=>simp only [LX.den];rw [SX.den_off h _ hf]
 |p y o=>simp only [LX.fr]at hf;simp only [LX.den,Env.adr,h _ hf]
 |sb y o=>simp only [LX.fr]at hf;simp only [LX.den,Env.adr,h _ hf]
 |mp y=>simp only [LX.fr]at hf;simp only [LX.den,Env.adr,h _ hf]
 |pi y o m sz x o2=>simp only [LX.fr,Bool.and_eq_true]at hf;simp only [LX.den,Env.adr];rw [h _ hf.1,SX.den_off h _ hf.2]
 |q y sz x o=>simp only [LX.fr,Bool.and_eq_true]at hf;simp only [LX.den,Env.base];rw [h _ hf.1,SX.den_off h _ hf.2]
 |qn y x sz z o=>simp only [LX.fr,Bool.and_eq_true]at hf;simp only [LX.den];rw [h _ hf.1.1,SX.den_off h _ hf.1.2,SX.den_off h _ hf.2]
 |sl y m=>simp only [LX.fr,Bool.and_eq_true]at hf;simp only [LX.den,Env.base,Env.cap];rw [h _ hf.1,SX.den_off h _ hf.2]
 |sn y m=>simp only [LX.fr,Bool.and_eq_true]at hf;simp only [LX.den,Env.int];rw [h _ hf.1,SX.den_off h _ hf.2]
 |fn f caps=>
  simp only [LX.fr]at hf;simp only [LX.den];congr 2;refine List.map_congr_left fun p hp=>?_
  simp only [Env.adr,h _ (List.all_eq_true.1 hf p hp)]
 |np=>rfl
 |ns=>rfl
 |nm=>rfl
theorem Kd(xs:List LX)(hf:xs.all (·.fr ok)=true):xs.map (·.den e)=xs.map (·.den e'):=
 List.map_congr_left fun x hx=>LX.den_off h x (List.all_eq_true.1 hf x hx)
theorem PX.den_off(x:PX)(hf:x.fr ok=true):x.den e=x.den e':=by
 cases x with
 |l x=>exact LX.den_off h x hf
 |a xs=>simp only [PX.den,Kd h xs hf]
theorem YS(xs:List PX)(hf:xs.all (·.fr ok)=true):xs.map (·.den e)=xs.map (·.den e'):=
 List.map_congr_left fun x hx=>PX.den_off h x (List.all_eq_true.1 hf x hx)
theorem VX.sat_off(x:VX)(hf:x.fr ok=true)(u:Value)(hs:x.sat e u):x.sat e' u:=by
 cases x with
 |v x=>simp only [VX.sat]at hs ⊢;rw [hs,PX.den_off h x hf]
 |tp xs=>simp only [VX.sat]at hs ⊢;rw [hs,YS h xs hf]
 |un=>exact hs
 |any=>trivial
 |gd c x=>
  simp only [VX.fr,Bool.and_eq_true]at hf;simp only [VX.sat]at hs ⊢;rw [←SX.den_off h c hf.1,←PX.den_off h x hf.2];exact hs
end
def PX.dat(e:Env)(c:Nat):PX→AD
 | .l (.sl d len)=>⟨(LX.sl d len).den e,e.int c,e.bool c⟩
 |x=>⟨x.den e,fun _=>0,fun _=>false⟩
theorem PX.dat_val(e:Env)(c:Nat)(x:PX):(x.dat e c).val=x.den e:=by
 cases x with
 |l x=>cases x <;> rfl
 |a xs=>rfl
theorem PX.dat_off{ok:Nat→Bool}{e e':Env}(h:Env.off ok e e')(x:PX)(c:Nat)(hf:x.fr ok=true)(hc:ok c=true):x.dat e c=x.dat e' c:=by
 have hd:=PX.den_off h x hf;cases x with
 |a xs=>simp only [PX.dat,hd]
 |l x=>
  cases x <;> first|(simp only [PX.dat,hd];done)|skip
  simp only [PX.den]at hd;simp only [PX.dat,hd,Env.int,Env.bool,h _ hc]
abbrev Jk(e:Env)(p:PX×Nat):AD:=p.1.dat e p.2
def Own(B:Nat)(w:World)(base:Option Addr)(len cap:Nat)(ks:List (Option IntKind))(int:Nat→Int)(bool:Nat→Bool):Prop:=
 len≤cap∧((base=none∧cap=0)∨∃g t cs,base=some ⟨g,0,none⟩∧B≤g∧Blk w g t cs∧cs.size=cap * ks.length∧
  ∀i,i < len→∀(j:Nat) (k:Option IntKind),ks[j]?=some k→cs[i * ks.length+j]?=some (Xu k (int (i * ks.length+j)) (bool (i * ks.length+j))))
theorem Own.keep{B:Nat}{w w':World}{base:Option Addr}{len cap:Nat}{ks:List (Option IntKind)}{int:Nat→Int}{bool:Nat→Bool}(h:Own B w base len cap ks int bool)
 (hk:∀a,base=some a→w'.heap[a.block]?=w.heap[a.block]?):Own B w' base len cap ks int bool:=by
 obtain⟨h1,h2⟩:=h;refine⟨h1,?_⟩;rcases h2 with h2|⟨g,t,cs,rfl,hg,hb,hs,hc⟩
 ·exact .inl h2
 ·exact .inr ⟨g,t,cs,rfl,hg,(hk _ rfl).trans hb,hs,hc⟩
theorem Own.has{B:Nat}{w:World}{base:Option Addr}{len cap:Nat}{ks:List (Option IntKind)}{int:Nat→Int}{bool:Nat→Bool}(h:Own B w base len cap ks int bool)(hl:0 < len):∃a,base=some a:=by
 obtain⟨h1,h2|⟨g,t,cs,rfl,_⟩⟩:=h
 ·omega
 ·exact⟨_,rfl⟩
theorem Own.fp{B:Nat}{w:World}{base:Option Addr}{len cap:Nat}{ks:List (Option IntKind)}{int:Nat→Int}{bool:Nat→Bool}(h:Own B w base len cap ks int bool){a:Addr}(ha:base=some a):B≤a.block∧a.block < w.heap.size:=by
 obtain⟨h1,h2|⟨g,t,cs,hb,hg,hbk,_⟩⟩:=h
 ·rw [h2.1]at ha;cases ha
 ·rw [hb]at ha;cases ha;exact⟨hg,hbk.lt⟩
theorem Own.rowAt{B:Nat}{w:World}{base:Option Addr}{len cap:Nat}{ks:List (Option IntKind)}{int:Nat→Int}{bool:Nat→Bool}(h:Own B w base len cap ks int bool):XW w base len ks int bool:=fun i hi=>by
 obtain⟨h1,h2|⟨g,t,cs,rfl,hg,hb,hs,hc⟩⟩:=h
 ·omega
 ·refine⟨_,rfl,hb.lt,fun j k hj=>?_⟩
  rw [add_mid,hb.walk.1,Nat.zero_add];exact hc i hi j k hj
def Vr(kk kv:IntKind)(es:Array MapEntry)(int:Nat→Int)(bool:Nat→Bool):Prop:=
 (∀m∈es.toList,∃n v,0≤n∧m.key= .int kk n∧m.val= .int kv v)∧
   ∀n:Nat,∃r,Instr.findNow (.int kk) (.int kk n) es.toList 0=some r∧(match r with|some (_,v)=>bool n=true∧v= .int kv (int n)|none=>bool n=false∧int n=0)
def Bk.ok(e:Env)(B:Nat)(w:World)(b:Bk):Prop:=
 match b.bd with
 | .cells ty cs=>B≤e.adr b.id∧Blk w (e.adr b.id) ty (cs.map (·.den e)).toArray
 | .row ks len ct=>Own B w (e.base b.id) (len.den e).1.toNat (e.cap b.id) ks (e.int ct) (e.bool ct)
 | .map kk kv ct=>B≤e.adr b.id∧∃es cl,w.heap[e.adr b.id]?=some (.map es cl)∧Vr kk kv es (e.int ct) (e.bool ct)
 | .nr ks len ct hole=>∃g t cs,e.base b.id=some ⟨g,0,none⟩∧B≤g∧Blk w g t cs∧cs.size=(len.den e).1.toNat∧e.cap b.id=(len.den e).1.toNat∧
    (∀i,i < (len.den e).1.toNat→(∀x,hole=some x→(x.den e).1.toNat≠i)→cs[i]?=some (.slice ((e.nm ct).nb i) (e.int ct i).toNat ((e.nm ct).nc i))∧0≤e.int ct i∧
      Own B w ((e.nm ct).nb i) (e.int ct i).toNat ((e.nm ct).nc i) ks ((e.nm ct).i2 i) ((e.nm ct).b2 i)∧(∀a,(e.nm ct).nb i=some a→a.block≠g)∧
      ∀j,j < (len.den e).1.toNat→(∀x,hole=some x→(x.den e).1.toNat≠j)→i≠j→∀a a',(e.nm ct).nb i=some a→(e.nm ct).nb j=some a'→a.block≠a'.block)
def Bk.fp(e:Env)(b:Bk)(g:Nat):Prop:=
 match b.bd with
 | .cells _ _| .map _ _ _=>g=e.adr b.id
 | .row _ _ _=>∃a,e.base b.id=some a∧a.block=g
 | .nr _ len ct hole=>(∃a,e.base b.id=some a∧a.block=g)∨∃i,i < (len.den e).1.toNat∧(∀x,hole=some x→(x.den e).1.toNat≠i)∧∃a,(e.nm ct).nb i=some a∧a.block=g
theorem Bk.ok.keep{e:Env}{B:Nat}{w w':World}{b:Bk}(h:b.ok e B w)(hk:∀g,b.fp e g→w'.heap[g]?=w.heap[g]?):b.ok e B w':=by
 obtain⟨id,bd⟩:=b;cases bd with
 |cells ty cs=>exact⟨h.1,(hk _ rfl).trans h.2⟩
 |row ks len ct=>exact Own.keep h fun a ha=>hk _ ⟨a,ha,rfl⟩
 |map kk kv ct=>
  obtain⟨h1,es,cl,h2,h3⟩:=h;exact⟨h1,es,cl,(hk _ rfl).trans h2,h3⟩
 |nr ks len ct hole=>
  obtain⟨g,t,cs,hb,hg,hB,hs,hcap,hi⟩:=h;refine⟨g,t,cs,hb,hg,(hk _ (.inl ⟨_,hb,rfl⟩)).trans hB,hs,hcap,fun i h1 h2=>?_⟩
  obtain⟨c1,c2,c3,c4⟩:=hi i h1 h2;exact⟨c1,c2,c3.keep fun a ha=>hk _ (.inr ⟨i,h1,h2,a,ha,rfl⟩),c4⟩
theorem Bk.ok.fp{e:Env}{B:Nat}{w:World}{b:Bk}(h:b.ok e B w){g:Nat}(hg:b.fp e g):B≤g∧g < w.heap.size:=by
 obtain⟨id,bd⟩:=b;cases bd with
 |cells ty cs=>obtain rfl:g=e.adr id:=hg;exact⟨h.1,h.2.lt⟩
 |row ks len ct=>obtain⟨a,ha,rfl⟩:=hg;exact Own.fp h ha
 |map kk kv ct=>
  obtain rfl:g=e.adr id:=hg;obtain⟨h1,es,cl,h2,h3⟩:=h;refine⟨h1,?_⟩;rcases Nat.lt_or_ge (e.adr id) w.heap.size with h0|h0
  ·exact h0
  ·rw [Array.getElem?_eq_none h0]at h2;cases h2
 |nr ks len ct hole=>
  obtain⟨g',t,cs,hb,hg',hB,hs,hcap,hi⟩:=h;rcases hg with ⟨a,ha,rfl⟩|⟨i,h1,h2,a,ha,rfl⟩
  ·replace ha:e.base id=some a:=ha;replace hb:e.base id=some _:=hb;rw [hb]at ha;cases ha;exact⟨hg',hB.lt⟩
  ·exact(hi i h1 h2).2.2.1.fp ha
theorem Bd.off{ok:Nat→Bool}{e e':Env}(h:Env.off ok e e'){b:Bk}(hf:b.fr ok=true):(∀B w,b.ok e B w→b.ok e' B w)∧(∀g,b.fp e' g→b.fp e g):=by
 obtain⟨id,bd⟩:=b;simp only [Bk.fr,Bool.and_eq_true]at hf;obtain⟨h0,hf⟩:=hf;have hid:=h _ h0;cases bd with
 |cells ty cs=>
  refine⟨fun B w hk=>?_,fun g hg=>?_⟩
  ·simp only [Bk.ok,Env.adr]at hk ⊢;rw [←hid,←Kd h cs hf];exact hk
  ·simp only [Bk.fp,Env.adr]at hg ⊢;rw [hid];exact hg
 |map kk kv ct=>
  refine⟨fun B w hk=>?_,fun g hg=>?_⟩
  ·simp only [Bk.ok,Env.adr,Env.int,Env.bool]at hk ⊢;rw [←hid,←h _ hf];exact hk
  ·simp only [Bk.fp,Env.adr]at hg ⊢;rw [hid];exact hg
 |row ks len ct=>
  simp only [Bd.fr,Bool.and_eq_true]at hf;refine⟨fun B w hk=>?_,fun g hg=>?_⟩
  ·simp only [Bk.ok,Env.base,Env.cap,Env.int,Env.bool]at hk ⊢;rw [←hid,←h _ hf.2,←SX.den_off h _ hf.1];exact hk
  ·simp only [Bk.fp,Env.base]at hg ⊢;rw [hid];exact hg
 |nr ks len ct hole=>
  simp only [Bd.fr,Bool.and_eq_true]at hf
  have hh:∀x,hole=some x→x.den e=x.den e':=fun x hx=>by
   subst hx;exact SX.den_off h x hf.2
  have hl:=SX.den_off h _ hf.1.1;have hc:=h _ hf.1.2
  have hiff:∀i,(∀x,hole=some x→(x.den e).1.toNat≠i)↔(∀x,hole=some x→(x.den e').1.toNat≠i):=fun i=>
   ⟨fun hx x he=>by rw [←hh x he];exact hx x he,fun hx x he=>by rw [hh x he];exact hx x he⟩
  refine⟨fun B w hk=>?_,fun g hg=>?_⟩
  ·simp only [Bk.ok,Env.base,Env.cap,Env.int]at hk ⊢;simp only [←hid,←hl,←hc,←hiff];exact hk
  ·simp only [Bk.fp,Env.base]at hg ⊢;simp only [hid,hl,hc,hiff];exact hg
inductive RZ where
 |b (r:RS)|s (ks:List (Option IntKind))|se (ks:List (Option IntKind)) (k:Option IntKind)
 deriving DecidableEq,Repr
def RZ.val(m m':Nm):RZ→Value
 | .b r=>r.val m.int m.bool
 | .s _=> .slice m'.base (m.int 0).toNat m'.cap
 | .se _ k=> .tuple #[.slice m'.base (m.int 0).toNat m'.cap,Xu k (m.int 1) (m.bool 1)]
def RZ.mem(B:Nat)(w:World)(m m':Nm):RZ→Prop
 | .b _=>True
 | .s ks| .se ks _=>Own B w m'.base (m.int 0).toNat m'.cap ks m'.int m'.bool
structure Sg where
 f:FuncId
 args:List SH
 res:RZ
 /-- Qsi arguments have like results. -/
 det:Bool:=false
 /-- Nothing is asked of the arguments. -/
 np:Bool:=false
 deriving DecidableEq,Repr
structure Kon(P:Program) where
 sg:Sg
 pre:List AD→Prop
 post:List AD→Nm→Nm→Prop
 body:∃fn,P.funcs[sg.f]?=some fn∧(fn.name== "runtime.NumGoroutine")=false∧fn.body.isNone=false
 free:sg.np=true→∀ads,pre ads
 flat:sg.det=true→∃r,sg.res= .b r
 total:sg.det=true→∀ads,∃i b,post ads i b
 same:sg.det=true→∀ads i j i' j',post ads i j→post ads i' j'→sg.res.val i j=sg.res.val i' j'
 sound:∀(ads:List AD) (w:World),Qcw w sg.args ads→pre ads→
  Calls P sg.f (ads.map (·.val)).toArray w fun en w'=>∃m m',en= .returned (sg.res.val m m')∧Below w.heap.size w w'∧post ads m m'∧sg.res.mem w.heap.size w' m m'
def _root_.Go.Proofs.YteplnamfpodmlaaGreat.Con.kon{P:Program}(c:Con P):Kon P where
 sg:=⟨c.sg.f,c.sg.args,.b c.sg.res,c.sg.det,false⟩
 free h:=by cases h
 pre:=c.pre
 post ads m _:=c.post ads m.int m.bool
 body:=c.body
 flat _:=⟨_,rfl⟩
 total h ads:=by obtain⟨i,b,hp⟩:=c.total h ads;exact⟨{Nm.zero with int:=i,bool:=b},Nm.zero,hp⟩
 same h ads i j i' j' h1 h2:=c.same h ads _ _ _ _ h1 h2
 sound ads w hf hp:=(c.sound ads w hf hp).mono fun en w' ⟨int,bool,he,hb,hq⟩=>⟨{Nm.zero with int:=int,bool:=bool},Nm.zero,he,hb,hq,trivial⟩
end Go.Proofs.YteplnamfpodmlaaGreat.T2
end
section
namespace Go.Proofs.YteplnamfpodmlaaGreat.T2
def SX.mkO(p:BinOp)(k:IntKind)(x y:SX):SX:=
 match x,y with
 | .i m,.i n=> .i (arI p k m n)
 |x,y=> .o p k x y
def SX.mkC(p:BinOp)(x y:SX):SX:=
 match x,y with
 | .i m,.i n=> .b (cmI p m n)
 |x,y=>if p= .eql∧x=y then .b true else .c p x y
def SX.mkNo(x:SX):SX:=
 match x with
 | .b u=> .b !u
 | .no y=>y
 |y=> .no y
def SX.mkCv(k:IntKind)(x:SX):SX:=
 match x with
 | .i n=> .i (k.wrap n)
 |y=> .cv k y
def SX.mkEq(x y:SX):SX:=
 match x,y with
 | .b u,.b u2=> .b (u==u2)
 |x,y=>if x=y then .b true else .eq x y
def SX.mkAn(x y:SX):SX:=
 match x,y with
 | .b true,y=>y
 | .b false,_=> .b false
 |x,.b true=>x
 |_,.b false=> .b false
 |x,y=> .an x y
def SX.mkIt(g x y:SX):SX:=
 match g with
 | .b true=>x
 | .b false=>y
 |g=>if x=y then x else .it g x y
def SX.mkSel(g x y:SX):SX:=
 match x,y with
 |x,.b false=> .mkAn g x
 | .b true,y=> .mkNo (.mkAn (.mkNo g) (.mkNo y))
 |x,y=> .mkIt g x y
def imp(y:SX)(v:Bool)(x:SX):Option Bool:=
 if y=x then some v else
 match y,x with
 | .c p a (.i m),.c q b (.i n)=>if a=b then Qsl p v m q n else none
 |_,_=>none
def Ve:List Cd→SX→Option Bool
 | [],_=>none
 | .c y v :: cs,x=>match imp y v x with|some r=>some r|none=>Ve cs x
 |_ :: cs,x=>Ve cs x
def ask(cs:List Cd)(x:SX):Option Bool:=
 match x with
 | .b u=>some u
 | .no y=>(Ve cs y).map (!·)
 |x=>Ve cs x
def Zo:SX→Bool→List Cd
 | .no y,v=>Zo y !v
 | .an x y,true=>Zo x true ++ Zo y true
 |x,v=> [.c x v]
def ofL:Value→Option LX
 | .int k n=>some (.n k (.i n))
 | .bool b=>some (.t (.b b))
 | .pointer none=>some .np
 | .slice none 0 0=>some .ns
 | .map none=>some .nm
 |_=>none
def K8:List Value→Option (List LX)
 | []=>some []
 |v :: vs=>match ofL v,K8 vs with|some x,some xs=>some (x :: xs)|_,_=>none
def ofV:Value→Option PX
 | .agg cs=>(K8 cs.toList).map .a
 |v=>(ofL v).map .l
def QP:SX→List SX
 | .an x y=>QP x ++ QP y
 | .b true=> []
 |x=> [x]
def QbV(cs:List Cd)(hs:List SX)(c:SX):Bool:=(QP c).all fun y=>decide (y∈hs) || ask cs y==some true
def evV(hs:List SX)(s:St):Operand→Option VX
 | .tmp t=>match s.tm[t]? with|some .any=>none|some (.gd c x)=>if QbV s.cd hs c=true then some (.v x)else none|x=>x
 | .const v=>(ofV v).map .v
 |_=>none
def evP(hs:List SX)(s:St)(x:Operand):Option PX:=match evV hs s x with|some (.v p)=>some p|_=>none
def Ko(hs:List SX)(s:St):List Operand→Option (List PX)
 | []=>some []
 |x :: xs=>match evP hs s x,Ko hs s xs with|some p,some ps=>some (p :: ps)|_,_=>none
def PX.cells:PX→List LX
 | .l x=> [x]
 | .a xs=>xs
def St.put(s:St)(dst:Option Tmp)(v:VX):St:=match dst with|some t=>{s with tm:=s.tm.set t v}|none=>s
def geZ(x:SX):SX:= .mkC .geq x (.i 0)
def nid(id x:Nat):Bool:=decide (x < id) || decide (id+4≤x)
def Qk1(p:BinOp)(k:IntKind)(a:SX)(k':IntKind)(b:SX):Option (VX×List SX):=
 match p with
 | .add| .sub| .mul| .and| .or| .xor| .andNot=>if k=k' then some (.v (.l (.n k (.mkO p k a b))),[])else none
 | .quo| .rem=>if k=k' then some (.v (.l (.n k (.mkO p k a b))),[.mkC .neq b (.i 0)])else none
 | .shl| .shr=>some (.v (.l (.n k (.mkO p k a b))),[geZ b])
 |p=>if k=k' then some (.v (.l (.t (.mkC p a b))),[])else none
def KU(P:Program)(t:TypeId)(xs:List LX)(off:Nat):Option PX:=
 match Qlz P t with
 |some n=>if((xs.drop off).take n).length=n then some (.a ((xs.drop off).take n))else none
 |none=>if QcX P t=true then(xs[off]?).map .l else none
def QcI(g:TypeId→PX→PX→Option SX)(P:Program)(xs ys:List LX):List Field→Option SX
 | []=>some (.b true)
 |f :: fs=>
  if f.name= "_" then none else
  match KU P f.type xs f.offset,KU P f.type ys f.offset with
  |some a,some b=>match g f.type a b,QcI g P xs ys fs with|some u,some v=>some (.mkAn u v)|_,_=>none
  |_,_=>none
def QcG(g:PX→PX→Option SX)(P:Program)(e:TypeId)(n:Nat)(xs ys:List LX):List Nat→Option SX
 | []=>some (.b true)
 |i :: is=>
  match KU P e xs (i * n),KU P e ys (i * n)with
  |some a,some b=>match g a b,QcG g P e n xs ys is with|some u,some v=>some (.mkAn u v)|_,_=>none
  |_,_=>none
def eqX(P:Program):Nat→TypeId→PX→PX→Option SX
 |0,_,_,_=>none
 |d+1,t,x,y=>
  match P.underlying t,x,y with
  |some .bool,.l (.t a),.l (.t b)=>some (.mkEq a b)
  |some (.int _),.l (.n k a),.l (.n k' b)=>if k=k' then some (.mkC .eql a b)else none
  |some (.struct fs),.a xs,.a ys=>if P.stoodInHeld t=true then none else QcI (eqX P d) P xs ys fs.toList
  |some (.array len e),.a xs,.a ys=>match P.info? e with|some ie=>QcG (eqX P d e) P e ie.size xs ys (List.range len)|none=>none
  |_,_,_=>none
def Kp(place:Nat→Option (Nat×Nat))(cells:List LX):List (Nat×PX)→Option (List LX)
 | []=>some cells
 |(i,v) :: rest=>
  match place i with
  |none=>none
  |some (off,size)=>
   if v.cells.length=size∧off+size≤cells.length then Kp place (cells.take off ++ v.cells ++ cells.drop (off+size)) rest else none
def JI(hs:List SX)(s:St):List (Nat×Operand)→Option (List (Nat×PX))
 | []=>some []
 |(i,x) :: xs=>match evP hs s x,JI hs s xs with|some p,some ps=>some ((i,p) :: ps)|_,_=>none
def Kx(P:Program):List Field→Option (List (Nat×Nat))
 | []=>some []
 |f :: fs=>match P.info? f.type,Kx P fs with|some i,some ps=>some ((f.offset,i.size) :: ps)|_,_=>none
def Qak(P:Program)(t:TypeId)(parts:List (Nat×PX)):Option (List LX):=
 match P.info? t,P.underlying t with
 |some it,some (.array _ e)=>
  match it.zero,P.info? e with
  |some z,some ie=>match K8 z.cells.toList with|some zs=>Kp (fun i=>some (i * ie.size,ie.size)) zs parts|none=>none
  |_,_=>none
 |some it,some (.struct fields)=>
  match it.zero,Kx P fields.toList with
  |some z,some places=>match K8 z.cells.toList with|some zs=>Kp (places.toArray[·]?) zs parts|none=>none
  |_,_=>none
 |_,_=>none
def Qby(s:St)(d:Nat):Option Bk:=s.hp.find? (·.id==d)
def XH(s:St)(d:Nat):Option (Nat×List LX):=match Qby s d with|some ⟨_,.cells ty cs⟩=>some (ty,cs)|_=>none
def W1(s:St)(d:Nat):Option (List (Option IntKind)×SX×Nat):=
 match Qby s d with
 |some ⟨_,.row ks len ct⟩=>some (ks,len,ct)
 |some _=>none
 |none=>match s.rw.find? (·.id==d)with|some r=>some (r.ks,r.len,r.id)|none=>none
def QaV(s:St)(d:Nat):Option (List (Option IntKind)×SX×Nat):=match Qby s d with|some ⟨_,.row ks len ct⟩=>some (ks,len,ct)|_=>none
def QoF(s:St)(d:Nat):Option (List (Option IntKind)×SX×Nat×Option SX):=match Qby s d with|some ⟨_,.nr ks len ct h⟩=>some (ks,len,ct,h)|_=>none
def QnP(s:St)(d:Nat):Option (IntKind×IntKind×Nat):=match Qby s d with|some ⟨_,.map kk kv ct⟩=>some (kk,kv,ct)|_=>none
def Qul(c:Nat)(b:Bk):Bool:=match b.bd with| .nr _ _ ct none=>ct==c|_=>false
def Qle(s:St)(c:Nat):Option (Nat×List (Option IntKind)×SX):=match s.hp.find? (Qul c)with|some ⟨d,.nr ks len _ none⟩=>some (d,ks,len)|_=>none
def QqR(s:St)(d:Nat)(len:SX):Bool:=
 match W1 s d with
 |some (_,l,_)=>decide (l=len)
 |none=>match QoF s d with|some (_,l,_,_)=>decide (l=len)|none=>false
def QbS(s:St):PX→Nat
 | .l (.sl d _)=>match W1 s d with|some (_,_,ct)=>ct|none=>d
 |_=>0
def QqQ(s:St):LX→Option (SX×List SX)
 | .sl _ m=>some (m,[geZ m])
 | .ns=>some (.i 0,[])
 | .sb _ m=>some (.i m,[])
 | .sn c y=>match Qle s c with|some (_,_,l)=>some (.r c 1 0 y,[geZ y,.mkC .lss y l])|none=>none
 |_=>none
def Qhw:List PX→Option (List (Nat×Nat))
 | []=>some []
 | .l (.p d o) :: ps=>(Qhw ps).map ((d,o) :: ·)
 |_=>none
def Jl(P:Program)(hs:List SX)(s:St)(o:Op):Option (VX×List SX):=
 match o with
 | .move x=>(evV hs s x).map (·,[])
 | .assign x=>(evV hs s x).map (·,[])
 | .pick c a b=>
   match evP hs s c with
   |some (.l (.t g))=>
    match ask s.cd g with
    |some true=>(evV (QP g ++ hs) s a).map (·,[])
    |some false=>(evV (QP g.mkNo ++ hs) s b).map (·,[])
    |none=>match evP (QP g ++ hs) s a,evP (QP g.mkNo ++ hs) s b with
     |some (.l (.t x)),some (.l (.t y))=>some (.v (.l (.t (.mkSel g x y))),[])
     |_,_=>none
   |_=>none
 | .unOp .not _ x=>match evP hs s x with|some (.l (.t a))=>some (.v (.l (.t (.mkNo a))),[])|_=>none
 | .unOp .neg _ x=>match evP hs s x with|some (.l (.n k a))=>some (.v (.l (.n k (.mkO .sub k (.i 0) a))),[])|_=>none
 | .binOp p t x y _=>
   match evP hs s x,evP hs s y with
   |some (.l (.n k a)),some (.l (.n k' b))=>Qk1 p k a k' b
   |some (.l (.t a)),some (.l (.t b))=>
    match P.underlying t,p with
    |some .bool,.eql=>some (.v (.l (.t (.mkEq a b))),[])
    |some .bool,.neq=>some (.v (.l (.t (.mkNo (.mkEq a b)))),[])
    |_,_=>none
   |some (.a xs),some (.a ys)=>
    if P.eqGuardType P.depth t=true then none else
    match eqX P 6 t (.a xs) (.a ys),p with
    |some g,.eql=>some (.v (.l (.t g)),[])
    |some g,.neq=>some (.v (.l (.t (.mkNo g))),[])
    |_,_=>none
   |_,_=>none
 | .convert src dst x=>
   match P.underlying src,P.underlying dst,evP hs s x with
   |some _,some (.int k),some (.l (.n _ a))=>some (.v (.l (.n k (.mkCv k a))),[])
   |_,_,_=>none
 | .fieldAddr t x f=>
   match P.underlying t with
   |some (.struct fs)=>
    match fs[f]? with
    |some fd=>
     match P.info? fd.type with
     |some fi=>
      if fi.size=0 then none else
      match evP hs s x with
      |some (.l (.p d o))=>some (.v (.l (.p d (o+fd.offset))),[])
      |some (.l (.pi d o n sz i o2))=>some (.v (.l (.pi d o n sz i (o2+fd.offset))),[])
      |some (.l (.q d sz i o))=>some (.v (.l (.q d sz i (o+fd.offset))),[])
      |some (.l (.qn d y sz i o))=>some (.v (.l (.qn d y sz i (o+fd.offset))),[])
      |_=>none
     |none=>none
    |none=>none
   |_=>none
 | .indexAddr t x ix=>
   match P.underlying t,evP hs s x,evP hs s ix with
   |some (.array len e),some (.l (.p d o)),some (.l (.n _ i))=>
    match P.info? e,i with
    |some ie,.i n=>if 0≤n∧n < (len:Int)then some (.v (.l (.p d (o+n.toNat * ie.size))),[])else none
    |some ie,i=>some (.v (.l (.pi d o len ie.size i 0)),[geZ i,.mkC .lss i (.i len)])
    |_,_=>none
   |some (.array len e),some (.l (.q d sz y o)),some (.l (.n _ i))=>
    match P.info? e,i with
    |some ie,.i n=>if 0≤n∧n < (len:Int)then some (.v (.l (.q d sz y (o+n.toNat * ie.size))),[])else none
    |_,_=>none
   |some (.slice e),some (.l (.sl d len)),some (.l (.n _ i))=>
    match P.info? e with
    |some ie=>
     if QqR s d len=true then some (.v (.l (.q d ie.size i 0)),[geZ i,.mkC .lss i len,geZ len])else none
    |_=>none
   |some (.slice e),some (.l (.sn c y)),some (.l (.n _ i))=>
    match P.info? e,Qle s c with
    |some ie,some (_,_,l)=>some (.v (.l (.qn c y ie.size i 0)),[geZ y,.mkC .lss y l,geZ i,.mkC .lss i (.r c 1 0 y)])
    |_,_=>none
   |_,_,_=>none
 | .field t x f=>
   match P.underlying t,evP hs s x with
   |some (.struct fs),some (.a xs)=>
    match fs[f]? with
    |some fd=>
     match Qlz P fd.type with
     |some n=>some (.v (.a ((xs.drop fd.offset).take n)),[])
     |none=>if QcX P fd.type then(xs[fd.offset]?).map fun v=>(.v (.l v),[])else none
    |none=>none
   |_,_=>none
 | .build t parts=>
   match JI hs s parts.toList with
   |some ps=>(Qak P t ps).map fun cs=>(.v (.a cs),[])
   |none=>none
 | .extract x i=>match evV hs s x with|some (.tp ps)=>(ps[i]?).map fun p=>(.v p,[])|_=>none
 | .nilCheck x=>
   match evP hs s x with
   |some (.l (.p d o))=>some (.v (.l (.p d o)),[])
   |_=>none
 | .call {callee:= .builtin .len,args,argTypes}=>
   match args.toList,argTypes[0]? with
   | [x],some t=>
     match P.underlying t,evP hs s x with
     |some (.slice _),some (.l y)=>(QqQ s y).map fun(m,xs)=>(.v (.l (.n .i64 m)),xs)
     |_,_=>none
   |_,_=>none
 | .makeFunc (.func f) first captured=>
   match first.toList,Ko hs s captured.toList with
   | [],some ps=>(Qhw ps).map fun c=>(.v (.l (.fn f c)),[])
   |_,_=>none
 | .call {callee:= .builtin .max,args,..}=>
   match Ko hs s args.toList with
   |some [.l (.n k x),.l (.n k' y)]=>if k=k' then some (.v (.l (.n k (.mx x y))),[])else none
   |_=>none
 | .call {callee:= .builtin .min,args,..}=>
   match Ko hs s args.toList with
   |some [.l (.n k x),.l (.n k' y)]=>if k=k' then some (.v (.l (.n k (.mn x y))),[])else none
   |_=>none
 |_=>none
def Ww(k:IntKind):List LX→Option (List SX)
 | []=>some []
 | .n k' x :: xs=>if k=k' then(Ww k xs).map (x :: ·)else none
 |_=>none
def Vu:List LX→Option (List SX)
 | []=>some []
 | .t x :: xs=>(Vu xs).map (x :: ·)
 |_=>none
def QcR(x:SX):Nat→List SX→SX
 |_,[]=> .i 0
 |_,[y]=>y
 |k,y :: ys=> .it (.c .eql x (.i k)) y (QcR x (k+1) ys)
def Qgh(x:SX)(ys:List SX):SX:=
 match ys with
 | .v d j :: .v d' j' :: _=>if d=d'∧j < j'∧ys=(List.range ys.length).map (fun k=> .v d (k * (j' - j)+j))then .r d (j' - j) j x else QcR x 0 ys
 |ys=>QcR x 0 ys
def Ql3(x:SX)(ys:List LX):Option LX:=
 match ys with
 | .n k _ :: _=>(Ww k ys).map fun l=> .n k (Qgh x l)
 | .t _ :: _=>(Vu ys).map fun l=> .t (Qgh x l)
 |_=>none
def Qk3(cs:List LX)(o n sz c:Nat):Option (List LX):=go (List.range n)
where
 go:List Nat→Option (List LX)
  | []=>some []
  |k :: ks=>match cs[o+k * sz+c]?,go ks with|some x,some xs=>some (x :: xs)|_,_=>none
def W7(x:SX)(cs:List LX)(o n sz:Nat):List Nat→Option (List LX)
 | []=>some []
 |c :: rest=>match (Qk3 cs o n sz c).bind (Ql3 x),W7 x cs o n sz rest with|some y,some ys=>some (y :: ys)|_,_=>none
def Jy(d sz:Nat)(x:SX)(ks:List (Option IntKind)):List Nat→Option (List LX)
 | []=>some []
 |j :: js=>match ks[j]?,Jy d sz x ks js with
  |some none,some ys=>some (.t (.r d sz j x) :: ys)
  |some (some k),some ys=>some (.n k (.r d sz j x) :: ys)
  |_,_=>none
def Y8(d:Nat)(y:SX)(sz:Nat)(x:SX)(ks:List (Option IntKind)):List Nat→Option (List LX)
 | []=>some []
 |j :: js=>match ks[j]?,Y8 d y sz x ks js with
  |some none,some ys=>some (.t (.r2 d y sz j x) :: ys)
  |some (some k),some ys=>some (.n k (.r2 d y sz j x) :: ys)
  |_,_=>none
def Yq(row:Bool)(cs:List LX):Option PX:=if row then some (.a cs)else match cs with| [c]=>some (.l c)|_=>none
def Y0(P:Program)(s:St)(t:TypeId)(a:LX):Option (PX×List SX):=
 match Qfk P t with
 |none=>none
 |some (row,m)=>
  match a with
  | .p d o=>
    match XH s d with
    |some (_,cs)=>if((cs.drop o).take m).length=m then(Yq row ((cs.drop o).take m)).map (·,[])else none
    |none=>none
  | .pi d o n sz x o2=>
    match XH s d with
    |some (_,bs)=>match W7 x bs o n sz ((List.range m).map (o2+ ·))with
     |some cs=>(Yq row cs).map (·,[geZ x,.mkC .lss x (.i n)])
     |none=>none
    |none=>none
  | .q d sz x o=>
    match W1 s d with
    |some (ks,len,ct)=>if ks.length=sz then match Jy ct sz x ks ((List.range m).map (o+ ·))with
     |some cs=>(Yq row cs).map (·,[geZ x,.mkC .lss x len])
     |none=>none else none
    |none=>
     match QoF s d with
     |some (_,len,ct,none)=>if sz=1∧o=0∧row=false then some (.l (.sn ct x),[geZ x,.mkC .lss x len])else none
     |_=>none
  | .qn c y sz x o=>
    match Qle s c with
    |some (_,ks,len)=>if ks.length=sz then match Y8 c y sz x ks ((List.range m).map (o+ ·))with
     |some cs=>(Yq row cs).map (·,[geZ y,.mkC .lss y len,geZ x,.mkC .lss x (.r c 1 0 y)])
     |none=>none else none
    |none=>none
  |_=>none
def QkP(g:SX)(x y:LX):Option LX:=
 match x,y with
 | .n k a,.n k' b=>if k=k' then some (.n k (.mkIt g a b))else none
 | .t a,.t b=>some (.t (.mkIt g a b))
 |_,_=>none
def QdA(x:SX)(vs:List LX)(o n sz o2:Nat):Nat→List LX→Option (List LX)
 |_,[]=>some []
 |j,c :: cs=>
  match QdA x vs o n sz o2 (j+1) cs with
  |none=>none
  |some rest=>
   if o≤j∧j < o+n * sz∧o2≤(j - o) % sz∧(j - o) % sz < o2+vs.length then
    match vs[(j - o) % sz - o2]? with
    |some v=>(QkP (.c .eql x (.i ((j - o) / sz:Nat))) v c).map (· :: rest)
    |none=>none
   else some (c :: rest)
def Xq(b:Bk):List Bk→List Bk
 | []=> [b]
 |c :: cs=>if b.id≤c.id then b :: c :: cs else c :: Xq b cs
def YY(s:St)(d:Nat)(bd:Bd):St:={s with hp:=s.hp.map fun b=>if b.id=d then {b with bd:=bd}else b}
def YK(s:St)(d:Nat):St:={s with hp:=s.hp.filter fun b=> !(b.id==d)}
def kindsX:List LX→List (Option IntKind)→Bool
 | [],[]=>true
 | .t _ :: xs,none :: ks=>kindsX xs ks
 | .n k' _ :: xs,some k :: ks=>k==k' && kindsX xs ks
 |_,_=>false
def KL:List LX→Option (List (Option IntKind))
 | []=>some []
 | .t _ :: xs=>(KL xs).map (none :: ·)
 | .n k _ :: xs=>(KL xs).map (some k :: ·)
 |_=>none
def Qup(bd:Bd)(ct:Nat):Bd:=
 match bd with
 | .row ks len _=> .row ks len ct
 | .map kk kv _=> .map kk kv ct
 | .nr ks len _ h=> .nr ks len ct h
 |bd=>bd
def Qa3(P:Program)(G0:Nat)(s:St)(id:Nat)(t:TypeId)(a:LX)(v:PX):Option (St×List SX):=
 match (P.info? t).map (·.size)with
 |none=>none
 |some m=>
  if v.cells.length=m then
   match a with
   | .p d o=>
     match XH s d with
     |some (ty,bs)=>if o+m≤bs.length then some (YY s d (.cells ty (bs.take o ++ v.cells ++ bs.drop (o+m))),[])else none
     |none=>none
   | .pi d o n sz x o2=>
     match XH s d with
     |some (ty,bs)=>if o+n * sz≤bs.length∧o2+m≤sz then(QdA x v.cells o n sz o2 0 bs).map fun cs=>(YY s d (.cells ty cs),[geZ x,.mkC .lss x (.i n)])else none
     |none=>none
   | .q d sz x o=>
     match QaV s d with
     |some (ks,len,ct)=>
      if ks.length=sz∧o+m≤sz∧kindsX v.cells ((ks.drop o).take m)=true∧G0≤id∧s.fr (nid id)=true then
       some ({YY s d (.row ks len id)with cd:= .u id (some ct) x sz o v.cells :: s.cd},[geZ x,.mkC .lss x len])
      else none
     |none=>
      match QoF s d,v with
      |some (ks,len,ct,some x'),.l (.sl r rl)=>
       match QaV s r with
       |some (ks',rl',rc)=>
        if sz=1∧o=0∧x=x'∧ks=ks'∧rl=rl'∧r≠d∧G0≤id∧s.fr (nid id)=true then
         some ({YY (YK s r) d (.nr ks len id none)with cd:= .nu id ct x r rc rl :: s.cd},[geZ x,.mkC .lss x len,geZ rl])
        else none
       |none=>none
      |_,_=>none
   |_=>none
  else none
def Yg(s:St):SH→PX→Bool
 | .l none,.l (.t _)=>true
 | .l (some k),.l (.n k' _)=>k==k'
 | .a ks,.a xs=>kindsX xs ks
 | .sl ks,.l (.sl d len)=>match W1 s d with|some (ks',l,_)=>decide (ks'=ks∧l=len)|none=>false
 | .sl _,.l .ns=>true
 |_,_=>false
def Kq(s:St):List SH→List PX→Bool
 | [],[]=>true
 |h :: hs,p :: ps=>Yg s h p && Kq s hs ps
 |_,_=>false
def JP(d j:Nat):Option IntKind→LX
 |none=> .t (.v d j)
 |some k=> .n k (.v d j)
def Qa(d:Nat):Nat→List (Option IntKind)→List LX
 |_,[]=> []
 |j,k :: ks=>JP d j k :: Qa d (j+1) ks
def J7(d:Nat):Nat→List (Option IntKind ⊕ List (Option IntKind))→List PX
 |_,[]=> []
 |j,.inl k :: cs=> .l (JP d j k) :: J7 d (j+1) cs
 |j,.inr ks :: cs=> .a (Qa d j ks) :: J7 d (j+ks.length) cs
def RS.inst(d:Nat):RS→VX
 | .no=> .tp []
 | .l k=> .v (.l (JP d 0 k))
 | .a ks=> .v (.a (Qa d 0 ks))
 | .tp cs=> .tp (J7 d 0 cs)
def RZ.inst(d:Nat):RZ→VX
 | .b r=>RS.inst d r
 | .s _=> .v (.l (.sl (d+1) (.v d 0)))
 | .se _ k=> .tp [.l (.sl (d+1) (.v d 0)),.l (JP d 1 k)]
def RZ.blk(d:Nat):RZ→List Bk
 | .b _=> []
 | .s ks| .se ks _=> [⟨d+1,.row ks (.v d 0) (d+1)⟩]
def JG(f:FuncId):Nat→List Sg→Option (Nat×Sg)
 |_,[]=>none
 |k,g :: gs=>if g.f=f then some (k,g)else JG f (k+1) gs
def ZI(k:Nat)(ps:List (PX×Nat)):List Cd→Option Nat
 | []=>none
 | .f d k' ps' :: cs=>if k'=k∧ps'=ps then some d else ZI k ps cs
 |_ :: cs=>ZI k ps cs
inductive Ob where
 |cl (cd:List Cd) (x:SX)|pre (cd:List Cd) (k:Nat) (args:List (PX×Nat))|inv (cd:List Cd) (k d:Nat) (xs:List LX) (ms:List (Option (Nat×Nat)))
 deriving DecidableEq,Repr
def owe(s:St)(xs:List SX):List Ob:=(xs.filter fun x=>ask s.cd x != some true).map (Ob.cl s.cd ·)
def Qlj(s:St)(hs xs:List SX):List Ob:=(xs.filter fun x=> !(QbV s.cd hs x)).map (Ob.cl (hs.map (Cd.c · true) ++ s.cd) ·)
inductive HL where
 |s (t:Nat)|c (t o:Nat)
 deriving DecidableEq,Repr
inductive Hv where
 |num (l:HL) (k:Option IntKind)|ct (l:HL)|row (l:HL) (ks:List (Option IntKind))
 deriving DecidableEq,Repr
structure Lp where
 f:FuncId
 tag:Nat
 k:Nat
 hv:List Hv
 c:Nat
 up:Nat ⊕ SX
 /-- What was QbV ahead of the loop is kept. -/
 keep:Bool:=false
 deriving DecidableEq,Repr
structure Mg where
 f:FuncId
 tag:Nat
 k:Nat
 hv:List Hv
 keep:List Nat
 deriving DecidableEq,Repr
structure Cfg where
 n0:Nat
 sg:List Sg
 lp:List Lp
 inl:List FuncId
 mg:List Mg:= []
abbrev Inl:=Cfg→FuncId→List PX→St→Option (List (VX×St)×List Ob)
def Qsb:LX→Bool
 | .n _ (.i 0)| .t (.b false)=>true
 |_=>false
def J2(P:Program)(t:TypeId):Option (List (Option IntKind)):=
 match (P.info? t).bind (·.zero)with
 |some z=>match K8 z.cells.toList with|some cs=>if cs.all Qsb=true then KL cs else none|none=>none
 |none=>none
def QtP(P:Program)(t:TypeId):Option LX:=
 match (P.info? t).bind (·.zero)with
 |some z=>match K8 z.cells.toList with|some [x]=>some x|_=>none
 |none=>none
def Yt(P:Program)(t:TypeId):Option (TypeId×Nat):=
 match P.underlying t with
 |some (.slice e)=>match P.info? e with|some i=>if i.bytes≤100000 then some (e,i.size)else none|none=>none
 |_=>none
def QdX:SX:= .i 1000000
def Qfw(P:Program)(G0:Nat)(s:St)(id:Nat)(t:TypeId)(dst src:LX):Option (St×LX×List SX):=
 match Yt P t with
 |none=>none
 |some (e,sz)=>
  if G0≤id∧s.fr (nid id)=true then
   match src with
   | .sb d2 1=>
     match XH s d2 with
     |some (_,cs)=>
      match KL cs with
      |some ks=>
       if cs.length=sz∧J2 P e=some ks then
        match dst with
        | .ns=>some ({s with hp:=Xq ⟨id,.row ks (.i 1) id⟩ s.hp,cd:= .u id none (.i 0) sz 0 cs :: s.cd},.sl id (.i 1),[])
        | .sl d len=>
          match QaV s d with
          |some (ks',len',ct)=>
           if ks'=ks∧len'=len then some ({s with hp:=Xq ⟨id,.row ks (.mkO .add .i64 len (.i 1)) id⟩ (YK s d).hp,cd:= .u id (some ct) len sz 0 cs :: s.cd},.sl id (.mkO .add .i64 len (.i 1)),[geZ len,.mkC .leq len QdX])else none
          |none=>none
        | .sn c y=>
          match Qle s c with
          |some (d,ks',l)=>
           if ks'=ks then some ({s with hp:=Xq ⟨id,.row ks (.mkO .add .i64 (.r c 1 0 y) (.i 1)) id⟩ (YY s d (.nr ks l c (some y))).hp,cd:= .a id c y sz cs :: s.cd},.sl id (.mkO .add .i64 (.r c 1 0 y) (.i 1)),[geZ y,.mkC .lss y l,.mkC .leq (.r c 1 0 y) QdX])else none
          |none=>none
        |_=>none
       else none
      |none=>none
     |none=>none
   | .sl d2 l2=>
     match dst,W1 s d2 with
     | .sb d1 0,some (ks,l2',ct)=>
       match XH s d1 with
       |some (_,[])=>if l2'=l2∧ks.length=sz∧J2 P e=some ks∧d1≠d2 then some ({s with hp:=Xq ⟨id,.row ks l2 ct⟩ (YK s d1).hp},.sl id l2,[geZ l2,.mkC .leq l2 QdX])else none
       |_=>none
     |_,_=>none
   | .ns=>
     match dst with
     | .sb d1 0=>
       match XH s d1,J2 P e with
       |some (_,[]),some ks=>if ks.length=sz then some ({s with hp:=Xq ⟨id,.row ks (.i 0) id⟩ (YK s d1).hp,cd:= .z id :: s.cd},.sl id (.i 0),[])else none
       |_,_=>none
     |_=>none
   | .sb d2 k2=>
     match dst with
     | .sb d1 m=>
       match XH s d1,XH s d2,J2 P e with
       |some (_,xs),some (_,ys),some [q]=>
        if sz=1∧(xs.length=m∧ys.length=k2)∧0 < ys.length∧xs.length+ys.length≤1000∧kindsX xs (List.replicate xs.length q)=true∧kindsX ys (List.replicate ys.length q)=true then
         some ({s with hp:=Xq ⟨id,.row [q] (.i ((xs.length+ys.length:Nat):Int)) id⟩ s.hp},.sl id (.i ((xs.length+ys.length:Nat):Int)),[])
        else none
       |_,_,_=>none
     |_=>none
   |_=>none
  else none
def QqU(P:Program)(G0:Nat)(s:St)(id:Nat)(t:TypeId)(n:SX):Option (St×LX×List SX):=
 match Yt P t with
 |none=>none
 |some (e,sz)=>
  if G0≤id∧s.fr (nid id)=true then
   match P.underlying e with
   |some (.slice e2)=>
    match (P.info? e).bind (·.zero),J2 P e2 with
    |some (.slice none 0 0),some ks=>if sz=1 then some ({s with hp:=Xq ⟨id,.nr ks n id none⟩ s.hp,cd:= .z id :: s.cd},.sl id n,[geZ n,.mkC .leq n QdX])else none
    |_,_=>none
   |_=>
    match J2 P e with
    |some ks=>if ks.length=sz then some ({s with hp:=Xq ⟨id,.row ks n id⟩ s.hp,cd:= .z id :: s.cd},.sl id n,[geZ n,.mkC .leq n QdX])else none
    |none=>none
  else none
def Vc(P:Program)(inl:Inl)(G:Cfg)(id:Nat)(o:Oper)(s:St):Option (List St×List Ob):=
 match o.op with
 | .alloc t=>
   if G.n0≤id∧s.fr (nid id)=true then
    match (P.info? t).bind (·.zero)with
    |some z=>(K8 z.cells.toList).map fun cs=>([{s with hp:=Xq ⟨id,.cells t cs⟩ s.hp}.put o.dst (.v (.l (.p id 0)))],[])
    |none=>none
   else none
 | .box t x=>
   if G.n0≤id∧s.fr (nid id)=true then(evP [] s x).map fun p=>([{s with hp:=Xq ⟨id,.cells t p.cells⟩ s.hp}.put o.dst (.v (.l (.p id 0)))],[])else none
 | .buildSlice t n parts=>
   match Yt P t,JI [] s parts.toList with
   |some (e,sz),some ps=>
    if G.n0≤id∧s.fr (nid id)=true then
     if sz=1∧2≤n∧n≤1000 then
      match (QtP P e).bind fun z=>Kp (fun i=>some (i * 1,1)) (List.replicate n z) ps with
      |some cs=>some ([{s with hp:=Xq ⟨id,.cells e cs⟩ s.hp}.put o.dst (.v (.l (.sb id n)))],[])
      |none=>none
     else
     match n,ps with
     |0,[]=>some ([{s with hp:=Xq ⟨id,.cells e []⟩ s.hp}.put o.dst (.v (.l (.sb id 0)))],[])
     |1,[(0,p)]=>
      match J2 P e with
      |some ks=>if p.cells.length=sz∧ks.length=sz∧0 < sz∧sz≤1000 then some ([{s with hp:=Xq ⟨id,.cells e p.cells⟩ s.hp}.put o.dst (.v (.l (.sb id 1)))],[])else none
      |none=>none
     |2,[(0,p),(1,q)]=>
      match J2 P e with
      |some ks=>if KL p.cells=some ks∧KL q.cells=some ks∧ks.length=sz∧0 < sz∧sz≤1000 then some ([{s with hp:=Xq ⟨id,.row ks (.i 2) id⟩ s.hp,cd:= .u id none (.i 0) sz 0 (p.cells ++ q.cells) :: s.cd}.put o.dst (.v (.l (.sl id (.i 2))))],[])else none
      |none=>none
     |_,_=>none
    else none
   |_,_=>none
 | .makeSlice t len cap=>
   match evP [] s len,evP [] s cap with
   |some (.l (.n .i64 n)),some (.l (.n .i64 n'))=>if n=n' then(QqU P G.n0 s id t n).map fun(s',v,xs)=>([s'.put o.dst (.v (.l v))],owe s xs)else none
   |_,_=>none
 | .makeMap t none=>
   match P.underlying t with
   |some (.map kt et)=>
    match P.underlying kt,P.underlying et with
    |some (.int kk),some (.int kv)=>if G.n0≤id∧s.fr (nid id)=true then some ([{s with hp:=Xq ⟨id,.map kk kv id⟩ s.hp,cd:= .z id :: s.cd}.put o.dst (.v (.l (.mp id)))],[])else none
    |_,_=>none
   |_=>none
 | .lookup t x ix ok=>
   match P.underlying t,evP [] s x,evP [] s ix with
   |some (.map kt et),some (.l (.mp d)),some (.l (.n k i))=>
    match QnP s d,P.underlying kt,(P.info? et).bind (·.zero)with
    |some (kk,kv,ct),some (.int kk'),some (.int kv' 0)=>
     if kk=k∧kk'=kk∧kv=kv' then some ([s.put o.dst (if ok then .tp [.l (.n kv (.r ct 1 0 i)),.l (.t (.r ct 1 0 i))]else .v (.l (.n kv (.r ct 1 0 i))))],owe s [geZ i])else none
    |_,_,_=>none
   |_,_,_=>none
 | .mapUpdate t x ix v=>
   match P.underlying t,evP [] s x,evP [] s ix,evP [] s v with
   |some (.map kt _),some (.l (.mp d)),some (.l (.n k i)),some (.l (.n kv' y))=>
    match QnP s d,P.underlying kt with
    |some (kk,kv,ct),some (.int kk')=>
     if kk=k∧kk'=kk∧kv=kv'∧G.n0≤id∧s.fr (nid id)=true then some ([{YY s d (.map kk kv id)with cd:= .w id ct i (.n kv y) :: s.cd}.put o.dst .un],owe s [geZ i])else none
    |_,_=>none
   |_,_,_,_=>none
 | .slice t x none (some h) none=>
   match P.underlying t,evP [] s x,evP [] s h with
   |some (.slice _),some (.l (.sl d len)),some (.l (.n _ i))=>
    match QaV s d with
    |some (ks,len',ct)=>if len'=len∧(Yt P t).isSome=true then some ([(YY s d (.row ks i ct)).put o.dst (.v (.l (.sl d i)))],owe s [geZ i,.mkC .leq i len])else none
    |none=>none
   |_,_,_=>none
 | .load t a=>
   match evP [] s a with
   |some (.l a)=>(Y0 P s t a).map fun(v,xs)=>([s.put o.dst (.v v)],owe s xs)
   |_=>none
 | .store t a x=>
   match evP [] s a,evP [] s x with
   |some (.l a),some v=>(Qa3 P G.n0 s id t a v).map fun(s',xs)=>([s'.put o.dst .un],owe s xs)
   |_,_=>none
 | .call {callee:= .builtin .append,args,argTypes}=>
   match Ko [] s args.toList,argTypes.toList with
   |some [.l dst,.l src],[t,t']=>if t=t' then(Qfw P G.n0 s id t dst src).map fun(s',v,xs)=>([s'.put o.dst (.v (.l v))],owe s xs)else none
   |_,_=>none
 | .call {callee:= .value (.func f),args,..}=>
   match Ko [] s args.toList with
   |none=>none
   |some ps=>
    match JG f 0 G.sg with
    |some (k,g)=>
     let ads:=ps.map fun p=>(p,QbS s p)
     match (if g.det then ZI k ads s.cd else none)with
     |some d=>if Kq s g.args ps=true then some ([s.put o.dst (g.res.inst d)],if g.np then []else [.pre s.cd k ads])else none
     |none=>
      if Kq s g.args ps=true∧G.n0≤id∧s.fr (nid id)=true then some ([{s with cd:= .f id k ads :: s.cd,hp:=g.res.blk id ++ s.hp}.put o.dst (g.res.inst id)],if g.np then []else [.pre s.cd k ads])else none
    |none=>if f∈G.inl then(inl G f ps s).map fun(rs,os)=>(rs.map fun(v,s')=>s'.put o.dst v,os)else none
 | .call {callee:= .value (.tmp t),args,..}=>
   match evP [] s (.tmp t),Ko [] s args.toList with
   |some (.l (.fn f caps)),some ps=>if f∈G.inl then(inl G f (ps ++ caps.map fun p=> .l (.p p.1 p.2)) s).map fun(rs,os)=>(rs.map fun(v,s')=>s'.put o.dst v,os)else none
   |_,_=>none
 |op=>(Jl P [] s op).map fun(v,xs)=>([s.put o.dst v],owe s xs)
def clX:Ob→Option SX
 | .cl _ x=>some x
 |_=>none
def QfB:Op→Bool
 | .call {callee:= .value _,..}=>true
 |_=>false
def St.plus(s:St)(xs:List SX):St:={s with cd:=xs.map (Cd.c · true) ++ s.cd}
def Qfn(P:Program)(inl:Inl)(G:Cfg)(id:Nat)(o:Oper)(s:St):Option (List St×List Ob):=
 match Vc P inl G id o s with
 |none=>none
 |some (ss,os)=>
  if QfB o.op then some (ss,os)else
  match os with
  | []=>some (ss,os)
  |_=>(Vc P inl G id o (s.plus (os.filterMap clX))).map fun(ss',os')=>(ss',os ++ os')
def KV(P:Program)(G:Cfg)(id:Nat)(o:Oper)(y:SX)(s:St):Option (St×List Ob):=
 match o.op with
 | .load t a=>
   match evP (QP y) s a with
   |some (.l a)=>match Y0 P s t a with|some (v,xs)=>some (s.put o.dst (.gd y v),Qlj s (QP y) xs)|_=>none
   |_=>none
 | .call {callee:= .value (.func f),args,..}=>
   match JG f 0 G.sg,Ko (QP y) s args.toList with
   |some (k,g),some ps=>
    let ads:=ps.map fun p=>(p,QbS s p)
    if g.det=true∧Kq s g.args ps=true then
     match ZI k ads s.cd with
     |some d=>match g.res.inst d with| .v x=>some (s.put o.dst (.gd y x),if g.np then []else [.pre ((QP y).map (Cd.c · true) ++ s.cd) k ads])|_=>none
     |none=>
      if G.n0≤id∧s.fr (nid id)=true∧y.fr (nid id)=true then
       match g.res.inst id with| .v x=>some ({s with cd:= .f id k ads :: s.cd}.put o.dst (.gd y x),if g.np then []else [.pre ((QP y).map (Cd.c · true) ++ s.cd) k ads])|_=>none
      else none
    else none
   |_,_=>none
 |op=>match Jl P (QP y) s op with|some (.v x,xs)=>some (s.put o.dst (.gd y x),Qlj s (QP y) xs)|_=>none
inductive Md where
 |run|skip|spec (y:SX)
def Qfx(cs:List Cd)(y:SX):Option Bool:=
 if(QP y).all (fun z=>ask cs z==some true)then some true else if(QP y).any (fun z=>ask cs z==some false)then some false else if ask cs y=some false then some false else none
def YN(P:Program)(G:Cfg)(id:Nat)(ops:Array Oper)(o:Oper)(s:St):Option (List (Md×St)):=
 let on (y:SX):Option (List (Md×St)):=
  match Qfx s.cd y with
  |some true=>some [(.run,s)]
  |some false=>some [(.skip,s)]
  |none=>if(KV P G id o y s).isSome then some [(.spec y,s)]else some [(.run,{s with cd:=Zo y true ++ s.cd}),(.skip,{s with cd:=Zo y false ++ s.cd})]
 match o.guard with
 |none=>some [(.run,s)]
 |some (j,want)=>
  match ((ops[j]?).bind (·.dst)).bind (s.tm[·]?)with
  |some .un=>some [(.skip,s)]
  |some (.v (.l (.t x)))=>on (if want then x else x.mkNo)
  |some (.gd c (.l (.t x)))=>on (.mkAn c (if want then x else x.mkNo))
  |_=>none
def Kw(P:Program)(inl:Inl)(G:Cfg)(ops:Array Oper)(id:Nat)(o:Oper):List (Md×St)→Option (List St×List Ob)
 | []=>some ([],[])
 |(.run,s) :: rest=>match Qfn P inl G id o s,Kw P inl G ops id o rest with|some (s',os),some (ss,os')=>some (s' ++ ss,os ++ os')|_,_=>none
 |(.spec y,s) :: rest=>match KV P G id o y s,Kw P inl G ops id o rest with|some (s',os),some (ss,os')=>some (s' :: ss,os ++ os')|_,_=>none
 |(.skip,s) :: rest=>match Kw P inl G ops id o rest with|some (ss,os')=>some (s.put o.dst .un :: ss,os')|none=>none
def Qaz(P:Program)(inl:Inl)(G:Cfg)(ops:Array Oper)(id:Nat)(o:Oper):List St→Option (List St×List Ob)
 | []=>some ([],[])
 |s :: rest=>match (YN P G id ops o s).bind (Kw P inl G ops id o),Qaz P inl G ops id o rest with|some (a,x),some (b,y)=>some (a ++ b,x ++ y)|_,_=>none
def WC(P:Program)(inl:Inl)(G:Cfg)(ops:Array Oper)(nx:Nat):List Nat→List St→Option (List St×List Ob)
 | [],ss=>some (ss,[])
 |i :: is,ss=>
  match ops[i]? with
  |none=>none
  |some o=>match Qaz P inl G ops (nx+4 * i) o ss with
   |some (ss',os)=>(WC P inl G ops nx is ss').map fun(r,os')=>(r,os ++ os')
   |none=>none
def Kt:Op→Bool
 | .move _| .assign _| .pick .. | .unOp .. | .binOp .. | .convert .. | .fieldAddr .. | .indexAddr .. | .field .. | .build .. | .extract .. | .nilCheck _=>true
 | .call {callee:= .builtin .len,..}| .call {callee:= .builtin .max,..}| .call {callee:= .builtin .min,..}=>true
 |_=>false
def SX.bq:SX→SX→Bool
 | .i m,.i m'=>decide (m=m')
 | .b m,.b m'=>m==m'
 | .v d j,.v d' j'=>d==d' && j==j'
 | .r d sz j x,.r d' sz' j' x'=>d==d' && sz==sz' && j==j' && SX.bq x x'
 | .r2 d y sz j x,.r2 d' y' sz' j' x'=>d==d' && sz==sz' && j==j' && SX.bq y y' && SX.bq x x'
 | .o p k x y,.o p' k' x' y'=>decide (p=p') && decide (k=k') && SX.bq x x' && SX.bq y y'
 | .c p x y,.c p' x' y'=>decide (p=p') && SX.bq x x' && SX.bq y y'
 | .no x,.no x'=>SX.bq x x'
 | .eq x y,.eq x' y'=>SX.bq x x' && SX.bq y y'
 | .an x y,.an x' y'=>SX.bq x x' && SX.bq y y'
 | .it g x y,.it g' x' y'=>SX.bq g g' && SX.bq x x' && SX.bq y y'
 | .cv k x,.cv k' x'=>decide (k=k') && SX.bq x x'
 | .mx x y,.mx x' y'=>SX.bq x x' && SX.bq y y'
 | .mn x y,.mn x' y'=>SX.bq x x' && SX.bq y y'
 |_,_=>false
def LX.bq:LX→LX→Bool
 | .n k x,.n k' x'=>decide (k=k') && x.bq x'
 | .t x,.t x'=>x.bq x'
 | .p d z,.p d' z'=>d==d' && z==z'
 | .pi d z m sz x z2,.pi d' z' m' sz' x' z2'=>d==d' && z==z' && m==m' && sz==sz' && z2==z2' && x.bq x'
 | .q d sz x z,.q d' sz' x' z'=>d==d' && sz==sz' && z==z' && x.bq x'
 | .qn d y sz x z,.qn d' y' sz' x' z'=>d==d' && sz==sz' && z==z' && y.bq y' && x.bq x'
 | .sl d l,.sl d' l'=>d==d' && l.bq l'
 | .sb d l,.sb d' l'=>d==d' && l==l'
 | .sn d l,.sn d' l'=>d==d' && l.bq l'
 | .mp d,.mp d'=>d==d'
 | .fn d l,.fn d' l'=>decide (d=d') && decide (l=l')
 | .np,.np=>true
 | .ns,.ns=>true
 | .nm,.nm=>true
 |_,_=>false
def PX.bq:PX→PX→Bool
 | .l x,.l y=>x.bq y
 | .a xs,.a ys=>bqL LX.bq xs ys
 |_,_=>false
def VX.bq:VX→VX→Bool
 | .v x,.v y=>x.bq y
 | .tp xs,.tp ys=>bqL PX.bq xs ys
 | .un,.un=>true
 | .any,.any=>true
 | .gd g x,.gd g' x'=>g.bq g' && x.bq x'
 |_,_=>false
def kbq:Option IntKind→Option IntKind→Bool
 |none,none=>true
 |some a,some b=>decide (a=b)
 |_,_=>false
def obq{α:Type}(f:α→α→Bool):Option α→Option α→Bool
 |none,none=>true
 |some a,some b=>f a b
 |_,_=>false
def Bd.bq:Bd→Bd→Bool
 | .cells t cs,.cells t' cs'=>t==t' && bqL LX.bq cs cs'
 | .row ks l c,.row ks' l' c'=>bqL kbq ks ks' && l.bq l' && c==c'
 | .map a b c,.map a' b' c'=>decide (a=a') && decide (b=b') && c==c'
 | .nr ks l c h,.nr ks' l' c' h'=>bqL kbq ks ks' && l.bq l' && c==c' && obq SX.bq h h'
 |_,_=>false
def Bk.bq(b c:Bk):Bool:=b.id==c.id && b.bd.bq c.bd
def Qqw(p q:PX×Nat):Bool:=p.1.bq q.1 && p.2==q.2
def Cd.bq:Cd→Cd→Bool
 | .c x v,.c x' v'=>v==v' && x.bq x'
 | .f d k xs,.f d' k' xs'=>d==d' && k==k' && bqL Qqw xs xs'
 | .g d m k,.g d' m' k'=>d==d' && m==m' && k==k'
 | .z d,.z d'=>d==d'
 | .u d s x sz o cs,.u d' s' x' sz' o' cs'=>d==d' && obq (fun p q=>p==q) s s' && x.bq x' && sz==sz' && o==o' && bqL LX.bq cs cs'
 | .w d y x v,.w d' y' x' v'=>d==d' && y==y' && x.bq x' && v.bq v'
 | .a d y x o cs,.a d' y' x' o' cs'=>d==d' && y==y' && x.bq x' && o==o' && bqL LX.bq cs cs'
 | .nu d y x r q m,.nu d' y' x' r' q' m'=>d==d' && y==y' && x.bq x' && r==r' && q==q' && m.bq m'
 |_,_=>false
def St.bq(s t:St):Bool:=bqL VX.bq s.tm t.tm && bqL Bk.bq s.hp t.hp && bqL Cd.bq s.cd t.cd && s.nx==t.nx && decide (s.rw=t.rw) && bqL (bqL VX.bq) s.up t.up
inductive Tr where
 |nil|node (ss:List St) (a b:Tr)
def Qbj(s:St):List St→List St
 | []=> [s]
 |t :: ts=>if s.bq t then t :: ts else t :: Qbj s ts
def Tr.ins(s:St):List Bool→Tr→Tr
 | [],.nil=> .node [s] .nil .nil
 | [],.node ss a b=> .node (Qbj s ss) a b
 |true :: l,.nil=> .node [] (Tr.ins s l .nil) .nil
 |false :: l,.nil=> .node [] .nil (Tr.ins s l .nil)
 |true :: l,.node ss a b=> .node ss (Tr.ins s l a) b
 |false :: l,.node ss a b=> .node ss a (Tr.ins s l b)
def Tr.all(pre:List Bool):Tr→List (List Bool×St)
 | .nil=> []
 | .node ss a b=>ss.map (fun s=>(pre.reverse,s)) ++ (Tr.all (true :: pre) a ++ Tr.all (false :: pre) b)
def Tr.fill:List (List Bool×St)→Tr→Tr
 | [],t=>t
 |e :: es,t=>Tr.fill es (t.ins e.2 e.1)
def QcC(es:List (List Bool×St)):List (List Bool×St):=(Tr.fill es .nil).all []
def SX.key:SX→Nat
 | .i n=>n.natAbs * 7+1
 | .b u=>if u then 2 else 3
 | .v d j=>(d * 1009+j) * 11+4
 | .r d sz j x=>(SX.key x * 31+d * 1013+sz * 17+j) * 13 % 1000000007
 | .r2 d y sz j x=>(SX.key x * 37+SX.key y * 41+d * 1013+sz * 17+j) * 17 % 1000000007
 | .o _ _ x y=>(SX.key x * 43+SX.key y * 47+5) % 1000000007
 | .c _ x y=>(SX.key x * 53+SX.key y * 59+6) % 1000000007
 | .no x=>(SX.key x * 61+7) % 1000000007
 | .eq x y=>(SX.key x * 67+SX.key y * 71+8) % 1000000007
 | .an x y=>(SX.key x * 73+SX.key y * 79+9) % 1000000007
 | .it g x y=>(SX.key g * 83+SX.key x * 89+SX.key y * 97+10) % 1000000007
 | .cv _ x=>(SX.key x * 101+11) % 1000000007
 | .mx x y=>(SX.key x * 103+SX.key y * 107+12) % 1000000007
 | .mn x y=>(SX.key x * 109+SX.key y * 113+13) % 1000000007
def Cd.key:Cd→Nat
 | .c x v=>SX.key x * 2+(if v then 1 else 0)
 | .f d _ _| .g d _ _| .z d| .u d _ _ _ _ _| .w d _ _ _| .a d _ _ _ _| .nu d _ _ _ _ _=>3000000000+d
def Qst(c:Cd):List Cd→List Cd
 | []=> [c]
 |d :: ds=>if d.key≤c.key then c :: d :: ds else d :: Qst c ds
def QnY:List Cd→List Cd
 | []=> []
 |c :: cs=>Qst c (QnY cs)
def St.norm(s:St):St:={s with cd:=QnY s.cd}
def Kv(P:Program)(inl:Inl)(G:Cfg)(ops:Array Oper)(nx:Nat)(l:List Bool)(s:St):Option (List (List Bool×St)×List Ob):=
 let rs:=Qb2 ops l
 match rs with
 | []=>some ([(l,s)],[])
 |rs=>
  match rs.find? fun i=>((ops[i]?).map fun o=>Kt o.op).getD false && QnH ops l i with
  |some i=>one i
  |none=>all rs
where
 one (i:Nat):Option (List (List Bool×St)×List Ob):=
  match ops[i]? with
  |none=>none
  |some o=>(Qaz P inl G ops (nx+4 * i) o [s]).map fun(ss,os)=>(ss.map fun s'=>(l.set i true,s'.norm),os)
 all:List Nat→Option (List (List Bool×St)×List Ob)
  | []=>some ([],[])
  |i :: is=>match one i,all is with|some (a,x),some (b,y)=>some (a ++ b,x ++ y)|_,_=>none
def YQ(P:Program)(inl:Inl)(G:Cfg)(ops:Array Oper)(nx:Nat):List (List Bool×St)→Option (List (List Bool×St)×List Ob)
 | []=>some ([],[])
 |(l,s) :: rest=>match Kv P inl G ops nx l s,YQ P inl G ops nx rest with|some (a,x),some (b,y)=>some (a ++ b,x ++ y)|_,_=>none
def KO(P:Program)(inl:Inl)(G:Cfg)(ops:Array Oper)(nx:Nat):Nat→List (List Bool×St)→Option (List St×List Ob)
 |0,es=>if es.all (fun e=>(Qb2 ops e.1).isEmpty)then some (Wl (es.map (·.2)),[])else none
 |n+1,es=>
  match YQ P inl G ops nx es with
  |some (es',os)=>(KO P inl G ops nx n (QcC es')).map fun(r,os')=>(r,os ++ os')
  |none=>none
def YW(P:Program)(inl:Inl)(G:Cfg)(ops:Array Oper)(draw:Bool)(s:St):Option (List St×List Ob):=
 let s1:St:={s with nx:=s.nx+4 * ops.size}
 let r:=if draw then(if Region.noSelect ops then KO P inl G ops s.nx ops.size [(List.replicate ops.size false,s1)]else none)else WC P inl G ops s.nx (List.range ops.size) [s1]
 r.map fun(ss,os)=>(ss,Wl os)
def Yh(d:Nat)(tm:List VX)(t j:Nat)(k:Option IntKind):List VX:=tm.set t (.v (.l (JP d j k)))
def QaB(tm:List VX):List Nat→List VX
 | []=>tm
 |t :: ts=>(QaB tm ts).set t .any
def Qad:List VX→List VX→Bool
 | [],[]=>true
 | .any :: xs,_ :: ys=>Qad xs ys
 |x :: xs,y :: ys=>x.bq y && Qad xs ys
 |_,_=>false
def VZ(s:St)(t:Nat):Option SX:=match s.tm[t]? with|some (.v (.l (.n _ x)))=>some x|_=>none
def atX(s:St):HL→Option LX
 | .s t=>match s.tm[t]? with|some (.v (.l x))=>some x|_=>none
 | .c t o=>match s.tm[t]? with|some (.v (.l (.p d 0)))=>(match XH s d with|some (_,cs)=>cs[o]?|none=>none)|_=>none
def Qri(s:St)(l:HL)(x:LX):St:=
 match l with
 | .s t=>{s with tm:=s.tm.set t (.v (.l x))}
 | .c t o=>match s.tm[t]? with|some (.v (.l (.p d 0)))=>(match XH s d with|some (ty,cs)=>YY s d (.cells ty (cs.set o x))|none=>s)|_=>s
def QeN(d:Nat):List Hv→Nat→Nat→St→Option St
 | [],_,_,s=>some s
 | .num l k :: r,j,m,s=>QeN d r (j+1) m (Qri s l (JP d j k))
 | .ct l :: r,j,m,s=>
   match atX s l with
   |some (.sl b _)|some (.mp b)=>match Qby s b with|some ⟨_,bd⟩=>QeN d r j (m+1) (YY s b (Qup bd m))|none=>none
   |_=>none
 | .row l ks :: r,j,m,s=>
   match atX s l with
   |some (.sl b _)=>QeN d r (j+1) (m+1) (Qri {(YK s b)with hp:=Xq ⟨m,.row ks (.v d j) m⟩ (YK s b).hp} l (.sl m (.v d j)))
   |some .ns=>QeN d r (j+1) (m+1) (Qri {s with hp:=Xq ⟨m,.row ks (.v d j) m⟩ s.hp} l (.sl m (.v d j)))
   |_=>none
def Kf:List Hv→Nat
 | []=>0
 | .num _ _ :: r=>Kf r
 |_ :: r=>Kf r+1
def Qoa(s:St):List Hv→Option (List LX×List (Option (Nat×Nat)))
 | []=>some ([],[])
 | .num l k :: r=>
   match atX s l,k,Qoa s r with
   |some (.n k' x),some k,some (xs,ms)=>if k=k' then some (.n k' x :: xs,ms)else none
   |some (.t x),none,some (xs,ms)=>some (.t x :: xs,ms)
   |_,_,_=>none
 | .ct l :: r=>
   match atX s l,Qoa s r with
   |some (.sl b _),some (xs,ms)|some (.mp b),some (xs,ms)=>match Qby s b with
    |some ⟨_,.row _ _ ct⟩|some ⟨_,.map _ _ ct⟩|some ⟨_,.nr _ _ ct _⟩=>some (xs,some (ct,ct) :: ms)
    |_=>none
   |_,_=>none
 | .row l ks :: r=>
   match atX s l,Qoa s r with
   |some .ns,some (xs,ms)=>some (.n .i64 (.i 0) :: xs,none :: ms)
   |some (.sl b len),some (xs,ms)=>match QaV s b with|some (_,_,ct)=>some (.n .i64 len :: xs,some (b,ct) :: ms)|none=>none
   |_,_=>none
def eqS(d:Nat)(xs:List LX)(h c:SX):Bool:=(h.bq c && h.fr fun x=>decide (x < d)) || match h with| .v d' j=>d'==d && (match xs[j]? with|some (.n _ y)=>y.bq c|_=>false)|_=>false
def eqL(d:Nat)(xs:List LX)(ms:List (Option (Nat×Nat)))(h c:LX):Bool:=
 (h.bq c && h.fr fun x=>decide (x < d)) ||
 match h,c with
 | .n k (.v d' j),.n k' y=>d'==d && decide (k=k') && (match xs[j]? with|some (.n _ z)=>z.bq y|_=>false)
 | .t (.v d' j),.t y=>d'==d && (match xs[j]? with|some (.t z)=>z.bq y|_=>false)
 | .sl m (.v d' j),.sl b len=>decide (d < m) && d'==d && (match xs[j]? with|some (.n _ z)=>z.bq len|_=>false) && (match ms[m - (d+1)]? with|some (some (b',_))=>b'==b|_=>false)
 | .sl m (.v d' j),.ns=>decide (d < m) && d'==d && (match xs[j]? with|some (.n _ (.i 0))=>true|_=>false) && (match ms[m - (d+1)]? with|some none=>true|_=>false)
 |_,_=>false
def Qsq(d:Nat)(xs:List LX)(ms:List (Option (Nat×Nat))):List LX→List LX→Bool
 | [],[]=>true
 |h :: hs,c :: cs=>eqL d xs ms h c && Qsq d xs ms hs cs
 |_,_=>false
def eqC(d:Nat)(ms:List (Option (Nat×Nat)))(h c:Nat):Bool:=(h==c && decide (h < d)) || (decide (d < h) && match ms[h - (d+1)]? with|some (some (_,c'))=>c'==c|_=>false)
def Qn4(xs:List LX)(j:Nat):Bool:=match xs[j]? with|some (.n _ (.i 0))=>true|_=>false
def QeZ(d:Nat)(xs:List LX)(ms:List (Option (Nat×Nat)))(s:St)(b:Bk):Option (Option Bk):=
 match b with
 |⟨id,.cells ty hs⟩=>match Qby s id with|some ⟨id',.cells ty' cs⟩=>if decide (id < d) && ty==ty' && Qsq d xs ms hs cs then some (some ⟨id',.cells ty' cs⟩)else none|_=>none
 |⟨id,.map kk kv ct⟩=>match Qby s id with|some ⟨id',.map kk' kv' ct'⟩=>if decide (id < d) && decide (kk=kk') && decide (kv=kv') && eqC d ms ct ct' then some (some ⟨id',.map kk' kv' ct'⟩)else none|_=>none
 |⟨id,.nr ks len ct none⟩=>match Qby s id with|some ⟨id',.nr ks' len' ct' none⟩=>if decide (id < d) && bqL kbq ks ks' && eqS d xs len len' && eqC d ms ct ct' then some (some ⟨id',.nr ks' len' ct' none⟩)else none|_=>none
 |⟨_,.nr _ _ _ (some _)⟩=>none
 |⟨id,.row ks len ct⟩=>
  if id < d then match Qby s id with|some ⟨id',.row ks' len' ct'⟩=>if bqL kbq ks ks' && eqS d xs len len' && eqC d ms ct ct' then some (some ⟨id',.row ks' len' ct'⟩)else none|_=>none
  else if id==d || !(ct==id)then none else
  match ms[id - (d+1)]?,len with
  |some none,.v d' j=>if d'==d && Qn4 xs j then some none else none
  |some (some (b,c)),len=>match Qby s b with|some ⟨id',.row ks' len' ct'⟩=>if bqL kbq ks ks' && eqS d xs len len' && c==ct' then some (some ⟨id',.row ks' len' ct'⟩)else none|_=>none
  |_,_=>none
def Qbv(d:Nat)(xs:List LX)(ms:List (Option (Nat×Nat)))(s:St):List Bk→Option (List (Option Bk))
 | []=>some []
 |b :: bs=>match QeZ d xs ms s b,Qbv d xs ms s bs with|some m,some l=>some (m :: l)|_,_=>none
def Qbw:List (Option Bk)→Bool
 | []=>true
 |none :: l=>Qbw l
 |some b :: l=>l.all (fun c=>match c with|some c=> !(c.id==b.id)|none=>true) && Qbw l
def Jm(d:Nat)(xs:List LX)(ms:List (Option (Nat×Nat))):List VX→List VX→Bool
 | [],[]=>true
 | .any :: hs,_ :: cs=>Jm d xs ms hs cs
 | .v (.l h) :: hs,.v (.l c) :: cs=>eqL d xs ms h c && Jm d xs ms hs cs
 |h :: hs,c :: cs=>h.bq c && h.fr (fun x=>decide (x < d)) && Jm d xs ms hs cs
 |_,_=>false
def Qsy:List Nat→Bool
 | []=>true
 |x :: xs=>xs.all (fun y=> !(y==x)) && Qsy xs
def Qac(d:Nat)(hv:List Hv)(h s:St):Option (List LX×List (Option (Nat×Nat))):=
 match Qoa s hv with
 |some (xs,ms)=>
  match Qbv d xs ms s h.hp with
  |some l=>if Qbw l && Qsy (h.hp.map (·.id)) && Jm d xs ms h.tm s.tm && ms.length==Kf hv && decide (h.rw=s.rw) && h.rw.all (·.fr fun x=>decide (x < d))then some (xs,ms)else none
  |none=>none
 |none=>none
def VF(f:St→Option (List (Ex×St)×List Ob)):List (Ex×St)→Option (List (Ex×St)×List Ob)
 | []=>some ([],[])
 |(.nor,s) :: r=>match f s,VF f r with|some (a,x),some (b,y)=>some (a ++ b,x ++ y)|_,_=>none
 |x :: r=>(VF f r).map fun(b,y)=>(x :: b,y)
def Vk(f:St→Option (List (Ex×St)×List Ob)):Nat→St→Option (List (Ex×St)×List Ob)
 |0,_=>none
 |m+1,s=>
  match f s with
  |some (es,os)=>(VF (Vk f m) es).map fun(r,os')=>(r,os ++ os')
  |none=>none
def upX(s:St):Nat ⊕ SX→Option SX
 | .inl t=>VZ s t
 | .inr x=>some x
def KE(d:Nat)(l:Lp)(up:SX)(h:St):List (Ex×St)→Option (List (Ex×St)×List Ob)
 | []=>some ([],[])
 |(.nor,s) :: r=>
  match Qac d l.hv h s,VZ h l.c,VZ s l.c,KE d l up h r with
  |some (xs,ms),some x,some x',some (b,y)=>
   if x.fr (fun z=>decide (z < d+Kf l.hv+1))=true then
    some (b,.inv s.cd l.k d xs ms :: .cl s.cd (.mkC .lss x x') :: .cl s.cd (.mkC .lss x up) :: y)else none
  |_,_,_,_=>none
 |x :: r=>(KE d l up h r).map fun(b,y)=>(x :: b,y)
def Qco:List Hv→List Nat
 | []=> []
 | .num (.s t) _ :: r| .ct (.s t) :: r| .row (.s t) _ :: r=>t :: Qco r
 |_ :: r=>Qco r
def LX.ids:LX→List Nat
 | .p d _| .pi d _ _ _ _ _| .q d _ _ _| .sl d _| .sb d _| .mp d=> [d]
 | .fn _ c=>c.map (·.1)
 |_=> []
def PX.ids:PX→List Nat
 | .l x=>x.ids
 | .a xs=>xs.flatMap LX.ids
def VX.ids:VX→List Nat
 | .v x=>x.ids
 | .tp xs=>xs.flatMap PX.ids
 | .gd _ x=>x.ids
 |_=> []
def Qlb(x:Nat):List Nat→Bool
 | []=>false
 |y :: ys=>x==y || Qlb x ys
def Qtf(hp:List Bk)(l:List Nat):List Nat:=
 hp.foldl (fun l b=>if Qlb b.id l then(match b.bd with| .cells _ cs=>(cs.flatMap LX.ids).foldl (fun l x=>if Qlb x l then l else x :: l) l|_=>l)else l) l
def St.gc(s:St):St:=
 let l0:=(s.tm.flatMap VX.ids ++ s.up.flatMap (·.flatMap VX.ids)).foldl (fun l x=>if Qlb x l then l else x :: l) []
 let l:=Qtf s.hp (Qtf s.hp l0)
 {s with hp:=s.hp.filter fun b=>Qlb b.id l}
def Qtg(l:List Nat):Nat→List VX→List VX
 |_,[]=> []
 |i,v :: vs=>(if Qlb i l then v else .any) :: Qtg l (i+1) vs
def Qsz:List (Ex×St)→List St
 | []=> []
 |(.nor,s) :: r=>s :: Qsz r
 |_ :: r=>Qsz r
def Qs1:List (Ex×St)→List (Ex×St)
 | []=> []
 |(.nor,_) :: r=>Qs1 r
 |x :: r=>x :: Qs1 r
def QfJ(d:Nat)(m:Mg)(h:St):List St→Option (List Ob)
 | []=>some []
 |s :: ss=>
  match Qac d m.hv h s,QfJ d m h ss with
  |some (xs,ms),some os=>if s.fr (fun x=>decide (x < d))=true∧bqL (bqL VX.bq) h.up s.up=true then some (.inv s.cd m.k d xs ms :: os)else none
  |_,_=>none
def Qum(m:Mg)(d:Nat)(s:St):Option St:=
 (QeN d m.hv 0 (d+1) s).map fun h=>{St.gc {h with tm:=Qtg (Qco m.hv ++ m.keep) 0 h.tm}with cd:= [.g d (Kf m.hv) m.k],nx:=d+Kf m.hv+1,up:=s.up,rw:=s.rw}
def Qlc(G:Cfg)(f tag:Nat)(es:List (Ex×St)):Option (List (Ex×St)×List Ob):=
 match G.mg.find? (fun m=>m.f==f && m.tag==tag)with
 |none=>some (es,[])
 |some m=>
  match Qsz es with
  | []=>some (es,[])
  |s :: ss=>
   let d:=(s :: ss).foldl (fun a s=>if a≤s.nx then s.nx else a) G.n0
   match Qum m d s with
   |none=>none
   |some h=>(QfJ d m h (s :: ss)).map fun os=>((.nor,h) :: Qs1 es,os)
def Qus(l:Lp)(c:Code)(s:St):Option St:=
 (QeN s.nx l.hv 0 (s.nx+1) s).map fun h=>{St.gc {h with tm:=QaB h.tm ((VL c).filter fun t=> !(Qlb t (Qco l.hv)))}with cd:= .g s.nx (Kf l.hv) l.k :: (if l.keep then s.cd else []),nx:=s.nx+Kf l.hv+1,up:=s.up,rw:=s.rw}
def Zv(P:Program)(inl:Inl)(f:FuncId)(G:Cfg):Nat→Code→St→Option (List (Ex×St)×List Ob)
 |0,_,_=>none
 |n+1,.skip,s=>some ([(.nor,s)],[])
 |n+1,.region _ ops draw,s=>(YW P inl G ops draw s).map fun(ss,os)=>(ss.map (Ex.nor,·),os)
 |n+1,.seq a b,s=>
  match Zv P inl f G n a s with
  |some (es0,os)=>
   match Qlc G f (Qr3 b) es0 with
   |some (es,om)=>(VF (Zv P inl f G n b) es).map fun(r,os')=>(r,os ++ (om ++ os'))
   |none=>none
  |none=>none
 |n+1,.cond c a b,s=>
  match evP [] s c with
  |some (.l (.t x))=>
   match ask s.cd x with
   |some true=>Zv P inl f G n a s
   |some false=>Zv P inl f G n b s
   |none=>
    match Zv P inl f G n a {s with cd:=Zo x true ++ s.cd},Zv P inl f G n b {s with cd:=Zo x false ++ s.cd}with
    |some (r,os),some (r',os')=>some (r ++ r',os ++ os')
    |_,_=>none
  |_=>none
 |n+1,.block id c,s=>(Zv P inl f G n c s).map fun(es,os)=>(es.map fun(x,s')=>(if x= .ex id then .nor else x,s'),os)
 |n+1,.loop c,s=>
  match G.lp.find? (fun l=>l.f==f && l.tag==Qr3 c)with
  |some l=>
   match Qus l c s,upX s l.up with
   |some h,some up=>
    match Qac s.nx l.hv h s with
    |some (xs,ms)=>
     if G.n0≤s.nx∧s.fr (fun x=>decide (x < s.nx))=true∧up.fr (fun x=>decide (x < s.nx))=true then
      match Zv P inl f {G with n0:=s.nx+Kf l.hv+1} n c h with
      |some (es,os)=>(KE s.nx l up h es).map fun(r,os')=>(r,.inv s.cd l.k s.nx xs ms :: os ++ os')
      |none=>none
     else none
    |none=>none
   |_,_=>none
  |none=>Vk (Zv P inl f G n c) n s
 |n+1,.exit id,s=>some ([(.ex id,s)],[])
 |n+1,.ret,s=>some ([(.rt,s)],[])
 |_+1,_,_=>none
def JJ(P:Program)(fn:Func)(s:St):Option VX:=
 match fn.results.toList with
 | []=>some (.tp [])
 | [.tmp t]=>match s.tm[t]? with|some (.v p)=>some (.v p)|_=>none
 | [.cell t ty]=>match s.tm[t]? with
   |some (.v (.l (.p d o)))=>match Y0 P s ty (.p d o)with|some (v,[])=>some (.v v)|_=>none
   |_=>none
 |rs=>(go rs).map .tp
where
 go:List ResultVar→Option (List PX)
  | []=>some []
  | .tmp t :: r=>match s.tm[t]?,go r with|some (.v p),some ps=>some (p :: ps)|_,_=>none
  | .cell t ty :: r=>match s.tm[t]?,go r with
    |some (.v (.l (.p d o))),some ps=>match Y0 P s ty (.p d o)with|some (v,[])=>some (v :: ps)|_=>none
    |_,_=>none
structure Lf where
 cd:List Cd
 v:VX
 hp:List Bk
def Ku(P:Program)(fn:Func):List (Ex×St)→Option (List Lf)
 | []=>some []
 |(.ex _,_) :: _=>none
 |(_,s) :: r=>match JJ P fn s,Ku P fn r with|some v,some l=>some (⟨s.cd,v,s.hp⟩ :: l)|_,_=>none
def Qn9(P:Program)(fn:Func)(s0:St):List (Ex×St)→Option (List (VX×St))
 | []=>some []
 |(.ex _,_) :: _=>none
 |(_,s) :: r=>match JJ P fn s,s.up,Qn9 P fn s0 r with|some v,tm :: up,some l=>some ((v,{s with tm:=tm,up:=up}) :: l)|_,_,_=>none
def QqF(P:Program)(fuel:Nat):Nat→Inl
 |0=>fun _ _ _ _=>none
 |d+1=>fun G f ps s=>
  match P.funcs[f]? with
  |some fn=>
   match fn.body with
   |some c=>
    if(fn.name== "runtime.NumGoroutine")=false then
     match Zv P (QqF P fuel d) f G fuel c {s with tm:=ps.map .v ++ List.replicate (fn.ntmps - ps.length) .un,up:=s.tm :: s.up}with
     |some (es,os)=>(Qn9 P fn s es).map (·,os)
     |none=>none
    else none
   |none=>none
  |none=>none
def QS(P:Program)(G:Cfg)(fuel depth:Nat)(f:FuncId)(fn:Func)(args:List PX)(rw:List Rw):Option (List Lf×List Ob):=
 match fn.body with
 |some c=>
  match Zv P (QqF P fuel depth) f G fuel c ⟨args.map .v ++ List.replicate (fn.ntmps - args.length) .un,[],[],rw,[],G.n0⟩with
  |some (es,os)=>(Ku P fn es).map (·,Wl os)
  |none=>none
 |none=>none
def Qiv(r:Nat×Nat):List LX:=Qa r.1 r.2 [none,none,some .u32,some .u32,some .u32]
def QbD(l:List (Nat×Nat)):List LX:=l.flatMap Qiv
def itX(x:SX)(k:Nat)(a b:LX):LX:=
 match a,b with
 | .t p,.t q=> .t (.it (.c .eql x (.i k)) p q)
 | .n kd p,.n _ q=> .n kd (.it (.c .eql x (.i k)) p q)
 |a,_=>a
def QbE(x:SX)(r:Nat×Nat):Nat→List (Nat×Nat)→List LX
 |_,[]=> []
 |k,q :: qs=>List.zipWith (itX x k) (Qiv r) (Qiv q) ++ QbE x r (k+1) qs
def Zf(x:SX)(r:Nat×Nat)(l:List (Nat×Nat)):List LX:=QbE x r 0 l
def rxL(d sz:Nat)(x:SX):Nat→List (Option IntKind)→List LX
 |_,[]=> []
 |j,none :: ks=> .t (.r d sz j x) :: rxL d sz x (j+1) ks
 |j,some k :: ks=> .n k (.r d sz j x) :: rxL d sz x (j+1) ks
def Qts(t:Nat):Nat→List (Option IntKind)→List Hv
 |_,[]=> []
 |j,k :: ks=> .num (.c t j) k :: Qts t (j+1) ks
def Qur(t:Nat):List Hv:=Qts t 0 stK
def Qh(d:Nat)(x:SX):List LX:= [.t (.r d 5 0 x),.t (.r d 5 1 x),.n .u32 (.r d 5 2 x),.n .u32 (.r d 5 3 x),.n .u32 (.r d 5 4 x)]
end Go.Proofs.YteplnamfpodmlaaGreat.T2
end
section
namespace Go.Proofs.YteplnamfpodmlaaGreat.T2
def Env.cut(e:Env)(d:Nat):Env:=⟨fun x=>if x≤d then e.nm x else Nm.zero⟩
theorem Env.cut_off{ok:Nat→Bool}{n:Nat}{e e':Env}(h:Env.off ok e e')(hn:(List.range (n+1)).all ok=true):e.cut n=e'.cut n:=by
 have hx:∀x,x≤n→ok x=true:=fun x hx=>List.all_eq_true.1 hn x (List.mem_range.2 (by omega))
 unfold Env.cut;congr 1;funext x;by_cases hxn:x≤n
 ·simp only [hxn,if_true];exact h x (hx x hxn)
 ·simp only [hxn,if_false]
def QZ(e:Env):LX→Int
 | .n _ x=>(x.den e).1
 |_=>0
def Z4(e:Env):LX→Bool
 | .t x=>(x.den e).2
 |_=>false
def QA{α:Type}(f:Nat→α)(p:Nat)(xs:List α):Nat→α:=fun j=>if p≤j then(xs[j - p]?).getD (f j)else f j
theorem JD{α:Type}{f:Nat→α}{p j:Nat}{xs:List α}{x:α}(h:xs[j]?=some x):QA f p xs (p+j)=x:=by
 unfold QA;rw [if_pos (by omega),show p+j - p=j by omega,h];rfl
theorem ZA{α:Type}{f:Nat→α}{p j:Nat}{xs:List α}(h:j < p∨p+xs.length≤j):QA f p xs j=f j:=by
 unfold QA;split
 ·rw [List.getElem?_eq_none (by omega)];rfl
 ·rfl
section
variable{P:Program}(C:List (Kon P))(I:List (Nat→Env→Prop))
def Cd.holds(e:Env):Cd→Prop
 | .c x v=>(x.den e).2=v
 | .f d k args=>∃c,C[k]?=some c∧c.post (args.map (Jk e)) (e.nm d) (e.nm (d+1))
 | .g d m k=>∃i,I[k]?=some i∧i d (e.cut (d+m))
 | .z d=>e.int d=(fun _=>0)∧e.bool d=fun _=>false
 | .u d src x sz o cs=>e.int d=QA (match src with|some y=>e.int y|none=>fun _=>0) ((x.den e).1.toNat * sz+o) (cs.map (QZ e))∧e.bool d=QA (match src with|some y=>e.bool y|none=>fun _=>false) ((x.den e).1.toNat * sz+o) (cs.map (Z4 e))
 | .w d d' x v=>e.int d=QA (e.int d') (x.den e).1.toNat [QZ e v]∧e.bool d=QA (e.bool d') (x.den e).1.toNat [true]
 | .a d d' y sz cs=>e.int d=QA ((e.nm d').i2 (y.den e).1.toNat) ((e.int d' (y.den e).1.toNat).toNat * sz) (cs.map (QZ e))∧e.bool d=QA ((e.nm d').b2 (y.den e).1.toNat) ((e.int d' (y.den e).1.toNat).toNat * sz) (cs.map (Z4 e))
 | .nu d d' x r rc n=>e.int d=QA (e.int d') (x.den e).1.toNat [(n.den e).1]∧(e.nm d).i2=QA (e.nm d').i2 (x.den e).1.toNat [e.int rc]∧(e.nm d).b2=QA (e.nm d').b2 (x.den e).1.toNat [e.bool rc]
theorem QeW{ok:Nat→Bool}{e e':Env}(h:Env.off ok e e'){x:LX}(hf:x.fr ok=true):QZ e x=QZ e' x:=by
 cases x <;> first|rfl|(simp only [QZ];rw [SX.den_off h _ (by simpa [LX.fr] using hf)])
theorem Qo6{ok:Nat→Bool}{e e':Env}(h:Env.off ok e e'){x:LX}(hf:x.fr ok=true):Z4 e x=Z4 e' x:=by
 cases x <;> first|rfl|(simp only [Z4];rw [SX.den_off h _ (by simpa [LX.fr] using hf)])
theorem Ws{ok:Nat→Bool}{e e':Env}(h:Env.off ok e e'){xs:List LX}(hf:xs.all (·.fr ok)=true):xs.map (QZ e)=xs.map (QZ e'):=
 List.map_congr_left fun x hx=>QeW h (List.all_eq_true.1 hf x hx)
theorem Wr{ok:Nat→Bool}{e e':Env}(h:Env.off ok e e'){xs:List LX}(hf:xs.all (·.fr ok)=true):xs.map (Z4 e)=xs.map (Z4 e'):=
 List.map_congr_left fun x hx=>Qo6 h (List.all_eq_true.1 hf x hx)
theorem Qqz{ok:Nat→Bool}{e e':Env}(h:Env.off ok e e'){args:List (PX×Nat)}(hf:(args.all fun p=>p.1.fr ok && ok p.2)=true):args.map (Jk e)=args.map (Jk e'):=
 List.map_congr_left fun x hx=>by
  have:=List.all_eq_true.1 hf x hx;simp only [Bool.and_eq_true]at this;exact PX.dat_off h x.1 x.2 this.1 this.2
theorem Cd.holds_off{ok:Nat→Bool}{e e':Env}(h:Env.off ok e e')(x:Cd)(hf:x.fr ok=true)(hx:x.holds C I e):x.holds C I e':=by
 cases x with
 |c x v=>simp only [Cd.holds]at hx ⊢;rw [←SX.den_off h x hf];exact hx
 |f y k args=>
  simp only [Cd.fr,Bool.and_eq_true]at hf;obtain⟨c,hc,hp⟩:=hx;refine⟨c,hc,?_⟩;rw [←h y hf.1.1,←h (y+1) hf.1.2,←Qqz h hf.2];exact hp
 |g y m k=>
  simp only [Cd.fr]at hf;obtain⟨i,hi,hp⟩:=hx;exact⟨i,hi,by rw [←Env.cut_off h hf];exact hp⟩
 |z d=>simp only [Cd.fr]at hf;simp only [Cd.holds,Env.int,Env.bool]at hx ⊢;rw [←h d hf];exact hx
 |u d src x sz o cs=>
  simp only [Cd.fr,Bool.and_eq_true]at hf;obtain⟨⟨⟨h1,h2⟩,h3⟩,h4⟩:=hf;simp only [Cd.holds,Env.int,Env.bool]at hx ⊢;rw [←h d h1,←SX.den_off h x h3,←Ws h h4,←Wr h h4];cases src with
  |none=>exact hx
  |some y=>dsimp only at h2 hx ⊢;rw [←h y h2];exact hx
 |w d d' x v=>
  simp only [Cd.fr,Bool.and_eq_true]at hf;obtain⟨⟨⟨h1,h2⟩,h3⟩,h4⟩:=hf;simp only [Cd.holds,Env.int,Env.bool]at hx ⊢;rw [←h d h1,←h d' h2,←SX.den_off h x h3,←QeW h h4];exact hx
 |a d d' y sz cs=>
  simp only [Cd.fr,Bool.and_eq_true]at hf;obtain⟨⟨⟨h1,h2⟩,h3⟩,h4⟩:=hf;simp only [Cd.holds,Env.int,Env.bool]at hx ⊢;rw [←h d h1,←h d' h2,←SX.den_off h y h3,←Ws h h4,←Wr h h4];exact hx
 |nu d d' x r rc n=>
  simp only [Cd.fr,Bool.and_eq_true]at hf;obtain⟨⟨⟨⟨⟨h1,h2⟩,h3⟩,h4⟩,h5⟩,h6⟩:=hf;simp only [Cd.holds,Env.int,Env.bool]at hx ⊢;rw [←h d h1,←h d' h2,←SX.den_off h x h3,←SX.den_off h n h6,←h rc h5];exact hx
end
def Z2(e:Env):List VX→List Value→Prop
 | [],[]=>True
 |x :: xs,v :: vs=>x.sat e v∧Z2 e xs vs
 |_,_=>False
section
variable{e:Env}
theorem Z2.get:∀{xs:List VX} {vs:List Value} {t:Nat} {x:VX},Z2 e xs vs→xs[t]?=some x→∃v,vs[t]?=some v∧x.sat e v
 | [],_,_,_,_,h=>by simp at h
 |x :: xs,[],_,_,h,_=>h.elim
 |x :: xs,v :: vs,0,y,h,hx=>by simp at hx;subst hx;exact⟨v,rfl,h.1⟩
 |x :: xs,v :: vs,t+1,y,h,hx=>by simp only [List.getElem?_cons_succ]at hx ⊢;exact Z2.get h.2 hx
theorem Z2.set:∀{xs:List VX} {vs:List Value} (t:Nat) {x:VX} {v:Value},Z2 e xs vs→x.sat e v→Z2 e (xs.set t x) (vs.set t v)
 | [],[],_,_,_,_,_=>trivial
 | [],_ :: _,_,_,_,h,_=>h.elim
 |_ :: _,[],_,_,_,h,_=>h.elim
 |_ :: _,_ :: _,0,_,_,h,hx=>⟨hx,h.2⟩
 |_ :: _,_ :: _,t+1,_,_,h,hx=>⟨h.1,Z2.set t h.2 hx⟩
theorem Z2.off{ok:Nat→Bool}{e':Env}(h:Env.off ok e e'):∀{xs:List VX} {vs:List Value},xs.all (·.fr ok)=true→Z2 e xs vs→Z2 e' xs vs
 | [],[],_,_=>trivial
 | [],_ :: _,_,hs=>hs.elim
 |_ :: _,[],_,hs=>hs.elim
 |x :: xs,v :: vs,hf,hs=>by
  simp only [List.all_cons,Bool.and_eq_true]at hf;exact⟨VX.sat_off h x hf.1 v hs.1,Z2.off h hf.2 hs.2⟩
end
section
variable(e:Env)
theorem SX.mkO_den(p:BinOp)(k:IntKind)(x y:SX):((SX.mkO p k x y).den e).1=arI p k (x.den e).1 (y.den e).1:=by
 unfold SX.mkO;split <;> rfl
theorem SX.mkC_den(p:BinOp)(x y:SX):((SX.mkC p x y).den e).2=cmI p (x.den e).1 (y.den e).1:=by
 unfold SX.mkC;split
 ·rfl
 ·split
  ·rename_i h;obtain⟨rfl,rfl⟩:=h;simp [SX.den,cmI]
  ·rfl
theorem SX.mkNo_den(x:SX):((SX.mkNo x).den e).2= !(x.den e).2:=by
 unfold SX.mkNo;split <;> simp [SX.den]
theorem SX.mkCv_den(k:IntKind)(x:SX):((SX.mkCv k x).den e).1=k.wrap (x.den e).1:=by
 unfold SX.mkCv;split <;> rfl
theorem SX.mkEq_den(x y:SX):((SX.mkEq x y).den e).2=((x.den e).2==(y.den e).2):=by
 unfold SX.mkEq;split
 ·rfl
 ·split
  ·rename_i h;subst h;simp [SX.den]
  ·rfl
theorem SX.mkAn_den(x y:SX):((SX.mkAn x y).den e).2=((x.den e).2 && (y.den e).2):=by
 unfold SX.mkAn;split <;> simp [SX.den]
theorem SX.mkIt_den(g x y:SX):(SX.mkIt g x y).den e=if(g.den e).2 then x.den e else y.den e:=by
 unfold SX.mkIt;split
 ·simp [SX.den]
 ·simp [SX.den]
 ·split
  ·rename_i h;subst h;simp
  ·rfl
end
theorem SX.mkSel_den(e:Env)(g x y:SX):((SX.mkSel g x y).den e).2=if(g.den e).2 then(x.den e).2 else(y.den e).2:=by
 unfold SX.mkSel;split
 ·rw [SX.mkAn_den];cases (g.den e).2 <;> simp [SX.den]
 ·rw [SX.mkNo_den,SX.mkAn_den,SX.mkNo_den,SX.mkNo_den];cases (g.den e).2 <;> simp [SX.den]
 ·rw [SX.mkIt_den];split <;> rfl
theorem Qbr{e:Env}{y x:SX}{v r:Bool}(h:imp y v x=some r)(hy:(y.den e).2=v):(x.den e).2=r:=by
 unfold imp at h;split at h
 ·rename_i hx;subst hx;simp only [Option.some.injEq]at h;rw [hy,h]
 ·split at h
  ·split at h
   ·rename_i hab;subst hab;simp only [SX.den]at hy ⊢;exact Qc1 h hy
   ·cases h
  ·cases h
section
variable{P:Program}{C:List (Kon P)}{I:List (Nat→Env→Prop)}{e:Env}
theorem Z3:∀{cs:List Cd} {x:SX} {r:Bool},(∀c∈cs,c.holds C I e)→Ve cs x=some r→(x.den e).2=r
 | [],_,_,_,h=>by cases h
 | .c y v :: cs,x,r,hc,h=>by
   unfold Ve at h;split at h
   ·rename_i r' hr;cases h;exact Qbr hr (hc _ (List.mem_cons_self ..))
   ·exact Z3 (fun c hm=>hc c (List.mem_cons_of_mem _ hm)) h
 | .f _ _ _ :: cs,x,r,hc,h=>by
   unfold Ve at h;exact Z3 (fun c hm=>hc c (List.mem_cons_of_mem _ hm)) h
 | .g _ _ _ :: cs,x,r,hc,h=>by
   unfold Ve at h;exact Z3 (fun c hm=>hc c (List.mem_cons_of_mem _ hm)) h
 | .z _ :: cs,x,r,hc,h=>by
   unfold Ve at h;exact Z3 (fun c hm=>hc c (List.mem_cons_of_mem _ hm)) h
 | .u _ _ _ _ _ _ :: cs,x,r,hc,h=>by
   unfold Ve at h;exact Z3 (fun c hm=>hc c (List.mem_cons_of_mem _ hm)) h
 | .w _ _ _ _ :: cs,x,r,hc,h=>by
   unfold Ve at h;exact Z3 (fun c hm=>hc c (List.mem_cons_of_mem _ hm)) h
 | .a _ _ _ _ _ :: cs,x,r,hc,h=>by
   unfold Ve at h;exact Z3 (fun c hm=>hc c (List.mem_cons_of_mem _ hm)) h
 | .nu _ _ _ _ _ _ :: cs,x,r,hc,h=>by
   unfold Ve at h;exact Z3 (fun c hm=>hc c (List.mem_cons_of_mem _ hm)) h
theorem Zh{cs:List Cd}{x:SX}{r:Bool}(hc:∀c∈cs,c.holds C I e)(h:ask cs x=some r):(x.den e).2=r:=by
 unfold ask at h;split at h
 ·simp only [Option.some.injEq]at h;subst h;rfl
 ·rename_i y;cases hy:Ve cs y with
  |none=>rw [hy]at h;cases h
  |some v=>
   rw [hy]at h;simp only [Option.map_some,Option.some.injEq]at h;have:=Z3 hc hy;simp only [SX.den,this,h]
 ·exact Z3 hc h
theorem Zt:∀(x:SX) (v:Bool),(x.den e).2=v→∀c∈Zo x v,c.holds C I e
 | .no y,v,h,c,hm=>by
   unfold Zo at hm;exact Zt y (!v) (by simp only [SX.den]at h;rw [←h];simp) c hm
 | .an x y,true,h,c,hm=>by
   unfold Zo at hm;simp only [SX.den,Bool.and_eq_true]at h;rcases List.mem_append.1 hm with hm|hm
   ·exact Zt x true h.1 c hm
   ·exact Zt y true h.2 c hm
 | .an x y,false,h,c,hm=>by unfold Zo at hm;simp only [List.mem_singleton]at hm;subst hm;exact h
 | .i _,v,h,c,hm=>by unfold Zo at hm;simp only [List.mem_singleton]at hm;subst hm;exact h
 | .b _,v,h,c,hm=>by unfold Zo at hm;simp only [List.mem_singleton]at hm;subst hm;exact h
 | .v _ _,v,h,c,hm=>by unfold Zo at hm;simp only [List.mem_singleton]at hm;subst hm;exact h
 | .r _ _ _ _,v,h,c,hm=>by unfold Zo at hm;simp only [List.mem_singleton]at hm;subst hm;exact h
 | .r2 _ _ _ _ _,v,h,c,hm=>by unfold Zo at hm;simp only [List.mem_singleton]at hm;subst hm;exact h
 | .o _ _ _ _,v,h,c,hm=>by unfold Zo at hm;simp only [List.mem_singleton]at hm;subst hm;exact h
 | .c _ _ _,v,h,c,hm=>by unfold Zo at hm;simp only [List.mem_singleton]at hm;subst hm;exact h
 | .eq _ _,v,h,c,hm=>by unfold Zo at hm;simp only [List.mem_singleton]at hm;subst hm;exact h
 | .it _ _ _,v,h,c,hm=>by unfold Zo at hm;simp only [List.mem_singleton]at hm;subst hm;exact h
 | .cv _ _,v,h,c,hm=>by unfold Zo at hm;simp only [List.mem_singleton]at hm;subst hm;exact h
 | .mx _ _,v,h,c,hm=>by unfold Zo at hm;simp only [List.mem_singleton]at hm;subst hm;exact h
 | .mn _ _,v,h,c,hm=>by unfold Zo at hm;simp only [List.mem_singleton]at hm;subst hm;exact h
end
theorem QaT{e:Env}{v:Value}{x:LX}(h:ofL v=some x):x.den e=v:=by
 unfold ofL at h;split at h <;> simp only [Option.some.injEq,reduceCtorEq]at h <;> subst h <;> rfl
theorem X7{e:Env}:∀{vs:List Value} {xs:List LX},K8 vs=some xs→xs.map (·.den e)=vs
 | [],xs,h=>by simp only [K8,Option.some.injEq]at h;subst h;rfl
 |v :: vs,xs,h=>by
  unfold K8 at h;split at h
  ·rename_i x xs' h1 h2;cases h;rw [List.map_cons,QaT h1,X7 h2]
  ·cases h
theorem QfL{e:Env}{v:Value}{x:PX}(h:ofV v=some x):x.den e=v:=by
 unfold ofV at h;split at h
 ·rename_i cs;cases hx:K8 cs.toList with
  |none=>rw [hx]at h;cases h
  |some xs=>
   rw [hx]at h;simp only [Option.map_some,Option.some.injEq]at h;subst h;simp only [PX.den,X7 hx]
 ·cases hx:ofL v with
  |none=>rw [hx]at h;cases h
  |some x'=>
   rw [hx]at h;simp only [Option.map_some,Option.some.injEq]at h;subst h;exact QaT hx
theorem PX.cells_den(e:Env)(p:PX):(p.den e).cells=(p.cells.map (·.den e)).toArray:=by
 cases p with
 |l x=>cases x <;> rfl
 |a xs=>rfl
theorem LX.cells_one(e:Env)(x:LX):(x.den e).oneCell'=true:=by cases x <;> rfl
theorem Zq{e:Env}:∀{c:SX},(∀y∈QP c,(y.den e).2=true)↔(c.den e).2=true
 | .an x y=>by
   have h1:=Zq (e:=e) (c:=x);have h2:=Zq (e:=e) (c:=y);simp only [QP,List.mem_append,SX.den,Bool.and_eq_true,←h1,←h2];constructor
   ·intro h;exact⟨fun z hz=>h z (.inl hz),fun z hz=>h z (.inr hz)⟩
   ·intro h z hz;exact hz.elim (h.1 z) (h.2 z)
 | .b true=>by simp [QP,SX.den]
 | .b false=>by simp [QP]
 | .i _=>by simp [QP]
 | .v _ _=>by simp [QP]
 | .r _ _ _ _=>by simp [QP]
 | .r2 _ _ _ _ _=>by simp [QP]
 | .o _ _ _ _=>by simp [QP]
 | .c _ _ _=>by simp [QP]
 | .no _=>by simp [QP]
 | .eq _ _=>by simp [QP]
 | .it _ _ _=>by simp [QP]
 | .cv _ _=>by simp [QP]
 | .mx _ _=>by simp [QP]
 | .mn _ _=>by simp [QP]
section
variable{P:Program}(C:List (Kon P))(I:List (Nat→Env→Prop))
structure Kn(e:Env)(s:St)(hs:List SX)(a:Act):Prop where
 tm:Z2 e s.tm a.tmps.toList
 cd:∀c∈s.cd,c.holds C I e
 hs:∀h∈hs,(h.den e).2=true
end
section
variable{P:Program}{C:List (Kon P)}{I:List (Nat→Env→Prop)}{e:Env}{s:St}{hs:List SX}{a:Act}
theorem Kn.more(hk:Kn C I e s hs a){c:SX}(hc:(c.den e).2=true):Kn C I e s (QP c ++ hs) a:=
 ⟨hk.tm,hk.cd,fun h hm=>by
   rcases List.mem_append.1 hm with hm|hm
   ·exact Zq.2 hc h hm
   ·exact hk.hs h hm⟩
theorem VU(hk:Kn C I e s hs a){c:SX}(h:QbV s.cd hs c=true):(c.den e).2=true:=by
 refine Zq.1 fun y hy=>?_
 have:=List.all_eq_true.1 h y hy;simp only [Bool.or_eq_true,decide_eq_true_eq,beq_iff_eq]at this;rcases this with h1|h1
 ·exact hk.hs y h1
 ·exact Zh hk.cd h1
theorem Xn(hk:Kn C I e s hs a){x:Operand}{v:VX}(h:evV hs s x=some v):v.sat e (a.eval x):=by
 unfold evV at h;split at h
 ·rename_i t
  have val:∀z,s.tm[t]?=some z→z.sat e (a.eval (.tmp t)):=fun z hz=>by
   obtain⟨u,hu,hs⟩:=hk.tm.get hz
   have:a.eval (.tmp t)=u:=by
    simp only [Act.eval,Array.getD_eq_getD_getElem?];rw [←Array.getElem?_toList,hu];rfl
   rw [this];exact hs
  split at h
  ·cases h
  ·rename_i c z hz;split at h
   ·rename_i hkn;cases h;exact(val _ hz).1 (VU hk hkn)
   ·cases h
  ·exact val _ h
 ·rename_i u;cases hx:ofV u with
  |none=>rw [hx]at h;cases h
  |some x'=>
   rw [hx]at h;simp only [Option.map_some,Option.some.injEq]at h;subst h;exact(QfL hx).symm
 ·cases h
theorem Qi(hk:Kn C I e s hs a){x:Operand}{p:PX}(h:evP hs s x=some p):a.eval x=p.den e:=by
 unfold evP at h;split at h
 ·rename_i p' hv;cases h;exact Xn hk hv
 ·cases h
theorem ZN(hk:Kn C I e s hs a):∀{xs:List Operand} {ps:List PX},Ko hs s xs=some ps→xs.map a.eval=ps.map (·.den e)
 | [],ps,h=>by simp only [Ko,Option.some.injEq]at h;subst h;rfl
 |x :: xs,ps,h=>by
  unfold Ko at h;split at h
  ·rename_i p ps' h1 h2;cases h;rw [List.map_cons,List.map_cons,Qi hk h1,ZN hk h2]
  ·cases h
end
end Go.Proofs.YteplnamfpodmlaaGreat.T2
end
section
namespace Go.Proofs.YteplnamfpodmlaaGreat.T2
section
variable{P:Program}{C:List (Kon P)}{I:List (Nat→Env→Prop)}{e:Env}{s:St}{a:Act}{w:World}
theorem Qaj{p:BinOp}{k k':IntKind}{x y:SX}{v:VX}{xs:List SX}{t:TypeId}(h:Qk1 p k x k' y=some (v,xs))(hx:∀x∈xs,(x.den e).2=true) :
 ∃u,v.sat e u∧Yi P (binOp p t (.int k (x.den e).1) (.int k' (y.den e).1)) u:=by
 cases p <;> simp only [Qk1]at h
 case quo|rem=>
  split at h
  ·rename_i hk;subst hk;cases h;have h0:=hx _ (List.mem_singleton.2 rfl);rw [SX.mkC_den]at h0;simp only [cmI,SX.den,bne_iff_ne,ne_eq]at h0;exact⟨_,rfl,fun w=>by simp [binOp,Op.intDiv,h0,PX.den,LX.den,SX.mkO_den,arI]⟩
  ·cases h
 case shl|shr=>
  cases h;have h0:=hx _ (List.mem_singleton.2 rfl);unfold geZ at h0;rw [SX.mkC_den]at h0;have h2:decide ((0:Int)≤(y.den e).1)=true:=h0;have h1:¬(y.den e).1 < 0:=by simpa using h2
  exact⟨_,rfl,fun w=>by simp [binOp,Op.shift,h1,PX.den,LX.den,SX.mkO_den,arI]⟩
 all_goals
  split at h
  ·rename_i hk;subst hk;cases h;refine⟨_,rfl,fun w=>?_⟩
   first
    |(simp [binOp,Op.intArith,PX.den,LX.den,SX.mkO_den,arI];done)
    |(simp [binOp,Op.intCmp,PX.den,LX.den,SX.mkC_den,cmI];done)
    |(simp [binOp,intBits_and,intBits_or,intBits_xor,intBits_andNot,PX.den,LX.den,SX.mkO_den,arI];done)
  ·cases h
theorem KR(f:LX→Value)(xs:List LX)(o n:Nat):((xs.map f).toArray.extract o (o+n))=(((xs.drop o).take n).map f).toArray:=by
 apply Array.ext';simp [List.map_take,List.map_drop]
theorem ZR{t:TypeId}{xs:List LX}{o:Nat}{p:PX}(h:KU P t xs o=some p):Yi P (part t (xs.map (·.den e)).toArray o) (p.den e):=by
 unfold KU at h;split at h
 ·rename_i n hn;obtain⟨d,i,hu,hd,hi,hs⟩:=Y9 hn;split at h
  ·cases h;intro w;simp only [part,Sem.run_bind,Kh hu,hd,Result.andThen_ok,if_true,Xw hi,Sem.run_pure,hs,KR,PX.den]
  ·cases h
 ·split at h
  ·rename_i hl;obtain⟨d,hu,hd⟩:=Qaq hl;cases hx:xs[o]? with
   |none=>rw [hx]at h;cases h
   |some x=>
    rw [hx]at h;simp only [Option.map_some,Option.some.injEq]at h;subst h;intro w;have:(xs.map (·.den e)).toArray[o]?=some (x.den e):=by simp [hx]
    simp only [part,Sem.run_bind,Kh hu,hd,Result.andThen_ok,Bool.false_eq_true,if_false,this,Sem.run_pure,PX.den]
  ·cases h
theorem Vz{g:TypeId→PX→PX→Option SX}{d:Nat}(hg:∀t x y u,g t x y=some u→∀w,(Op.equalIn d t (x.den e) (y.den e)).run P w= .ok (u.den e).2 w)(xs ys:List LX) :
 ∀(fs:List Field) (u:SX),QcI g P xs ys fs=some u→∀w,(Op.eqFields d (xs.map (·.den e)).toArray (ys.map (·.den e)).toArray fs).run P w= .ok (u.den e).2 w
 | [],u,h,w=>by simp only [QcI,Option.some.injEq]at h;subst h;simp [Op.eqFields,SX.den]
 |f :: fs,u,h,w=>by
  unfold QcI at h;split at h
  ·cases h
  ·rename_i hn;split at h
   ·rename_i a b ha hb;split at h
    ·rename_i u1 u2 h1 h2;cases h;have r1:=hg _ _ _ _ h1;have r2:=Vz hg xs ys fs u2 h2;simp only [Op.eqFields,ne_eq,hn,not_false_eq_true,if_true,Sem.run_bind,ZR ha _,ZR hb _,Result.andThen_ok,r1,SX.mkAn_den];cases (u1.den e).2
     ·simp
     ·simp [r2]
    ·cases h
   ·cases h
theorem Vy{g:PX→PX→Option SX}{d:Nat}{t:TypeId}{n:Nat}(hg:∀x y u,g x y=some u→∀w,(Op.equalIn d t (x.den e) (y.den e)).run P w= .ok (u.den e).2 w)(xs ys:List LX)(hn:∀w,(sizeOf t).run P w= .ok n w) :
 ∀(is:List Nat) (u:SX),QcG g P t n xs ys is=some u→∀w,(do
  let r ←forIn is (none,()) (fun i (r:Option Bool×Unit)=>do
   let a ←part t (xs.map (·.den e)).toArray (i * n)
   let b ←part t (ys.map (·.den e)).toArray (i * n)
   let c ←Op.equalIn d t a b
   if(!c)=true then pure (ForInStep.done (some false,()))else pure (ForInStep.yield (none,())))
  match r.1 with
  |some a=>pure a
  |none=>pure true:Sem Bool).run P w= .ok (u.den e).2 w
 | [],u,h,w=>by simp only [QcG,Option.some.injEq]at h;subst h;simp [SX.den]
 |i :: is,u,h,w=>by
  unfold QcG at h;split at h
  ·rename_i a b ha hb;split at h
   ·rename_i u1 u2 h1 h2;cases h;have r1:=hg _ _ _ h1;have r2:=Vy hg xs ys hn is u2 h2 w;simp only [Sem.run_bind]at r2;simp only [List.forIn_cons,Sem.run_bind,ZR ha _,ZR hb _,Result.andThen_ok,r1,SX.mkAn_den];cases (u1.den e).2
    ·simp
    ·simp only [Bool.not_true,Bool.false_eq_true,if_false,Sem.run_pure,Result.andThen_ok,Bool.true_and];exact r2
   ·cases h
  ·cases h
theorem K6:∀(d:Nat) (t:TypeId) (x y:PX) (u:SX),eqX P d t x y=some u→∀n w,(Op.equalIn (d+n) t (x.den e) (y.den e)).run P w= .ok (u.den e).2 w
 |0,_,_,_,_,h,_,_=>by cases h
 |d+1,t,x,y,u,h,n,w=>by
  have ih:=fun t x y u h=>K6 d t x y u h n
  rw [show d+1+n=(d+n)+1 by omega]
  unfold eqX at h;split at h
  ·rename_i a b hu;cases h;simp only [PX.den,LX.den,run_equalIn_bool w _ t _ _ hu,SX.mkEq_den]
  ·rename_i k0 k a k' b hu;split at h
   ·rename_i hk;subst hk;cases h;simp only [PX.den,LX.den,run_equalIn_int w _ t _ _ _ _ hu,SX.mkC_den,cmI]
   ·cases h
  ·rename_i fs xs ys hu;split at h
   ·cases h
   ·rename_i hst;have hf:P.fieldsOf t=fs:=by unfold Program.fieldsOf;rw [hu]
    simp only [PX.den];rw [run_equalIn_struct w (d+n) t _ _ (by rw [hf];exact hu) (by simpa using hst),hf]
    exact Vz (fun t x y u h w=>ih t x y u h w) xs ys _ u h w
  ·rename_i len el xs ys hu;split at h
   ·rename_i ie hi;have r:=Vy (t:=el) (fun x y u h w=>ih el x y u h w) xs ys (Xw hi) _ u h w
    simp only [PX.den];simp only [Op.equalIn,Sem.run_bind,run_underlying hu,Result.andThen_ok,Xw hi,Std.Legacy.Range.forIn_eq_forIn_range',Std.Legacy.Range.size,Nat.sub_zero,Nat.add_one_sub_one,Nat.div_one,List.range_eq_range']at r ⊢;refine Eq.trans ?_ r;congr 1;funext a w';obtain⟨o,_⟩:=a;cases o <;> rfl
   ·cases h
  ·cases h
end
section
variable{P:Program}{C:List (Kon P)}{I:List (Nat→Env→Prop)}{e:Env}{s:St}{hs:List SX}{a:Act}{w:World}
theorem XC{place:Nat→Option (Nat×Nat)}:∀{parts:List (Nat×PX)} {cells cs:List LX},Kp place cells parts=some cs→
 Instr.fill place (cells.map (·.den e)).toArray (parts.map fun p=>(p.1,p.2.den e))=some (cs.map (·.den e)).toArray
 | [],cells,cs,h=>by simp only [Kp,Option.some.injEq]at h;subst h;rfl
 |(i,v) :: rest,cells,cs,h=>by
  unfold Kp at h;cases hp:place i with
  |none=>rw [hp]at h;cases h
  |some os=>
   obtain⟨off,size⟩:=os;rw [hp]at h
   dsimp only at h
   split at h
   ·rename_i hc;have ih:=XC h
    have h1:¬((v.den e).cells.size≠size∨off+(v.den e).cells.size > (cells.map (·.den e)).toArray.size):=by
     rw [PX.cells_den];simp only [List.size_toArray,List.length_map];omega
    have hset:∀(vs:List Value) (j:Nat) (cs:Array Value),off+j+vs.length≤cs.size→(vs.zipIdx j).foldl (fun cs (x:Value×Nat)=>cs.setIfInBounds (off+x.2) x.1) cs=(cs.toList.take (off+j) ++ vs ++ cs.toList.drop (off+j+vs.length)).toArray:=by
     intro vs
     induction vs with
     |nil=>intro j cs _;simp
     |cons x vs ihv=>
      intro j cs hl;simp only [List.length_cons]at hl;rw [List.zipIdx_cons,List.foldl_cons,ihv (j+1) _ (by simp;omega)]
      apply Array.ext';simp only [Array.toList_setIfInBounds,List.length_cons];have hl':off+j < cs.toList.length:=by simp;omega
      rw [←Nat.add_assoc,List.take_succ_eq_append_getElem (by simp;omega),List.getElem_set_self,List.take_set_of_le (by omega),List.drop_set_of_lt (by omega),show off+j+1+vs.length=off+j+(vs.length+1)by omega]
      simp
    have h2:=hset (v.cells.map (·.den e)) 0 (cells.map (·.den e)).toArray (by simp only [List.length_map,List.size_toArray];omega)
    simp only [List.map_cons,Instr.fill,hp,Nat.add_zero,List.length_map]at h2 ⊢;rw [if_neg (by simpa using h1),PX.cells_den]
    rw [←ih];congr 1;rw [←Array.foldl_toList,Array.toList_zipIdx];rw [h2,hc.1];simp
   ·cases h
theorem V7:∀{fs:List Field} {ps:List (Nat×Nat)},Kx P fs=some ps→fs.mapM (fun f=>(P.info? f.type).map fun i=>(f.offset,i.size))=some ps
 | [],ps,h=>by simp only [Kx,Option.some.injEq]at h;subst h;rfl
 |f :: fs,ps,h=>by
  unfold Kx at h;split at h
  ·rename_i i ps' h1 h2;cases h;simp [List.mapM_cons,h1,V7 h2]
  ·cases h
theorem YG{t:TypeId}{parts:List (Nat×PX)}{cs:List LX}(h:Qak P t parts=some cs):P.built t (parts.map fun p=>(p.1,p.2.den e))=some (cs.map (·.den e)).toArray:=by
 unfold Qak at h;unfold Program.built;split at h
 ·rename_i it len el hi hu;split at h
  ·rename_i z ie hz hie;split at h
   ·rename_i zs hzs;have:=XC (e:=e) h;rw [X7 hzs]at this;simp only [hi,hu,hz,hie];exact this
   ·cases h
  ·cases h
 ·rename_i it fields hi hu;split at h
  ·rename_i z places hz hpl;split at h
   ·rename_i zs hzs;have:=XC (e:=e) h;rw [X7 hzs]at this;simp only [hi,hu,hz,V7 hpl];exact this
   ·cases h
  ·cases h
 ·cases h
theorem XR(ht:Kn C I e s hs a):∀{xs:List (Nat×Operand)} {ps:List (Nat×PX)},JI hs s xs=some ps→xs.map (fun p=>(p.1,a.eval p.2))=ps.map fun p=>(p.1,p.2.den e)
 | [],ps,h=>by simp only [JI,Option.some.injEq]at h;subst h;rfl
 |(i,x) :: xs,ps,h=>by
  unfold JI at h;split at h
  ·rename_i p ps' h1 h2;cases h;rw [List.map_cons,List.map_cons,XR ht h2,Qi ht h1]
  ·cases h
theorem Zn{x:SX}(h:((geZ x).den e).2=true):0≤(x.den e).1:=by
 unfold geZ at h;rw [SX.mkC_den]at h;have h2:decide ((0:Int)≤(x.den e).1)=true:=h
 simpa using h2
theorem ZB{x y:SX}(h:((SX.mkC .lss x y).den e).2=true):(x.den e).1 < (y.den e).1:=by
 rw [SX.mkC_den]at h
 simpa [cmI] using h
theorem WO{x y:SX}(h:((SX.mkC .leq x y).den e).2=true):(x.den e).1≤(y.den e).1:=by
 rw [SX.mkC_den]at h
 simpa [cmI] using h
structure Bs(e:Env)(s:St):Prop where
 row:∀d ks len ct,W1 s d=some (ks,len,ct)→0 < (len.den e).1.toNat→∃a,e.base d=some a
 nr:∀d ks len ct h,QoF s d=some (ks,len,ct,h)→∃a,e.base d=some a
 inn:∀c d ks len,Qle s c=some (d,ks,len)→∀y,y < (len.den e).1.toNat→0≤e.int c y∧(0 < e.int c y→∃a,(e.nm c).nb y=some a)
theorem QkU(hb:Bs e s){d:Nat}{len:SX}(h:QqR s d len=true)(hl:0 < (len.den e).1.toNat):∃a,e.base d=some a:=by
 unfold QqR at h;split at h
 ·rename_i ks l ct hr;simp only [decide_eq_true_eq]at h;exact hb.row d ks l ct hr (by rw [h];exact hl)
 ·split at h
  ·rename_i ks l ct hh hr;exact hb.nr d ks l ct hh hr
  ·cases h
theorem QeA:∀{ps:List PX} {c:List (Nat×Nat)},Qhw ps=some c→ps.map (·.den e)=c.map fun p=>Value.pointer (some ⟨e.adr p.1,p.2,none⟩)
 | [],c,h=>by simp only [Qhw,Option.some.injEq]at h;subst h;rfl
 |p :: ps,c,h=>by
  unfold Qhw at h;split at h
  ·rename_i heq;cases heq
  ·rename_i d o ps' heq;cases heq;obtain⟨c',hc,rfl⟩:=Ql h;rw [List.map_cons,List.map_cons,QeA hc];rfl
  ·cases h
theorem QhP(hb:Bs e s){x:LX}{m:SX}{xs:List SX}(h:QqQ s x=some (m,xs))(hx:∀x∈xs,(x.den e).2=true):∃b n c,x.den e= .slice b n c∧(m.den e).1=(n:Int):=by
 unfold QqQ at h;split at h
 ·cases h;have g1:=Zn (hx _ (List.mem_cons_self ..));exact⟨_,_,_,rfl,by omega⟩
 ·cases h;exact⟨_,_,_,rfl,rfl⟩
 ·cases h;exact⟨_,_,_,rfl,rfl⟩
 ·rename_i c y;split at h
  ·rename_i d ks l hn;cases h;have g1:=Zn (hx _ (List.mem_cons_self ..));have g2:=ZB (hx _ (List.mem_cons_of_mem _ (List.mem_cons_self ..)));have:=(hb.inn _ _ _ _ hn (y.den e).1.toNat (by omega)).1
   refine⟨_,_,_,rfl,?_⟩;simp only [SX.den,Nat.mul_one,Nat.add_zero];omega
  ·cases h
 ·cases h
theorem Xj{o:Oper}{v:VX}{xs:List SX}(ht:Kn C I e s hs a)
 (hb:Bs e s)
 (h:Jl P hs s o.op=some (v,xs)) (hx:∀x∈xs,(x.den e).2=true):∃u,v.sat e u∧∀w,(execOp a.eval o).run P w= .ok (.value u) w:=by
 obtain⟨dst,op,type,pos,after,guard⟩:=o
 dsimp only at h
 cases op <;> (unfold Jl at h;try dsimp only at h) <;> try (cases h;done)
 case move x=>
  obtain⟨y,hy,hv⟩:=Ql h;simp only [Prod.mk.injEq]at hv;obtain⟨rfl,rfl⟩:=hv;exact⟨_,Xn ht hy,fun w=>by simp [execOp]⟩
 case assign x=>
  obtain⟨y,hy,hv⟩:=Ql h;simp only [Prod.mk.injEq]at hv;obtain⟨rfl,rfl⟩:=hv;exact⟨_,Xn ht hy,fun w=>by simp [execOp]⟩
 case pick c x y=>
  split at h
  ·rename_i g hg;have hg':=Qi ht hg
   have ex:∀w,(execOp a.eval ⟨dst,.pick c x y,type,pos,after,guard⟩).run P w= .ok (.value (if(g.den e).2=true then a.eval x else a.eval y)) w:=fun w=>by
    simp only [execOp,hg',PX.den,LX.den,asBool,Sem.run_bind,Sem.run_pure,Result.andThen_ok]
   split at h
   ·rename_i ha;obtain⟨z,hz,hv⟩:=Ql h;simp only [Prod.mk.injEq]at hv;obtain⟨rfl,rfl⟩:=hv;exact⟨_,Xn (ht.more (Zh ht.cd ha)) hz,fun w=>by rw [ex,Zh ht.cd ha,if_pos rfl]⟩
   ·rename_i ha;obtain⟨z,hz,hv⟩:=Ql h;simp only [Prod.mk.injEq]at hv;obtain⟨rfl,rfl⟩:=hv;exact⟨_,Xn (ht.more (by rw [SX.mkNo_den,Zh ht.cd ha];rfl)) hz,fun w=>by rw [ex,Zh ht.cd ha,if_neg (by simp)]⟩
   ·split at h
    ·rename_i y1 y2 h1 h2;cases h;refine⟨_,rfl,fun w=>?_⟩
     rw [ex];cases hgd:(g.den e).2
     ·rw [if_neg (by simp),Qi (ht.more (by rw [SX.mkNo_den,hgd];rfl)) h2]
      simp [PX.den,LX.den,SX.mkSel_den,hgd]
     ·rw [if_pos rfl,Qi (ht.more hgd) h1];simp [PX.den,LX.den,SX.mkSel_den,hgd]
    ·cases h
  ·cases h
 case unOp p t x=>
  cases p <;> dsimp only at h <;> try (cases h;done)
  case neg=>
   split at h
   ·rename_i k y hy;cases h;exact⟨_,rfl,fun w=>by simp [execOp,Qi ht hy,PX.den,LX.den,Op.unary,Op.intArith,SX.mkO_den,arI,SX.den]⟩
   ·cases h
  case not=>
   split at h
   ·rename_i y hy;cases h;exact⟨_,rfl,fun w=>by simp [execOp,Qi ht hy,PX.den,LX.den,Op.unary,SX.mkNo_den]⟩
   ·cases h
 case binOp p t x y yt=>
  split at h
  ·rename_i k z k' z' h1 h2;obtain⟨u,hu,hy⟩:=Qaj (P:=P) (e:=e) (t:=t) h hx;refine⟨u,hu,fun w=>?_⟩
   have:=QbM (x:=x) (y:=y) (a_:= .int k (z.den e).1) (b_:= .int k' (z'.den e).1) ⟨_,_,_,_,rfl,rfl⟩ hy w;simp only [execOp,Qi ht h1,Qi ht h2,PX.den,LX.den];rw [Sem.run_bind,this];simp
  ·rename_i z z' h1 h2;split at h
   ·rename_i hu;cases h;refine⟨_,rfl,fun w=>?_⟩
    simp [execOp,Qi ht h1,Qi ht h2,PX.den,LX.den,eqGuard,binOp,Op.equal,Op.maxDepth,run_equalIn_bool w _ t _ _ hu,SX.mkEq_den]
   ·rename_i hu;cases h;refine⟨_,rfl,fun w=>?_⟩
    simp [execOp,Qi ht h1,Qi ht h2,PX.den,LX.den,eqGuard,binOp,Op.equal,Op.maxDepth,run_equalIn_bool w _ t _ _ hu,SX.mkEq_den,SX.mkNo_den]
   ·cases h
  ·rename_i zs zs' h1 h2;split at h
   ·cases h
   ·rename_i hg;split at h
    ·rename_i p' g hq;cases h;have e1:=Qi ht h1;have e2:=Qi ht h2;simp only [PX.den]at e1 e2;have r:∀w,(Op.equalIn 10000 t (.agg (zs.map (LX.den e)).toArray) (.agg (zs'.map (LX.den e)).toArray)).run P w= .ok (g.den e).2 w:=fun w=>K6 (e:=e) 6 t _ _ g hq 9994 w
     refine⟨_,rfl,fun w=>?_⟩
     show _=Result.ok (Next.value (.bool (g.den e).2)) w;simp only [execOp,e1,e2,Sem.run_bind,run_eqGuard_agg w _ t x y _ _ (by simpa using hg),Result.andThen_ok,run_eql_struct,r,Sem.run_pure]
    ·rename_i p' g hq;cases h;have e1:=Qi ht h1;have e2:=Qi ht h2;simp only [PX.den]at e1 e2;have r:∀w,(Op.equalIn 10000 t (.agg (zs.map (LX.den e)).toArray) (.agg (zs'.map (LX.den e)).toArray)).run P w= .ok (g.den e).2 w:=fun w=>K6 (e:=e) 6 t _ _ g hq 9994 w
     refine⟨_,rfl,fun w=>?_⟩
     show _=Result.ok (Next.value (.bool (g.mkNo.den e).2)) w;simp only [execOp,e1,e2,Sem.run_bind,run_eqGuard_agg w _ t x y _ _ (by simpa using hg),Result.andThen_ok,run_neq_struct,r,Sem.run_pure,SX.mkNo_den]
    ·cases h
  ·cases h
 case convert src dst' x=>
  split at h
  ·rename_i d1 k k1 y hu1 hu2 hy;cases h;exact⟨_,rfl,fun w=>by simp [execOp,Qi ht hy,PX.den,LX.den,convert,run_underlying hu1,run_underlying hu2,Conv.intToInt,SX.mkCv_den]⟩
  ·cases h
 case fieldAddr t x f=>
  split at h
  ·rename_i fs hu;split at h
   ·rename_i fd hf;split at h
    ·rename_i fi hi;split at h
     ·cases h
     ·rename_i h0;have fa:=WZ hu hf hi h0;split at h
      ·rename_i d o hy;cases h;refine⟨_,rfl,fun w=>?_⟩
       have:=fa ⟨e.adr d,o,none⟩ w;simp [execOp,Qi ht hy,PX.den,LX.den,this,add_mid]
      ·rename_i d o n sz i o2 hy;cases h;refine⟨_,rfl,fun w=>?_⟩
       have:=fa ⟨e.adr d,o+(i.den e).1.toNat * sz+o2,none⟩ w;simp only [add_mid,Nat.add_assoc]at this;simp only [execOp,Qi ht hy,PX.den,LX.den,Sem.run_bind,Nat.add_assoc,this,Result.andThen_ok,Sem.run_pure]
      ·rename_i d sz i o hy;cases h;refine⟨_,rfl,fun w=>?_⟩
       have:=fa (((e.base d).getD default).add ((i.den e).1.toNat * sz+o)) w;simp [execOp,Qi ht hy,PX.den,LX.den,this,VJ,Nat.add_assoc]
      ·rename_i d y sz i o hy;cases h;refine⟨_,rfl,fun w=>?_⟩
       have:=fa ((((e.nm d).nb (y.den e).1.toNat).getD default).add ((i.den e).1.toNat * sz+o)) w;simp [execOp,Qi ht hy,PX.den,LX.den,this,VJ,Nat.add_assoc]
      ·cases h
    ·cases h
   ·cases h
  ·cases h
 case indexAddr t x ix=>
  split at h
  ·rename_i len el d o k i hu hy hi;split at h
   ·rename_i ie n hie;split at h
    ·rename_i hn;cases h;refine⟨_,rfl,fun w=>?_⟩
     have:=ZG (k:=k) hu hie hn.1 hn.2 ⟨e.adr d,o,none⟩ w;simp [execOp,Qi ht hy,Qi ht hi,PX.den,LX.den,SX.den,this,add_mid]
    ·cases h
   ·rename_i ie i' hie _;cases h;have g1:=Zn (hx _ (List.mem_cons_self ..));have g2:=ZB (hx _ (List.mem_cons_of_mem _ (List.mem_cons_self ..)));simp only [SX.den]at g2;refine⟨_,rfl,fun w=>?_⟩
    have:=ZG (k:=k) hu hie g1 g2 ⟨e.adr d,o,none⟩ w;simp [execOp,Qi ht hy,Qi ht hi,PX.den,LX.den,this,add_mid]
   ·cases h
  ·rename_i len el d sz y o k i hu hy hi;split at h
   ·rename_i ie n hie;split at h
    ·rename_i hn;cases h;refine⟨_,rfl,fun w=>?_⟩
     have:=ZG (k:=k) hu hie hn.1 hn.2 (((e.base d).getD default).add ((y.den e).1.toNat * sz+o)) w;simp [execOp,Qi ht hy,Qi ht hi,PX.den,LX.den,SX.den,this,VJ,Nat.add_assoc]
    ·cases h
   ·cases h
  ·rename_i el d len k i hu hy hi;split at h
   ·rename_i ie hie;split at h
    ·rename_i hrl;cases h;have g1:=Zn (hx _ (List.mem_cons_self ..));have g2:=ZB (hx _ (List.mem_cons_of_mem _ (List.mem_cons_self ..)));obtain⟨ad,had⟩:=QkU hb hrl (by omega)
     refine⟨_,rfl,fun w=>?_⟩
     have:=JH (k:=k) (len:=(len.den e).1.toNat) (cap:=e.cap d) hu hie g1 (by omega) ad w
     simp [execOp,Qi ht hy,Qi ht hi,PX.den,LX.den,had,this]
    ·cases h
   ·cases h
  ·rename_i el d y k i hu hy hi;split at h
   ·rename_i ie d' ks l hie hn;cases h;have g1:=Zn (hx _ (List.mem_cons_self ..));have g2:=ZB (hx _ (List.mem_cons_of_mem _ (List.mem_cons_self ..)));have g3:=Zn (hx _ (List.mem_cons_of_mem _ (List.mem_cons_of_mem _ (List.mem_cons_self ..))));have g4:=ZB (hx _ (List.mem_cons_of_mem _ (List.mem_cons_of_mem _ (List.mem_cons_of_mem _ (List.mem_cons_self ..)))))
    simp only [SX.den,Nat.mul_one,Nat.add_zero]at g4;obtain⟨h1,h2⟩:=hb.inn _ _ _ _ hn (y.den e).1.toNat (by omega)
    obtain⟨ad,had⟩:=h2 (by omega)
    refine⟨_,rfl,fun w=>?_⟩
    have:=JH (k:=k) (len:=(e.int d (y.den e).1.toNat).toNat) (cap:=(e.nm d).nc (y.den e).1.toNat) hu hie g3 (by omega) ad w
    simp [execOp,Qi ht hy,Qi ht hi,PX.den,LX.den,had,this]
   ·cases h
  ·cases h
 case field t x f=>
  split at h
  ·rename_i fs zs hu hy;split at h
   ·rename_i fd hf;split at h
    ·rename_i n hn;cases h;obtain⟨d,i,hu2,hd,hi,hs⟩:=Y9 hn;refine⟨_,rfl,fun w=>?_⟩
     have:(part fd.type (zs.map (·.den e)).toArray fd.offset).run P w= .ok (PX.den e (.a ((zs.drop fd.offset).take n))) w:=by
      simp only [part,Sem.run_bind,Kh hu2,hd,Result.andThen_ok,if_true,Xw hi,Sem.run_pure,hs,KR,PX.den]
     simp [execOp,Qi ht hy,PX.den,Instr.field,run_underlying hu,hf,asAgg]at this ⊢;simp [this]
    ·rename_i hnone;split at h
     ·rename_i hl;obtain⟨y,hz,hv⟩:=Ql h;simp only [Prod.mk.injEq]at hv;obtain⟨rfl,rfl⟩:=hv
      have hp:KU P fd.type zs fd.offset=some (.l y):=by
       unfold KU;simp only [hnone,hl,if_true,hz,Option.map_some]
      refine⟨_,rfl,fun w=>?_⟩
      have:=ZR (e:=e) hp w;simp [execOp,Qi ht hy,PX.den,Instr.field,run_underlying hu,hf,asAgg]at this ⊢;simp [this]
     ·cases h
   ·cases h
  ·cases h
 case build t parts=>
  split at h
  ·rename_i ps hps;obtain⟨cs,hcs,hv⟩:=Ql h;simp only [Prod.mk.injEq]at hv;obtain⟨rfl,rfl⟩:=hv;have hb:=YG (e:=e) hcs;rw [←XR ht hps]at hb;refine⟨_,rfl,fun w=>?_⟩
   have r:=run_build (P:=P) w t (parts.map fun(i,x)=>(i,a.eval x)) _ (by rw [←hb];simp)
   simp [execOp,r,PX.den]
  ·cases h
 case extract x i=>
  split at h
  ·rename_i ps hps;obtain⟨p,hp,hv⟩:=Ql h;simp only [Prod.mk.injEq]at hv;obtain⟨rfl,rfl⟩:=hv;have he:a.eval x=_:=Xn ht hps;exact⟨_,rfl,fun w=>by simp [execOp,he,Instr.extract,hp]⟩
  ·cases h
 case nilCheck x=>
  split at h
  ·rename_i d o hy;cases h;exact⟨_,rfl,fun w=>by simp [execOp,Qi ht hy,PX.den,LX.den]⟩
  ·cases h
 case makeFunc fn first captured=>
  cases fn <;> dsimp only at h <;> try (cases h;done)
  split at h
  ·rename_i ps hf hps;obtain⟨c,hc,hv⟩:=Ql h;simp only [Prod.mk.injEq]at hv;obtain⟨rfl,rfl⟩:=hv;have hfirst:first= #[]:=by apply Array.ext';simp [hf]
   subst hfirst;have h1:=ZN ht hps;rw [QeA hc]at h1
   have h2:captured.map a.eval=(c.map fun p=>Value.pointer (some ⟨e.adr p.1,p.2,none⟩)).toArray:=by
    apply Array.ext';rw [Array.toList_map,h1]
   exact⟨_,rfl,fun w=>by simp [execOp,Instr.makeFunc,h2,PX.den,LX.den]⟩
  ·cases h
 case call c=>
  obtain⟨callee,args,argTypes⟩:=c;cases callee with
  |value f=>cases h
  |invoke r m=>cases h
  |builtin b=>
   cases b <;> dsimp only at h <;> try (cases h;done)
   case len=>
    split at h
    ·rename_i x t hxs ht0;have hargs:args= #[x]:=by apply Array.ext';simp [hxs]
     subst hargs;split at h
     ·rename_i el y hu hy;obtain⟨⟨m,ys⟩,hm,hp⟩:=Ql h;simp only [Prod.mk.injEq]at hp;obtain⟨rfl,rfl⟩:=hp;obtain⟨b,n,c,h1,h2⟩:=QhP hb hm hx;refine⟨_,rfl,fun w=>?_⟩
      have e1:a.eval x= .slice b n c:=(Qi ht hy).trans h1;show _=Result.ok (Next.value (.int .i64 (m.den e).1)) w;rw [h2];simp [execOp,resolve,invoke,builtin,Builtin.len_,ht0,e1,run_underlying hu,goInt]
     ·cases h
    ·cases h
   case max=>
    split at h
    ·rename_i k z k' z' hps;split at h
     ·rename_i hk;subst hk;cases h;have hm:=ZN ht hps;simp only [List.map_cons,List.map_nil,PX.den,LX.den]at hm;refine⟨_,rfl,fun w=>?_⟩
      have hm':(args.map a.eval).toList= [.int k (z.den e).1,.int k (z'.den e).1]:=by rw [Array.toList_map,hm]
      simp [execOp,resolve,invoke,builtin,Builtin.max_,hm,Builtin.max2,PX.den,LX.den,SX.den]
     ·cases h
    ·cases h
   case min=>
    split at h
    ·rename_i k z k' z' hps;split at h
     ·rename_i hk;subst hk;cases h;have hm:=ZN ht hps;simp only [List.map_cons,List.map_nil,PX.den,LX.den]at hm;refine⟨_,rfl,fun w=>?_⟩
      simp [execOp,resolve,invoke,builtin,Builtin.min_,hm,Builtin.min2,PX.den,LX.den,SX.den]
     ·cases h
    ·cases h
end
end Go.Proofs.YteplnamfpodmlaaGreat.T2
end
section
namespace Go.Proofs.YteplnamfpodmlaaGreat.T2
def Env.agr(n:Nat)(e0 e:Env):Prop:=∀d,d < n→e.nm d=e0.nm d
def Env.set(e:Env)(d:Nat)(m:Nm):Env:=⟨fun x=>if x=d then m else e.nm x⟩
theorem Env.set_at(e:Env)(d:Nat)(m:Nm):(e.set d m).nm d=m:=by simp [Env.set]
theorem Env.set_ne(e:Env){d x:Nat}(m:Nm)(h:x≠d):(e.set d m).nm x=e.nm x:=by simp [Env.set,h]
theorem V5(id:Nat):nid id id=false:=by unfold nid;rw [Bool.or_eq_false_iff];simp
theorem Qfd(id:Nat):nid id (id+1)=false:=by unfold nid;rw [Bool.or_eq_false_iff];simp
theorem Env.off_set(e:Env)(id:Nat)(m:Nm):Env.off (nid id) e (e.set id m):=fun x hx=>by
 rw [Env.set_ne];rintro rfl;rw [V5]at hx;cases hx
theorem Env.off_set'(e:Env)(id:Nat)(m:Nm):Env.off (nid id) e (e.set (id+1) m):=fun x hx=>by
 rw [Env.set_ne];rintro rfl;rw [Qfd]at hx;cases hx
theorem Env.off_trans{ok:Nat→Bool}{e e' e'':Env}(h:Env.off ok e e')(h':Env.off ok e' e''):Env.off ok e e'':=fun x hx=>(h x hx).trans (h' x hx)
theorem Env.agr_off{ok:Nat→Bool}{n:Nat}{e0 e e':Env}(h:Env.agr n e0 e)(ho:Env.off ok e e')(hd:∀x,x < n→ok x=true):Env.agr n e0 e':=fun x hx=>(ho x (hd x hx)).symm.trans (h x hx)
theorem Jw{n id:Nat}(h:n≤id):∀x,x < n→nid id x=true:=fun x hx=>by unfold nid;rw [Bool.or_eq_true];left;simp;omega
def Qku(e:Env):List (List VX)→List (List Value)→Prop
 | [],[]=>True
 |x :: xs,v :: vs=>Z2 e x v∧Qku e xs vs
 |_,_=>False
theorem Qku.off{ok:Nat→Bool}{e e':Env}(h:Env.off ok e e'):∀{xs:List (List VX)} {vs:List (List Value)},xs.all (·.all (·.fr ok))=true→Qku e xs vs→Qku e' xs vs
 | [],[],_,_=>trivial
 | [],_ :: _,_,hs=>hs.elim
 |_ :: _,[],_,hs=>hs.elim
 |x :: xs,v :: vs,hf,hs=>by
  simp only [List.all_cons,Bool.and_eq_true]at hf;exact⟨hs.1.off h hf.1,Qku.off h hf.2 hs.2⟩
def Rw.ok(e:Env)(w:World)(r:Rw):Prop:=XW w (e.base r.id) (r.len.den e).1.toNat r.ks (e.int r.id) (e.bool r.id)
def Yp(e:Env)(x y:Bk):Prop:=∀g,x.fp e g→¬y.fp e g
theorem Yp.symm{e:Env}{x y:Bk}(h:Yp e x y):Yp e y x:=fun g hy hx=>h g hx hy
structure Rel{P:Program}(C:List (Kon P))(I:List (Nat→Env→Prop))(G:Cfg)(e0:Env)(w0:World)(e:Env)(s:St)(a:Act)(ups:List (List Value))(w:World):Prop where
 df:a.defers= []
 tm:Z2 e s.tm a.tmps.toList
 up:Qku e s.up ups
 hp:∀b∈s.hp,b.ok e w0.heap.size w
 nd:(s.hp.map (·.id)).Nodup
 inj:s.hp.Pairwise (Yp e)
 rw:∀r∈s.rw,r.ok e w0
 bl:Below w0.heap.size w0 w
 cd:∀c∈s.cd,c.holds C I e
 ex:Env.agr G.n0 e0 e
def Qi2(e:Env):Option (Nat×Nat)→Nm
 |none=>Nm.zero
 |some (b,c)=>{e.nm c with base:=e.base b,cap:=e.cap b}
def Env.sub(e:Env)(d:Nat)(xs:List LX)(ms:List (Option (Nat×Nat))):Env:=
 ⟨fun x=>if x=d then {Nm.zero with int:=fun j=>match xs[j]? with|some (.n _ y)=>(y.den e).1|_=>0,bool:=fun j=>match xs[j]? with|some (.t y)=>(y.den e).2|_=>false}
   else if d < x then(match ms[x - (d+1)]? with|some m=>Qi2 e m|none=>e.nm x)else e.nm x⟩
def Ob.ok{P:Program}(C:List (Kon P))(I:List (Nat→Env→Prop))(n0:Nat)(e0:Env):Ob→Prop
 | .cl cd x=>∀e,Env.agr n0 e0 e→(∀c∈cd,c.holds C I e)→(x.den e).2=true
 | .pre cd k args=>∀e,Env.agr n0 e0 e→(∀c∈cd,c.holds C I e)→∃c,C[k]?=some c∧c.pre (args.map (Jk e))
 | .inv cd k d xs ms=>∀e,Env.agr n0 e0 e→(∀c∈cd,c.holds C I e)→∃i,I[k]?=some i∧i d ((e.sub d xs ms).cut (d+ms.length))
theorem V6{l:List Bk}(h:(l.map (·.id)).Nodup){b:Bk}(hb:b∈l):l.Perm (b :: l.filter fun x=> !(x.id==b.id)):=by
 induction l with
 |nil=>cases hb
 |cons z l ih=>
  simp only [List.map_cons,List.nodup_cons,List.mem_map,not_exists,not_and]at h;rcases List.mem_cons.1 hb with rfl|hb
  ·have:l.filter (fun x=> !(x.id==b.id))=l:=List.filter_eq_self.2 fun x hx=>by
    have:=h.1 x hx
    simpa using this
   simp only [List.filter_cons,beq_self_eq_true,Bool.not_true,Bool.false_eq_true,if_false,this];exact List.Perm.refl _
  ·have hz:(!(z.id==b.id))=true:=by
    have:=h.1 b hb;simp only [Bool.not_eq_true',beq_eq_false_iff_ne,ne_eq];exact fun he=>this he.symm
   simp only [List.filter_cons,hz,if_true];exact((ih h.2 hb).cons z).trans (List.Perm.swap b z _)
theorem Xr(b:Bk):∀(l:List Bk),(Xq b l).Perm (b :: l)
 | []=>List.Perm.refl _
 |c :: cs=>by
  unfold Xq;split
  ·exact List.Perm.refl _
  ·exact((Xr b cs).cons c).trans (List.Perm.swap b c cs)
theorem QbC{l:List Bk}(h:(l.map (·.id)).Nodup){b:Bk}(hb:b∈l)(bd:Bd):(l.map fun x=>if x.id=b.id then {x with bd:=bd}else x).Perm (⟨b.id,bd⟩ :: l.filter fun x=> !(x.id==b.id)):=by
 have h1:=(V6 h hb).map fun x=>if x.id=b.id then({x with bd:=bd}:Bk)else x
 refine h1.trans ?_;rw [List.map_cons,if_pos rfl];refine List.Perm.cons _ ?_
 rw [List.map_congr_left (g:=id) fun x hx=>by
  have:=(List.mem_filter.1 hx).2;simp only [Bool.not_eq_true',beq_eq_false_iff_ne,ne_eq]at this;rw [if_neg this];rfl]
 rw [List.map_id]
section
variable{P:Program}{C:List (Kon P)}{I:List (Nat→Env→Prop)}{G:Cfg}{e0 e e':Env}{w0 w w':World}{s:St}{a:Act}{ups:List (List Value)}
theorem Rw.ok_off{ok:Nat→Bool}(h:Env.off ok e e'){r:Rw}(hf:r.fr ok=true)(hr:r.ok e w):r.ok e' w:=by
 simp only [Rw.fr,Bool.and_eq_true]at hf;unfold Rw.ok at hr ⊢;simp only [Env.base,Env.int,Env.bool]at hr ⊢;rw [←SX.den_off h _ hf.2,←h _ hf.1];exact hr
theorem Rel.off{ok:Nat→Bool}(hR:Rel C I G e0 w0 e s a ups w)(h:Env.off ok e e')(hf:s.fr ok=true)(hd:∀x,x < G.n0→ok x=true):Rel C I G e0 w0 e' s a ups w:=by
 simp only [St.fr,Bool.and_eq_true]at hf;obtain⟨⟨⟨⟨f1,f5⟩,f2⟩,f3⟩,f4⟩:=hf;have hb:∀b∈s.hp,b.fr ok=true:=fun b hb=>List.all_eq_true.1 f2 b hb
 refine⟨hR.df,hR.tm.off h f1,hR.up.off h f5,fun b hm=>(Bd.off h (hb b hm)).1 _ _ (hR.hp b hm),hR.nd,?_,fun r hr=>Rw.ok_off h (List.all_eq_true.1 f3 r hr) (hR.rw r hr),hR.bl,fun c hc=>?_,Env.agr_off hR.ex h hd⟩
 ·refine hR.inj.imp_of_mem fun {x y} hx hy hxy g hg hg'=>hxy g ((Bd.off h (hb x hx)).2 g hg) ((Bd.off h (hb y hy)).2 g hg')
 ·exact Cd.holds_off C I h c (List.all_eq_true.1 f4 c hc) (hR.cd c hc)
theorem Rel.put(hR:Rel C I G e0 w0 e s a ups w){v:VX}{u:Value}(hu:v.sat e u)(dst:Option Tmp):Rel C I G e0 w0 e (s.put dst v) (a.put dst u) ups w:=by
 cases dst with
 |none=>exact hR
 |some t=>
  refine⟨hR.df,?_,hR.up,hR.hp,hR.nd,hR.inj,hR.rw,hR.bl,hR.cd,hR.ex⟩;show Z2 e (s.tm.set t v) (a.tmps.setIfInBounds t u).toList;rw [Array.toList_setIfInBounds];exact hR.tm.set t hu
theorem Rel.owed(hR:Rel C I G e0 w0 e s a ups w){xs:List SX}(ho:∀ob∈owe s xs,ob.ok C I G.n0 e0):∀x∈xs,(x.den e).2=true:=fun x hx=>by
 by_cases hk:ask s.cd x=some true
 ·exact Zh hR.cd hk
 ·have hm:Ob.cl s.cd x∈owe s xs:=by
   unfold owe;exact List.mem_map.2 ⟨x,List.mem_filter.2 ⟨hx,by simpa using hk⟩,rfl⟩
  exact ho _ hm e hR.ex hR.cd
theorem Rel.kn(hR:Rel C I G e0 w0 e s a ups w){hs:List SX}(h:∀x∈hs,(x.den e).2=true):Kn C I e s hs a:=⟨hR.tm,hR.cd,h⟩
theorem Rel.kn0(hR:Rel C I G e0 w0 e s a ups w):Kn C I e s [] a:=hR.kn fun _ h=>(List.not_mem_nil h).elim
theorem Rel.owedH(hR:Rel C I G e0 w0 e s a ups w){hs xs:List SX}(hh:∀x∈hs,(x.den e).2=true)(ho:∀ob∈Qlj s hs xs,ob.ok C I G.n0 e0):∀x∈xs,(x.den e).2=true:=fun x hx=>by
 cases hk:QbV s.cd hs x with
 |true=>exact VU (hR.kn hh) hk
 |false=>
  have hm:Ob.cl (hs.map (Cd.c · true) ++ s.cd) x∈Qlj s hs xs:=by
   unfold Qlj;exact List.mem_map.2 ⟨x,List.mem_filter.2 ⟨hx,by simpa using hk⟩,rfl⟩
  refine ho _ hm e hR.ex fun c hc=>?_
  rcases List.mem_append.1 hc with hc|hc
  ·obtain⟨y,hy,rfl⟩:=List.mem_map.1 hc;exact hh y hy
  ·exact hR.cd c hc
theorem Rel.grow(hR:Rel C I G e0 w0 e s a ups w)(hb:Below w.heap.size w w'):Rel C I G e0 w0 e s a ups w':=
 ⟨hR.df,hR.tm,hR.up,fun b hm=>(hR.hp b hm).keep fun g hg=>hb.block g ((hR.hp b hm).fp hg).2,hR.nd,hR.inj,hR.rw,hR.bl.trans (hb.mono hR.bl.size),hR.cd,hR.ex⟩
theorem Rel.drew(hR:Rel C I G e0 w0 e s a ups w):Rel C I G e0 w0 e s a ups w.drew:=hR.grow (Below.refl _ _).drew
theorem Rel.conds(hR:Rel C I G e0 w0 e s a ups w){cs:List Cd}(h:∀c∈cs,c.holds C I e):Rel C I G e0 w0 e {s with cd:=cs ++ s.cd} a ups w:=
 ⟨hR.df,hR.tm,hR.up,hR.hp,hR.nd,hR.inj,hR.rw,hR.bl,fun c hc=>by rcases List.mem_append.1 hc with hc|hc;exact h c hc;exact hR.cd c hc,hR.ex⟩
theorem Rel.cond1(hR:Rel C I G e0 w0 e s a ups w){x:Cd}(h:x.holds C I e):Rel C I G e0 w0 e {s with cd:=x :: s.cd} a ups w:=hR.conds (cs:= [x]) fun c hc=>by rw [List.mem_singleton]at hc;subst hc;exact h
theorem Rel.nx(hR:Rel C I G e0 w0 e s a ups w)(n:Nat):Rel C I G e0 w0 e {s with nx:=n} a ups w:=⟨hR.df,hR.tm,hR.up,hR.hp,hR.nd,hR.inj,hR.rw,hR.bl,hR.cd,hR.ex⟩
theorem Rel.turn(hR:Rel C I G e0 w0 e s a ups w){rem kept new l:List Bk}(h1:s.hp.Perm (rem ++ kept))(h2:l.Perm (new ++ kept))(hnd:(l.map (·.id)).Nodup)(hok:∀b∈new,b.ok e w0.heap.size w')(hpw:new.Pairwise (Yp e))
 (hfp:∀b∈new,∀g,b.fp e g→(∃r∈rem,r.fp e g)∨w.heap.size≤g) (hw:∀g,g < w.heap.size→(∀r∈rem,¬r.fp e g)→w'.heap[g]?=w.heap[g]?) (hbl:Below w0.heap.size w0 w') :
 Rel C I G e0 w0 e {s with hp:=l} a ups w':=by
 have hinj:(rem ++ kept).Pairwise (Yp e):=(h1.pairwise_iff (fun {x y} hxy=>Yp.symm hxy)).1 hR.inj
 rw [List.pairwise_append]at hinj;obtain⟨_,i2,i3⟩:=hinj;have hin:∀b∈kept,b∈s.hp:=fun b hb=>h1.mem_iff.2 (List.mem_append_right _ hb)
 have hkeep:∀b∈kept,b.ok e w0.heap.size w':=fun b hb=>(hR.hp b (hin b hb)).keep fun g hg=>hw g ((hR.hp b (hin b hb)).fp hg).2 fun r hr hrg=>i3 r hr b hb g hrg hg
 refine⟨hR.df,hR.tm,hR.up,fun b hb=>?_,hnd,?_,hR.rw,hbl,hR.cd,hR.ex⟩
 ·rcases List.mem_append.1 (h2.mem_iff.1 hb)with hb|hb
  ·exact hok b hb
  ·exact hkeep b hb
 ·refine(h2.pairwise_iff (fun {x y} hxy=>Yp.symm hxy)).2 (List.pairwise_append.2 ⟨hpw,i2,fun x hx y hy g hg hg'=>?_⟩)
  rcases hfp x hx g hg with ⟨r,hr,hrg⟩|hge
  ·exact i3 r hr y hy g hrg hg'
  ·have:=((hR.hp y (hin y hy)).fp hg').2;omega
theorem QkE{l:List Bk}(h:(l.map (·.id)).Nodup)(p:Bk→Bool):((l.filter p).map (·.id)).Nodup:=h.sublist (List.filter_sublist.map _)
theorem Qbx{ok:Nat→Bool}{d:Nat}(hf:s.fr ok=true)(hd:ok d=false):d∉s.hp.map (·.id):=fun hm=>by
 obtain⟨b,hb,rfl⟩:=List.mem_map.1 hm;simp only [St.fr,Bool.and_eq_true]at hf;have:=List.all_eq_true.1 hf.1.1.2 b hb;simp only [Bk.fr,Bool.and_eq_true]at this;rw [hd]at this;cases this.1
theorem Rel.push(hR:Rel C I G e0 w0 e s a ups w){b:Bk}(hid:b.id∉s.hp.map (·.id))(hb:Below w.heap.size w w')(hok:b.ok e w0.heap.size w')(hfp:∀g,b.fp e g→w.heap.size≤g):Rel C I G e0 w0 e {s with hp:=Xq b s.hp} a ups w':=by
 refine hR.turn (rem:= []) (kept:=s.hp) (new:= [b]) (List.Perm.refl _) (Xr _ _) ?_ (fun x hx=>by rw [List.mem_singleton]at hx;subst hx;exact hok) (List.pairwise_singleton ..) (fun x hx g hg=>by rw [List.mem_singleton]at hx;subst hx;exact .inr (hfp g hg)) (fun g hg _=>hb.block g hg) (hR.bl.trans (hb.mono hR.bl.size))
 rw [((Xr b s.hp).map _).nodup_iff,List.map_cons,List.nodup_cons];exact⟨hid,hR.nd⟩
theorem Rel.change(hR:Rel C I G e0 w0 e s a ups w){b:Bk}(hb:b∈s.hp){bd:Bd}(hok:(Bk.mk b.id bd).ok e w0.heap.size w')(hfp:∀g,(Bk.mk b.id bd).fp e g→b.fp e g∨w.heap.size≤g)
 (hw:∀g,g < w.heap.size→¬b.fp e g→w'.heap[g]?=w.heap[g]?) (hbl:Below w0.heap.size w0 w'):Rel C I G e0 w0 e (YY s b.id bd) a ups w':=by
 have hp:=QbC hR.nd hb bd;refine hR.turn (rem:= [b]) (kept:=s.hp.filter fun x=> !(x.id==b.id)) (new:= [⟨b.id,bd⟩]) (V6 hR.nd hb) hp ?_ (fun x hx=>by rw [List.mem_singleton]at hx;subst hx;exact hok) (List.pairwise_singleton ..) (fun x hx g hg=>?_) (fun g hg hr=>hw g hg (hr b (List.mem_singleton.2 rfl))) hbl
 ·rw [(hp.map _).nodup_iff];have:=(V6 hR.nd hb).map (·.id);rw [List.map_cons]at this ⊢;exact this.nodup_iff.1 hR.nd
 ·rw [List.mem_singleton]at hx;subst hx;rcases hfp g hg with h|h
  ·exact .inl ⟨b,List.mem_singleton.2 rfl,h⟩
  ·exact .inr h
theorem Jx{d:Nat}{b:Bk}(h:Qby s d=some b):b∈s.hp∧b.id=d:=⟨List.mem_of_find?_eq_some h,by simpa using List.find?_some h⟩
theorem Xo{d ty:Nat}{cs:List LX}(h:XH s d=some (ty,cs)):(⟨d,.cells ty cs⟩:Bk)∈s.hp:=by
 unfold XH at h;split at h
 ·rename_i id ty' cs' ho;cases h;obtain⟨h1,rfl⟩:=Jx ho;exact h1
 ·cases h
theorem Y5{d ct:Nat}{ks:List (Option IntKind)}{len:SX}(h:QaV s d=some (ks,len,ct)):(⟨d,.row ks len ct⟩:Bk)∈s.hp:=by
 unfold QaV at h;split at h
 ·rename_i id ks' len' ct' ho;cases h;obtain⟨h1,rfl⟩:=Jx ho;exact h1
 ·cases h
theorem QeY{d ct:Nat}{kk kv:IntKind}(h:QnP s d=some (kk,kv,ct)):(⟨d,.map kk kv ct⟩:Bk)∈s.hp:=by
 unfold QnP at h;split at h
 ·rename_i id ks' len' ct' ho;cases h;obtain⟨h1,rfl⟩:=Jx ho;exact h1
 ·cases h
theorem Qde{d ct:Nat}{ks:List (Option IntKind)}{len:SX}{hh:Option SX}(h:QoF s d=some (ks,len,ct,hh)):(⟨d,.nr ks len ct hh⟩:Bk)∈s.hp:=by
 unfold QoF at h;split at h
 ·rename_i id ks' len' ct' h' ho;cases h;obtain⟨h1,rfl⟩:=Jx ho;exact h1
 ·cases h
theorem Qdd{c d:Nat}{ks:List (Option IntKind)}{len:SX}(h:Qle s c=some (d,ks,len)):(⟨d,.nr ks len c none⟩:Bk)∈s.hp:=by
 unfold Qle at h;split at h
 ·rename_i id ks' len' ct' ho;cases h;have h1:=List.mem_of_find?_eq_some ho;have h2:=List.find?_some ho;simp only [Qul,beq_iff_eq]at h2;rw [h2]at h1;exact h1
 ·cases h
theorem Rel.own(hR:Rel C I G e0 w0 e s a ups w){d ct:Nat}{ks:List (Option IntKind)}{len:SX}(h:QaV s d=some (ks,len,ct)):Own w0.heap.size w (e.base d) (len.den e).1.toNat (e.cap d) ks (e.int ct) (e.bool ct):=hR.hp _ (Y5 h)
theorem Rel.rowAt(hR:Rel C I G e0 w0 e s a ups w){d ct:Nat}{ks:List (Option IntKind)}{len:SX}(h:W1 s d=some (ks,len,ct)):XW w (e.base d) (len.den e).1.toNat ks (e.int ct) (e.bool ct):=by
 unfold W1 at h;split at h
 ·rename_i id ks' len' ct' ho;exact(hR.own (d:=d) (by unfold QaV;rw [ho];exact h)).rowAt
 ·cases h
 ·split at h
  ·rename_i r hr;cases h;have hm:=List.mem_of_find?_eq_some hr;have hid:r.id=d:=by simpa using List.find?_some hr
   subst hid;exact(hR.rw r hm).below hR.bl
  ·cases h
theorem Rel.bs(hR:Rel C I G e0 w0 e s a ups w):Bs e s where
 row d ks len ct h hl:=by obtain⟨ad,h,_⟩:=hR.rowAt h 0 hl;exact⟨ad,h⟩
 nr d ks len ct hh h:=by obtain⟨g,t,cs,hb,_⟩:=hR.hp _ (Qde h);exact⟨_,hb⟩
 inn c d ks len h y hy:=by
  obtain⟨g,t,cs,hb,_,_,_,_,hi⟩:=hR.hp _ (Qdd h);obtain⟨_,h0,hown,_⟩:=hi y hy (fun x hx=>by cases hx)
  exact⟨h0,fun hp=>hown.has (by omega)⟩
theorem K3{row:Bool}{cs:List LX}{v:PX}(h:Yq row cs=some v):v.den e=if row then .agg (cs.map (·.den e)).toArray else(cs.map (·.den e)).headD undef:=by
 unfold Yq at h;cases row with
 |true=>simp only [if_true,Option.some.injEq]at h;subst h;rfl
 |false=>
  simp only [Bool.false_eq_true,if_false]at h;split at h
  ·simp only [Option.some.injEq]at h;subst h;rfl
  ·cases h
theorem Y4{k:IntKind}:∀{xs:List LX} {ys:List SX},Ww k xs=some ys→xs=ys.map (.n k)
 | [],ys,h=>by simp only [Ww,Option.some.injEq]at h;subst h;rfl
 | .n k' x :: xs,ys,h=>by
   unfold Ww at h;split at h
   ·rename_i hk;subst hk;obtain⟨zs,hz,hv⟩:=Ql h;subst hv;rw [List.map_cons,←Y4 hz]
   ·cases h
 | .t _ :: _,_,h=>by cases h
 | .p _ _ :: _,_,h=>by cases h
 | .pi _ _ _ _ _ _ :: _,_,h=>by cases h
 | .q _ _ _ _ :: _,_,h=>by cases h
 | .qn _ _ _ _ _ :: _,_,h=>by cases h
 | .sl _ _ :: _,_,h=>by cases h
 | .sb _ _ :: _,_,h=>by cases h
 | .sn _ _ :: _,_,h=>by cases h
 | .mp _ :: _,_,h=>by cases h
 | .fn _ _ :: _,_,h=>by cases h
 | .np :: _,_,h=>by cases h
 | .ns :: _,_,h=>by cases h
 | .nm :: _,_,h=>by cases h
theorem Vv:∀{xs:List LX} {ys:List SX},Vu xs=some ys→xs=ys.map .t
 | [],ys,h=>by simp only [Vu,Option.some.injEq]at h;subst h;rfl
 | .t x :: xs,ys,h=>by
   unfold Vu at h;obtain⟨zs,hz,hv⟩:=Ql h;subst hv;rw [List.map_cons,←Vv hz]
 | .n _ _ :: _,_,h=>by cases h
 | .p _ _ :: _,_,h=>by cases h
 | .pi _ _ _ _ _ _ :: _,_,h=>by cases h
 | .q _ _ _ _ :: _,_,h=>by cases h
 | .qn _ _ _ _ _ :: _,_,h=>by cases h
 | .sl _ _ :: _,_,h=>by cases h
 | .sb _ _ :: _,_,h=>by cases h
 | .sn _ _ :: _,_,h=>by cases h
 | .mp _ :: _,_,h=>by cases h
 | .fn _ _ :: _,_,h=>by cases h
 | .np :: _,_,h=>by cases h
 | .ns :: _,_,h=>by cases h
 | .nm :: _,_,h=>by cases h
theorem V3{x:SX}:∀(ys:List SX) (k i:Nat) (y:SX),(x.den e).1=(k+i:Nat)→ys[i]?=some y→(QcR x k ys).den e=y.den e
 | [],_,_,_,_,h=>by simp at h
 | [z],k,i,y,_,h=>by
   cases i with
   |zero=>simp at h;subst h;rfl
   |succ i=>simp at h
 |z :: z' :: zs,k,i,y,hx,h=>by
  unfold QcR;cases i with
  |zero=>
   simp at h;subst h;simp [SX.den,cmI,hx]
  |succ i=>
   simp only [List.getElem?_cons_succ]at h;have:=V3 (z' :: zs) (k+1) i y (by rw [hx];congr 1;omega) h
   have hne:((x.den e).1==(k:Int))=false:=by rw [beq_eq_false_iff_ne,hx];omega
   simp only [SX.den,cmI,hne,Bool.false_eq_true,if_false];exact this
theorem W5{x:SX}{ys:List SX}{i:Nat}{y:SX}(hx:(x.den e).1=i)(h:ys[i]?=some y):(Qgh x ys).den e=y.den e:=by
 unfold Qgh;split
 ·rename_i d j d' j' r;split
  ·rename_i hc;obtain⟨rfl,hj,hy⟩:=hc;rw [hy]at h
   have hl:i < (SX.v d j :: SX.v d j' :: r).length:=by
    rcases Nat.lt_or_ge i (SX.v d j :: SX.v d j' :: r).length with h0|h0
    ·exact h0
    ·rw [List.getElem?_eq_none (by simpa using h0)]at h;cases h
   rw [List.getElem?_map,List.getElem?_range hl]at h;simp only [Option.map_some,Option.some.injEq]at h;subst h;simp only [SX.den,hx,Int.toNat_natCast]
  ·exact V3 _ 0 i y (by rw [hx];congr 1;omega) h
 ·exact V3 _ 0 i y (by rw [hx];congr 1;omega) h
theorem Qdy{x:SX}{ys:List LX}{i:Nat}{y z:LX}(hx:(x.den e).1=i)(h:ys[i]?=some y)(hs:Ql3 x ys=some z):z.den e=y.den e:=by
 unfold Ql3 at hs;split at hs
 ·obtain⟨l,hl,rfl⟩:=Ql hs;rw [Y4 hl,List.getElem?_map]at h;obtain⟨u,hu,rfl⟩:=Ql h;simp only [LX.den,W5 hx hu]
 ·obtain⟨l,hl,rfl⟩:=Ql hs;rw [Vv hl,List.getElem?_map]at h;obtain⟨u,hu,rfl⟩:=Ql h;simp only [LX.den,W5 hx hu]
 ·cases hs
theorem QaE{cs:List LX}{o sz c:Nat}:∀(ks:List Nat) (xs:List LX),Qk3.go cs o sz c ks=some xs→∀(i k:Nat),ks[i]?=some k→∃x,cs[o+k * sz+c]?=some x∧xs[i]?=some x
 | [],_,_,i,k,h=>by simp at h
 |k0 :: ks,xs,h,i,k,hk=>by
  unfold Qk3.go at h;split at h
  ·rename_i x xs' h1 h2;cases h;cases i with
   |zero=>simp at hk;subst hk;exact⟨x,h1,rfl⟩
   |succ i=>simp only [List.getElem?_cons_succ]at hk ⊢;exact QaE ks xs' h2 i k hk
  ·cases h
theorem YA{x:SX}{cs:List LX}{o n sz k:Nat}(hx:(x.den e).1=k)(hk:k < n):∀(js:List Nat) (ys:List LX),W7 x cs o n sz js=some ys→ys.length=js.length∧∀(i j:Nat),js[i]?=some j→∃c y,cs[o+k * sz+j]?=some c∧ys[i]?=some y∧y.den e=c.den e
 | [],ys,h=>by simp only [W7,Option.some.injEq]at h;subst h;exact⟨rfl,fun i j hj=>by simp at hj⟩
 |c :: js,ys,h=>by
  unfold W7 at h;split at h
  ·rename_i y ys' h1 h2;cases h;obtain⟨l1,l2⟩:=YA hx hk js ys' h2;refine⟨by simp [l1],fun i j hj=>?_⟩
   cases i with
   |zero=>
    simp at hj;subst hj;obtain⟨col,hcol,hsel⟩:=Option.bind_eq_some_iff.1 h1;obtain⟨c',hc',hi⟩:=QaE (List.range n) col hcol k k (List.getElem?_range hk);exact⟨c',y,hc',rfl,Qdy hx hi hsel⟩
   |succ i=>simp only [List.getElem?_cons_succ]at hj ⊢;exact l2 i j hj
  ·cases h
theorem XS{d sz:Nat}{x:SX}{ks:List (Option IntKind)}:∀(js:List Nat) (ys:List LX),Jy d sz x ks js=some ys→ys.length=js.length∧∀(i j:Nat),js[i]?=some j→∃k y,ks[j]?=some k∧ys[i]?=some y∧y.den e=Xu k (e.int d ((x.den e).1.toNat * sz+j)) (e.bool d ((x.den e).1.toNat * sz+j))
 | [],ys,h=>by simp only [Jy,Option.some.injEq]at h;subst h;exact⟨rfl,fun i j hj=>by simp at hj⟩
 |j0 :: js,ys,h=>by
  unfold Jy at h;split at h
  ·rename_i ys' h1 h2;cases h;obtain⟨l1,l2⟩:=XS js ys' h2;refine⟨by simp [l1],fun i j hj=>?_⟩
   cases i with
   |zero=>simp at hj;subst hj;exact⟨_,_,h1,rfl,rfl⟩
   |succ i=>simp only [List.getElem?_cons_succ]at hj ⊢;exact l2 i j hj
  ·rename_i k ys' h1 h2;cases h;obtain⟨l1,l2⟩:=XS js ys' h2;refine⟨by simp [l1],fun i j hj=>?_⟩
   cases i with
   |zero=>simp at hj;subst hj;exact⟨_,_,h1,rfl,rfl⟩
   |succ i=>simp only [List.getElem?_cons_succ]at hj ⊢;exact l2 i j hj
  ·cases h
theorem Yn{d sz:Nat}{u x:SX}{ks:List (Option IntKind)}:∀(js:List Nat) (ys:List LX),Y8 d u sz x ks js=some ys→ys.length=js.length∧∀(i j:Nat),js[i]?=some j→∃k y,ks[j]?=some k∧ys[i]?=some y∧y.den e=Xu k ((e.nm d).i2 (u.den e).1.toNat ((x.den e).1.toNat * sz+j)) ((e.nm d).b2 (u.den e).1.toNat ((x.den e).1.toNat * sz+j))
 | [],ys,h=>by simp only [Y8,Option.some.injEq]at h;subst h;exact⟨rfl,fun i j hj=>by simp at hj⟩
 |j0 :: js,ys,h=>by
  unfold Y8 at h;split at h
  ·rename_i ys' h1 h2;cases h;obtain⟨l1,l2⟩:=Yn js ys' h2;refine⟨by simp [l1],fun i j hj=>?_⟩
   cases i with
   |zero=>simp at hj;subst hj;exact⟨_,_,h1,rfl,rfl⟩
   |succ i=>simp only [List.getElem?_cons_succ]at hj ⊢;exact l2 i j hj
  ·rename_i k ys' h1 h2;cases h;obtain⟨l1,l2⟩:=Yn js ys' h2;refine⟨by simp [l1],fun i j hj=>?_⟩
   cases i with
   |zero=>simp at hj;subst hj;exact⟨_,_,h1,rfl,rfl⟩
   |succ i=>simp only [List.getElem?_cons_succ]at hj ⊢;exact l2 i j hj
  ·cases h
theorem QhQ{t:TypeId}{row:Bool}{m sz o i len:Nat}(hs:Qfk P t=some (row,m)){base:Option Addr}{ks:List (Option IntKind)}{int:Nat→Int}{bool:Nat→Bool}(hA:XW w base len ks int bool)(hi:i < len)(hsz:ks.length=sz){cs:List LX}{v:PX}
 (l1:cs.length=(List.range m).length) (l2:∀(i' j:Nat),((List.range m).map (o+ ·))[i']?=some j→∃k y,ks[j]?=some k∧cs[i']?=some y∧y.den e=Xu k (int (i * sz+j)) (bool (i * sz+j))) (hv:Yq row cs=some v) :
 ∃ad,base=some ad∧(loadVar t (ad.add (i * sz+o))).run P w= .ok (v.den e) w:=by
 obtain⟨ad,had,hlt,hcell⟩:=hA i hi;refine⟨ad,had,?_⟩;rw [Xv hs _ (cs.map (·.den e)) (by simpa using l1) (fun j u hu=>?_),K3 hv]
 have hj:j < m:=by
  rcases Nat.lt_or_ge j m with h0|h0
  ·exact h0
  ·rw [List.getElem?_eq_none (by simp at l1;simp [l1];exact h0)]at hu;cases hu
 obtain⟨k,y,h1,h2,h3⟩:=l2 j (o+j) (by simp [List.getElem?_range hj])
 rw [List.getElem?_map,h2]at hu;simp only [Option.map_some,Option.some.injEq]at hu;rw [←hu,h3,VJ];have:=hcell (o+j) k h1;rw [hsz]at this;rw [show i * sz+o+j=i * sz+(o+j)by omega]
 exact this
theorem Jv(hR:Rel C I G e0 w0 e s a ups w){t:TypeId}{p:LX}{v:PX}{xs:List SX}(h:Y0 P s t p=some (v,xs))(hx:∀x∈xs,(x.den e).2=true):∃ad,p.den e= .pointer (some ad)∧(loadVar t ad).run P w= .ok (v.den e) w:=by
 unfold Y0 at h;split at h
 ·cases h
 ·rename_i row m hs;split at h
  ·rename_i d o;split at h
   ·rename_i ty bs hb;split at h
    ·rename_i hl;obtain⟨v',hv,hp⟩:=Ql h;simp only [Prod.mk.injEq]at hp;obtain⟨rfl,rfl⟩:=hp;have hB:Blk w (e.adr d) ty (bs.map (·.den e)).toArray:=(hR.hp _ (Xo hb)).2;refine⟨_,rfl,?_⟩;rw [Xv hs _ (((bs.drop o).take m).map (·.den e)) (by simpa using hl) (fun j u hu=>?_),K3 hv]
     rw [QaC hB];rw [List.getElem?_map]at hu;obtain⟨c,hc,rfl⟩:=Ql hu
     have hj:j < m:=by
      rcases Nat.lt_or_ge j m with h0|h0
      ·exact h0
      ·rw [List.getElem?_eq_none (by rw [hl];exact h0)]at hc;cases hc
     rw [List.getElem?_take_of_lt hj,List.getElem?_drop]at hc;simp [hc]
    ·cases h
   ·cases h
  ·rename_i d o n sz x o2;split at h
   ·rename_i ty bs hb;split at h
    ·rename_i cs hcs;obtain⟨v',hv,hp⟩:=Ql h;simp only [Prod.mk.injEq]at hp;obtain⟨rfl,rfl⟩:=hp;have g1:=Zn (hx _ (List.mem_cons_self ..));have g2:=ZB (hx _ (List.mem_cons_of_mem _ (List.mem_cons_self ..)));simp only [SX.den]at g2;obtain⟨k,hk⟩:=Int.eq_ofNat_of_zero_le g1;have hB:Blk w (e.adr d) ty (bs.map (·.den e)).toArray:=(hR.hp _ (Xo hb)).2;obtain⟨l1,l2⟩:=YA hk (by omega) _ _ hcs
     refine⟨_,rfl,?_⟩;rw [Xv hs _ (cs.map (·.den e)) (by simpa using l1) (fun j u hu=>?_),K3 hv]
     rw [QaC hB]
     have hj:j < m:=by
      rcases Nat.lt_or_ge j m with h0|h0
      ·exact h0
      ·rw [List.getElem?_eq_none (by simp [l1];exact h0)]at hu;cases hu
     obtain⟨c,y,h1,h2,h3⟩:=l2 j (o2+j) (by simp [List.getElem?_range hj])
     rw [List.getElem?_map,h2]at hu;simp only [Option.map_some,Option.some.injEq]at hu;rw [←hu,h3];simp only [hk,Int.toNat_natCast,List.getElem?_toArray,List.getElem?_map];rw [show o+k * sz+o2+j=o+k * sz+(o2+j)by omega,h1]
     rfl
    ·cases h
   ·cases h
  ·rename_i d sz x o;split at h
   ·rename_i ks len ct hr;split at h
    ·rename_i hsz;split at h
     ·rename_i cs hcs;obtain⟨v',hv,hp⟩:=Ql h;simp only [Prod.mk.injEq]at hp;obtain⟨rfl,rfl⟩:=hp;have g1:=Zn (hx _ (List.mem_cons_self ..));have g2:=ZB (hx _ (List.mem_cons_of_mem _ (List.mem_cons_self ..)));obtain⟨l1,l2⟩:=XS (e:=e) _ _ hcs;obtain⟨ad,had,hl⟩:=QhQ hs (hR.rowAt hr) (i:=(x.den e).1.toNat) (by omega) hsz (by simpa using l1) l2 hv
      exact⟨_,by simp only [LX.den,had,Option.getD_some],hl⟩
     ·cases h
    ·cases h
   ·split at h
    ·rename_i ks len ct hn;split at h
     ·rename_i hc;obtain⟨rfl,rfl,rfl⟩:=hc;cases h;have g1:=Zn (hx _ (List.mem_cons_self ..));have g2:=ZB (hx _ (List.mem_cons_of_mem _ (List.mem_cons_self ..)));obtain⟨g,t',cs,hb,hg,hB,hsz,hcap,hi⟩:=hR.hp _ (Qde hn);replace hb:e.base d=some ⟨g,0,none⟩:=hb;obtain⟨c1,_⟩:=hi (x.den e).1.toNat (by omega) (fun y hy=>by cases hy)
      obtain⟨d',hu,hd,_,h2⟩:=Qd2 hs;have hm:=h2 rfl;subst hm;refine⟨(⟨g,0,none⟩:Addr).add ((x.den e).1.toNat * 1+0),by simp only [LX.den];rw [hb];rfl,?_⟩
      have:=Xv (P:=P) (w:=w) hs ((⟨g,0,none⟩:Addr).add ((x.den e).1.toNat * 1+0)) [(LX.sn ct x).den e] rfl (fun j u hu=>by
       match j,hu with
       |0,hu=>
        simp only [List.getElem?_cons_zero,Option.some.injEq]at hu;subst hu;rw [VJ,add_mid,hB.walk.1,show(0:Nat)+((x.den e).1.toNat * 1+0+0)=(x.den e).1.toNat by omega]
        exact c1)
      simpa [PX.den] using this
     ·cases h
    ·cases h
  ·rename_i c y sz x o;split at h
   ·rename_i d ks len hn;split at h
    ·rename_i hsz;split at h
     ·rename_i cs hcs;obtain⟨v',hv,hp⟩:=Ql h;simp only [Prod.mk.injEq]at hp;obtain⟨rfl,rfl⟩:=hp;have g1:=Zn (hx _ (List.mem_cons_self ..));have g2:=ZB (hx _ (List.mem_cons_of_mem _ (List.mem_cons_self ..)));have g3:=Zn (hx _ (List.mem_cons_of_mem _ (List.mem_cons_of_mem _ (List.mem_cons_self ..))))
      have g4:=ZB (hx _ (List.mem_cons_of_mem _ (List.mem_cons_of_mem _ (List.mem_cons_of_mem _ (List.mem_cons_self ..)))));simp only [SX.den,Nat.mul_one,Nat.add_zero]at g4;obtain⟨g,t',bs,hb,hg,hB,hbs,hcap,hi⟩:=hR.hp _ (Qdd hn);obtain⟨_,h0,hown,_⟩:=hi (y.den e).1.toNat (by omega) (fun y hy=>by cases hy)
      obtain⟨l1,l2⟩:=Yn (e:=e) _ _ hcs;obtain⟨ad,had,hl⟩:=QhQ hs hown.rowAt (i:=(x.den e).1.toNat) (by omega) hsz (by simpa using l1) l2 hv
      exact⟨_,by simp only [LX.den,had,Option.getD_some],hl⟩
     ·cases h
    ·cases h
   ·cases h
  ·cases h
end
end Go.Proofs.YteplnamfpodmlaaGreat.T2
end
section
namespace Go.Proofs.YteplnamfpodmlaaGreat.T2
theorem Z9{e:Env}:∀{xs:List LX} {ks:List (Option IntKind)},kindsX xs ks=true→xs.length=ks.length∧∀(j:Nat) (x:LX) (k:Option IntKind),xs[j]?=some x→ks[j]?=some k→x.den e=Xu k (QZ e x) (Z4 e x)
 | [],[],_=>⟨rfl,fun j x k h=>by simp at h⟩
 | .t x :: xs,none :: ks,h=>by
   unfold kindsX at h;obtain⟨h1,h2⟩:=Z9 h;refine⟨by simp [h1],fun j y k hj hk=>?_⟩
   cases j with
   |zero=>simp at hj hk;subst hj;subst hk;rfl
   |succ j=>simp only [List.getElem?_cons_succ]at hj hk;exact h2 j y k hj hk
 | .n k' x :: xs,some k0 :: ks,h=>by
   unfold kindsX at h;simp only [Bool.and_eq_true,beq_iff_eq]at h;obtain⟨rfl,h⟩:=h;obtain⟨h1,h2⟩:=Z9 h;refine⟨by simp [h1],fun j y k hj hk=>?_⟩
   cases j with
   |zero=>simp at hj hk;subst hj;subst hk;rfl
   |succ j=>simp only [List.getElem?_cons_succ]at hj hk;exact h2 j y k hj hk
 | [],_ :: _,h=>by cases h
 | .t _ :: _,[],h=>by cases h
 | .t _ :: _,some _ :: _,h=>by cases h
 | .n _ _ :: _,[],h=>by cases h
 | .n _ _ :: _,none :: _,h=>by cases h
 | .p _ _ :: _,_,h=>by unfold kindsX at h;cases h
 | .pi _ _ _ _ _ _ :: _,_,h=>by unfold kindsX at h;cases h
 | .q _ _ _ _ :: _,_,h=>by unfold kindsX at h;cases h
 | .qn _ _ _ _ _ :: _,_,h=>by unfold kindsX at h;cases h
 | .sl _ _ :: _,_,h=>by unfold kindsX at h;cases h
 | .sb _ _ :: _,_,h=>by unfold kindsX at h;cases h
 | .sn _ _ :: _,_,h=>by unfold kindsX at h;cases h
 | .mp _ :: _,_,h=>by unfold kindsX at h;cases h
 | .fn _ _ :: _,_,h=>by unfold kindsX at h;cases h
 | .np :: _,_,h=>by unfold kindsX at h;cases h
 | .ns :: _,_,h=>by unfold kindsX at h;cases h
 | .nm :: _,_,h=>by unfold kindsX at h;cases h
theorem Xt:∀{xs:List LX} {ks:List (Option IntKind)},KL xs=some ks→kindsX xs ks=true
 | [],ks,h=>by simp only [KL,Option.some.injEq]at h;subst h;rfl
 | .t x :: xs,ks,h=>by
   unfold KL at h;obtain⟨ks',h1,rfl⟩:=Ql h;unfold kindsX;exact Xt h1
 | .n k x :: xs,ks,h=>by
   unfold KL at h;obtain⟨ks',h1,rfl⟩:=Ql h;unfold kindsX;simp [Xt h1]
 | .p _ _ :: _,_,h=>by cases h
 | .pi _ _ _ _ _ _ :: _,_,h=>by cases h
 | .q _ _ _ _ :: _,_,h=>by cases h
 | .qn _ _ _ _ _ :: _,_,h=>by cases h
 | .sl _ _ :: _,_,h=>by cases h
 | .sb _ _ :: _,_,h=>by cases h
 | .sn _ _ :: _,_,h=>by cases h
 | .mp _ :: _,_,h=>by cases h
 | .fn _ _ :: _,_,h=>by cases h
 | .np :: _,_,h=>by cases h
 | .ns :: _,_,h=>by cases h
 | .nm :: _,_,h=>by cases h
theorem Qra{i i' j sz m o:Nat}(hj:j < sz)(hm:o+m≤sz)(h1:i * sz+o≤i' * sz+j)(h2:i' * sz+j < i * sz+o+m):i'=i∧j=o+(i' * sz+j - (i * sz+o)):=by
 have hi:i'=i:=by
  rcases Nat.lt_trichotomy i' i with h|h|h
  ·have:=Nat.mul_le_mul_right sz (show i'+1≤i by omega)
   rw [Nat.succ_mul]at this;omega
  ·exact h
  ·have:=Nat.mul_le_mul_right sz (show i+1≤i' by omega)
   rw [Nat.succ_mul]at this;omega
 subst hi;exact⟨rfl,by omega⟩
section
variable{P:Program}{e:Env}{B:Nat}{w w':World}{base:Option Addr}{len cap:Nat}{ks:List (Option IntKind)}{int:Nat→Int}{bool:Nat→Bool}
theorem Xg{g t0:Nat}{C0:Array Value}(hB:Blk w g t0 C0){t:TypeId}{m:Nat}(hi:(P.info? t).map (·.size)=some m){o:Nat}{v:PX}(hl:v.cells.length=m)(hb:o+m≤C0.size) :
 (storeVar t ⟨g,o,none⟩ (v.den e)).run P w= .ok () (w.setCells g o (v.cells.map (·.den e))):=by
 cases hq:P.info? t with
 |none=>rw [hq]at hi;cases hi
 |some i=>
  rw [hq]at hi;simp only [Option.map_some,Option.some.injEq]at hi;have h1:(v.den e).cells.toList=v.cells.map (·.den e):=by rw [PX.cells_den]
  have h2:(v.den e).cells.size=m:=by rw [PX.cells_den];simp [hl]
  have h3:=run_storeCells_cells (P:=P) g o (v.cells.map (·.den e)) 0 w (fun j hj=>by
   rw [hB.walk.1];simp only [List.length_map]at hj;simp only [Nat.add_zero];rw [Array.getElem?_eq_getElem (by omega)];rfl) (fun j _=>hB.walk.2 _)
   (fun u hu=>by obtain⟨x,_,rfl⟩:=List.mem_map.1 hu;exact LX.cells_one e x)
  simp only [Nat.add_zero]at h3;simp only [storeVar,Sem.run_bind,Xw hq,Result.andThen_ok,h2,hi,ne_eq,not_true_eq_false,if_false,h1];exact h3
theorem Xx:∀(vs:List Value) (o:Nat) {w:World} {b g:Nat},g≠b→(w.setCells b o vs).heap[g]?=w.heap[g]?
 | [],_,_,_,_,_=>rfl
 |v :: vs,o,w,b,g,h=>by
  rw [World.setCells,Xx vs (o+1) h];exact Below.heap_setCell _ _ _ _ h
theorem Own.put(h:Own B w base len cap ks int bool){i o:Nat}(hi:i < len){v:PX}(hk:kindsX v.cells ((ks.drop o).take v.cells.length)=true)(hm:o+v.cells.length≤ks.length){t:TypeId}(ht:(P.info? t).map (·.size)=some v.cells.length) :
 ∃g,base=some ⟨g,0,none⟩∧B≤g∧(storeVar t ((⟨g,0,none⟩:Addr).add (i * ks.length+o)) (v.den e)).run P w= .ok () (w.setCells g (i * ks.length+o) (v.cells.map (·.den e)))∧
  Own B (w.setCells g (i * ks.length+o) (v.cells.map (·.den e))) base len cap ks (QA int (i * ks.length+o) (v.cells.map (QZ e))) (QA bool (i * ks.length+o) (v.cells.map (Z4 e))):=by
 obtain⟨h1,h2|⟨g,t',cs,rfl,hg,hb,hs,hc⟩⟩:=h
 ·omega
 have hik:i * ks.length+ks.length≤cap * ks.length:=by
  have:=Nat.mul_le_mul_right ks.length (show i+1≤cap by omega)
  rwa [Nat.succ_mul]at this
 have hfit:i * ks.length+o+v.cells.length≤cs.size:=by rw [hs];omega
 refine⟨g,rfl,hg,?_,h1,.inr ⟨g,t',_,rfl,hg,JB _ _ hb (by simpa using hfit),?_,fun i' hi' j k hj=>?_⟩⟩
 ·rw [add_mid,Nat.zero_add];exact Xg hb ht rfl hfit
 ·simp only [List.size_toArray,List.length_append,List.length_take,List.length_drop,Array.length_toList,List.length_map];omega
 ·obtain⟨hl,hkl⟩:=Z9 (e:=e) hk
  have hjl:j < ks.length:=by
   rcases Nat.lt_or_ge j ks.length with h0|h0
   ·exact h0
   ·rw [List.getElem?_eq_none h0]at hj;cases hj
  rw [List.getElem?_toArray,WT _ _ _ _ (by simpa using hfit)]
  simp only [List.length_map];have old:cs.toList[i' * ks.length+j]?=some (Xu k (int (i' * ks.length+j)) (bool (i' * ks.length+j))):=by simpa using hc i' hi' j k hj
  by_cases c1:i' * ks.length+j < i * ks.length+o
  ·rw [if_pos c1,old,ZA (.inl c1),ZA (.inl c1)]
  ·rw [if_neg c1];by_cases c2:i' * ks.length+j < i * ks.length+o+v.cells.length
   ·rw [if_pos c2];obtain⟨rfl,hjo⟩:=Qra hjl hm (by omega) c2
    generalize hq:i' * ks.length+j - (i' * ks.length+o)=q at *;have hql:q < v.cells.length:=by omega
    have hpos:i' * ks.length+j=i' * ks.length+o+q:=by omega
    have hx:=List.getElem?_eq_getElem hql;rw [hpos,JD (by rw [List.getElem?_map,hx];rfl),JD (by rw [List.getElem?_map,hx];rfl),List.getElem?_map,hx,Option.map_some]
    congr 1;refine hkl q _ k hx ?_;rw [List.getElem?_take_of_lt hql,List.getElem?_drop,←hjo];exact hj
   ·rw [if_neg c2,old,ZA (.inr (by simp only [List.length_map];omega)),ZA (.inr (by simp only [List.length_map];omega))]
theorem YH{cs:Array Value}{vs:List LX}(hk:kindsX vs ks=true)(hold:∀i,i < len→∀(j:Nat) (k:Option IntKind),ks[j]?=some k→cs[i * ks.length+j]?=some (Xu k (int (i * ks.length+j)) (bool (i * ks.length+j))))
 (hnew:∀(j:Nat) (x:LX),vs[j]?=some x→cs[len * ks.length+j]?=some (x.den e)) :
 ∀i,i < len+1→∀(j:Nat) (k:Option IntKind),ks[j]?=some k→cs[i * ks.length+j]?=some (Xu k (QA int (len * ks.length) (vs.map (QZ e)) (i * ks.length+j)) (QA bool (len * ks.length) (vs.map (Z4 e)) (i * ks.length+j))):=by
 obtain⟨hl,hkl⟩:=Z9 (e:=e) hk;intro i hi j k hj
 have hjl:j < ks.length:=by
  rcases Nat.lt_or_ge j ks.length with h0|h0
  ·exact h0
  ·rw [List.getElem?_eq_none h0]at hj;cases hj
 rcases Nat.lt_or_ge i len with h0|h0
 ·have:i * ks.length+ks.length≤len * ks.length:=by
   have:=Nat.mul_le_mul_right ks.length (show i+1≤len by omega)
   rwa [Nat.succ_mul]at this
  rw [hold i h0 j k hj,ZA (.inl (by omega)),ZA (.inl (by omega))]
 ·obtain rfl:i=len:=by omega
  have hx:=List.getElem?_eq_getElem (show j < vs.length by omega)
  rw [hnew j _ hx,JD (by rw [List.getElem?_map,hx];rfl),JD (by rw [List.getElem?_map,hx];rfl)]
  congr 1;exact hkl j _ k hx hj
theorem Qn5{x:LX}(h:Qsb x=true):QZ e x=0∧Z4 e x=false:=by
 unfold Qsb at h;split at h <;> first|(cases h;done)|exact⟨rfl,rfl⟩
theorem Yd{t:TypeId}(h:J2 P t=some ks):∃i z,P.info? t=some i∧i.zero=some z∧z.cells.size=ks.length∧∀(j:Nat) (k:Option IntKind),ks[j]?=some k→z.cells[j]?=some (Xu k 0 false):=by
 unfold J2 at h;split at h
 ·rename_i z hz;obtain⟨i,hi,hz'⟩:=Option.bind_eq_some_iff.1 hz;split at h
  ·rename_i cs hcs;split at h
   ·rename_i hall;have hden:=X7 (e:=⟨fun _=>Nm.zero⟩) hcs
    obtain⟨hl,hk⟩:=Z9 (e:=⟨fun _=>Nm.zero⟩) (Xt h)
    have hsz:z.cells.size=cs.length:=by rw [←Array.length_toList,←hden,List.length_map]
    refine⟨i,z,hi,hz',by rw [hsz,hl],fun j k hj=>?_⟩
    have hjl:j < cs.length:=by
     rw [hl];rcases Nat.lt_or_ge j ks.length with h0|h0
     ·exact h0
     ·rw [List.getElem?_eq_none h0]at hj;cases hj
    have hx:=List.getElem?_eq_getElem hjl;have:z.cells.toList[j]?=some (cs[j].den ⟨fun _=>Nm.zero⟩):=by rw [←hden,List.getElem?_map,hx];rfl
    rw [←Array.getElem?_toList,this,hk j _ k hx hj];have hzl:=Qn5 (e:=⟨fun _=>Nm.zero⟩) (List.all_eq_true.1 hall _ (List.getElem_mem hjl))
    rw [hzl.1,hzl.2]
   ·cases h
  ·cases h
 ·cases h
theorem XO{t e:TypeId}{sz:Nat}(h:Yt P t=some (e,sz)):∃i,P.underlying t=some (.slice e)∧P.info? e=some i∧i.bytes≤100000∧i.size=sz:=by
 unfold Yt at h;split at h
 ·rename_i e' hu;split at h
  ·rename_i i hi;split at h
   ·rename_i hb;cases h;exact⟨i,hu,hi,hb,rfl⟩
   ·cases h
  ·cases h
 ·cases h
structure Qql(w w':World)(base base':Option Addr):Prop where
 os:w'.os=w.os
 tape:w'.tape=w.tape
 output:w'.output=w.output
 size:w.heap.size≤w'.heap.size
 block:∀g,g < w.heap.size→(∀a,base=some a→a.block≠g)→w'.heap[g]?=w.heap[g]?
 at_:base'=base∨∃a,base'=some a∧w.heap.size≤a.block
theorem Qql.below{base':Option Addr}(h:Qql w w' base base'){w0:World}(hw:Below w0.heap.size w0 w)(hb:∀a,base=some a→w0.heap.size≤a.block):Below w0.heap.size w0 w':=
 ⟨h.os.trans hw.os,h.tape.trans hw.tape,h.output.trans hw.output,Nat.le_trans hw.size h.size,fun k hk=>(h.block k (Nat.lt_of_lt_of_le hk hw.size) fun a ha=>by have:=hb a ha;omega).trans (hw.block k hk)⟩
theorem Own.append1(h:Own B w base len cap ks int bool)(hB:B≤w.heap.size){t el ty:TypeId}{sz:Nat}(ht:Yt P t=some (el,sz))(hks:J2 P el=some ks)(hsz:ks.length=sz){vs:List LX}(hk:kindsX vs ks=true)
 {g2 t2:Nat} (hsrc:Blk w g2 t2 (vs.map (·.den e)).toArray) (hl:len≤1000000) :
 ∃base' cap' w',(Builtin.append_ #[t,t] ty #[.slice base len cap,.slice (some ⟨g2,0,none⟩) 1 1]).run P w= .ok (.slice base' (len+1) cap') w'∧
  Own B w' base' (len+1) cap' ks (QA int (len * ks.length) (vs.map (QZ e))) (QA bool (len * ks.length) (vs.map (Z4 e)))∧Qql w w' base base':=by
 obtain⟨i,hu,hi,hby,hisz⟩:=XO ht;obtain⟨i',z,hi',hz,hzs,hzc⟩:=Yd hks;rw [hi]at hi';cases hi';obtain⟨hvl,hkl⟩:=Z9 (e:=e) hk
 have hS:Src P i.size t (.slice (some ⟨g2,0,none⟩) 1 1) 1 (vs.map (·.den e)) w:=Src.ofSlice w hu _ 1 1 _ (by rw [List.length_map,hvl,hsz,hisz];omega) (fun j u hu=>by
  rw [add_mid,hsrc.walk.1,Nat.zero_add];simpa using hu) (fun u hu=>by obtain⟨x,_,rfl⟩:=List.mem_map.1 hu;exact LX.cells_one e x)
 by_cases hroom:len+1≤cap
 ·obtain⟨h1,h2|⟨g,t',cs,rfl,hg,hb,hs,hc⟩⟩:=h
  ·omega
  have hfit:len * ks.length+vs.length≤cs.size:=by
   rw [hs,hvl];have:=Nat.mul_le_mul_right ks.length hroom;rwa [Nat.succ_mul]at this
  have hr:=run_append_room_src (P:=P) w t t ty el i hu hi g 0 len cap _ 1 _ hS hroom (fun j hj=>by
   rw [hb.walk.1,Nat.zero_add,hisz,←hsz];simp only [List.length_map]at hj;rw [Array.getElem?_eq_getElem (by omega)];rfl) (fun j hj=>hb.walk.2 _)
  rw [Nat.zero_add,hisz,←hsz]at hr;refine⟨_,_,_,hr,⟨hroom,.inr ⟨g,t',_,rfl,hg,JB _ _ hb (by simpa using hfit),?_,YH hk (fun i0 hi0 j k hj=>?_) fun j x hx=>?_⟩⟩,⟨?_,?_,?_,?_,?_,.inl rfl⟩⟩
  ·simp only [List.size_toArray,List.length_append,List.length_take,List.length_drop,Array.length_toList,List.length_map];omega
  ·have hjl:j < ks.length:=by
    rcases Nat.lt_or_ge j ks.length with h0|h0
    ·exact h0
    ·rw [List.getElem?_eq_none h0]at hj;cases hj
   have:i0 * ks.length+ks.length≤len * ks.length:=by
    have:=Nat.mul_le_mul_right ks.length (show i0+1≤len by omega)
    rwa [Nat.succ_mul]at this
   rw [List.getElem?_toArray,WT _ _ _ _ (by simpa using hfit),if_pos (by omega)]
   simpa using hc i0 hi0 j k hj
  ·have hjl:j < vs.length:=by
    rcases Nat.lt_or_ge j vs.length with h0|h0
    ·exact h0
    ·rw [List.getElem?_eq_none h0]at hx;cases hx
   rw [List.getElem?_toArray,WT _ _ _ _ (by simpa using hfit),if_neg (by omega),if_pos (by simp only [List.length_map];omega),show len * ks.length+j - len * ks.length=j by omega,List.getElem?_map,hx]
   rfl
  ·exact(ZF (a:=w) (B:=0) _ _ (Below.refl 0 w) (Nat.zero_le _)).os
  ·exact(ZF (a:=w) (B:=0) _ _ (Below.refl 0 w) (Nat.zero_le _)).tape
  ·exact(ZF (a:=w) (B:=0) _ _ (Below.refl 0 w) (Nat.zero_le _)).output
  ·exact(ZF (a:=w) (B:=0) _ _ (Below.refl 0 w) (Nat.zero_le _)).size
  ·intro g' hg' hne;exact Xx _ _ (fun h=>hne _ rfl h.symm)
 ·-- a new row
  have hcl:cap=len:=by have:=h.1;omega
  subst hcl
  have olds:∃os:List Value,os.length=cap * ks.length∧(Builtin.firstCells i.size cap (.slice base cap cap)).run P w.drew= .ok os.toArray w.drew∧
   ∀i0,i0 < cap→∀(j:Nat) (k:Option IntKind),ks[j]?=some k→os[i0 * ks.length+j]?=some (Xu k (int (i0 * ks.length+j)) (bool (i0 * ks.length+j))):=by
   obtain⟨h1,⟨rfl,rfl⟩|⟨g,t',cs,rfl,hg,hb,hs,hc⟩⟩:=h
   ·exact⟨[],by simp,run_firstCells_none ..,fun i0 hi0=>by omega⟩
   ·refine⟨cs.toList,by rw [Array.length_toList,hs],run_firstCells_some w.drew i.size cap _ cap cap cs.toList (by rw [Array.length_toList,hs,hisz,hsz]) (fun j u hu=>?_),fun i0 hi0 j k hj=>by simpa using hc i0 hi0 j k hj⟩
    rw [add_mid,hb.drew.walk.1,Nat.zero_add]
    simpa using hu
  obtain⟨os,hol,hold,hoc⟩:=olds
  have hfitb:Builtin.nextslicecap (cap+1) cap * i.bytes≤281474976710656:=growslice_fits (by omega) (by
   have:=Nat.mul_le_mul (show cap+1≤1000001 by omega) hby
   omega)
  have hr:=run_append_grow_src (P:=P) w t t ty el i z hu hi hz base cap cap os hold _ 1 _ hS (by omega) (by omega) hfitb
  have hge:=grownCap_ge w (cap+1) cap el;refine⟨_,_,_,hr,⟨hge,.inr ⟨w.heap.size,el,_,rfl,hB,Blk.new w.drew _ _,?_,YH hk (fun i0 hi0 j k hj=>?_) fun j x hx=>?_⟩⟩,⟨rfl,rfl,rfl,by simp,fun g hg _=>heap_alloc_old w.drew _ hg,.inr ⟨_,rfl,Nat.le_refl _⟩⟩⟩
  ·simp only [Array.size_append,List.size_toArray,List.length_append,size_zeroCells,hzs,hol,List.length_map,hvl,Nat.sub_mul,Nat.succ_mul];have:=Nat.mul_le_mul_right ks.length hge;rw [Nat.succ_mul]at this;omega
  ·have hjl:j < ks.length:=by
    rcases Nat.lt_or_ge j ks.length with h0|h0
    ·exact h0
    ·rw [List.getElem?_eq_none h0]at hj;cases hj
   have hle:i0 * ks.length+ks.length≤cap * ks.length:=by
    have:=Nat.mul_le_mul_right ks.length (show i0+1≤cap by omega)
    rwa [Nat.succ_mul]at this
   rw [Array.getElem?_append_left (by simp [hol];omega),List.getElem?_toArray,List.getElem?_append_left (by rw [hol];omega)]
   exact hoc i0 hi0 j k hj
  ·have hjl:j < vs.length:=by
    rcases Nat.lt_or_ge j vs.length with h0|h0
    ·exact h0
    ·rw [List.getElem?_eq_none h0]at hx;cases hx
   rw [Array.getElem?_append_left (by simp [hol];omega),List.getElem?_toArray,List.getElem?_append_right (by rw [hol];omega),hol,show cap * ks.length+j - cap * ks.length=j by omega,List.getElem?_map,hx]
   rfl
theorem Own.appendFull{g1 t1 g2 t2:Nat}{xs ys:List LX}{q:Option IntKind}(h1:Blk w g1 t1 (xs.map (·.den e)).toArray)(h2:Blk w g2 t2 (ys.map (·.den e)).toArray)(hB:B≤w.heap.size){t el ty:TypeId}(ht:Yt P t=some (el,1))(hks:J2 P el=some [q])
 (kx:kindsX xs (List.replicate xs.length q)=true) (ky:kindsX ys (List.replicate ys.length q)=true) (hy:0 < ys.length) (hl:xs.length+ys.length≤1000) :
 ∃base' cap' int bool w',(Builtin.append_ #[t,t] ty #[.slice (some ⟨g1,0,none⟩) xs.length xs.length,.slice (some ⟨g2,0,none⟩) ys.length ys.length]).run P w= .ok (.slice base' (xs.length+ys.length) cap') w'∧
  Own B w' base' (xs.length+ys.length) cap' [q] int bool∧Qql w w' none base':=by
 obtain⟨i,hu,hi,hby,hisz⟩:=XO ht;obtain⟨i',z,hi',hz,hzs,hzc⟩:=Yd hks;rw [hi]at hi';cases hi'
 have hS:Src P i.size t (.slice (some ⟨g2,0,none⟩) ys.length ys.length) ys.length (ys.map (·.den e)) w:=Src.ofSlice w hu _ _ _ _ (by rw [List.length_map,hisz,Nat.mul_one]) (fun j u hu=>by
  rw [add_mid,h2.walk.1,Nat.zero_add];simpa using hu) (fun u hu=>by obtain⟨x,_,rfl⟩:=List.mem_map.1 hu;exact LX.cells_one e x)
 have hold:(Builtin.firstCells i.size xs.length (.slice (some ⟨g1,0,none⟩) xs.length xs.length)).run P w.drew= .ok (xs.map (·.den e)).toArray w.drew:=run_firstCells_some w.drew i.size xs.length _ xs.length xs.length (xs.map (·.den e)) (by rw [List.length_map,hisz,Nat.mul_one]) (fun j u hu=>by
  rw [add_mid,h1.drew.walk.1,Nat.zero_add];simpa using hu)
 have hfitb:Builtin.nextslicecap (xs.length+ys.length) xs.length * i.bytes≤281474976710656:=growslice_fits (by omega) (by
  have:=Nat.mul_le_mul (show xs.length+ys.length≤1000 by omega) hby
  omega)
 have hr:=run_append_grow_src (P:=P) w t t ty el i z hu hi hz (some ⟨g1,0,none⟩) xs.length xs.length (xs.map (·.den e)) hold _ ys.length _ hS (by omega) (by omega) hfitb
 have hge:=grownCap_ge w (xs.length+ys.length) xs.length el
 have hread:∀i0 x,(xs ++ ys)[i0]?=some x→x.den e=Xu q (QZ e x) (Z4 e x):=fun i0 x hx=>by
  rcases Nat.lt_or_ge i0 xs.length with h|h
  ·rw [List.getElem?_append_left h]at hx;exact(Z9 (e:=e) kx).2 i0 x q hx (by rw [List.getElem?_replicate,if_pos h])
  ·rw [List.getElem?_append_right h]at hx;have hl:=(List.getElem?_eq_some_iff.1 hx).1;exact(Z9 (e:=e) ky).2 _ x q hx (by rw [List.getElem?_replicate,if_pos hl])
 refine⟨_,_,fun p=>match (xs ++ ys)[p]? with|some x=>QZ e x|none=>0,fun p=>match (xs ++ ys)[p]? with|some x=>Z4 e x|none=>false,_,hr,⟨hge,.inr ⟨w.heap.size,el,_,rfl,hB,Blk.new w.drew _ _,?_,fun i0 hi0 j k hj=>?_⟩⟩,⟨rfl,rfl,rfl,by simp,fun g hg _=>heap_alloc_old w.drew _ hg,.inr ⟨_,rfl,Nat.le_refl _⟩⟩⟩
 ·simp only [Array.size_append,List.size_toArray,List.length_append,size_zeroCells,hzs,List.length_map,List.length_cons,List.length_nil];omega
 ·have hj0:j=0∧k=q:=by
   match j,hj with
   |0,hj=>simp only [List.getElem?_cons_zero,Option.some.injEq]at hj;exact⟨rfl,hj.symm⟩
   |j+1,hj=>simp at hj
  obtain⟨rfl,rfl⟩:=hj0;simp only [List.length_cons,List.length_nil,Nat.zero_add,Nat.mul_one,Nat.add_zero];rw [Array.getElem?_append_left (by simp;omega),List.getElem?_toArray,←List.map_append,List.getElem?_map]
  have hl:i0 < (xs ++ ys).length:=by rw [List.length_append];exact hi0
  have hx:=List.getElem?_eq_getElem hl;rw [hx];exact congrArg some (hread i0 _ hx)
theorem Own.appendAll{g1 t1:Nat}(hB1:B≤g1)(h1:Blk w g1 t1 #[])(hB:B≤w.heap.size){t el ty:TypeId}{sz c2:Nat}(ht:Yt P t=some (el,sz))(hks:J2 P el=some ks)(hsz:ks.length=sz)(hA:XW w base len ks int bool)(hbn:base=none→len=0)(hl:len≤1000000) :
 ∃base' cap' w',(Builtin.append_ #[t,t] ty #[.slice (some ⟨g1,0,none⟩) 0 0,.slice base len c2]).run P w= .ok (.slice base' len cap') w'∧Own B w' base' len cap' ks int bool∧Qql w w' (some ⟨g1,0,none⟩) base':=by
 obtain⟨i,hu,hi,hby,hisz⟩:=XO ht;obtain⟨i',z,hi',hz,hzs,hzc⟩:=Yd hks;rw [hi]at hi';cases hi'
 -- the source
 have src:∃news:List Value,Src P i.size t (.slice base len c2) len news w∧∀i0,i0 < len→∀(j:Nat) (k:Option IntKind),ks[j]?=some k→news[i0 * ks.length+j]?=some (Xu k (int (i0 * ks.length+j)) (bool (i0 * ks.length+j))):=by
  rcases Nat.eq_zero_or_pos len with h0|h0
  ·subst h0;cases base with
   |none=>exact⟨[],Src.ofNil w hu c2,fun i0 hi0=>by omega⟩
   |some a=>exact⟨[],Src.ofSlice w hu a 0 c2 [] (by simp) (fun j u hj=>by simp at hj) (fun u hu=>by cases hu),fun i0 hi0=>by omega⟩
  ·obtain⟨a,ha,hlt,hc0⟩:=hA 0 h0;subst ha
   have hcell:∀i0,i0 < len→∀(j:Nat) (k:Option IntKind),ks[j]?=some k→w.cell? (a.add (i0 * ks.length+j))=some (Xu k (int (i0 * ks.length+j)) (bool (i0 * ks.length+j))):=fun i0 hi0 j k hj=>by
    obtain⟨a',ha',_,hc⟩:=hA i0 hi0;cases ha';exact hc j k hj
   have hsp:0 < ks.length∨ks.length=0:=by omega
   let news:List Value:=(List.range (len * ks.length)).map fun p=>Xu ((ks[p % ks.length]?).getD none) (int p) (bool p)
   have hget:∀p,p < len * ks.length→∃i0 j k,i0 < len∧p=i0 * ks.length+j∧ks[j]?=some k∧p % ks.length=j:=fun p hp=>by
    have hk0:0 < ks.length:=by
     rcases Nat.eq_zero_or_pos ks.length with h|h
     ·rw [h]at hp;omega
     ·exact h
    have hm:=Nat.mod_lt p hk0;have hd:=Nat.div_add_mod p ks.length;refine⟨p / ks.length,p % ks.length,ks[p % ks.length],Nat.div_lt_of_lt_mul (by rwa [Nat.mul_comm]),by rw [Nat.mul_comm];exact hd.symm,List.getElem?_eq_getElem hm,rfl⟩
   refine⟨news,Src.ofSlice w hu a len c2 news (by simp [news,hisz,hsz]) (fun j u hj=>?_) (fun u hu=>?_),fun i0 hi0 j k hj=>?_⟩
   ·have hjl:j < len * ks.length:=by
     rcases Nat.lt_or_ge j (len * ks.length)with h|h
     ·exact h
     ·rw [List.getElem?_eq_none (by simpa [news] using h)]at hj;cases hj
    obtain⟨i0,j0,k,hi0,hp,hk,hmod⟩:=hget j hjl;simp only [news,List.getElem?_map,List.getElem?_range hjl,Option.map_some,Option.some.injEq]at hj;rw [←hj,hmod,hk,Option.getD_some,hp];exact hcell i0 hi0 j0 k hk
   ·obtain⟨p,_,rfl⟩:=List.mem_map.1 hu;cases (ks[p % ks.length]?).getD none <;> rfl
   ·have hjl:j < ks.length:=by
     rcases Nat.lt_or_ge j ks.length with h0|h0
     ·exact h0
     ·rw [List.getElem?_eq_none h0]at hj;cases hj
    have hle:i0 * ks.length+ks.length≤len * ks.length:=by
     have:=Nat.mul_le_mul_right ks.length (show i0+1≤len by omega)
     rwa [Nat.succ_mul]at this
    have hmod:(i0 * ks.length+j) % ks.length=j:=by rw [Nat.mul_comm,Nat.mul_add_mod];exact Nat.mod_eq_of_lt hjl
    simp only [news,List.getElem?_map,List.getElem?_range (show i0 * ks.length+j < len * ks.length by omega),Option.map_some,hmod,hj,Option.getD_some]
 obtain⟨news,hS,hnc⟩:=src;have hnl:news.length=len * ks.length:=by rw [hS.newsLen,hisz,hsz]
 by_cases h0:len=0
 ·subst h0;have hn0:news= []:=List.eq_nil_of_length_eq_zero (by omega)
  subst hn0;have hr:=run_append_room_src (P:=P) w t t ty el i hu hi g1 0 0 0 _ 0 _ hS (Nat.le_refl _) (fun j hj=>by simp at hj) (fun j hj=>by simp at hj)
  refine⟨_,_,_,hr,⟨Nat.le_refl _,.inr ⟨g1,t1,#[],rfl,hB1,h1,by simp,fun i0 hi0=>by omega⟩⟩,⟨rfl,rfl,rfl,Nat.le_refl _,fun g hg _=>rfl,.inl rfl⟩⟩
 ·have hold:(Builtin.firstCells i.size 0 (.slice (some ⟨g1,0,none⟩) 0 0)).run P w.drew= .ok ([]:List Value).toArray w.drew:=run_firstCells_some w.drew i.size 0 _ 0 0 [] (by simp) (fun j u hj=>by simp at hj)
  have hfitb:Builtin.nextslicecap (0+len) 0 * i.bytes≤281474976710656:=growslice_fits (by omega) (by
   have:=Nat.mul_le_mul (show 0+len≤1000000 by omega) hby
   omega)
  have hr:=run_append_grow_src (P:=P) w t t ty el i z hu hi hz (some ⟨g1,0,none⟩) 0 0 [] hold _ len news hS (by omega) (by omega) hfitb
  have hge:=grownCap_ge w (0+len) 0 el;rw [Nat.zero_add]at hr hge;refine⟨_,_,_,hr,⟨hge,.inr ⟨w.heap.size,el,_,rfl,hB,Blk.new w.drew _ _,?_,fun i0 hi0 j k hj=>?_⟩⟩,⟨rfl,rfl,rfl,by simp,fun g hg _=>heap_alloc_old w.drew _ hg,.inr ⟨_,rfl,Nat.le_refl _⟩⟩⟩
  ·simp only [Array.size_append,List.nil_append,List.size_toArray,size_zeroCells,hzs,hnl,Nat.sub_mul];have:=Nat.mul_le_mul_right ks.length hge;omega
  ·have hjl:j < ks.length:=by
    rcases Nat.lt_or_ge j ks.length with h0|h0
    ·exact h0
    ·rw [List.getElem?_eq_none h0]at hj;cases hj
   have hle:i0 * ks.length+ks.length≤len * ks.length:=by
    have:=Nat.mul_le_mul_right ks.length (show i0+1≤len by omega)
    rwa [Nat.succ_mul]at this
   rw [Array.getElem?_append_left (by simp [hnl];omega),List.nil_append,List.getElem?_toArray]
   exact hnc i0 hi0 j k hj
theorem Qrh(hB:B≤w.heap.size){el:TypeId}{z:Value}{n:Nat}(hzs:z.cells.size=ks.length)(hzc:∀(j:Nat) (k:Option IntKind),ks[j]?=some k→z.cells[j]?=some (Xu k 0 false)) :
 Own B (w.alloc (.cells (madeCells z.cells (n * ks.length)) el)) (some ⟨w.heap.size,0,none⟩) n n ks (fun _=>0) (fun _=>false):=by
 refine⟨Nat.le_refl _,.inr ⟨w.heap.size,el,_,rfl,hB,Blk.new w _ _,size_madeCells _ _,fun i hi j k hj=>?_⟩⟩
 have hjl:j < ks.length:=by
  rcases Nat.lt_or_ge j ks.length with h0|h0
  ·exact h0
  ·rw [List.getElem?_eq_none h0]at hj;cases hj
 have hle:i * ks.length+ks.length≤n * ks.length:=by
  have:=Nat.mul_le_mul_right ks.length (show i+1≤n by omega)
  rwa [Nat.succ_mul]at this
 have hmod:(i * ks.length+j) % ks.length=j:=by rw [Nat.mul_comm,Nat.mul_add_mod];exact Nat.mod_eq_of_lt hjl
 have hz:=hzc j k hj;have hzl:j < z.cells.size:=by omega
 rw [Array.getElem?_eq_getElem hzl]at hz;simp only [Option.some.injEq]at hz;simp only [madeCells,Array.getElem?_map];rw [Array.getElem?_eq_getElem (by simp;omega)]
 simp only [Array.getElem_range,Option.map_some,hzs,hmod];rw [getElem!_pos z.cells j hzl,hz]
end
theorem ZD{kk:IntKind}{n:Int}:∀(es:List MapEntry) (i:Nat),(∀m∈es,∃n,m.key= .int kk n)→
 (Instr.findNow (.int kk) (.int kk n) es i=some none∧∀m∈es,m.key≠ .int kk n)∨∃j m,es[j]?=some m∧m.key= .int kk n∧(∀j' m',j' < j→es[j']?=some m'→m'.key≠ .int kk n)∧Instr.findNow (.int kk) (.int kk n) es i=some (some (i+j,m.val))
 | [],i,_=> .inl ⟨rfl,fun m hm=>by cases hm⟩
 |m :: es,i,h=>by
  obtain⟨n',hk⟩:=h m (List.mem_cons_self ..);simp only [Instr.findNow,hk,Instr.sameNow,if_true];cases hq:n==n'
  ·have hne:n≠n':=by simpa using hq
   rcases ZD es (i+1) fun m hm=>h m (List.mem_cons_of_mem _ hm)with ⟨h1,h2⟩|⟨j,m',h1,h2,h3,h4⟩
   ·refine .inl ⟨h1,fun m' hm'=>?_⟩
    rcases List.mem_cons.1 hm' with rfl|hm'
    ·rw [hk];simp only [ne_eq,Value.int.injEq,true_and];exact fun h=>hne h.symm
    ·exact h2 m' hm'
   ·refine .inr ⟨j+1,m',by simpa using h1,h2,fun j' m'' hj hm''=>?_,by rw [h4,show i+1+j=i+(j+1)by omega]⟩
    cases j' with
    |zero=>simp at hm'';subst hm'';rw [hk];simp only [ne_eq,Value.int.injEq,true_and];exact fun h=>hne h.symm
    |succ j'=>simp only [List.getElem?_cons_succ]at hm'';exact h3 j' m'' (by omega) hm''
  ·have he:n=n':=by simpa using hq
   subst he;exact .inr ⟨0,m,rfl,hk,fun j' m' hj=>by omega,rfl⟩
section
variable{P:Program}{w:World}{kk kv:IntKind}{es:Array MapEntry}{int:Nat→Int}{bool:Nat→Bool}
theorem Vr.keys(h:Vr kk kv es int bool):∀m∈es.toList,∃n,m.key= .int kk n:=fun m hm=>by obtain⟨n,v,_,hk,_⟩:=h.1 m hm;exact⟨n,hk⟩
theorem Vr.empty:Vr kk kv #[] (fun _=>0) (fun _=>false):=⟨fun m hm=>by simp at hm,fun n=>⟨none,rfl,rfl,rfl⟩⟩
theorem Vr.push(h:Vr kk kv es int bool){n:Nat}{v:Int}{c:Nat}(hn:Instr.findNow (.int kk) (.int kk n) es.toList 0=some none):Vr kk kv (es.push {key:= .int kk n,val:= .int kv v,born:=c}) (QA int n [v]) (QA bool n [true]):=by
 refine⟨fun m hm=>?_,fun k=>?_⟩
 ·rw [Array.toList_push,List.mem_append,List.mem_singleton]at hm;rcases hm with hm|rfl
  ·exact h.1 m hm
  ·exact⟨n,v,by omega,rfl,rfl⟩
 ·have hks:∀m∈(es.push {key:= .int kk n,val:= .int kv v,born:=c}).toList,∃n,m.key= .int kk n:=fun m hm=>by
   rw [Array.toList_push,List.mem_append,List.mem_singleton]at hm;rcases hm with hm|rfl
   ·exact h.keys m hm
   ·exact⟨_,rfl⟩
  obtain⟨r,hr,hv⟩:=h.2 k;rw [Array.toList_push]at hks ⊢;by_cases hkn:k=n
  ·subst hkn;rcases ZD (n:=(k:Int)) es.toList 0 h.keys with ⟨h1,h2⟩|⟨j,m,_,_,_,h4⟩
   ·rcases ZD (n:=(k:Int)) _ 0 hks with ⟨_,g2⟩|⟨j,m,g1,g2,g3,g4⟩
    ·exact absurd rfl (g2 _ (List.mem_append_right _ (List.mem_singleton.2 rfl)))
    ·refine⟨_,g4,?_⟩;have hm:=List.mem_of_getElem? g1;rcases List.mem_append.1 hm with hm|hm
     ·exact absurd g2 (h2 m hm)
     ·rw [List.mem_singleton]at hm;subst hm;have i0:QA int k [v] k=v:=JD (p:=k) (j:=0) rfl;have b0:QA bool k [true] k=true:=JD (p:=k) (j:=0) rfl;rw [i0,b0];exact⟨rfl,rfl⟩
   ·rw [hn]at h4;cases h4
  ·have i0:QA int n [v] k=int k:=ZA (by simp;omega)
   have b0:QA bool n [true] k=bool k:=ZA (by simp;omega)
   rw [i0,b0];rcases ZD (n:=(k:Int)) es.toList 0 h.keys with ⟨h1,h2⟩|⟨j,m,f1,f2,f3,f4⟩
   ·rw [h1]at hr;cases hr;rcases ZD (n:=(k:Int)) _ 0 hks with ⟨g1,_⟩|⟨j,m,g1,g2,g3,g4⟩
    ·exact⟨_,g1,hv⟩
    ·have hm:=List.mem_of_getElem? g1;rcases List.mem_append.1 hm with hm|hm
     ·exact absurd g2 (h2 m hm)
     ·rw [List.mem_singleton]at hm;subst hm;simp only [Value.int.injEq,true_and]at g2;omega
   ·rw [f4]at hr;cases hr;rcases ZD (n:=(k:Int)) _ 0 hks with ⟨_,g2⟩|⟨j',m',g1,g2,g3,g4⟩
    ·exact absurd f2 (g2 m (List.mem_append_left _ (List.mem_of_getElem? f1)))
    ·refine⟨_,g4,?_⟩
     have hjl:j < es.toList.length:=by
      rcases Nat.lt_or_ge j es.toList.length with h0|h0
      ·exact h0
      ·rw [List.getElem?_eq_none h0]at f1;cases f1
     have hjj:j'=j:=by
      rcases Nat.lt_trichotomy j' j with h0|h0|h0
      ·rw [List.getElem?_append_left (by omega)]at g1
       exact absurd g2 (f3 j' m' h0 g1)
      ·exact h0
      ·exact absurd f2 (g3 j m h0 (by rw [List.getElem?_append_left hjl];exact f1))
     subst hjj;rw [List.getElem?_append_left hjl,f1]at g1;cases g1;exact hv
theorem Vr.set(h:Vr kk kv es int bool){n:Nat}{v:Int}{i:Nat}{u:Value}(hn:Instr.findNow (.int kk) (.int kk n) es.toList 0=some (some (i,u))):Vr kk kv (es.modify i fun e=>{e with key:= .int kk n,val:= .int kv v}) (QA int n [v]) (QA bool n [true]):=by
 rcases ZD (n:=(n:Int)) es.toList 0 h.keys with ⟨h1,h2⟩|⟨i',m0,f1,f2,f3,f4⟩
 ·rw [hn]at h1;cases h1
 rw [hn]at f4;simp only [Nat.zero_add,Option.some.injEq,Prod.mk.injEq]at f4;obtain⟨rfl,rfl⟩:=f4
 have hget:∀j:Nat,(es.modify i fun e=>{e with key:= .int kk n,val:= .int kv v}).toList[j]?=if i=j then(es.toList[j]?).map fun e=>{e with key:= .int kk n,val:= .int kv v}else es.toList[j]?:=fun j=>by
  rw [Array.getElem?_toList,Array.getElem?_modify];simp
 have hks:∀(j:Nat) (m:MapEntry),(es.modify i fun e=>{e with key:= .int kk n,val:= .int kv v}).toList[j]?=some m→∃m1,es.toList[j]?=some m1∧m.key=m1.key∧(i≠j→m=m1)∧(i=j→m.val= .int kv v):=fun j m hm=>by
  rw [hget]at hm;split at hm
  ·rename_i hij;subst hij;rw [f1,Option.map_some,Option.some.injEq]at hm;subst hm;exact⟨m0,f1,f2.symm,fun h=>absurd rfl h,fun _=>rfl⟩
  ·rename_i hij;exact⟨m,hm,rfl,fun _=>rfl,fun h=>absurd h hij⟩
 have hkeys:∀m∈(es.modify i fun e=>{e with key:= .int kk n,val:= .int kv v}).toList,∃n,m.key= .int kk n:=fun m hm=>by
  obtain⟨j,hj⟩:=List.mem_iff_getElem?.1 hm;obtain⟨m1,g1,g2,_⟩:=hks j m hj;obtain⟨n',hn'⟩:=h.keys m1 (List.mem_of_getElem? g1);exact⟨n',g2.trans hn'⟩
 refine⟨fun m hm=>?_,fun k=>?_⟩
 ·obtain⟨j,hj⟩:=List.mem_iff_getElem?.1 hm;obtain⟨m1,g1,g2,g3,g4⟩:=hks j m hj;obtain⟨n',v',h0,hk',hv'⟩:=h.1 m1 (List.mem_of_getElem? g1);by_cases hij:i=j
  ·exact⟨n',v,h0,g2.trans hk',g4 hij⟩
  ·rw [g3 hij];exact⟨n',v',h0,hk',hv'⟩
 ·obtain⟨r,hr,hv⟩:=h.2 k;rcases ZD (n:=(k:Int)) _ 0 hkeys with ⟨g1,g2⟩|⟨j,m,g1,g2,g3,g4⟩
  ·have hne:k≠n:=fun hkn=>by
    subst hkn
    have hlt:i < es.toList.length:=by
     rcases Nat.lt_or_ge i es.toList.length with h0|h0
     ·exact h0
     ·rw [List.getElem?_eq_none h0]at f1;cases f1
    refine g2 {m0 with key:= .int kk k,val:= .int kv v} ?_ rfl
    refine List.mem_iff_getElem?.2 ⟨i,?_⟩;rw [hget,if_pos rfl,f1];rfl
   have i0:QA int n [v] k=int k:=ZA (by simp;omega)
   have b0:QA bool n [true] k=bool k:=ZA (by simp;omega)
   rw [i0,b0];refine⟨_,g1,?_⟩;rcases ZD (n:=(k:Int)) es.toList 0 h.keys with ⟨h1,h2⟩|⟨j,m,p1,p2,p3,p4⟩
   ·rw [h1]at hr;cases hr;exact hv
   ·have hij:i≠j:=fun hij=>by
     subst hij;rw [f1]at p1;cases p1;rw [f2]at p2;simp only [Value.int.injEq,true_and]at p2;omega
    exact absurd p2 (g2 m (List.mem_iff_getElem?.2 ⟨j,by rw [hget,if_neg hij];exact p1⟩))
  ·obtain⟨m1,q1,q2,q3,q4⟩:=hks j m g1;refine⟨_,g4,?_⟩;by_cases hkn:k=n
   ·subst hkn;have i0:QA int k [v] k=v:=JD (p:=k) (j:=0) rfl;have b0:QA bool k [true] k=true:=JD (p:=k) (j:=0) rfl;rw [i0,b0]
    have hij:i=j:=by
     rcases Nat.lt_trichotomy i j with h0|h0|h0
     ·exact absurd rfl (g3 i {m0 with key:= .int kk k,val:= .int kv v} h0 (by rw [hget,if_pos rfl,f1];rfl))
     ·exact h0
     ·exact absurd (q2.symm.trans g2) (f3 j m1 h0 q1)
    exact⟨rfl,q4 hij⟩
   ·have i0:QA int n [v] k=int k:=ZA (by simp;omega)
    have b0:QA bool n [true] k=bool k:=ZA (by simp;omega)
    rw [i0,b0]
    have hij:i≠j:=fun hij=>by
     subst hij;rw [f1]at q1;cases q1;rw [q2,f2]at g2;simp only [Value.int.injEq,true_and]at g2;omega
    have hm:=q3 hij;subst hm;rcases ZD (n:=(k:Int)) es.toList 0 h.keys with ⟨h1,h2⟩|⟨j',m',p1,p2,p3,p4⟩
    ·exact absurd g2 (h2 m (List.mem_of_getElem? q1))
    ·rw [p4]at hr;cases hr
     have hjj:j'=j:=by
      rcases Nat.lt_trichotomy j' j with h0|h0|h0
      ·have hij':i≠j':=fun hij'=>by
        subst hij';rw [f1]at p1;cases p1;rw [f2]at p2;simp only [Value.int.injEq,true_and]at p2;omega
       exact absurd p2 (g3 j' m' h0 (by rw [hget,if_neg hij'];exact p1))
      ·exact h0
      ·exact absurd g2 (p3 j m h0 q1)
     subst hjj;rw [p1]at q1;cases q1;exact hv
theorem Kz{r cl:Nat}(h:w.heap[r]?=some (.map es cl)):(getObj r).run P w= .ok (.map es cl) w:=by simp [getObj,Sem.run,h]
theorem W4{r cl:Nat}(h:w.heap[r]?=some (.map es cl))(o:Obj):(setObj r o).run P w= .ok () {w with heap:=w.heap.setIfInBounds r o}:=by simp [setObj,Sem.run,h]
theorem QbB{em:Bool}{t:TypeId}(ht:P.underlying t=some (.int kk))(n:Int)(m:Nat):(Instr.checkKey em (m+1) t (.int kk n)).run P w= .ok () w:=by
 simp only [Instr.checkKey,Sem.run_bind,run_underlying ht,Result.andThen_ok,Sem.run_pure]
theorem JA{em:Bool}{t:TypeId}(ht:P.underlying t=some (.int kk))(n:Int):(Instr.checkKey em 10000 t (.int kk n)).run P w= .ok () w:=QbB ht n 9999
theorem Qds{t kt et:TypeId}{r cl:Nat}{i:TypeInfo}(ht:P.underlying t=some (.map kt et))(hkt:P.underlying kt=some (.int kk))(hi:P.info? et=some i)(hz:i.zero=some (.int kv 0))(h:w.heap[r]?=some (.map es cl))(hm:Vr kk kv es int bool)(n:Nat)(ok:Bool) :
 (Instr.lookup t (.map (some r)) (.int kk n) ok).run P w= .ok (if ok then .tuple #[.int kv (int n),.bool (bool n)]else .int kv (int n)) w:=by
 obtain⟨q,hq,hv⟩:=hm.2 n;cases q with
 |none=>
  dsimp only at hv
  simp [Instr.lookup,run_underlying ht,Kz h,JA hkt,Instr.findKey,run_underlying hkt,hq,zeroValue,typeInfo,hi,hz,hv.1,hv.2]
 |some p=>
  obtain⟨j,u⟩:=p
  dsimp only at hv
  simp [Instr.lookup,run_underlying ht,Kz h,JA hkt,Instr.findKey,run_underlying hkt,hq,hv.1,hv.2]
theorem QaX{t kt et:TypeId}{r cl:Nat}(ht:P.underlying t=some (.map kt et))(hkt:P.underlying kt=some (.int kk))(h:w.heap[r]?=some (.map es cl))(hm:Vr kk kv es int bool)(n:Nat)(v:Int) :
 ∃es' cl',(Instr.mapUpdate t (.map (some r)) (.int kk n) (.int kv v)).run P w= .ok () {w with heap:=w.heap.setIfInBounds r (.map es' cl')}∧Vr kk kv es' (QA int n [v]) (QA bool n [true]):=by
 obtain⟨q,hq,hv⟩:=hm.2 n;cases q with
 |none=>
  refine⟨_,cl+1,?_,hm.push (c:=cl) hq⟩;simp [Instr.mapUpdate,run_underlying ht,Kz h,JA hkt,Instr.findKey,run_underlying hkt,hq,W4 h]
 |some p=>
  obtain⟨j,u⟩:=p;refine⟨_,cl,?_,hm.set hq⟩;rcases ZD (n:=(n:Int)) es.toList 0 hm.keys with ⟨h1,_⟩|⟨i',m0,f1,f2,_,f4⟩
  ·rw [hq]at h1;cases h1
  rw [hq]at f4;simp only [Nat.zero_add,Option.some.injEq,Prod.mk.injEq]at f4;obtain⟨rfl,rfl⟩:=f4;have hj:es[j]?=some m0:=by simpa using f1
  have hst:∀w:World,(Instr.keyThatStays (.int kk n) (.int kk n)).run P w= .ok (.int kk n) w:=fun w=>by
   simp [Instr.keyThatStays,Instr.sameBits]
  simp [Instr.mapUpdate,run_underlying ht,Kz h,JA hkt,Instr.findKey,run_underlying hkt,hq,hj,f2,hst,W4 h]
end
end Go.Proofs.YteplnamfpodmlaaGreat.T2
end
