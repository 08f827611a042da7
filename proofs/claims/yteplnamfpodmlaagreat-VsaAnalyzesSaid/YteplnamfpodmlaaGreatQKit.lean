/-
  Part of the proof.
-/
import Derived.WalkKit
import Derived.WalkLawsBesides
import Derived.WalkSpells
import Derived.ProofKit
import Derived.OpenShut
import Derived.Handy
import Derived.Deep.QuietTactic
import Derived.BigQuiet
import Derived.BigRegion
import Derived.Lib.SmallJoins
import Derived.Deep.Slices
import Derived.Deep.Fields
import Derived.Test.YteplnamfpodmlaaGreatProg
import Derived.Deep.RegionHeld3
import Derived.Laws.OwnMore
import Derived.Deep.AppendLies
import Derived.Deep.Draws
import Derived.Deep.DeepCutAuto
import Derived.OwnWalk
import Derived.Laws.AppendOwn
set_option linter.unusedVariables false
set_option linter.unusedSimpArgs false
set_option maxRecDepth 100000
open Go.ChangeShapes Go.WideShapes Go.ChangeAt Go.RowKit
section
namespace Go.Proofs.YteplnamfpodmlaaGreat
def Ret(v:Value)(w:World)(e:Ending)(w':World):Prop:=e= .returned v∧Below w.heap.size w w'
theorem Qq{p:Prop}(h:p):Hid p:=h
theorem after{w W w1:World}(h:Below w.heap.size w W)(hb:Below W.heap.size W w1):Below w.heap.size w w1:=h.trans (hb.mono h.size)
theorem QnA{W w1:World}(hb:Below W.heap.size W w1):(∀b o,b < W.heap.size→w1.cell? ⟨b,o,none⟩=W.cell? ⟨b,o,none⟩)∧(∀b o,b < W.heap.size→w1.frozen? ⟨b,o,none⟩=W.frozen? ⟨b,o,none⟩):=
 ⟨fun b o h=>hb.cell (p:=⟨b,o,none⟩) h,fun b o h=>hb.frozen (p:=⟨b,o,none⟩) h⟩
section
variable{H:Type}{enc:TypeId×Value→H}{P:Program}
theorem QdY{f:Func}{s:ChangeSpec}{apart fresh handsOn again:Bool}{W W':World}{args:Array Value}{v:Value}{ds gs:List (DataW H)}{before pa pv:List MemPlace}
 (hW:DataW.Whole enc P f.params.toList s.vars apart W args.toList ds gs before)
 (hres:∀(b:Nat) (sp:Nat→Bool) (hd:Bool),DataW.TrodAll enc P W' b sp hd f.resultTypes.toList (v.resultList f.resultTypes.size) (s.fn H (ds ++ gs)).results [])
 (hargs:∀sp:Nat→Bool,(∀p∈before,sp p.block=true)→DataW.TrodAll enc P W' 0 sp true f.params.toList args.toList (s.fn H (ds ++ gs)).args pa)
 (hvars:∀sp:Nat→Bool,(∀p∈before,sp p.block=true)→DataW.TrodVars enc P W' sp s.vars (s.fn H (ds ++ gs)).vars pv)
 (hps:before=pa ++ pv) (hb:Below W.heap.size W W')
 (hok:∀(j:Nat) (t:TypeId) (r:Value),f.resultTypes[j]?=some t→(v.resultList f.resultTypes.size)[j]?=some r→Value.okWide P W' .any 0 t r) :
 s.post enc P f apart fresh handsOn again W args v W':=by
 have hlt:∀p∈before,p.block < W.heap.size:=fun p hp=>hW.lt p hp
 have hold:∀p∈before,(fun b=>decide (b < W.heap.size)) p.block=true:=fun p hp=>by simpa using hlt p hp
 refine⟨ds,gs,before,[],pa,pv,hW,hres _ _ _,hargs _ hold,hvars _ hold,World.keptBut_mono (fun p hp=>⟨hp,?_⟩) (hb.frame (· ∈before)),fun _=>?_⟩
 ·rw [hps,List.mem_append]at hp;exact Or.inr hp
 ·obtain⟨_,_,_,_,_,hz,hn⟩:=hW;refine⟨hok,_,_,([] ++ pa) ++ pv,⟨[] ++ pa,pv,trodAll_append (hargs _ (fun _ _=>rfl)) (hres _ _ _),hvars _ (fun _ _=>rfl),rfl,?_,?_⟩,?_⟩
  ·intro b off hp;have hin:MemPlace.cell b off∈before:=by rw [hps];simpa using hp
   rw [hb.frozen (hlt _ hin)];exact hz b off hin
  ·intro ha;have:=hn ha;rw [hps]at this
   simpa using this
  ·intro p hp _;rw [hps]
   simpa using hp
end
theorem Qaf{H:Type}{enc:TypeId×Value→H}{P:Program}(hl:laidOutB P=true){W W':World}{sp:Nat→Bool}(hb:Below W.heap.size W W') :
 ∀(ts:List TypeId) (vs:List Value) (ds:List (DataW H)) (ps:List MemPlace),(ts.all fun t=>P.readableRec t && decide (t < P.types.size))=true→
  DataW.TrodAll enc P W 0 (fun _=>true) true ts vs ds ps→(∀p∈ps,p.block < W.heap.size)→(∀p∈ps,sp p.block=true)→DataW.TrodAll enc P W' 0 sp true ts vs ds ps
 | [],[],[],_,_,h,_,_=>h
 |t :: ts,v :: vs,d :: ds,ps,hr,h,hlt,hsp=>by
  obtain⟨p,q,h1,h2,rfl⟩:=h;simp only [List.all_cons,Bool.and_eq_true,decide_eq_true_eq]at hr;have hp:∀x∈p,x∈p ++ q:=fun x hx=>List.mem_append_left _ hx
  have hq:∀x∈q,x∈p ++ q:=fun x hx=>List.mem_append_right _ hx
  exact⟨p,q,WideElems.Trod_stays hl hr.1.1 hr.1.2 h1 (fun x hx=>hb.same (hlt x (hp x hx))) (fun x hx=>hsp x (hp x hx)),
   Qaf hl hb ts vs ds q hr.2 h2 (fun x hx=>hlt x (hq x hx)) (fun x hx=>hsp x (hq x hx)),rfl⟩
 | [],_ :: _,_,_,_,h,_,_=>h.elim
 | [],[],_ :: _,_,_,h,_,_=>h.elim
 |_ :: _,[],_,_,_,h,_,_=>by simp [DataW.TrodAll]at h
 |_ :: _,_ :: _,[],_,_,h,_,_=>by simp [DataW.TrodAll]at h
theorem QlE{a:Int}(h:(Lit.int .u32 a).wf=true):0≤a∧a < 4294967296:=by
 simp only [Lit.wf,Bool.and_eq_true,decide_eq_true_eq]at h;have h1:IntKind.u32.min=0:=rfl;have h2:IntKind.u32.max=4294967295:=rfl;omega
theorem WF{a:Int}(h:(Lit.int .i64 a).wf=true): -9223372036854775808≤a∧a≤9223372036854775807:=by
 simp only [Lit.wf,Bool.and_eq_true,decide_eq_true_eq]at h;have h1:IntKind.i64.min= -9223372036854775808:=rfl;have h2:IntKind.i64.max=9223372036854775807:=rfl;omega
theorem ZK{a b:Bool}(h:a=b):Ending.returned (.bool a)= .returned (.bool b):=by rw [h]
theorem QsD{k:IntKind}{a b:Int}(h:a=b):Ending.returned (.int k a)= .returned (.int k b):=by rw [h]
def Qtw(k:Option IntKind)(v:Value):Prop:=
 match k with
 |none=>∃b,v= .bool b
 |some k=>∃n,v= .int k n∧(Lit.int k n).wf=true
def Zx:List (Option IntKind)→List Value→Prop
 | [],[]=>True
 |k :: ks,v :: vs=>Qtw k v∧Zx ks vs
 |_,_=>False
theorem Zx.append:∀{a b:List (Option IntKind)} {x y:List Value},Zx a x→Zx b y→Zx (a ++ b) (x ++ y)
 | [],_,[],_,_,h=>h
 |_ :: _,_,_ :: _,_,h,h'=>⟨h.1,Zx.append h.2 h'⟩
 | [],_,_ :: _,_,h,_=>h.elim
 |_ :: _,_,[],_,h,_=>h.elim
theorem Zx.length:∀{a:List (Option IntKind)} {x:List Value},Zx a x→x.length=a.length
 | [],[],_=>rfl
 |_ :: _,_ :: _,h=>by simp [Zx.length h.2]
 | [],_ :: _,h=>h.elim
 |_ :: _,[],h=>h.elim
def YM(P:Program)(g:TypeId→Option (List (Option IntKind))):Nat→List Field→Option (List (Option IntKind))
 |_,[]=>some []
 |off,f :: fs=>
  if f.offset=off then
   match g f.type with
   |some k=>if P.cellsOf f.type=k.length then(match YM P g (off+k.length) fs with|some r=>some (k ++ r)|none=>none)else none
   |none=>none
  else none
def V1(k:List (Option IntKind)):Nat→List (Option IntKind)
 |0=> []
 |n+1=>k ++ V1 k n
def flat(P:Program):Nat→TypeId→Option (List (Option IntKind))
 |0,_=>none
 |n+1,t=>
  match P.underlying t with
  |some .bool=>some [none]
  |some (.int k)=>some [some k]
  |some (.struct fs)=>YM P (flat P n) 0 fs.toList
  |some (.array m e)=>match flat P n e with|some k=>if P.cellsOf e=k.length then some (V1 k m)else none|none=>none
  |_=>none
theorem QeI{P:Program}{g:TypeId→Option (List (Option IntKind))}:∀(fs:List Field) (off:Nat) (K:List (Option IntKind)),YM P g off fs=some K→
 ∀f,f∈fs→∀k,g f.type=some k→P.cellsOf f.type=k.length∧f.offset+k.length≤off+K.length
 | [],_,_,_,f,hf,_,_=>by cases hf
 |f0 :: fs,off,K,h,f,hf,k,hk=>by
  unfold YM at h;by_cases ho:f0.offset=off
  ·rw [if_pos ho]at h;cases hk0:g f0.type with
   |none=>rw [hk0]at h;cases h
   |some k0=>
    rw [hk0]at h
    dsimp only at h
    by_cases hc:P.cellsOf f0.type=k0.length
    ·rw [if_pos hc]at h;cases hr:YM P g (off+k0.length) fs with
     |none=>rw [hr]at h;cases h
     |some r=>
      rw [hr]at h;cases h;rcases List.mem_cons.1 hf with rfl|hf
      ·rw [hk0,Option.some.injEq]at hk;subst hk;exact⟨hc,by rw [List.length_append];omega⟩
      ·have:=QeI fs (off+k0.length) r hr f hf k hk;exact⟨this.1,by rw [List.length_append];omega⟩
    ·rw [if_neg hc]at h;cases h
  ·rw [if_neg ho]at h;cases h
theorem QeJ{P:Program}{g:TypeId→Option (List (Option IntKind))}{cs:List Value}:∀(fs:List Field) (off:Nat) (K:List (Option IntKind)),YM P g off fs=some K→
 (∀f,f∈fs→∀k,g f.type=some k→Zx k ((cs.drop f.offset).take (P.cellsOf f.type)))→Zx K ((cs.drop off).take K.length)
 | [],off,K,h,_=>by
   simp only [YM,Option.some.injEq]at h;subst h;simp [Zx]
 |f :: fs,off,K,h,hp=>by
  unfold YM at h;by_cases ho:f.offset=off
  ·rw [if_pos ho]at h;cases hk:g f.type with
   |none=>rw [hk]at h;cases h
   |some k=>
    rw [hk]at h
    dsimp only at h
    by_cases hc:P.cellsOf f.type=k.length
    ·rw [if_pos hc]at h;cases hr:YM P g (off+k.length) fs with
     |none=>rw [hr]at h;cases h
     |some r=>
      rw [hr]at h;cases h;have h1:=hp f (List.mem_cons.2 (.inl rfl)) k hk;have h2:=QeJ fs (off+k.length) r hr (fun f hf=>hp f (List.mem_cons.2 (.inr hf)))
      rw [ho,hc]at h1
      have e:(cs.drop off).take (k ++ r).length=(cs.drop off).take k.length ++ (cs.drop (off+k.length)).take r.length:=by
       rw [List.length_append,List.take_add,List.drop_drop]
      rw [e];exact h1.append h2
    ·rw [if_neg hc]at h;cases h
  ·rw [if_neg ho]at h;cases h
theorem QeH{k:List (Option IntKind)}{cs:List Value}:∀(m off:Nat),(∀i,i < m→Zx k ((cs.drop ((off+i) * k.length)).take k.length))→Zx (V1 k m) ((cs.drop (off * k.length)).take (V1 k m).length)
 |0,off,_=>by simp [V1,Zx]
 |m+1,off,h=>by
  have h1:=h 0 (by omega)
  have h2:=QeH m (off+1) (fun i hi=>by have:=h (i+1) (by omega);rwa [show off+(i+1)=off+1+i by omega]at this)
  have e:(cs.drop (off * k.length)).take (V1 k (m+1)).length=(cs.drop (off * k.length)).take k.length ++ (cs.drop ((off+1) * k.length)).take (V1 k m).length:=by
   show List.take (k ++ V1 k m).length _=_;rw [List.length_append,List.take_add,List.drop_drop,Nat.succ_mul]
  rw [e];exact h1.append h2
theorem Qaa(k:List (Option IntKind)):∀m,(V1 k m).length=m * k.length
 |0=>by simp [V1]
 |m+1=>by simp [V1,Qaa k m,Nat.succ_mul,Nat.add_comm]
section
variable{H:Type}{enc:TypeId×Value→H}{P:Program}{w:World}{base:Nat}{spare:Nat→Bool}{held:Bool}
theorem Qf7:∀(n:Nat) (t:TypeId) (K:List (Option IntKind)) (fuel:Nat) (cs:List Value) (x:DataW H×List MemPlace),flat P n t=some K→cs.length=K.length→
 DataW.trod enc P w base spare held fuel t cs=some x→Zx K cs
 |0,_,_,_,_,_,h,_,_=>by cases h
 |n+1,t,K,fuel,cs,x,h,hl,ht=>by
  unfold flat at h;cases hu:P.underlying t with
  |none=>rw [hu]at h;cases h
  |some d=>
   rw [hu]at h;cases d with
   |bool=>
    cases h;obtain⟨b,rfl,_⟩:=DataW.trod_bool hu ht;exact⟨⟨b,rfl⟩,trivial⟩
   |int k=>
    cases h;obtain⟨m,rfl,_,hw⟩:=DataW.trod_int hu ht;exact⟨⟨m,rfl,hw⟩,trivial⟩
   |struct fs=>
    dsimp only at h
    obtain⟨xs,m,_,_,hlen,hxl,hf⟩:=DataW.trod_struct hu ht
    have hm:=QeJ (cs:=cs) fs.toList 0 K h (fun f hfm k hk=>by
     obtain⟨i,hi⟩:=List.mem_iff_getElem?.1 hfm;have hi':fs[i]?=some f:=by simpa using hi
     have hil:i < fs.size:=by
      rcases Nat.lt_or_ge i fs.size with h0|h0
      ·exact h0
      ·rw [Array.getElem?_eq_none h0]at hi';cases hi'
     have h1:=hf i f hi';rw [List.getElem?_eq_getElem (by omega)]at h1
     have hcl:((cs.drop f.offset).take (P.cellsOf f.type)).length=k.length:=by
      have hb:=QeI fs.toList 0 K h f hfm k hk;rw [List.length_take,List.length_drop,hb.1];omega
     exact Qf7 n f.type k m _ _ hk hcl h1)
    rw [List.drop_zero,List.take_of_length_le (by omega)]at hm
    exact hm
   |array m e=>
    dsimp only at h
    obtain⟨xs,j,_,_,hlen,hxl,hf⟩:=DataW.trod_array hu ht;cases hk:flat P n e with
    |none=>rw [hk]at h;cases h
    |some k=>
     rw [hk]at h
     dsimp only at h
     by_cases hc:P.cellsOf e=k.length
     ·rw [if_pos hc]at h;cases h
      have hm:=QeH (k:=k) (cs:=cs) m 0 (fun i hi=>by
       have h1:=hf i hi;rw [List.getElem?_eq_getElem (by omega),hc]at h1
       have hcl:((cs.drop (i * k.length)).take k.length).length=k.length:=by
        rw [Qaa]at hl;rw [List.length_take,List.length_drop,hl];have:(i+1) * k.length≤m * k.length:=Nat.mul_le_mul_right _ (by omega)
        rw [Nat.succ_mul]at this;omega
       rw [show 0+i=i by omega]
       exact Qf7 n e k j _ _ hk hcl h1)
      rw [Nat.zero_mul,List.drop_zero,List.take_of_length_le (by omega)]at hm
      exact hm
     ·rw [if_neg hc]at h;cases h
   |_=>cases h
end
section
variable{H:Type}{enc:TypeId×Value→H}{P:Program}{w:World}{base:Nat}{spare:Nat→Bool}{held:Bool}
end
end Go.Proofs.YteplnamfpodmlaaGreat
end
section
namespace Go.Proofs.YteplnamfpodmlaaGreat
def Blk(w:World)(g:Nat)(t:TypeId)(cs:Array Value):Prop:=w.heap[g]?=some (.cells cs t (0,0))
section
variable{w w':World}{g:Nat}{t:TypeId}{cs:Array Value}
theorem Blk.lt(h:Blk w g t cs):g < w.heap.size:=by
 rcases Nat.lt_or_ge g w.heap.size with hlt|hge
 ·exact hlt
 ·unfold Blk at h;rw [Array.getElem?_eq_none hge]at h;cases h
theorem Blk.walk(h:Blk w g t cs):(∀o,w.cell? ⟨g,o,none⟩=cs[o]?)∧(∀o,w.frozen? ⟨g,o,none⟩=false):=by
 unfold Blk at h;exact⟨fun o=>by simp [World.cell?,h],fun o=>by simp [World.frozen?,h]⟩
theorem Blk.new(w:World)(t:TypeId)(cs:Array Value):Blk (w.alloc (.cells cs t)) w.heap.size t cs:=heap_alloc_new w _
theorem Blk.drew(h:Blk w g t cs):Blk w.drew g t cs:=h
theorem Blk.alloc(h:Blk w g t cs)(o:Obj):Blk (w.alloc o) g t cs:=(Below.heap_alloc w o g h.lt).trans h
theorem Blk.set_(h:Blk w g t cs)(i:Nat)(u:Value):Blk (w.setCell ⟨g,i,none⟩ u) g t (cs.setIfInBounds i u):=by
 unfold Blk at h ⊢;simp [World.setCell,Array.getElem?_modify,h]
theorem Blk.far(h:Blk w g t cs){p:Addr}(hp:g≠p.block)(u:Value):Blk (w.setCell p u) g t cs:=(Below.heap_setCell w p u g hp).trans h
theorem Blk.below{B:Nat}(h:Blk w g t cs)(hb:Below B w w')(hg:g < B):Blk w' g t cs:=(hb.block g hg).trans h
theorem Blk.call(h:Blk w g t cs)(hb:Below w.heap.size w w'):Blk w' g t cs:=h.below hb h.lt
end
structure Qd where
 e:Bool
 t:Bool
 lo:Int
 hi:Int
 st:Int
 deriving DecidableEq
def Qd.wf(s:Qd):Prop:=0≤s.lo∧s.lo < 4294967296∧0≤s.hi∧s.hi < 4294967296∧0≤s.st∧s.st < 4294967296
abbrev Qd.val(s:Qd):Value:= .agg #[.bool s.e,.bool s.t,.int .u32 s.lo,.int .u32 s.hi,.int .u32 s.st]
def Qp:Qd:=⟨false,true,0,0,0⟩
def Qt:Qd:=⟨true,false,0,0,0⟩
def Zs(n:Int):Qd:=⟨false,false,n,n,0⟩
def Qx(s:Qd):Bool:=
 if s.t || s.e then s==Qp || s==Qt
 else if s.st==0 then s.lo==s.hi
 else decide (s.lo < s.hi) && ((s.hi - s.lo) % s.st==0) && (decide (0 < s.lo) || decide (s.hi < 4294967295) || decide (1 < s.st))
def Zb(s:Qd):Qd:=if Qx s then s else Qp
abbrev Qd.cs(s:Qd):Array Value:= #[.bool s.e,.bool s.t,.int .u32 s.lo,.int .u32 s.hi,.int .u32 s.st]
abbrev World.put(w:World)(g:Nat)(s:Qd):World:=
 ((((w.setCell ⟨g,0,none⟩ (.bool s.e)).setCell ⟨g,1,none⟩ (.bool s.t)).setCell ⟨g,2,none⟩ (.int .u32 s.lo)).setCell ⟨g,3,none⟩ (.int .u32 s.hi)).setCell ⟨g,4,none⟩ (.int .u32 s.st)
theorem Blk.put{w:World}{g:Nat}{t:TypeId}{a:Qd}(h:Blk w g t a.cs)(s:Qd):Blk (World.put w g s) g t s.cs:=
 ((((h.set_ 0 _).set_ 1 _).set_ 2 _).set_ 3 _).set_ 4 _
theorem Blk.put_far{w:World}{g g':Nat}{t:TypeId}{cs:Array Value}(h:Blk w g t cs)(hne:g≠g')(s:Qd):Blk (World.put w g' s) g t cs:=
 ((((h.far hne _).far hne _).far hne _).far hne _).far hne _
theorem Qe{B g:Nat}{a w:World}(h:Below B a w)(hg:B≤g)(s:Qd):Below B a (World.put w g s):=
 ((((h.setCell hg _).setCell hg _).setCell hg _).setCell hg _).setCell hg _
theorem Qd.beq_eq(a b:Qd):(a==b)=((a.e==b.e) && ((a.t==b.t) && ((a.lo==b.lo) && ((a.hi==b.hi) && (a.st==b.st))))):=by
 rw [Bool.eq_iff_iff];simp only [beq_iff_eq,Bool.and_eq_true];constructor
 ·rintro rfl;simp
 ·rintro⟨h1,h2,h3,h4,h5⟩;cases a;cases b;simp_all
theorem Yb(a b:Qd)(w:World):(binOp .eql 34 a.val b.val).run Tryz.prog w= .ok (.bool (a==b)) w:=by
 rw [Qd.beq_eq];cases h1:(a.e==b.e)
 ·simp [Qd.val,go_sem,h1]
 cases h2:(a.t==b.t)
 ·simp [Qd.val,go_sem,h1,h2]
 cases h3:(a.lo==b.lo)
 ·simp [Qd.val,go_sem,h1,h2,h3]
 cases h4:(a.hi==b.hi)
 ·simp [Qd.val,go_sem,h1,h2,h3,h4]
 cases h5:(a.st==b.st) <;> simp [Qd.val,go_sem,h1,h2,h3,h4,h5]
theorem QqE:(Tryz.prog.info? 34).map (·.size)=some 5:=by kernel_rfl
theorem Qf{fn:Func}{p:Tmp}(h:fn.results= #[.cell p 34]){tmps:Array Value}{w:World}{g:Nat}{t:TypeId}{s:Qd}
 (hp:tmps.getD p undef= .pointer (some ⟨g,0,none⟩)) (hB:Blk w g t s.cs):(results fn tmps).run Tryz.prog w= .ok s.val w:=by
 have hl:=run_loadVar_row (P:=Tryz.prog) w g t 34 s.cs (0,0) _ hB Tryz.underlying34 rfl QqE;rw [Array.getD_eq_getD_getElem?]at hp;simp only [results,h];simp [hp,asAddr,hl]
end Go.Proofs.YteplnamfpodmlaaGreat
end
section
namespace Go.Proofs.YteplnamfpodmlaaGreat
abbrev fl(z n c v:Bool):Value:= .agg #[.bool z,.bool n,.bool c,.bool v]
def sg(a:Int):Bool:=decide (2147483648≤a)
def Qi2(a b:Int):Bool:=sg ((a - b) % 4294967296)
theorem Qa7(n:Int)(h0:0≤n)(h1:n < 4294967296):bits .and .u32 n 31=n % 32:=by
 rw [u32_and n 31 h0 h1 (by omega) (by omega)]
 have e:((31:Int).toNat)=2 ^ 5 - 1:=rfl;rw [e,Nat.and_two_pow_sub_one_eq_mod];omega
theorem QfK(a:Int)(w:World) :
 Calls Tryz.prog 127 #[.int .u32 a] w (Ret (.bool (sg a)) w):=by
 go_enter Tryz.func127,Tryz.ntmps127
 go_wp2
 go_returns
 exact⟨rfl,by go_grown⟩
def QoT(a n:Int):Int:=a * 2 ^ (n % 32).toNat % 4294967296
def W8(a n:Int):Int:=a / 2 ^ (n % 32).toNat
def QsF(a n:Int):Int:=wrap32 a / 2 ^ (n % 32).toNat % 4294967296
theorem QqY(n:Int):min (n % 32).toNat 32=(n % 32).toNat:=by omega
theorem QnW(a n:Int)(w:World)(n0:0≤n)(n1:n < 4294967296) :
 Calls Tryz.prog 62 #[.int .u32 a,.int .u32 n] w (Ret (.int .u32 (QoT a n)) w):=by
 have e:=Qa7 n n0 n1;have e2:0≤n % 32:=by omega
 have e3:=QqY n
 go_enter Tryz.func62,Tryz.ntmps62
 go_wp2
 go_returns
 exact⟨rfl,by go_grown⟩
theorem Qgi(a n:Int)(w:World)(n0:0≤n)(n1:n < 4294967296) :
 Calls Tryz.prog 64 #[.int .u32 a,.int .u32 n] w (Ret (.int .u32 (W8 a n)) w):=by
 have e:=Qa7 n n0 n1;have e2:0≤n % 32:=by omega
 have e3:=QqY n
 go_enter Tryz.func64,Tryz.ntmps64
 go_wp2
 go_returns
 exact⟨rfl,by go_grown⟩
theorem QsG(a n:Int)(w:World)(n0:0≤n)(n1:n < 4294967296) :
 Calls Tryz.prog 88 #[.int .u32 a,.int .u32 n] w (Ret (.int .u32 (QsF a n)) w):=by
 have e:=Qa7 n n0 n1;have e2:0≤n % 32:=by omega
 have e3:=QqY n
 go_enter Tryz.func88,Tryz.ntmps88
 go_wp2
 go_returns
 exact⟨rfl,by go_grown⟩
def tr(b:Bool):Int:=if b then 1 else 0
theorem QoV(b:Bool)(w:World):Calls Tryz.prog 89 #[.bool b] w (Ret (.int .u32 (tr b)) w):=by
 cases b
 all_goals
  go_enter Tryz.func89,Tryz.ntmps89
  go_wp2
  go_returns
  exact⟨rfl,by go_grown⟩
theorem Qlf(b:Bool)(w:World):Calls Tryz.prog 125 #[.bool b] w (Ret (.int .u32 (tr b)) w):=by
 cases b
 all_goals
  go_enter Tryz.func125,Tryz.ntmps125
  go_wp2
  go_returns
  exact⟨rfl,by go_grown⟩
end Go.Proofs.YteplnamfpodmlaaGreat
end
section
namespace Go.Proofs.YteplnamfpodmlaaGreat
def QaS(k:Int):Int:=if 1≤k∧k < 15 then(if k % 2=1 then k+1 else k - 1)else -1
theorem Qrc(k:Int)(h:k < 1∨15≤k):QaS k= -1:=by unfold QaS;rw [if_neg (by omega)]
theorem Qin(k:Int)(w:World)(k0: -9223372036854775808≤k)(k1:k≤9223372036854775807):Calls Tryz.prog 74 #[.int .i64 k] w (Ret (.int .i64 (QaS k)) w):=by
 by_cases h:k < 1∨15≤k
 ·rw [Qrc k h];rcases h with h|h
  ·go_enter Tryz.func74,Tryz.ntmps74
   go_wp2
   go_returns
   exact⟨rfl,by go_grown⟩
  ·go_enter Tryz.func74,Tryz.ntmps74
   go_wp2
   go_returns
   exact⟨rfl,by go_grown⟩
 ·have h1:1≤k:=by omega
  have h2:k < 15:=by omega
  by_cases h3:k % 2=1
  ·have e:QaS k=k+1:=by unfold QaS;rw [if_pos (by omega),if_pos h3]
   rw [e];clear e h
   go_enter Tryz.func74,Tryz.ntmps74
   go_wp2
   go_returns
   exact⟨rfl,by go_grown⟩
  ·have e:QaS k=k - 1:=by unfold QaS;rw [if_pos (by omega),if_neg h3]
   rw [e];clear e h
   go_enter Tryz.func74,Tryz.ntmps74
   go_wp2
   go_returns
   exact⟨rfl,by go_grown⟩
def Kk(k:Nat)(a b:Int):Int:=
 match k with
 |0=>(a+b) % 4294967296|1=>(a - b) % 4294967296|2=>a * b % 4294967296
 |3=>bits .and .u32 a b|4=>bits .or .u32 a b|5=>bits .xor .u32 a b
 |6=>QoT a b|7=>W8 a b|8=>QsF a b
 |9=>tr (a==b)|10=>tr (a != b)|11=>tr (decide (wrap32 a < wrap32 b))|12=>tr (decide (a < b))|_=>0
theorem Qk0(a b:Int)(k:Int)(h0:0≤k)(h1:k < 13)(l:List Value)
 (hl:l= [.int .u32 ((a+b) % 4294967296),.int .u32 ((a - b) % 4294967296),.int .u32 (a * b % 4294967296),.int .u32 (bits .and .u32 a b),.int .u32 (bits .or .u32 a b),.int .u32 (bits .xor .u32 a b),
   .int .u32 (QoT a b),.int .u32 (W8 a b),.int .u32 (QsF a b),.int .u32 (tr (a==b)),.int .u32 (tr (a != b)),.int .u32 (tr (decide (wrap32 a < wrap32 b))),.int .u32 (tr (decide (a < b)))])
 (hk:k.toNat < l.length):Ending.returned (.tuple #[l[k.toNat],.int .i64 0])=Ending.returned (.tuple #[.int .u32 (Kk k.toNat a b),.int .i64 0]):=by
 obtain⟨K,rfl⟩:=Int.eq_ofNat_of_zero_le h0;simp only [Int.toNat_natCast]at hk ⊢;subst hl;have hk':K=0∨K=1∨K=2∨K=3∨K=4∨K=5∨K=6∨K=7∨K=8∨K=9∨K=10∨K=11∨K=12:=by omega
 rcases hk' with rfl|rfl|rfl|rfl|rfl|rfl|rfl|rfl|rfl|rfl|rfl|rfl|rfl <;> rfl
set_option maxHeartbeats 2000000 in
theorem Qqv(k:Int)(a b:Int)(h0:3≤k)(h1:k < 16)(a0:0≤a)(a1:a < 4294967296)(b0:0≤b)(b1:b < 4294967296)(w:World) :
 Calls Tryz.prog 59 #[.int .i64 k,.int .u32 a,.int .u32 b] w (Ret (.tuple #[.int .u32 (Kk (k - 3).toNat a b),.int .i64 0]) w):=by
 have hi:(k - 3).toNat < 13:=by omega
 go_enter Tryz.func59,Tryz.ntmps59
 go_wp2_with (first|(go_at_call 62;(with_reducible refine(QnW _ _ _ b0 b1).mono ?_);rintro e w1 ⟨rfl,hb1⟩;have HB:=hb1)|(go_at_call 64;(with_reducible refine(Qgi _ _ _ b0 b1).mono ?_);rintro e w1 ⟨rfl,hb1⟩;replace HB:=HB.trans (hb1.mono HB.size))|(go_at_call 88;(with_reducible refine(QsG _ _ _ b0 b1).mono ?_);rintro e w1 ⟨rfl,hb1⟩;replace HB:=HB.trans (hb1.mono HB.size))|(go_at_call 89;(with_reducible refine(QoV _ _).mono ?_);rintro e w1 ⟨rfl,hb1⟩;replace HB:=HB.trans (hb1.mono HB.size)))
 go_returns
 exact⟨Qk0 a b (k - 3) (by omega) (by omega) _ rfl _,HB.alloc HB.size _⟩
theorem Qr0(a:Int)(k:Nat):a * 2 ^ k % 4294967296 * 2 % 4294967296=a * 2 ^ (k+1) % 4294967296:=by
 rw [Int.pow_succ,←Int.mul_assoc];omega
theorem Qix(a:Int)(k:Nat):a / 2 ^ k / 2=a / 2 ^ (k+1):=by
 have h:(0:Int) < 2 ^ k:=Int.pow_pos (by omega)
 rw [Int.pow_succ,Int.ediv_ediv,if_neg (by omega),Int.sub_zero]
theorem Qfg(k:Nat):(0:Int) < 2 ^ k:=Int.pow_pos (by omega)
theorem QtU(a:Int)(k:Nat)(a0:0≤a)(a1:a < 4294967296):0≤a / 2 ^ k∧a / 2 ^ k < 4294967296:=by
 have h:=Qfg k;have h1:=Int.ediv_le_self (2 ^ k) a0;exact⟨Int.ediv_nonneg a0 (by omega),by omega⟩
theorem Qrt(a n:Int)(w:World)(a0:0≤a)(a1:a < 4294967296)(n0:0≤n)(n1:n < 4294967296) :
 Calls Tryz.prog 122 #[.int .u32 a,.int .u32 n] w (Ret (.int .u32 (QoT a n)) w):=by
 have hm:n.tmod 32=n % 32:=Int.tmod_eq_emod_of_nonneg n0
 go_enter Tryz.func122,Tryz.ntmps122
 go_wp2
 go_loop [0,5] (fun v i=>∃k:Nat,(k:Int)≤n % 32∧i= .int .u32 k∧v= .int .u32 (a * 2 ^ k % 4294967296)) (fun _ i=>((n % 32) - intOf i).toNat)
 case atStart=>exact⟨0,by omega,rfl,by rw [Int.pow_zero,Int.mul_one,Int.emod_eq_of_lt a0 a1]⟩
 case round=>
  obtain⟨k,hk,rfl,rfl⟩:=hrel;have HS:=Qq (Qr0 a k);by_cases hlt:(k:Int) < n % 32
  ·go_wp2
   go_round
   case rel=>exact⟨k+1,by omega,by go_num,by rw [←HS.out]⟩
   case measure=>simp [intOf];omega
  ·go_wp2
   go_returns
   have e:k=(n % 32).toNat:=by omega
   subst e;exact⟨rfl,by go_grown⟩
theorem Qru(a n:Int)(w:World)(a0:0≤a)(a1:a < 4294967296)(n0:0≤n)(n1:n < 4294967296) :
 Calls Tryz.prog 123 #[.int .u32 a,.int .u32 n] w (Ret (.int .u32 (W8 a n)) w):=by
 have hm:n.tmod 32=n % 32:=Int.tmod_eq_emod_of_nonneg n0
 go_enter Tryz.func123,Tryz.ntmps123
 go_wp2
 go_loop [0,5] (fun v i=>∃k:Nat,(k:Int)≤n % 32∧i= .int .u32 k∧v= .int .u32 (a / 2 ^ k)) (fun _ i=>((n % 32) - intOf i).toNat)
 case atStart=>exact⟨0,by omega,rfl,by rw [Int.pow_zero,Int.ediv_one]⟩
 case round=>
  obtain⟨k,hk,rfl,rfl⟩:=hrel;have HS:=Qq (Qix a k);obtain⟨v0,v1⟩:=QtU a k a0 a1;by_cases hlt:(k:Int) < n % 32
  ·go_wp2
   go_round
   case rel=>exact⟨k+1,by omega,by go_num,by rw [←HS.out]⟩
   case measure=>simp [intOf];omega
  ·go_wp2
   go_returns
   have e:k=(n % 32).toNat:=by omega
   subst e;exact⟨rfl,by go_grown⟩
theorem QtT(a:Int)(k:Nat)(a0:0≤a)(a1:a < 4294967296): -2147483648≤wrap32 a / 2 ^ k∧wrap32 a / 2 ^ k < 2147483648∧(wrap32 a / 2 ^ k < 0↔2147483648≤a):=by
 have h:=Qfg k;have hw: -2147483648≤wrap32 a∧wrap32 a < 2147483648∧(wrap32 a < 0↔2147483648≤a):=by unfold wrap32;omega
 by_cases hs:wrap32 a < 0
 ·have h1:=Int.ediv_lt_iff_lt_mul (a:=wrap32 a) (b:=0) h;have h2:=Int.le_ediv_iff_mul_le (a:= -2147483648) (b:=wrap32 a) h;have h3:(-2147483648:Int) * 2 ^ k≤ -2147483648:=by omega
  have h4:wrap32 a / 2 ^ k < 0:=h1.2 (by omega)
  have h5:=h2.2 (by omega)
  exact⟨h5,by omega,by omega⟩
 ·have h1:=Int.ediv_le_self (2 ^ k) (by omega:0≤wrap32 a)
  have h2:=Int.ediv_nonneg (a:=wrap32 a) (b:=2 ^ k) (by omega) (by omega)
  exact⟨by omega,by omega,by omega⟩
theorem Qrx(a:Int)(a0:0≤a)(a1:a < 4294967296):wrap32 a / 2 ^ 0 % 4294967296=a:=by
 rw [Int.pow_zero,Int.ediv_one];unfold wrap32;omega
theorem Qrw(a:Int)(k:Nat)(t:Int)(a0:0≤a)(a1:a < 4294967296)(ht:t=if sg a then 2147483648 else 0) :
 wrap32 a / 2 ^ k % 4294967296 / 2+t=wrap32 a / 2 ^ (k+1) % 4294967296:=by
 obtain⟨h1,h2,h3⟩:=QtT a k a0 a1;rw [←Qix];unfold sg at ht;by_cases hs:2147483648≤a
 ·rw [decide_eq_true hs,if_pos rfl]at ht;omega
 ·rw [decide_eq_false hs,if_neg (by simp)]at ht;omega
theorem Qrs(a n:Int)(w:World)(a0:0≤a)(a1:a < 4294967296)(n0:0≤n)(n1:n < 4294967296) :
 Calls Tryz.prog 124 #[.int .u32 a,.int .u32 n] w (Ret (.int .u32 (QsF a n)) w):=by
 have hm:n.tmod 32=n % 32:=Int.tmod_eq_emod_of_nonneg n0;have hn:=QfK a
 have key:∀t:Int,t=(if sg a then 2147483648 else 0)→0≤t∧t≤2147483648:=by
  intro t ht;cases h:sg a <;> rw [h]at ht <;> simp at ht <;> omega
 have hst:∀t:Int,∀k:Nat,t=(if sg a then 2147483648 else 0)→wrap32 a / 2 ^ k % 4294967296 / 2+t=wrap32 a / 2 ^ (k+1) % 4294967296:=fun t k ht=>Qrw a k t a0 a1 ht
 have HST:=Qq hst;have HK:=Qq key;have H0:=Qq (Qrx a a0 a1);clear hst key;have he:n % 32=((n % 32).toNat:Int):=by omega
 have HE:=Qq he;clear he;cases hs:sg a
 all_goals
  rw [hs]at hn HST HK;clear hs
  go_enter Tryz.func124,Tryz.ntmps124
  go_wp2_with (go_at_call 127;(with_reducible refine(hn _).mono ?_);rintro e w1 ⟨rfl,hb1⟩)
  go_loop [0,6] (fun v i=>∃k:Nat,(k:Int)≤n % 32∧i= .int .u32 k∧v= .int .u32 (wrap32 a / 2 ^ k % 4294967296)) (fun _ i=>((n % 32) - intOf i).toNat)
  case atStart=>exact⟨0,by omega,rfl,by rw [H0.out]⟩
  case round=>
   obtain⟨k,hk,rfl,rfl⟩:=hrel;have HS:=Qq (HST.out _ k rfl);by_cases hlt:(k:Int) < n % 32
   ·go_wp2
    go_round
    case rel=>exact⟨k+1,by omega,by go_num,by rw [←HS.out];simp;try omega⟩
    case measure=>simp [intOf];omega
   ·go_wp2
    go_returns
    have e:k=(n % 32).toNat:=by omega
    subst e;exact⟨rfl,hb1⟩
set_option maxHeartbeats 1000000 in
theorem QoJ(k:Int)(a b:Int)(h0:3≤k)(h1:k < 16)(a0:0≤a)(a1:a < 4294967296)(b0:0≤b)(b1:b < 4294967296)(w:World) :
 Calls Tryz.prog 107 #[.int .i64 k,.int .u32 a,.int .u32 b] w (Ret (.tuple #[.int .u32 (Kk (k - 3).toNat a b),.int .i64 0]) w):=by
 have hk:k=3∨k=4∨k=5∨k=6∨k=7∨k=8∨k=9∨k=10∨k=11∨k=12∨k=13∨k=14∨k=15:=by omega
 clear h0 h1;rcases hk with rfl|rfl|rfl|rfl|rfl|rfl|rfl|rfl|rfl|rfl|rfl|rfl|rfl
 all_goals
  go_enter Tryz.func107,Tryz.ntmps107
  go_wp2_with (first|(go_at_call 122;(with_reducible refine(Qrt _ _ _ a0 a1 b0 b1).mono ?_);rintro e w1 ⟨rfl,hb1⟩)|(go_at_call 123;(with_reducible refine(Qru _ _ _ a0 a1 b0 b1).mono ?_);rintro e w1 ⟨rfl,hb1⟩)|(go_at_call 124;(with_reducible refine(Qrs _ _ _ a0 a1 b0 b1).mono ?_);rintro e w1 ⟨rfl,hb1⟩)|(go_at_call 125;(with_reducible refine(Qlf _ _).mono ?_);rintro e w1 ⟨rfl,hb1⟩))
  go_returns
  exact⟨rfl,by first|assumption|go_grown⟩
end Go.Proofs.YteplnamfpodmlaaGreat
end
section
namespace Go.Proofs.YteplnamfpodmlaaGreat
theorem X2(a:Addr)(n:Nat):(a.add n).block=a.block:=by unfold Addr.add;split <;> rfl
theorem Qcy(a:Addr)(i j:Nat):(a.add i).add j=a.add (i+j):=by
 unfold Addr.add;by_cases hi:i=0 <;> by_cases hj:j=0 <;> simp [hi,hj,Nat.add_assoc]
def X0(w:World)(B size:Nat)(A:Option Addr)(n:Nat)(xs:List Value):Prop:=
 xs.length=n * size∧(0 < n→∃ad,A=some ad∧ad.block < B∧∀j u,xs[j]?=some u→w.cell? (ad.add j)=some u)
section
variable{w w':World}{B B' size n:Nat}{A:Option Addr}{xs:List Value}
theorem X0.at_{k:Nat}(h:X0 w B 1 A n xs)(hk:k < n):∃ad u,A=some ad∧ad.block < B∧xs[k]?=some u∧w.cell? (ad.add k)=some u:=by
 obtain⟨ad,e,hb,hc⟩:=h.2 (by omega)
 have hl:k < xs.length:=by have:=h.1;omega
 exact⟨ad,xs[k],e,hb,List.getElem?_eq_getElem hl,hc k _ (List.getElem?_eq_getElem hl)⟩
theorem X0.keep(h:X0 w B size A n xs)(hk:∀p:Addr,p.block < B→w'.cell? p=w.cell? p):X0 w' B size A n xs:=
 ⟨h.1,fun hn=>by
   obtain⟨ad,e,hb,hc⟩:=h.2 hn;exact⟨ad,e,hb,fun j u hu=>(hk _ (by rw [X2];exact hb)).trans (hc j u hu)⟩⟩
theorem X0.more(h:X0 w B size A n xs)(hB:B≤B'):X0 w B' size A n xs:=
 ⟨h.1,fun hn=>by
   obtain⟨ad,e,hb,hc⟩:=h.2 hn;exact⟨ad,e,by omega,hc⟩⟩
theorem X0.below(h:X0 w B size A n xs)(hb:Below B w w'):X0 w' B size A n xs:=h.keep fun _ hp=>hb.cell hp
theorem X0.drew(h:X0 w B size A n xs):X0 w.drew B size A n xs:=h
theorem X0.drewN(h:X0 w B size A n xs)(k:Nat):X0 (w.drewN k) B size A n xs:=h
theorem X0.alloc(h:X0 w B size A n xs)(hB:B≤w.heap.size)(o:Obj):X0 (w.alloc o) B size A n xs:=h.keep fun p hp=>World.cell?_alloc_lt w o p (by omega)
theorem X0.setCell(h:X0 w B size A n xs){p:Addr}(hB:B≤p.block)(u:Value):X0 (w.setCell p u) B size A n xs:=
 h.keep fun q hq=>World.cell?_setCell_other w p q u (fun e=>by subst e;omega)
theorem X0.grown(h:X0 w B size A n xs){row:Option Nat}(hg:w.grownBy w' row)(hB:B≤w.heap.size)(hr:∀g,row=some g→B≤g):X0 w' B size A n xs:=
 h.keep fun p hp=>World.cell?_of_block (hg.block p.block (by omega) (fun e=>by have:=hr _ e.symm;omega))
theorem X0.cut(h:X0 w B size A n xs){k cap:Nat}(hk:k≤n)(hc:n≤cap) :
 X0 w B size (if cap=k then A else A.map (·.add (k * size))) (n - k) (xs.drop (k * size)):=by
 refine⟨by rw [List.length_drop,h.1,Nat.sub_mul],fun hn=>?_⟩
 obtain⟨ad,rfl,hb,hcell⟩:=h.2 (by omega)
 rw [if_neg (by omega)]
 refine⟨ad.add (k * size),rfl,by rw [X2];exact hb,fun j u hu=>?_⟩
 rw [Qcy];exact hcell _ u (by rw [←hu,List.getElem?_drop])
end
section
variable{w w':World}{g:Nat}{t:TypeId}{cs:Array Value}
theorem Blk.grown{row:Option Nat}(h:Blk w g t cs)(hb:w.grownBy w' row)(hg:some g≠row):Blk w' g t cs:=(hb.block g h.lt hg).trans h
end
theorem Qrf{w:World}{base size n:Nat}{e:TypeId}{v:Value}{xs:List Value}(h:w.ownsRow base e size v n xs){g:Nat}(hg:g < base):some g≠v.ownBlock:=fun e=>by
 have:=h.lt g e.symm;omega
theorem Qrg{w:World}{base size n:Nat}{e:TypeId}{v:Value}{xs:List Value}(h:w.ownsRow base e size v n xs):∀k,v.ownBlock=some k→base≤k:=fun k hk=>(h.lt k hk).1
def QaN(l:List Int):List Value:=l.map (Value.int .u32)
theorem Qov(l:List Int)(x:Int):QaN (l ++ [x])=QaN l ++ [.int .u32 x]:=by simp [QaN]
theorem QqG{l:List Int}{k:Nat}{x:Int}(h:l[k]?=some x):(QaN l)[k]?=some (.int .u32 x):=by simp [QaN,h]
theorem Qi6:(Tryz.prog.info? 23).map (fun i=>(i.zero,i.size,i.bytes))=some (some (.int .u32 0),1,4):=by kernel_rfl
def Rd(w:World)(lo:Nat)(A:Option Addr)(l:List Int):Prop:=
 ∀k x,l[k]?=some x→∃ad,A=some ad∧lo≤ad.block∧ad.block < w.heap.size∧w.cell? (ad.add k)=some (.int .u32 x)
section
variable{w w':World}{lo:Nat}{A:Option Addr}{l:List Int}
theorem Rd.keep(h:Rd w lo A l)(hs:w.heap.size≤w'.heap.size)(hk:∀p:Addr,lo≤p.block→p.block < w.heap.size→w'.cell? p=w.cell? p):Rd w' lo A l:=fun k x hx=>by
 obtain⟨ad,e,h1,h2,h3⟩:=h k x hx;exact⟨ad,e,h1,by omega,(hk _ (by rw [X2];exact h1) (by rw [X2];exact h2)).trans h3⟩
theorem Rd.below(h:Rd w lo A l)(hb:Below w.heap.size w w'):Rd w' lo A l:=h.keep hb.size fun _ _ hp=>hb.cell hp
theorem Rd.more{lo':Nat}(h:Rd w lo A l)(hl:lo'≤lo):Rd w lo' A l:=fun k x hx=>by
 obtain⟨ad,e,h1,h2,h3⟩:=h k x hx;exact⟨ad,e,by omega,h2,h3⟩
theorem Rd.drew(h:Rd w lo A l):Rd w.drew lo A l:=h
theorem Rd.drewN(h:Rd w lo A l)(n:Nat):Rd (w.drewN n) lo A l:=h
theorem Rd.alloc(h:Rd w lo A l)(o:Obj):Rd (w.alloc o) lo A l:=h.keep (by simp) fun p _ hp=>World.cell?_alloc_lt w o p hp
theorem Rd.setCell(h:Rd w lo A l){p:Addr}(hp:p.block < lo)(u:Value):Rd (w.setCell p u) lo A l:=
 h.keep (by simp) fun q hq _=>World.cell?_setCell_other w p q u (fun e=>by subst e;omega)
theorem Rd.put(h:Rd w lo A l){g:Nat}(hg:g < lo)(s:Qd):Rd (World.put w g s) lo A l:=
 ((((h.setCell hg _).setCell hg _).setCell hg _).setCell hg _).setCell hg _
end
def RdU(w:World)(hi:Nat)(A:Option Addr)(l:List Int):Prop:=
 ∀k x,l[k]?=some x→∃ad,A=some ad∧ad.block < hi∧w.cell? (ad.add k)=some (.int .u32 x)
section
variable{w w':World}{lo hi:Nat}{A:Option Addr}{l:List Int}
theorem Rd.up(h:Rd w lo A l):RdU w w.heap.size A l:=fun k x hx=>by
 obtain⟨ad,e,h1,h2,h3⟩:=h k x hx;exact⟨ad,e,h2,h3⟩
theorem RdU.keep(h:RdU w hi A l)(hk:∀p:Addr,p.block < hi→w'.cell? p=w.cell? p):RdU w' hi A l:=fun k x hx=>by
 obtain⟨ad,e,h1,h3⟩:=h k x hx;exact⟨ad,e,h1,(hk _ (by rw [X2];exact h1)).trans h3⟩
theorem RdU.below{B:Nat}(h:RdU w hi A l)(hb:Below B w w')(hB:hi≤B):RdU w' hi A l:=h.keep fun _ hp=>hb.cell (by omega)
theorem RdU.drew(h:RdU w hi A l):RdU w.drew hi A l:=h
theorem RdU.alloc(h:RdU w hi A l)(o:Obj)(hB:hi≤w.heap.size):RdU (w.alloc o) hi A l:=h.keep fun p hp=>World.cell?_alloc_lt w o p (by omega)
theorem RdU.setCell(h:RdU w hi A l){p:Addr}(hp:hi≤p.block)(u:Value):RdU (w.setCell p u) hi A l:=
 h.keep fun q hq=>World.cell?_setCell_other w p q u (fun e=>by subst e;omega)
theorem RdU.put(h:RdU w hi A l){g:Nat}(hg:hi≤g)(s:Qd):RdU (World.put w g s) hi A l:=
 ((((h.setCell hg _).setCell hg _).setCell hg _).setCell hg _).setCell hg _
end
def KI(l:List Int)(mk:Value→Value)(w:World)(e:Ending)(w':World):Prop:=
 ∃A c,e= .returned (mk (.slice A l.length c))∧Rd w' w.heap.size A l∧Below w.heap.size w w'
theorem QoK{w:World}{base lo:Nat}{A:Option Addr}{c:Nat}{l:List Int}(h:w.ownsRow base 23 1 (.slice A l.length c) l.length (QaN l))(hlo:lo≤base):Rd w lo A l:=fun k x hx=>by
 have hl:k < l.length:=by
  rcases Nat.lt_or_ge k l.length with h1|h1
  ·exact h1
  ·rw [List.getElem?_eq_none h1]at hx;cases hx
 obtain⟨g,cap,hv,hb,hlt⟩:=h.form (by omega)
 have hA:A=some ⟨g,0,none⟩:=by injection hv
 subst hA;exact⟨_,rfl,Nat.le_trans hlo hb,hlt,h.cells (g:=g) rfl k _ (QqG hx)⟩
theorem Qgj{w w':World}{base:Nat}{v:Value}{l:List Int}{mk:Value→Value}(h:w'.ownsRow base 23 1 v l.length (QaN l))(hbase:w.heap.size≤base)(hb:Below w.heap.size w w'):KI l mk w (.returned (mk v)) w':=by
 have hf:∃A c,v= .slice A l.length c:=by
  rcases h.2 with ⟨rfl,h0⟩|⟨g,cap,cur,rfl,_⟩
  ·rw [h0];exact⟨_,_,rfl⟩
  ·exact⟨_,_,rfl⟩
 obtain⟨A,c,rfl⟩:=hf;exact⟨A,c,rfl,QoK h hbase,hb⟩
theorem Qiy{w w':World}{base:Nat}{v:Value}{l:List Int}{mk:Value→Value}{e:Ending}(h:w'.ownsRow base 23 1 v l.length (QaN l))(hbase:w.heap.size≤base)(hb:Below w.heap.size w w')(he:e= .returned (mk v)):KI l mk w e w':=by
 subst he;exact Qgj h hbase hb
end Go.Proofs.YteplnamfpodmlaaGreat
end
section
namespace Go.Proofs.YteplnamfpodmlaaGreat
open Go.ChangeShapes Go.WideShapes Go.ChangeAt Go.RowKit Go.Deep
section
variable{H:Type}{enc:TypeId×Value→H}{P:Program}{w:World}{base:Nat}{spare:Nat→Bool}{held:Bool}
theorem QoG{r:Reach}{b0:Nat}{t e:TypeId}{v:Value}{d:DataW H}{p:List MemPlace}(K:List (Option IntKind))(n:Nat)(ht:P.underlying t=some (.slice e))(hK:flat P n e=some K)(hC:P.cellsOf e=K.length)
 (hv:Value.okWide P w r b0 t v) (h:DataW.Trod enc P w base spare held t v d p) :
 ∃A len cap,v= .slice A len cap∧len≤maxLen∧∀i,i < len→∃ad cs,A=some ad∧Zx K cs∧∀j u,cs[j]?=some u→w.cell? (ad.add (i * K.length+j))=some u:=by
 obtain⟨A,len,cap,rfl⟩:=okWide_slice ht hv;obtain⟨fuel,hf⟩:=h;rcases open_slice ht hf with ⟨hcs,_⟩|⟨a,l,c,m,n',D,Pl,hcs,hb,hl,hm,hmm,hx,hi⟩
 ·have e1:Value.slice A len cap= .slice none 0 0:=by simpa [Value.cells] using hcs
  injection e1 with h1 h2 h3
  subst h1 h2 h3;exact⟨none,0,0,rfl,Nat.zero_le _,fun i hi=>absurd hi (by omega)⟩
 ·have e1:Value.slice A len cap= .slice (some a) l c:=by simpa [Value.cells] using hcs
  injection e1 with h1 h2 h3
  subst h1 h2 h3;refine⟨some a,len,cap,rfl,Nat.le_trans hl hm,fun i hil=>?_⟩
  obtain⟨cs',hc,ht'⟩:=hi i (by rw [hmm];split <;> omega)
  obtain⟨_,hcl,hat⟩:=World.cells?_some hc;rw [hC]at hcl;refine⟨a,cs',rfl,Qf7 n e K n' cs' _ hK hcl ht',fun j u hu=>?_⟩
  have hj:j < K.length:=by
   rcases Nat.lt_or_ge j cs'.length with h1|h1
   ·omega
   ·rw [List.getElem?_eq_none h1]at hu;cases hu
  have h1:=hat j (by rw [hC];exact hj)
  rw [hC,Qcy]at h1;exact h1.trans hu
end
abbrev Wj(a:Addr)(j:Nat):Addr:=⟨a.block,a.off+j,none⟩
def Qn6(w:World)(a:Addr)(s:Qd):Prop:=
 w.cell? a=some (.bool s.e)∧w.cell? (Wj a 1)=some (.bool s.t)∧w.cell? (Wj a 2)=some (.int .u32 s.lo)∧w.cell? (Wj a 3)=some (.int .u32 s.hi)∧w.cell? (Wj a 4)=some (.int .u32 s.st)
theorem Qn6.below{B:Nat}{w w':World}{a:Addr}{s:Qd}(h:Qn6 w a s)(hb:Below B w w')(ha:a.block < B):Qn6 w' a s:=
 ⟨(hb.cell ha).trans h.1,(hb.cell (p:=Wj a 1) ha).trans h.2.1,(hb.cell (p:=Wj a 2) ha).trans h.2.2.1,(hb.cell (p:=Wj a 3) ha).trans h.2.2.2.1,(hb.cell (p:=Wj a 4) ha).trans h.2.2.2.2⟩
def Qkv(w:World)(A:Option Addr)(len:Nat)(S:Nat→Qd):Prop:=
 ∀i,i < len→(S i).wf∧∃ad,A=some ad∧ad.block < w.heap.size∧Qn6 w (ad.add (i * 5)) (S i)
theorem Qkv.below{w w':World}{A:Option Addr}{len:Nat}{S:Nat→Qd}(h:Qkv w A len S)(hb:Below w.heap.size w w'):Qkv w' A len S:=fun i hi=>by
 obtain⟨h1,ad,e,h2,h3⟩:=h i hi;exact⟨h1,ad,e,Nat.lt_of_lt_of_le h2 hb.size,h3.below hb (by rw [X2];exact h2)⟩
end Go.Proofs.YteplnamfpodmlaaGreat
end
