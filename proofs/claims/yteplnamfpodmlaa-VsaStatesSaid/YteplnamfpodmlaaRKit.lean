/-
  Part of the proof.
-/
import Derived.WalkKit
import Derived.WalkLawsBesides
import Derived.WalkSpells
import Derived.ProofKit
import Derived.OpenShut
import Derived.Handy
import Derived.Deep.QuietTactic
import Derived.BigQuiet
import Derived.BigRegion
import Derived.Lib.SmallJoins
import Derived.Deep.Slices
import Derived.Deep.Fields
import Derived.Test.YteplnamfpodmlaaProg
import Derived.Deep.RegionHeld3
set_option linter.unusedVariables false
set_option linter.unusedSimpArgs false
set_option maxRecDepth 100000
open Go.ChangeShapes Go.WideShapes Go.ChangeAt Go.RowKit
section
namespace Go.Proofs.Yteplnamfpodmlaa
def Ret(v:Value)(w:World)(e:Ending)(w':World):Prop:=e= .returned v∧Below w.heap.size w w'
theorem QF{p:Prop}(h:p):Hid p:=h
theorem after{w W w1:World}(h:Below w.heap.size w W)(hb:Below W.heap.size W w1):Below w.heap.size w w1:=h.trans (hb.mono h.size)
theorem Qnp{W w1:World}(hb:Below W.heap.size W w1):(∀b o,b < W.heap.size→w1.cell? ⟨b,o,none⟩=W.cell? ⟨b,o,none⟩)∧(∀b o,b < W.heap.size→w1.frozen? ⟨b,o,none⟩=W.frozen? ⟨b,o,none⟩):=
 ⟨fun b o h=>hb.cell (p:=⟨b,o,none⟩) h,fun b o h=>hb.frozen (p:=⟨b,o,none⟩) h⟩
section
variable{H:Type}{enc:TypeId×Value→H}{P:Program}
theorem JP{f:Func}{s:ChangeSpec}{apart fresh handsOn again:Bool}{W W':World}{args:Array Value}{v:Value}{ds gs:List (DataW H)}{before pa pv:List MemPlace}
 (hW:DataW.Whole enc P f.params.toList s.vars apart W args.toList ds gs before)
 (hres:∀(b:Nat) (sp:Nat→Bool) (hd:Bool),DataW.TrodAll enc P W' b sp hd f.resultTypes.toList (v.resultList f.resultTypes.size) (s.fn H (ds ++ gs)).results [])
 (hargs:∀sp:Nat→Bool,(∀p∈before,sp p.block=true)→DataW.TrodAll enc P W' 0 sp true f.params.toList args.toList (s.fn H (ds ++ gs)).args pa)
 (hvars:∀sp:Nat→Bool,(∀p∈before,sp p.block=true)→DataW.TrodVars enc P W' sp s.vars (s.fn H (ds ++ gs)).vars pv)
 (hps:before=pa ++ pv) (hb:Below W.heap.size W W')
 (hok:∀(j:Nat) (t:TypeId) (r:Value),f.resultTypes[j]?=some t→(v.resultList f.resultTypes.size)[j]?=some r→Value.okWide P W' .any 0 t r) :
 s.post enc P f apart fresh handsOn again W args v W':=by
 have hlt:∀p∈before,p.block < W.heap.size:=fun p hp=>hW.lt p hp
 have hold:∀p∈before,(fun b=>decide (b < W.heap.size)) p.block=true:=fun p hp=>by simpa using hlt p hp
 refine⟨ds,gs,before,[],pa,pv,hW,hres _ _ _,hargs _ hold,hvars _ hold,World.keptBut_mono (fun p hp=>⟨hp,?_⟩) (hb.frame (· ∈before)),fun _=>?_⟩
 ·rw [hps,List.mem_append]at hp
  exact Or.inr hp
 ·obtain⟨_,_,_,_,_,hz,hn⟩:=hW
  refine⟨hok,_,_,([] ++ pa) ++ pv,⟨[] ++ pa,pv,trodAll_append (hargs _ (fun _ _=>rfl)) (hres _ _ _),hvars _ (fun _ _=>rfl),rfl,?_,?_⟩,?_⟩
  ·intro b off hp
   have hin:MemPlace.cell b off∈before:=by rw [hps];simpa using hp
   rw [hb.frozen (hlt _ hin)]
   exact hz b off hin
  ·intro ha
   have:=hn ha
   rw [hps]at this
   simpa using this
  ·intro p hp _
   rw [hps]
   simpa using hp
end
theorem Jl{H:Type}{enc:TypeId×Value→H}{P:Program}(hl:laidOutB P=true){W W':World}{sp:Nat→Bool}(hb:Below W.heap.size W W') :
 ∀(ts:List TypeId) (vs:List Value) (ds:List (DataW H)) (ps:List MemPlace),(ts.all fun t=>P.readableRec t && decide (t < P.types.size))=true→
  DataW.TrodAll enc P W 0 (fun _=>true) true ts vs ds ps→(∀p∈ps,p.block < W.heap.size)→(∀p∈ps,sp p.block=true)→DataW.TrodAll enc P W' 0 sp true ts vs ds ps
 | [],[],[],_,_,h,_,_=>h
 |t :: ts,v :: vs,d :: ds,ps,hr,h,hlt,hsp=>by
  obtain⟨p,q,h1,h2,rfl⟩:=h
  simp only [List.all_cons,Bool.and_eq_true,decide_eq_true_eq]at hr
  have hp:∀x∈p,x∈p ++ q:=fun x hx=>List.mem_append_left _ hx
  have hq:∀x∈q,x∈p ++ q:=fun x hx=>List.mem_append_right _ hx
  exact⟨p,q,WideElems.Trod_stays hl hr.1.1 hr.1.2 h1 (fun x hx=>hb.same (hlt x (hp x hx))) (fun x hx=>hsp x (hp x hx)),
   Jl hl hb ts vs ds q hr.2 h2 (fun x hx=>hlt x (hq x hx)) (fun x hx=>hsp x (hq x hx)),rfl⟩
 | [],_ :: _,_,_,_,h,_,_=>h.elim
 | [],[],_ :: _,_,_,h,_,_=>h.elim
 |_ :: _,[],_,_,_,h,_,_=>by simp [DataW.TrodAll]at h
 |_ :: _,_ :: _,[],_,_,h,_,_=>by simp [DataW.TrodAll]at h
theorem VW{a:Int}(h:(Lit.int .u32 a).wf=true):0≤a∧a < 4294967296:=by
 simp only [Lit.wf,Bool.and_eq_true,decide_eq_true_eq]at h
 have h1:IntKind.u32.min=0:=rfl
 have h2:IntKind.u32.max=4294967295:=rfl
 omega
theorem WX{a:Int}(h:(Lit.int .i64 a).wf=true): -9223372036854775808≤a∧a≤9223372036854775807:=by
 simp only [Lit.wf,Bool.and_eq_true,decide_eq_true_eq]at h
 have h1:IntKind.i64.min= -9223372036854775808:=rfl
 have h2:IntKind.i64.max=9223372036854775807:=rfl
 omega
theorem K5{a b:Bool}(h:a=b):Ending.returned (.bool a)= .returned (.bool b):=by rw [h]
theorem QyJ{k:IntKind}{a b:Int}(h:a=b):Ending.returned (.int k a)= .returned (.int k b):=by rw [h]
def Qum(k:Option IntKind)(v:Value):Prop:=
 match k with
 |none=>∃b,v= .bool b
 |some k=>∃n,v= .int k n∧(Lit.int k n).wf=true
def Zi:List (Option IntKind)→List Value→Prop
 | [],[]=>True
 |k :: ks,v :: vs=>Qum k v∧Zi ks vs
 |_,_=>False
theorem Zi.append:∀{a b:List (Option IntKind)} {x y:List Value},Zi a x→Zi b y→Zi (a ++ b) (x ++ y)
 | [],_,[],_,_,h=>h
 |_ :: _,_,_ :: _,_,h,h'=>⟨h.1,Zi.append h.2 h'⟩
 | [],_,_ :: _,_,h,_=>h.elim
 |_ :: _,_,[],_,h,_=>h.elim
theorem Zi.length:∀{a:List (Option IntKind)} {x:List Value},Zi a x→x.length=a.length
 | [],[],_=>rfl
 |_ :: _,_ :: _,h=>by simp [Zi.length h.2]
 | [],_ :: _,h=>h.elim
 |_ :: _,[],h=>h.elim
def Yv(P:Program)(g:TypeId→Option (List (Option IntKind))):Nat→List Field→Option (List (Option IntKind))
 |_,[]=>some []
 |off,f :: fs=>
  if f.offset=off then
   match g f.type with
   |some k=>if P.cellsOf f.type=k.length then(match Yv P g (off+k.length) fs with|some r=>some (k ++ r)|none=>none)else none
   |none=>none
  else none
def VC(k:List (Option IntKind)):Nat→List (Option IntKind)
 |0=> []
 |n+1=>k ++ VC k n
def flat(P:Program):Nat→TypeId→Option (List (Option IntKind))
 |0,_=>none
 |n+1,t=>
  match P.underlying t with
  |some .bool=>some [none]
  |some (.int k)=>some [some k]
  |some (.struct fs)=>Yv P (flat P n) 0 fs.toList
  |some (.array m e)=>match flat P n e with|some k=>if P.cellsOf e=k.length then some (VC k m)else none|none=>none
  |_=>none
theorem QbR{P:Program}{g:TypeId→Option (List (Option IntKind))}:∀(fs:List Field) (off:Nat) (K:List (Option IntKind)),Yv P g off fs=some K→
 ∀f,f∈fs→∀k,g f.type=some k→P.cellsOf f.type=k.length∧f.offset+k.length≤off+K.length
 | [],_,_,_,f,hf,_,_=>by cases hf
 |f0 :: fs,off,K,h,f,hf,k,hk=>by
  unfold Yv at h
  by_cases ho:f0.offset=off
  ·rw [if_pos ho]at h
   cases hk0:g f0.type with
   |none=>rw [hk0]at h;cases h
   |some k0=>
    rw [hk0]at h
    dsimp only at h
    by_cases hc:P.cellsOf f0.type=k0.length
    ·rw [if_pos hc]at h
     cases hr:Yv P g (off+k0.length) fs with
     |none=>rw [hr]at h;cases h
     |some r=>
      rw [hr]at h
      simp only [Option.some.injEq]at h
      subst h
      rcases List.mem_cons.1 hf with rfl|hf
      ·rw [hk0,Option.some.injEq]at hk
       subst hk
       exact⟨hc,by rw [List.length_append];omega⟩
      ·have:=QbR fs (off+k0.length) r hr f hf k hk
       exact⟨this.1,by rw [List.length_append];omega⟩
    ·rw [if_neg hc]at h;cases h
  ·rw [if_neg ho]at h;cases h
theorem QbS{P:Program}{g:TypeId→Option (List (Option IntKind))}{cs:List Value}:∀(fs:List Field) (off:Nat) (K:List (Option IntKind)),Yv P g off fs=some K→
 (∀f,f∈fs→∀k,g f.type=some k→Zi k ((cs.drop f.offset).take (P.cellsOf f.type)))→Zi K ((cs.drop off).take K.length)
 | [],off,K,h,_=>by
   simp only [Yv,Option.some.injEq]at h
   subst h
   simp [Zi]
 |f :: fs,off,K,h,hp=>by
  unfold Yv at h
  by_cases ho:f.offset=off
  ·rw [if_pos ho]at h
   cases hk:g f.type with
   |none=>rw [hk]at h;cases h
   |some k=>
    rw [hk]at h
    dsimp only at h
    by_cases hc:P.cellsOf f.type=k.length
    ·rw [if_pos hc]at h
     cases hr:Yv P g (off+k.length) fs with
     |none=>rw [hr]at h;cases h
     |some r=>
      rw [hr]at h
      simp only [Option.some.injEq]at h
      subst h
      have h1:=hp f (List.mem_cons.2 (.inl rfl)) k hk
      have h2:=QbS fs (off+k.length) r hr (fun f hf=>hp f (List.mem_cons.2 (.inr hf)))
      rw [ho,hc]at h1
      have e:(cs.drop off).take (k ++ r).length=(cs.drop off).take k.length ++ (cs.drop (off+k.length)).take r.length:=by
       rw [List.length_append,List.take_add,List.drop_drop]
      rw [e]
      exact h1.append h2
    ·rw [if_neg hc]at h;cases h
  ·rw [if_neg ho]at h;cases h
theorem Qfa{k:List (Option IntKind)}{cs:List Value}:∀(m off:Nat),(∀i,i < m→Zi k ((cs.drop ((off+i) * k.length)).take k.length))→Zi (VC k m) ((cs.drop (off * k.length)).take (VC k m).length)
 |0,off,_=>by simp [VC,Zi]
 |m+1,off,h=>by
  have h1:=h 0 (by omega)
  have h2:=Qfa m (off+1) (fun i hi=>by have:=h (i+1) (by omega);rwa [show off+(i+1)=off+1+i by omega]at this)
  have e:(cs.drop (off * k.length)).take (VC k (m+1)).length=(cs.drop (off * k.length)).take k.length ++ (cs.drop ((off+1) * k.length)).take (VC k m).length:=by
   show List.take (k ++ VC k m).length _=_
   rw [List.length_append,List.take_add,List.drop_drop,Nat.succ_mul]
  rw [e]
  exact h1.append h2
theorem Qav(k:List (Option IntKind)):∀m,(VC k m).length=m * k.length
 |0=>by simp [VC]
 |m+1=>by simp [VC,Qav k m,Nat.succ_mul,Nat.add_comm]
section
variable{H:Type}{enc:TypeId×Value→H}{P:Program}{w:World}{base:Nat}{spare:Nat→Bool}{held:Bool}
theorem Qbr:∀(n:Nat) (t:TypeId) (K:List (Option IntKind)) (fuel:Nat) (cs:List Value) (x:DataW H×List MemPlace),flat P n t=some K→cs.length=K.length→
 DataW.trod enc P w base spare held fuel t cs=some x→Zi K cs
 |0,_,_,_,_,_,h,_,_=>by cases h
 |n+1,t,K,fuel,cs,x,h,hl,ht=>by
  unfold flat at h
  cases hu:P.underlying t with
  |none=>rw [hu]at h;cases h
  |some d=>
   rw [hu]at h
   cases d with
   |bool=>
    simp only [Option.some.injEq]at h
    subst h
    obtain⟨b,rfl,_⟩:=DataW.trod_bool hu ht
    exact⟨⟨b,rfl⟩,trivial⟩
   |int k=>
    simp only [Option.some.injEq]at h
    subst h
    obtain⟨m,rfl,_,hw⟩:=DataW.trod_int hu ht
    exact⟨⟨m,rfl,hw⟩,trivial⟩
   |struct fs=>
    dsimp only at h
    obtain⟨xs,m,_,_,hlen,hxl,hf⟩:=DataW.trod_struct hu ht
    have hm:=QbS (cs:=cs) fs.toList 0 K h (fun f hfm k hk=>by
     obtain⟨i,hi⟩:=List.mem_iff_getElem?.1 hfm
     have hi':fs[i]?=some f:=by simpa using hi
     have hil:i < fs.size:=by
      rcases Nat.lt_or_ge i fs.size with h0|h0
      ·exact h0
      ·rw [Array.getElem?_eq_none h0]at hi';cases hi'
     have h1:=hf i f hi'
     rw [List.getElem?_eq_getElem (by omega)]at h1
     have hcl:((cs.drop f.offset).take (P.cellsOf f.type)).length=k.length:=by
      have hb:=QbR fs.toList 0 K h f hfm k hk
      rw [List.length_take,List.length_drop,hb.1];omega
     exact Qbr n f.type k m _ _ hk hcl h1)
    rw [List.drop_zero,List.take_of_length_le (by omega)]at hm
    exact hm
   |array m e=>
    dsimp only at h
    obtain⟨xs,j,_,_,hlen,hxl,hf⟩:=DataW.trod_array hu ht
    cases hk:flat P n e with
    |none=>rw [hk]at h;cases h
    |some k=>
     rw [hk]at h
     dsimp only at h
     by_cases hc:P.cellsOf e=k.length
     ·rw [if_pos hc]at h
      simp only [Option.some.injEq]at h
      subst h
      have hm:=Qfa (k:=k) (cs:=cs) m 0 (fun i hi=>by
       have h1:=hf i hi
       rw [List.getElem?_eq_getElem (by omega),hc]at h1
       have hcl:((cs.drop (i * k.length)).take k.length).length=k.length:=by
        rw [Qav]at hl
        rw [List.length_take,List.length_drop,hl]
        have:(i+1) * k.length≤m * k.length:=Nat.mul_le_mul_right _ (by omega)
        rw [Nat.succ_mul]at this
        omega
       rw [show 0+i=i by omega]
       exact Qbr n e k j _ _ hk hcl h1)
      rw [Nat.zero_mul,List.drop_zero,List.take_of_length_le (by omega)]at hm
      exact hm
     ·rw [if_neg hc]at h;cases h
   |_=>cases h
end
section
variable{H:Type}{enc:TypeId×Value→H}{P:Program}{w:World}{base:Nat}{spare:Nat→Bool}{held:Bool}
theorem Qwv{r:Reach}{b0:Nat}{t:TypeId}{fs:Array Field}{v:Value}{d:DataW H}{p:List MemPlace}(K:List (Option IntKind))(n:Nat)(hs:P.underlying t=some (.struct fs))(hK:flat P n t=some K)(hC:P.cellsOf t=K.length)
 (hv:Value.okWide P w r b0 t v) (h:DataW.Trod enc P w base spare held t v d p):∃cs:List Value,v= .agg cs.toArray∧Zi K cs:=by
 obtain⟨cs,rfl,hsz⟩:=okWide_struct hs hv
 obtain⟨fuel,hf⟩:=h
 have hl:cs.toList.length=K.length:=by rw [←hC,←hsz];simp
 exact⟨cs.toList,by simp,Qbr n t K fuel cs.toList _ hK hl hf⟩
end
end Go.Proofs.Yteplnamfpodmlaa
end
section
namespace Go.Proofs.Yteplnamfpodmlaa
def Blk(w:World)(g:Nat)(t:TypeId)(cs:Array Value):Prop:=w.heap[g]?=some (.cells cs t (0,0))
section
variable{w w':World}{g:Nat}{t:TypeId}{cs:Array Value}
theorem Blk.lt(h:Blk w g t cs):g < w.heap.size:=by
 rcases Nat.lt_or_ge g w.heap.size with hlt|hge
 ·exact hlt
 ·unfold Blk at h;rw [Array.getElem?_eq_none hge]at h;cases h
theorem Blk.walk(h:Blk w g t cs):(∀o,w.cell? ⟨g,o,none⟩=cs[o]?)∧(∀o,w.frozen? ⟨g,o,none⟩=false):=by
 unfold Blk at h
 exact⟨fun o=>by simp [World.cell?,h],fun o=>by simp [World.frozen?,h]⟩
theorem Blk.new(w:World)(t:TypeId)(cs:Array Value):Blk (w.alloc (.cells cs t)) w.heap.size t cs:=heap_alloc_new w _
theorem Blk.drew(h:Blk w g t cs):Blk w.drew g t cs:=h
theorem Blk.alloc(h:Blk w g t cs)(o:Obj):Blk (w.alloc o) g t cs:=(Below.heap_alloc w o g h.lt).trans h
theorem Blk.set_(h:Blk w g t cs)(i:Nat)(u:Value):Blk (w.setCell ⟨g,i,none⟩ u) g t (cs.setIfInBounds i u):=by
 unfold Blk at h ⊢
 simp [World.setCell,Array.getElem?_modify,h]
theorem Blk.far(h:Blk w g t cs){p:Addr}(hp:g≠p.block)(u:Value):Blk (w.setCell p u) g t cs:=(Below.heap_setCell w p u g hp).trans h
theorem Blk.below{B:Nat}(h:Blk w g t cs)(hb:Below B w w')(hg:g < B):Blk w' g t cs:=(hb.block g hg).trans h
theorem Blk.call(h:Blk w g t cs)(hb:Below w.heap.size w w'):Blk w' g t cs:=h.below hb h.lt
end
structure Qd where
 e:Bool
 t:Bool
 lo:Int
 hi:Int
 st:Int
 deriving DecidableEq
def Qd.wf(s:Qd):Prop:=0≤s.lo∧s.lo < 4294967296∧0≤s.hi∧s.hi < 4294967296∧0≤s.st∧s.st < 4294967296
abbrev Qd.val(s:Qd):Value:= .agg #[.bool s.e,.bool s.t,.int .u32 s.lo,.int .u32 s.hi,.int .u32 s.st]
def Qy:Qd:=⟨false,true,0,0,0⟩
def Q4:Qd:=⟨true,false,0,0,0⟩
def X2(n:Int):Qd:=⟨false,false,n,n,0⟩
def Qq(s:Qd):Bool:=
 if s.t || s.e then s==Qy || s==Q4
 else if s.st==0 then s.lo==s.hi
 else decide (s.lo < s.hi) && ((s.hi - s.lo) % s.st==0) && (decide (0 < s.lo) || decide (s.hi < 4294967295) || decide (1 < s.st))
def ZO(s:Qd):Qd:=if Qq s then s else Qy
abbrev Qd.cs(s:Qd):Array Value:= #[.bool s.e,.bool s.t,.int .u32 s.lo,.int .u32 s.hi,.int .u32 s.st]
abbrev World.put(w:World)(g:Nat)(s:Qd):World:=
 ((((w.setCell ⟨g,0,none⟩ (.bool s.e)).setCell ⟨g,1,none⟩ (.bool s.t)).setCell ⟨g,2,none⟩ (.int .u32 s.lo)).setCell ⟨g,3,none⟩ (.int .u32 s.hi)).setCell ⟨g,4,none⟩ (.int .u32 s.st)
theorem Blk.put{w:World}{g:Nat}{t:TypeId}{a:Qd}(h:Blk w g t a.cs)(s:Qd):Blk (World.put w g s) g t s.cs:=
 ((((h.set_ 0 _).set_ 1 _).set_ 2 _).set_ 3 _).set_ 4 _
theorem Blk.put_far{w:World}{g g':Nat}{t:TypeId}{cs:Array Value}(h:Blk w g t cs)(hne:g≠g')(s:Qd):Blk (World.put w g' s) g t cs:=
 ((((h.far hne _).far hne _).far hne _).far hne _).far hne _
theorem Qh{B g:Nat}{a w:World}(h:Below B a w)(hg:B≤g)(s:Qd):Below B a (World.put w g s):=
 ((((h.setCell hg _).setCell hg _).setCell hg _).setCell hg _).setCell hg _
theorem Qd.beq_eq(a b:Qd):(a==b)=((a.e==b.e) && ((a.t==b.t) && ((a.lo==b.lo) && ((a.hi==b.hi) && (a.st==b.st))))):=by
 rw [Bool.eq_iff_iff]
 simp only [beq_iff_eq,Bool.and_eq_true]
 constructor
 ·rintro rfl;simp
 ·rintro⟨h1,h2,h3,h4,h5⟩;cases a;cases b;simp_all
theorem Yl(a b:Qd)(w:World):(binOp .eql 34 a.val b.val).run Try.prog w= .ok (.bool (a==b)) w:=by
 rw [Qd.beq_eq]
 cases h1:(a.e==b.e)
 ·simp [Qd.val,go_sem,h1]
 cases h2:(a.t==b.t)
 ·simp [Qd.val,go_sem,h1,h2]
 cases h3:(a.lo==b.lo)
 ·simp [Qd.val,go_sem,h1,h2,h3]
 cases h4:(a.hi==b.hi)
 ·simp [Qd.val,go_sem,h1,h2,h3,h4]
 cases h5:(a.st==b.st) <;> simp [Qd.val,go_sem,h1,h2,h3,h4,h5]
theorem Qra:(Try.prog.info? 34).map (·.size)=some 5:=by kernel_rfl
theorem Qt{fn:Func}{p:Tmp}(h:fn.results= #[.cell p 34]){tmps:Array Value}{w:World}{g:Nat}{t:TypeId}{s:Qd}
 (hp:tmps.getD p undef= .pointer (some ⟨g,0,none⟩)) (hB:Blk w g t s.cs):(results fn tmps).run Try.prog w= .ok s.val w:=by
 have hl:=run_loadVar_row (P:=Try.prog) w g t 34 s.cs (0,0) _ hB Try.underlying34 rfl Qra
 rw [Array.getD_eq_getD_getElem?]at hp
 simp only [results,h]
 simp [hp,asAddr,hl]
end Go.Proofs.Yteplnamfpodmlaa
end
section
namespace Go.Proofs.Yteplnamfpodmlaa
def sg(a:Int):Bool:=decide (2147483648≤a)
def Qxi(a b:Int):Bool:=sg ((a - b) % 4294967296)
theorem QaZ(n:Int)(h0:0≤n)(h1:n < 4294967296):bits .and .u32 n 31=n % 32:=by
 rw [u32_and n 31 h0 h1 (by omega) (by omega)]
 have e:((31:Int).toNat)=2 ^ 5 - 1:=rfl
 rw [e,Nat.and_two_pow_sub_one_eq_mod];omega
theorem QfV(a:Int)(w:World) :
 Calls Try.prog 81 #[.int .u32 a] w (Ret (.bool (sg a)) w):=by
 go_enter Try.func81,Try.ntmps81
 go_wp2
 go_returns
 exact⟨rfl,by go_grown⟩
def QoV(a n:Int):Int:=a * 2 ^ (n % 32).toNat % 4294967296
def Qar(a n:Int):Int:=a / 2 ^ (n % 32).toNat
def Qt4(a n:Int):Int:=wrap32 a / 2 ^ (n % 32).toNat % 4294967296
theorem Qrx(n:Int):min (n % 32).toNat 32=(n % 32).toNat:=by omega
theorem QnI(a n:Int)(w:World)(n0:0≤n)(n1:n < 4294967296) :
 Calls Try.prog 93 #[.int .u32 a,.int .u32 n] w (Ret (.int .u32 (QoV a n)) w):=by
 have e:=QaZ n n0 n1
 have e2:0≤n % 32:=by omega
 have e3:=Qrx n
 go_enter Try.func93,Try.ntmps93
 go_wp2
 go_returns
 exact⟨rfl,by go_grown⟩
theorem Qgj(a n:Int)(w:World)(n0:0≤n)(n1:n < 4294967296) :
 Calls Try.prog 95 #[.int .u32 a,.int .u32 n] w (Ret (.int .u32 (Qar a n)) w):=by
 have e:=QaZ n n0 n1
 have e2:0≤n % 32:=by omega
 have e3:=Qrx n
 go_enter Try.func95,Try.ntmps95
 go_wp2
 go_returns
 exact⟨rfl,by go_grown⟩
theorem Qt5(a n:Int)(w:World)(n0:0≤n)(n1:n < 4294967296) :
 Calls Try.prog 134 #[.int .u32 a,.int .u32 n] w (Ret (.int .u32 (Qt4 a n)) w):=by
 have e:=QaZ n n0 n1
 have e2:0≤n % 32:=by omega
 have e3:=Qrx n
 go_enter Try.func134,Try.ntmps134
 go_wp2
 go_returns
 exact⟨rfl,by go_grown⟩
def tr(b:Bool):Int:=if b then 1 else 0
theorem QoX(b:Bool)(w:World):Calls Try.prog 135 #[.bool b] w (Ret (.int .u32 (tr b)) w):=by
 cases b
 all_goals
  go_enter Try.func135,Try.ntmps135
  go_wp2
  go_returns
  exact⟨rfl,by go_grown⟩
theorem QkO(b:Bool)(w:World):Calls Try.prog 119 #[.bool b] w (Ret (.int .u32 (tr b)) w):=by
 cases b
 all_goals
  go_enter Try.func119,Try.ntmps119
  go_wp2
  go_returns
  exact⟨rfl,by go_grown⟩
end Go.Proofs.Yteplnamfpodmlaa
end
section
namespace Go.Proofs.Yteplnamfpodmlaa
def Qe4(k:Int):Int:=if 1≤k∧k < 15 then(if k % 2=1 then k+1 else k - 1)else -1
theorem Qr1(k:Int)(h:k < 1∨15≤k):Qe4 k= -1:=by unfold Qe4;rw [if_neg (by omega)]
theorem Qxe(k:Int)(w:World)(k0: -9223372036854775808≤k)(k1:k≤9223372036854775807):Calls Try.prog 79 #[.int .i64 k] w (Ret (.int .i64 (Qe4 k)) w):=by
 by_cases h:k < 1∨15≤k
 ·rw [Qr1 k h]
  rcases h with h|h
  ·go_enter Try.func79,Try.ntmps79
   go_wp2
   go_returns
   exact⟨rfl,by go_grown⟩
  ·go_enter Try.func79,Try.ntmps79
   go_wp2
   go_returns
   exact⟨rfl,by go_grown⟩
 ·have h1:1≤k:=by omega
  have h2:k < 15:=by omega
  by_cases h3:k % 2=1
  ·have e:Qe4 k=k+1:=by unfold Qe4;rw [if_pos (by omega),if_pos h3]
   rw [e]
   clear e h
   go_enter Try.func79,Try.ntmps79
   go_wp2
   go_returns
   exact⟨rfl,by go_grown⟩
  ·have e:Qe4 k=k - 1:=by unfold Qe4;rw [if_pos (by omega),if_neg h3]
   rw [e]
   clear e h
   go_enter Try.func79,Try.ntmps79
   go_wp2
   go_returns
   exact⟨rfl,by go_grown⟩
def XI(k:Nat)(a b:Int):Int:=
 match k with
 |0=>(a+b) % 4294967296|1=>(a - b) % 4294967296|2=>a * b % 4294967296
 |3=>bits .and .u32 a b|4=>bits .or .u32 a b|5=>bits .xor .u32 a b
 |6=>QoV a b|7=>Qar a b|8=>Qt4 a b
 |9=>tr (a==b)|10=>tr (a != b)|11=>tr (decide (wrap32 a < wrap32 b))|12=>tr (decide (a < b))|_=>0
theorem Qki(a b:Int)(k:Int)(h0:0≤k)(h1:k < 13)(l:List Value)
 (hl:l= [.int .u32 ((a+b) % 4294967296),.int .u32 ((a - b) % 4294967296),.int .u32 (a * b % 4294967296),.int .u32 (bits .and .u32 a b),.int .u32 (bits .or .u32 a b),.int .u32 (bits .xor .u32 a b),
   .int .u32 (QoV a b),.int .u32 (Qar a b),.int .u32 (Qt4 a b),.int .u32 (tr (a==b)),.int .u32 (tr (a != b)),.int .u32 (tr (decide (wrap32 a < wrap32 b))),.int .u32 (tr (decide (a < b)))])
 (hk:k.toNat < l.length):Ending.returned (.tuple #[l[k.toNat],.int .i64 0])=Ending.returned (.tuple #[.int .u32 (XI k.toNat a b),.int .i64 0]):=by
 obtain⟨K,rfl⟩:=Int.eq_ofNat_of_zero_le h0
 simp only [Int.toNat_natCast]at hk ⊢
 subst hl
 have hk':K=0∨K=1∨K=2∨K=3∨K=4∨K=5∨K=6∨K=7∨K=8∨K=9∨K=10∨K=11∨K=12:=by omega
 rcases hk' with rfl|rfl|rfl|rfl|rfl|rfl|rfl|rfl|rfl|rfl|rfl|rfl|rfl <;> rfl
set_option maxHeartbeats 2000000 in
theorem Qq5(k:Int)(a b:Int)(h0:3≤k)(h1:k < 16)(a0:0≤a)(a1:a < 4294967296)(b0:0≤b)(b1:b < 4294967296)(w:World) :
 Calls Try.prog 90 #[.int .i64 k,.int .u32 a,.int .u32 b] w (Ret (.tuple #[.int .u32 (XI (k - 3).toNat a b),.int .i64 0]) w):=by
 have hi:(k - 3).toNat < 13:=by omega
 go_enter Try.func90,Try.ntmps90
 go_wp2_with (first|(go_at_call 93;(with_reducible refine(QnI _ _ _ b0 b1).mono ?_);rintro e w1 ⟨rfl,hb1⟩;have HB:=hb1)|(go_at_call 95;(with_reducible refine(Qgj _ _ _ b0 b1).mono ?_);rintro e w1 ⟨rfl,hb1⟩;replace HB:=HB.trans (hb1.mono HB.size))|(go_at_call 134;(with_reducible refine(Qt5 _ _ _ b0 b1).mono ?_);rintro e w1 ⟨rfl,hb1⟩;replace HB:=HB.trans (hb1.mono HB.size))|(go_at_call 135;(with_reducible refine(QoX _ _).mono ?_);rintro e w1 ⟨rfl,hb1⟩;replace HB:=HB.trans (hb1.mono HB.size)))
 go_returns
 exact⟨Qki a b (k - 3) (by omega) (by omega) _ rfl _,HB.alloc HB.size _⟩
theorem Qse(a:Int)(k:Nat):a * 2 ^ k % 4294967296 * 2 % 4294967296=a * 2 ^ (k+1) % 4294967296:=by
 rw [Int.pow_succ,←Int.mul_assoc];omega
theorem Qij(a:Int)(k:Nat):a / 2 ^ k / 2=a / 2 ^ (k+1):=by
 have h:(0:Int) < 2 ^ k:=Int.pow_pos (by omega)
 rw [Int.pow_succ,Int.ediv_ediv,if_neg (by omega),Int.sub_zero]
theorem Qfu(k:Nat):(0:Int) < 2 ^ k:=Int.pow_pos (by omega)
theorem QuO(a:Int)(k:Nat)(a0:0≤a)(a1:a < 4294967296):0≤a / 2 ^ k∧a / 2 ^ k < 4294967296:=by
 have h:=Qfu k
 have h1:=Int.ediv_le_self (2 ^ k) a0
 exact⟨Int.ediv_nonneg a0 (by omega),by omega⟩
theorem QrV(a n:Int)(w:World)(a0:0≤a)(a1:a < 4294967296)(n0:0≤n)(n1:n < 4294967296) :
 Calls Try.prog 116 #[.int .u32 a,.int .u32 n] w (Ret (.int .u32 (QoV a n)) w):=by
 have hm:n.tmod 32=n % 32:=Int.tmod_eq_emod_of_nonneg n0
 go_enter Try.func116,Try.ntmps116
 go_wp2
 go_loop [0,5] (fun v i=>∃k:Nat,(k:Int)≤n % 32∧i= .int .u32 k∧v= .int .u32 (a * 2 ^ k % 4294967296)) (fun _ i=>((n % 32) - intOf i).toNat)
 case atStart=>exact⟨0,by omega,rfl,by rw [Int.pow_zero,Int.mul_one,Int.emod_eq_of_lt a0 a1]⟩
 case round=>
  obtain⟨k,hk,rfl,rfl⟩:=hrel
  have HS:=QF (Qse a k)
  by_cases hlt:(k:Int) < n % 32
  ·go_wp2
   go_round
   case rel=>exact⟨k+1,by omega,by go_num,by rw [←HS.out]⟩
   case measure=>simp [intOf];omega
  ·go_wp2
   go_returns
   have e:k=(n % 32).toNat:=by omega
   subst e
   exact⟨rfl,by go_grown⟩
theorem QrW(a n:Int)(w:World)(a0:0≤a)(a1:a < 4294967296)(n0:0≤n)(n1:n < 4294967296) :
 Calls Try.prog 117 #[.int .u32 a,.int .u32 n] w (Ret (.int .u32 (Qar a n)) w):=by
 have hm:n.tmod 32=n % 32:=Int.tmod_eq_emod_of_nonneg n0
 go_enter Try.func117,Try.ntmps117
 go_wp2
 go_loop [0,5] (fun v i=>∃k:Nat,(k:Int)≤n % 32∧i= .int .u32 k∧v= .int .u32 (a / 2 ^ k)) (fun _ i=>((n % 32) - intOf i).toNat)
 case atStart=>exact⟨0,by omega,rfl,by rw [Int.pow_zero,Int.ediv_one]⟩
 case round=>
  obtain⟨k,hk,rfl,rfl⟩:=hrel
  have HS:=QF (Qij a k)
  obtain⟨v0,v1⟩:=QuO a k a0 a1
  by_cases hlt:(k:Int) < n % 32
  ·go_wp2
   go_round
   case rel=>exact⟨k+1,by omega,by go_num,by rw [←HS.out]⟩
   case measure=>simp [intOf];omega
  ·go_wp2
   go_returns
   have e:k=(n % 32).toNat:=by omega
   subst e
   exact⟨rfl,by go_grown⟩
theorem QuN(a:Int)(k:Nat)(a0:0≤a)(a1:a < 4294967296): -2147483648≤wrap32 a / 2 ^ k∧wrap32 a / 2 ^ k < 2147483648∧(wrap32 a / 2 ^ k < 0↔2147483648≤a):=by
 have h:=Qfu k
 have hw: -2147483648≤wrap32 a∧wrap32 a < 2147483648∧(wrap32 a < 0↔2147483648≤a):=by unfold wrap32;omega
 by_cases hs:wrap32 a < 0
 ·have h1:=Int.ediv_lt_iff_lt_mul (a:=wrap32 a) (b:=0) h
  have h2:=Int.le_ediv_iff_mul_le (a:= -2147483648) (b:=wrap32 a) h
  have h3:(-2147483648:Int) * 2 ^ k≤ -2147483648:=by omega
  have h4:wrap32 a / 2 ^ k < 0:=h1.2 (by omega)
  have h5:=h2.2 (by omega)
  exact⟨h5,by omega,by omega⟩
 ·have h1:=Int.ediv_le_self (2 ^ k) (by omega:0≤wrap32 a)
  have h2:=Int.ediv_nonneg (a:=wrap32 a) (b:=2 ^ k) (by omega) (by omega)
  exact⟨by omega,by omega,by omega⟩
theorem Qsb(a:Int)(a0:0≤a)(a1:a < 4294967296):wrap32 a / 2 ^ 0 % 4294967296=a:=by
 rw [Int.pow_zero,Int.ediv_one];unfold wrap32;omega
theorem Qsa(a:Int)(k:Nat)(t:Int)(a0:0≤a)(a1:a < 4294967296)(ht:t=if sg a then 2147483648 else 0) :
 wrap32 a / 2 ^ k % 4294967296 / 2+t=wrap32 a / 2 ^ (k+1) % 4294967296:=by
 obtain⟨h1,h2,h3⟩:=QuN a k a0 a1
 rw [←Qij]
 unfold sg at ht
 by_cases hs:2147483648≤a
 ·rw [decide_eq_true hs,if_pos rfl]at ht;omega
 ·rw [decide_eq_false hs,if_neg (by simp)]at ht;omega
theorem QrU(a n:Int)(w:World)(a0:0≤a)(a1:a < 4294967296)(n0:0≤n)(n1:n < 4294967296) :
 Calls Try.prog 118 #[.int .u32 a,.int .u32 n] w (Ret (.int .u32 (Qt4 a n)) w):=by
 have hm:n.tmod 32=n % 32:=Int.tmod_eq_emod_of_nonneg n0
 have hn:=QfV a
 have key:∀t:Int,t=(if sg a then 2147483648 else 0)→0≤t∧t≤2147483648:=by
  intro t ht;cases h:sg a <;> rw [h]at ht <;> simp at ht <;> omega
 have hst:∀t:Int,∀k:Nat,t=(if sg a then 2147483648 else 0)→wrap32 a / 2 ^ k % 4294967296 / 2+t=wrap32 a / 2 ^ (k+1) % 4294967296:=fun t k ht=>Qsa a k t a0 a1 ht
 have HST:=QF hst
 have HK:=QF key
 have H0:=QF (Qsb a a0 a1)
 clear hst key
 have he:n % 32=((n % 32).toNat:Int):=by omega
 have HE:=QF he
 clear he
 cases hs:sg a
 all_goals
  rw [hs]at hn HST HK
  clear hs
  go_enter Try.func118,Try.ntmps118
  go_wp2_with (go_at_call 81;(with_reducible refine(hn _).mono ?_);rintro e w1 ⟨rfl,hb1⟩)
  go_loop [0,6] (fun v i=>∃k:Nat,(k:Int)≤n % 32∧i= .int .u32 k∧v= .int .u32 (wrap32 a / 2 ^ k % 4294967296)) (fun _ i=>((n % 32) - intOf i).toNat)
  case atStart=>exact⟨0,by omega,rfl,by rw [H0.out]⟩
  case round=>
   obtain⟨k,hk,rfl,rfl⟩:=hrel
   have HS:=QF (HST.out _ k rfl)
   by_cases hlt:(k:Int) < n % 32
   ·go_wp2
    go_round
    case rel=>exact⟨k+1,by omega,by go_num,by rw [←HS.out];simp;try omega⟩
    case measure=>simp [intOf];omega
   ·go_wp2
    go_returns
    have e:k=(n % 32).toNat:=by omega
    subst e
    exact⟨rfl,hb1⟩
set_option maxHeartbeats 1000000 in
theorem QoJ(k:Int)(a b:Int)(h0:3≤k)(h1:k < 16)(a0:0≤a)(a1:a < 4294967296)(b0:0≤b)(b1:b < 4294967296)(w:World) :
 Calls Try.prog 69 #[.int .i64 k,.int .u32 a,.int .u32 b] w (Ret (.tuple #[.int .u32 (XI (k - 3).toNat a b),.int .i64 0]) w):=by
 have hk:k=3∨k=4∨k=5∨k=6∨k=7∨k=8∨k=9∨k=10∨k=11∨k=12∨k=13∨k=14∨k=15:=by omega
 clear h0 h1
 rcases hk with rfl|rfl|rfl|rfl|rfl|rfl|rfl|rfl|rfl|rfl|rfl|rfl|rfl
 all_goals
  go_enter Try.func69,Try.ntmps69
  go_wp2_with (first|(go_at_call 116;(with_reducible refine(QrV _ _ _ a0 a1 b0 b1).mono ?_);rintro e w1 ⟨rfl,hb1⟩)|(go_at_call 117;(with_reducible refine(QrW _ _ _ a0 a1 b0 b1).mono ?_);rintro e w1 ⟨rfl,hb1⟩)|(go_at_call 118;(with_reducible refine(QrU _ _ _ a0 a1 b0 b1).mono ?_);rintro e w1 ⟨rfl,hb1⟩)|(go_at_call 119;(with_reducible refine(QkO _ _).mono ?_);rintro e w1 ⟨rfl,hb1⟩))
  go_returns
  exact⟨rfl,by first|assumption|go_grown⟩
end Go.Proofs.Yteplnamfpodmlaa
end
