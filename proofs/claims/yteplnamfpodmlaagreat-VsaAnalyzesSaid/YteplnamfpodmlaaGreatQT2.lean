/-
  Part of the proof.
-/
import Derived.Test.YteplnamfpodmlaaGreatQT1
import Derived.LoopN
set_option linter.unusedVariables false
set_option linter.unusedSimpArgs false
set_option maxRecDepth 100000
open Go.ChangeShapes Go.WideShapes Go.ChangeAt Go.RowKit
section
namespace Go.Proofs.YteplnamfpodmlaaGreat.T2
section
variable{P:Program}{C:List (Kon P)}{I:List (Nat→Env→Prop)}{G:Cfg}{e0 e e':Env}{w0 w w':World}{s:St}{a:Act}{ups:List (List Value)}
theorem QcQ{g:SX}{x y z:LX}(h:QkP g x y=some z):z.den e=if(g.den e).2 then x.den e else y.den e:=by
 unfold QkP at h;split at h
 ·split at h
  ·rename_i hk;subst hk;cases h;simp only [LX.den,SX.mkIt_den];split <;> rfl
  ·cases h
 ·cases h;simp only [LX.den,SX.mkIt_den];split <;> rfl
 ·cases h
theorem WE{x:SX}{vs:List LX}{o n sz o2 k:Nat}(hx:(x.den e).1=k)(hk:k < n)(hm:o2+vs.length≤sz):∀(cs:List LX) (j0:Nat) (ys:List LX),QdA x vs o n sz o2 j0 cs=some ys→
 ys.length=cs.length∧∀(i:Nat) (c:LX),cs[i]?=some c→∃y,ys[i]?=some y∧
  ((o+k * sz+o2≤j0+i∧j0+i < o+k * sz+o2+vs.length→∃v,vs[j0+i - (o+k * sz+o2)]?=some v∧y.den e=v.den e)∧(¬(o+k * sz+o2≤j0+i∧j0+i < o+k * sz+o2+vs.length)→y.den e=c.den e))
 | [],j0,ys,h=>by simp only [QdA,Option.some.injEq]at h;subst h;exact⟨rfl,fun i c hc=>by simp at hc⟩
 |c0 :: cs,j0,ys,h=>by
  unfold QdA at h;split at h
  ·cases h
  ·rename_i rest hrest;obtain⟨l1,l2⟩:=WE hx hk hm cs (j0+1) rest hrest
   have tail:∀(y:LX) (i:Nat) (c:LX),cs[i]?=some c→∃z,(y :: rest)[i+1]?=some z∧
    ((o+k * sz+o2≤j0+(i+1)∧j0+(i+1) < o+k * sz+o2+vs.length→∃v,vs[j0+(i+1) - (o+k * sz+o2)]?=some v∧z.den e=v.den e)∧(¬(o+k * sz+o2≤j0+(i+1)∧j0+(i+1) < o+k * sz+o2+vs.length)→z.den e=c.den e)):=fun y i c hc=>by
    have:=l2 i c hc;rw [show j0+1+i=j0+(i+1)by omega]at this
    simpa using this
   have hkn:k * sz+sz≤n * sz:=by
    have:=Nat.mul_le_mul_right sz (show k+1≤n by omega)
    rwa [Nat.succ_mul]at this
   split at h
   ·rename_i hcond;obtain⟨c1,c2,c3,c4⟩:=hcond;have hdm:=Nat.div_add_mod (j0 - o) sz;split at h
    ·rename_i v hv;obtain⟨y,hy,hys⟩:=Ql h;subst hys;have hy':=QcQ (e:=e) hy;refine⟨by simp [l1],fun i c hc=>?_⟩
     cases i with
     |succ i=>simp only [List.getElem?_cons_succ]at hc;exact tail y i c hc
     |zero=>
      simp at hc;subst hc;refine⟨y,rfl,fun hin=>?_,fun hout=>?_⟩
      ·have hq:(j0 - o) / sz=k:=by
        have e1:j0 - o=(j0 - o - k * sz)+k * sz:=by omega
        have hlt:j0 - o - k * sz < sz:=by omega
        rw [e1,Nat.add_mul_div_right _ _ (by omega),Nat.div_eq_of_lt hlt,Nat.zero_add]
       have hr:(j0 - o) % sz=j0 - o - k * sz:=by rw [hq,Nat.mul_comm]at hdm;omega
       rw [hr]at hv;refine⟨v,by rw [←hv];congr 1;omega,?_⟩
       rw [hy'];simp only [SX.den,cmI,hx,hq,beq_self_eq_true,if_true]
      ·rw [hy']
       have hne:((x.den e).1==(((j0 - o) / sz:Nat):Int))=false:=by
        rw [beq_eq_false_iff_ne,hx];intro hq;have hq':k=(j0 - o) / sz:=by exact_mod_cast hq
        rw [←hq',Nat.mul_comm]at hdm;apply hout;omega
       simp only [SX.den,cmI,hne,Bool.false_eq_true,if_false]
    ·cases h
   ·rename_i hcond;cases h;refine⟨by simp [l1],fun i c hc=>?_⟩
    cases i with
    |succ i=>simp only [List.getElem?_cons_succ]at hc;exact tail c0 i c hc
    |zero=>
     simp at hc;subst hc;refine⟨c0,rfl,fun hin=>?_,fun _=>rfl⟩
     exfalso;apply hcond
     have hq:(j0 - o) / sz=k:=by
      have e1:j0 - o=(j0 - o - k * sz)+k * sz:=by omega
      have hlt:j0 - o - k * sz < sz:=by omega
      rw [e1,Nat.add_mul_div_right _ _ (by omega),Nat.div_eq_of_lt hlt,Nat.zero_add]
     have hdm:=Nat.div_add_mod (j0 - o) sz;rw [hq,Nat.mul_comm]at hdm;refine⟨by omega,by omega,by omega,by omega⟩
theorem QnK{ok:Nat→Bool}(h:s.fr ok=true){b:Bk}(hb:b∈s.hp):b.fr ok=true:=by
 simp only [St.fr,Bool.and_eq_true]at h;exact List.all_eq_true.1 h.1.1.2 b hb
theorem QbA{ok:Nat→Bool}(h:s.fr ok=true){d ct:Nat}{ks:List (Option IntKind)}{len:SX}(hb:(⟨d,.row ks len ct⟩:Bk)∈s.hp):ok d=true∧len.fr ok=true∧ok ct=true:=by
 have:=QnK h hb;simp only [Bk.fr,Bd.fr,Bool.and_eq_true]at this;exact⟨this.1,this.2.1,this.2.2⟩
theorem Qth{ok:Nat→Bool}(h:s.fr ok=true){d ct:Nat}{ks:List (Option IntKind)}{len:SX}{hh:Option SX}(hb:(⟨d,.nr ks len ct hh⟩:Bk)∈s.hp):ok d=true∧len.fr ok=true∧ok ct=true∧∀x,hh=some x→x.fr ok=true:=by
 have:=QnK h hb;simp only [Bk.fr,Bd.fr,Bool.and_eq_true]at this;exact⟨this.1,this.2.1.1,this.2.1.2,fun x hx=>by subst hx;exact this.2.2⟩
theorem Qc2{ok:Nat→Bool}(h:s.fr ok=true){d ty:Nat}{cs:List LX}(hb:(⟨d,.cells ty cs⟩:Bk)∈s.hp):ok d=true∧cs.all (·.fr ok)=true:=by
 have:=QnK h hb;simp only [Bk.fr,Bd.fr,Bool.and_eq_true]at this;exact this
theorem Zj{id x:Nat}{m:Nm}(h:nid id x=true):(e.set id m).nm x=e.nm x:=(Env.off_set e id m x h).symm
theorem QtO{id x:Nat}(h:nid id x=true):x≠id:=by rintro rfl;rw [V5]at h;cases h
theorem Q7{x:Int}(h0:0≤x)(h1:x≤1000000):IntKind.i64.wrap (x+1)=x+1:=by rw [IntKind.wrap_i64];omega
theorem Qhz(e:Env){x:SX}(h0:0≤(x.den e).1)(h1:(x.den e).1≤1000000):((SX.mkO .add .i64 x (.i 1)).den e).1.toNat=(x.den e).1.toNat+1:=by
 rw [SX.mkO_den];simp only [arI,SX.den];rw [Q7 h0 h1];omega
theorem Rel.nodup_del(hR:Rel C I G e0 w0 e s a ups w)(d:Nat):((YK s d).hp.map (·.id)).Nodup:=QkE hR.nd _
theorem Wm(hR:Rel C I G e0 w0 e s a ups w){b:Bk}(hb:b∈s.hp):s.hp.Perm ([b] ++ (YK s b.id).hp):=V6 hR.nd hb
theorem WJ{l:List Bk}(h:(l.map (·.id)).Nodup){b:Bk}(hb:b.id∉l.map (·.id)):((Xq b l).map (·.id)).Nodup:=by
 rw [((Xr b l).map _).nodup_iff,List.map_cons,List.nodup_cons];exact⟨hb,h⟩
theorem Qcs{d x:Nat}(h:x∉s.hp.map (·.id)):x∉(YK s d).hp.map (·.id):=fun hm=>by
 obtain⟨b,hb,rfl⟩:=List.mem_map.1 hm;exact h (List.mem_map.2 ⟨b,(List.mem_filter.1 hb).1,rfl⟩)
theorem JO{ok:Nat→Bool}(h:Env.off ok e e'){cs:List LX}(hf:cs.all (·.fr ok)=true):cs.map (QZ e')=cs.map (QZ e):=(Ws h hf).symm
theorem JN{ok:Nat→Bool}(h:Env.off ok e e'){cs:List LX}(hf:cs.all (·.fr ok)=true):cs.map (Z4 e')=cs.map (Z4 e):=(Wr h hf).symm
theorem Rel.cells(hR:Rel C I G e0 w0 e s a ups w){d ty:Nat}{bs cs:List LX}(hb:XH s d=some (ty,bs)){vs:List Value}{p:Nat}(hl:p+vs.length≤bs.length)
 (hcs:cs.map (·.den e)=(bs.map (·.den e)).take p ++ vs ++ (bs.map (·.den e)).drop (p+vs.length)):Rel C I G e0 w0 e (YY s d (.cells ty cs)) a ups (w.setCells (e.adr d) p vs):=by
 have hm:=Xo hb;have hB:w0.heap.size≤e.adr d∧Blk w (e.adr d) ty (bs.map (·.den e)).toArray:=hR.hp _ hm;refine hR.change hm (bd:= .cells ty cs) ⟨hB.1,?_⟩ (fun g hg=> .inl hg) (fun g hg hn=>Xx _ _ (fun h=>hn h)) (ZF _ _ hR.bl hB.1)
 have:=JB vs p hB.2 (by simpa using hl)
 show Blk _ (e.adr d) ty (cs.map (·.den e)).toArray;rw [hcs];exact this
theorem Wa(hR:Rel C I G e0 w0 e s a ups w){id:Nat}{t:TypeId}{p:LX}{v:PX}{s':St}{xs:List SX}(h:Qa3 P G.n0 s id t p v=some (s',xs))(hx:∀x∈xs,(x.den e).2=true)(hvf:s.fr (nid id)=true→v.fr (nid id)=true∧p.fr (nid id)=true) :
 ∃ad e' w',p.den e= .pointer (some ad)∧(storeVar t ad (v.den e)).run P w= .ok () w'∧Rel C I G e0 w0 e' s' a ups w':=by
 unfold Qa3 at h;split at h
 ·cases h
 ·rename_i m hi;split at h
  ·rename_i hl;split at h
   ·rename_i d o;split at h
    ·rename_i ty bs hb;split at h
     ·rename_i hbd;cases h;have hB:Blk w (e.adr d) ty (bs.map (·.den e)).toArray:=(hR.hp _ (Xo hb)).2;refine⟨_,e,_,rfl,Xg hB hi hl (by simpa using hbd),hR.cells hb (by simp only [List.length_map,hl];exact hbd) ?_⟩
      simp only [List.map_append,List.map_take,List.map_drop,List.length_map,hl]
     ·cases h
    ·cases h
   ·rename_i d o n sz x o2;split at h
    ·rename_i ty bs hb;split at h
     ·rename_i hbd;obtain⟨cs,hcs,hp⟩:=Ql h;simp only [Prod.mk.injEq]at hp;obtain⟨rfl,rfl⟩:=hp;have g1:=Zn (hx _ (List.mem_cons_self ..));have g2:=ZB (hx _ (List.mem_cons_of_mem _ (List.mem_cons_self ..)));simp only [SX.den]at g2;obtain⟨k,hk⟩:=Int.eq_ofNat_of_zero_le g1
      have hkn:k * sz+sz≤n * sz:=by
       have:=Nat.mul_le_mul_right sz (show k+1≤n by omega)
       rwa [Nat.succ_mul]at this
      have hB:Blk w (e.adr d) ty (bs.map (·.den e)).toArray:=(hR.hp _ (Xo hb)).2;obtain⟨l1,l2⟩:=WE hk (by omega) (by rw [hl];exact hbd.2) bs 0 cs hcs
      have hkx:(x.den e).1.toNat=k:=by rw [hk];rfl
      refine⟨_,e,_,rfl,Xg (o:=o+(x.den e).1.toNat * sz+o2) hB hi hl (by rw [hkx];simp only [List.size_toArray,List.length_map];omega),hR.cells hb (by rw [hkx];simp only [List.length_map,hl];omega) ?_⟩
      rw [hkx];apply List.ext_getElem?;intro i;rw [WT _ _ _ _ (by simp only [List.length_map,hl];omega)]
      simp only [List.length_map,hl,List.getElem?_map];cases hc:bs[i]? with
      |none=>
       have h0:bs.length≤i:=by
        rcases Nat.lt_or_ge i bs.length with h1|h1
        ·rw [List.getElem?_eq_getElem h1]at hc;cases hc
        ·exact h1
       rw [if_neg (by omega),if_neg (by omega),List.getElem?_eq_none (by omega)]
      |some c=>
       obtain⟨y,hy,h1,h2⟩:=l2 i c hc;rw [hy];simp only [Nat.zero_add,hl]at h1 h2;by_cases c1:i < o+k * sz+o2
       ·rw [if_pos c1];simp only [Option.map_some];rw [h2 (by omega)]
       ·rw [if_neg c1];by_cases c2:i < o+k * sz+o2+m
        ·rw [if_pos c2];obtain⟨u,hu,he⟩:=h1 ⟨by omega,c2⟩
         rw [hu];simp only [Option.map_some];rw [he]
        ·rw [if_neg c2];simp only [Option.map_some];rw [h2 (by omega)]
     ·cases h
    ·cases h
   ·rename_i d sz x o;split at h
    ·rename_i ks len ct hr;split at h
     ·rename_i hc;obtain⟨hks,hom,hkd,hid,hfr⟩:=hc;cases h;subst hl;subst hks;have g1:=Zn (hx _ (List.mem_cons_self ..));have g2:=ZB (hx _ (List.mem_cons_of_mem _ (List.mem_cons_self ..)));obtain⟨g,hbase,hg,hrun,hown⟩:=(hR.own hr).put (P:=P) (e:=e) (i:=(x.den e).1.toNat) (o:=o) (by omega) hkd hom hi
      have hm:=Y5 hr;obtain⟨f1,f2,f3⟩:=QbA hfr hm;obtain⟨vf,pf⟩:=hvf hfr;simp only [LX.fr,Bool.and_eq_true]at pf;have hoff:=Env.off_set e id {Nm.zero with int:=QA (e.int ct) ((x.den e).1.toNat * ks.length+o) (v.cells.map (QZ e)),bool:=QA (e.bool ct) ((x.den e).1.toNat * ks.length+o) (v.cells.map (Z4 e))}
      have hR':=hR.off hoff hfr (Jw hid);have vcf:v.cells.all (·.fr (nid id))=true:=by cases v <;> simpa [PX.cells,PX.fr] using vf
      refine⟨_,e.set id {Nm.zero with int:=QA (e.int ct) ((x.den e).1.toNat * ks.length+o) (v.cells.map (QZ e)),bool:=QA (e.bool ct) ((x.den e).1.toNat * ks.length+o) (v.cells.map (Z4 e))},_,by simp only [LX.den];rw [hbase];rfl,hrun,?_⟩
      refine Rel.cond1 (hR'.change hm (bd:= .row ks len id) ?_ (fun g hg=> .inl hg) (fun g' hg' hn=>Xx _ _ fun h=>hn ?_) (ZF _ _ hR.bl hg)) ?_
      ·show Own _ _ (Env.base _ d) (len.den _).1.toNat (Env.cap _ d) ks (Env.int _ id) (Env.bool _ id);rw [←SX.den_off hoff len f2];simp only [Env.base,Env.cap,Env.int,Env.bool,Zj f1,Env.set_at];exact hown
      ·exact⟨_,by simp only [Env.base,Zj f1];exact hbase,h.symm⟩
      ·show _∧_;simp only [Env.int,Env.bool,Env.set_at,Zj f3];rw [←SX.den_off hoff x pf.2,JO hoff vcf,JN hoff vcf];exact⟨rfl,rfl⟩
     ·cases h
    ·split at h
     ·rename_i ks len ct x' r rl hn;split at h
      ·rename_i ks' rl' rc hr;split at h
       ·rename_i hc;obtain⟨rfl,rfl,rfl,rfl,rfl,hrd,hid,hfr⟩:=hc;cases h;have g1:=Zn (hx _ (List.mem_cons_self ..));have g2:=ZB (hx _ (List.mem_cons_of_mem _ (List.mem_cons_self ..)));have g3:=Zn (hx _ (List.mem_cons_of_mem _ (List.mem_cons_of_mem _ (List.mem_cons_self ..))));have hmD:=Qde hn;have hmR:=Y5 hr;obtain⟨f1,f2,f3,f4⟩:=Qth hfr hmD;have f4:=f4 x rfl;obtain⟨q1,q2,q3⟩:=QbA hfr hmR
        obtain⟨g,t',cs,hb,hg,hB,hsz,hcap,hi'⟩:=hR.hp _ hmD;replace hb:e.base d=some ⟨g,0,none⟩:=hb;have hown:=hR.own hr;have hap:Yp e ⟨d,.nr ks len ct (some x)⟩ ⟨r,.row ks rl rc⟩:=Qct (fun x y h=>Yp.symm h) hR.inj _ hmD _ hmR (by intro h;injection h with h1 h2;exact hrd h1.symm)
        have hm1:m=1:=by rw [←hl];rfl
        subst hm1;have hxl:(x.den e).1.toNat < cs.size:=by rw [hsz];show _ < (len.den e).1.toNat;omega
        have hrun:(storeVar t ⟨g,(x.den e).1.toNat,none⟩ ((PX.l (LX.sl r rl)).den e)).run P w= .ok () (w.setCells g (x.den e).1.toNat [(LX.sl r rl).den e]):=
         Xg (v:= .l (.sl r rl)) hB hi rfl (by omega)
        have hoff:=Env.off_set e id {Nm.zero with int:=QA (e.int ct) (x.den e).1.toNat [(rl.den e).1],nb:=QA (e.nm ct).nb (x.den e).1.toNat [e.base r],nc:=QA (e.nm ct).nc (x.den e).1.toNat [e.cap r],i2:=QA (e.nm ct).i2 (x.den e).1.toNat [e.int rc],b2:=QA (e.nm ct).b2 (x.den e).1.toNat [e.bool rc]}
        have hR':=hR.off hoff hfr (Jw hid)
        refine⟨⟨g,(x.den e).1.toNat,none⟩,e.set id {Nm.zero with int:=QA (e.int ct) (x.den e).1.toNat [(rl.den e).1],nb:=QA (e.nm ct).nb (x.den e).1.toNat [e.base r],nc:=QA (e.nm ct).nc (x.den e).1.toNat [e.cap r],i2:=QA (e.nm ct).i2 (x.den e).1.toNat [e.int rc],b2:=QA (e.nm ct).b2 (x.den e).1.toNat [e.bool rc]},_,by simp only [LX.den];rw [hb];simp [add_mid],hrun,?_⟩
        have at0:∀{α:Type} (f:Nat→α) (y:α),QA f (x.den e).1.toNat [y] (x.den e).1.toNat=y:=fun f y=>JD (p:=(x.den e).1.toNat) (j:=0) rfl
        have at1:∀{α:Type} (f:Nat→α) (y:α) (i:Nat),i≠(x.den e).1.toNat→QA f (x.den e).1.toNat [y] i=f i:=fun f y i hi=>ZA (by simp only [List.length_singleton];omega)
        have hdr:(⟨d,.nr ks len ct (some x)⟩:Bk)∈(YK s r).hp:=List.mem_filter.2 ⟨hmD,by simpa using fun h:d=r=>hrd h.symm⟩
        have hpm:(YY (YK s r) d (.nr ks len id none)).hp.Perm (⟨d,.nr ks len id none⟩ :: (YK s r).hp.filter fun y=> !(y.id==d)):=QbC (hR.nodup_del r) hdr (.nr ks len id none)
        refine Rel.cond1 (hR'.turn (rem:= [⟨r,.row ks rl rc⟩,⟨d,.nr ks len ct (some x)⟩]) (kept:=(YK s r).hp.filter fun y=> !(y.id==d)) (new:= [⟨d,.nr ks len id none⟩]) ?_ hpm ?_ ?_ (List.pairwise_singleton ..) ?_ ?_ (ZF _ _ hR.bl hg)) ?_
        ·exact(V6 hR.nd hmR).trans (List.Perm.cons _ (V6 (hR.nodup_del r) hdr))
        ·show((YY (YK s r) d (.nr ks len id none)).hp.map (·.id)).Nodup;rw [(hpm.map _).nodup_iff];have:=(V6 (hR.nodup_del r) hdr).map (·.id);rw [List.map_cons]at this ⊢;exact this.nodup_iff.1 (hR.nodup_del r)
        ·intro b hbm;rw [List.mem_singleton]at hbm;subst hbm;refine⟨g,t',_,by simp only [Env.base,Zj f1];exact hb,hg,JB _ _ hB (by simp only [List.length_singleton];omega),?_,?_,fun i hil _=>?_⟩
         ·rw [←SX.den_off hoff len f2];simp only [List.size_toArray,List.length_append,List.length_take,List.length_drop,Array.length_toList,List.length_singleton];show _=(len.den e).1.toNat;rw [←hsz];omega
         ·simp only [Env.cap,Zj f1];rw [←SX.den_off hoff len f2];exact hcap
         ·rw [←SX.den_off hoff len f2]at hil;simp only [Env.int,Env.set_at];rw [List.getElem?_toArray,WT _ _ _ _ (by simp only [Array.length_toList,List.length_singleton];omega)]
          simp only [List.length_singleton];by_cases hix:i=(x.den e).1.toNat
          ·subst hix;simp only [at0];rw [if_neg (by omega),if_pos (by omega),Nat.sub_self]
           refine⟨rfl,g3,hown.keep fun a ha=>Xx _ _ fun h=>?_,fun a ha h=>?_,fun j hj _ hne a a' ha ha' h=>?_⟩
           ·exact hap g (.inl ⟨_,hb,rfl⟩) ⟨a,ha,h⟩
           ·exact hap g (.inl ⟨_,hb,rfl⟩) ⟨a,ha,h⟩
           ·rw [at1 _ _ j (Ne.symm hne)]at ha';rw [←SX.den_off hoff len f2]at hj;exact hap a'.block (.inr ⟨j,hj,fun y hy=>by cases hy;exact Ne.symm (Ne.symm hne),a',ha',rfl⟩) ⟨a,ha,h⟩
          ·simp only [at1 _ _ i hix];obtain⟨c1,c2,c3,c4,c5⟩:=hi' i hil (fun y hy=>by cases hy;exact Ne.symm hix)
           refine⟨?_,c2,c3.keep fun a ha=>Xx _ _ (c4 a ha),c4,fun j hj _ hne a a' ha ha' h=>?_⟩
           ·have:cs.toList[i]?=some (.slice ((e.nm ct).nb i) (e.int ct i).toNat ((e.nm ct).nc i)):=by simpa using c1
            split
            ·exact this
            ·rw [if_neg (by omega)];exact this
           ·rw [←SX.den_off hoff len f2]at hj;by_cases hjx:j=(x.den e).1.toNat
            ·subst hjx;rw [at0]at ha';exact hap a.block (.inr ⟨i,hil,fun y hy=>by cases hy;exact Ne.symm hix,a,ha,rfl⟩) ⟨a',ha',h.symm⟩
            ·rw [at1 _ _ j hjx]at ha';exact c5 j hj (fun y hy=>by cases hy;exact Ne.symm hjx) hne a a' ha ha' h
        ·intro b hbm g' hg';rw [List.mem_singleton]at hbm;subst hbm;rcases hg' with ⟨a,ha,rfl⟩|⟨i,hil,_,a,ha,rfl⟩
         ·exact .inl ⟨_,List.mem_cons_of_mem _ (List.mem_singleton.2 rfl),.inl ⟨a,ha,rfl⟩⟩
         ·simp only [Env.set_at]at ha;by_cases hix:i=(x.den e).1.toNat
          ·subst hix;rw [at0]at ha;exact .inl ⟨_,List.mem_cons_self ..,a,by simp only [Env.base,Zj q1];exact ha,rfl⟩
          ·rw [at1 _ _ i hix]at ha;refine .inl ⟨_,List.mem_cons_of_mem _ (List.mem_singleton.2 rfl),.inr ⟨i,hil,fun y hy=>by cases hy;rw [←SX.den_off hoff x f4];exact Ne.symm hix,a,by rw [Zj f3];exact ha,rfl⟩⟩
        ·intro g' hg' hno;exact Xx _ _ fun h=>hno _ (List.mem_cons_of_mem _ (List.mem_singleton.2 rfl)) (.inl ⟨⟨g,0,none⟩,by simp only [Env.base,Zj f1];exact hb,h.symm⟩)
        ·show _∧_∧_;simp only [Env.int,Env.bool,Env.set_at,Zj f3,Zj q3];rw [←SX.den_off hoff x f4,←SX.den_off hoff rl q2];exact⟨rfl,rfl,rfl⟩
       ·cases h
      ·cases h
     ·cases h
   ·cases h
  ·cases h
theorem QdQ(hR:Rel C I G e0 w0 e s a ups w){id:Nat}{t ty:TypeId}{dst src:LX}{s':St}{v:LX}{xs:List SX}(h:Qfw P G.n0 s id t dst src=some (s',v,xs))(hx:∀x∈xs,(x.den e).2=true)(hdf:s.fr (nid id)=true→dst.fr (nid id)=true) :
 ∃e' w',(Builtin.append_ #[t,t] ty #[dst.den e,src.den e]).run P w= .ok (v.den e') w'∧Rel C I G e0 w0 e' s' a ups w':=by
 unfold Qfw at h;split at h
 ·cases h
 ·rename_i el sz hel;split at h
  ·rename_i hc;obtain⟨hid,hfr⟩:=hc;have hni:=Qbx hfr (V5 id);have hBw:w0.heap.size≤w.heap.size:=hR.bl.size;split at h
   ·rename_i d2;split at h
    ·rename_i ty2 cs hb2;split at h
     ·rename_i ks hkc;split at h
      ·rename_i hsz;have hkx:=Xt hkc;obtain⟨hlen,_⟩:=Z9 (e:=e) hkx;have hB2:Blk w (e.adr d2) ty2 (cs.map (·.den e)).toArray:=(hR.hp _ (Xo hb2)).2;have hks:ks.length=sz:=by rw [←hlen];exact hsz.1
       have csf:=(Qc2 hfr (Xo hb2)).2;split at h
       ·cases h;obtain⟨base',cap',w',hrun,hown,hleft⟩:=Own.append1 (P:=P) (e:=e) (B:=w0.heap.size) (w:=w) (base:=none) (len:=0) (cap:=0) (ks:=ks) (int:=fun _=>0) (bool:=fun _=>false) ⟨Nat.le_refl _,.inl ⟨rfl,rfl⟩⟩ hBw (ty:=ty) hel hsz.2 hks hkx hB2 (by omega)
        have hoff:=Env.off_set e id {Nm.zero with base:=base',cap:=cap',int:=QA (fun _=>0) (0 * ks.length) (cs.map (QZ e)),bool:=QA (fun _=>false) (0 * ks.length) (cs.map (Z4 e))}
        refine⟨_,w',?_,Rel.cond1 ((hR.off hoff hfr (Jw hid)).push (b:=⟨id,.row ks (.i 1) id⟩) hni ?_ ?_ ?_) ?_⟩
        ·simp only [LX.den,Env.base,Env.cap,Env.set_at];exact hrun
        ·exact⟨hleft.os,hleft.tape,hleft.output,hleft.size,fun k hk=>hleft.block k hk fun a ha=>by cases ha⟩
        ·show Own _ _ (Env.base _ id) _ (Env.cap _ id) ks (Env.int _ id) (Env.bool _ id);simp only [Env.base,Env.cap,Env.int,Env.bool,Env.set_at];exact hown
        ·rintro g ⟨a',ha',rfl⟩;simp only [Env.base,Env.set_at]at ha';rcases hleft.at_ with h1|⟨a1,h1,h2⟩
         ·rw [h1]at ha';cases ha'
         ·rw [h1]at ha';cases ha';exact h2
        ·show _∧_;simp only [Env.int,Env.bool,Env.set_at,JO hoff csf,JN hoff csf,SX.den];rw [←hks];exact⟨rfl,rfl⟩
       ·rename_i d len;split at h
        ·rename_i ks' len' ct hr;split at h
         ·rename_i hkl;obtain⟨rfl,rfl⟩:=hkl;cases h;have g1:=Zn (hx _ (List.mem_cons_self ..));have g2:=WO (hx _ (List.mem_cons_of_mem _ (List.mem_cons_self ..)));simp only [QdX,SX.den]at g2;have hm:=Y5 hr;obtain⟨f1,f2,f3⟩:=QbA hfr hm;obtain⟨base',cap',w',hrun,hown,hleft⟩:=(hR.own hr).append1 (P:=P) (e:=e) hBw (ty:=ty) hel hsz.2 hks hkx hB2 (by omega)
          have hoff:=Env.off_set e id {Nm.zero with base:=base',cap:=cap',int:=QA (e.int ct) ((len'.den e).1.toNat * ks'.length) (cs.map (QZ e)),bool:=QA (e.bool ct) ((len'.den e).1.toNat * ks'.length) (cs.map (Z4 e))}
          have hR':=hR.off hoff hfr (Jw hid)
          have hls:((SX.mkO .add .i64 len' (.i 1)).den (e.set id {Nm.zero with base:=base',cap:=cap',int:=QA (e.int ct) ((len'.den e).1.toNat * ks'.length) (cs.map (QZ e)),bool:=QA (e.bool ct) ((len'.den e).1.toNat * ks'.length) (cs.map (Z4 e))})).1.toNat=(len'.den e).1.toNat+1:=by
           rw [Qhz _ (by rw [←SX.den_off hoff len' f2];exact g1) (by rw [←SX.den_off hoff len' f2];exact g2),←SX.den_off hoff len' f2]
          refine⟨_,w',?_,Rel.cond1 (hR'.turn (rem:= [⟨d,.row ks' len' ct⟩]) (kept:=(YK s d).hp) (new:= [⟨id,.row ks' (SX.mkO .add .i64 len' (.i 1)) id⟩]) (Wm hR hm) (Xr _ _) (WJ (hR.nodup_del d) (Qcs hni)) ?_ (List.pairwise_singleton ..) ?_ ?_ ?_) ?_⟩
          ·show _=Result.ok (Value.slice (Env.base _ id) ((SX.mkO .add .i64 len' (.i 1)).den _).1.toNat (Env.cap _ id)) w';rw [hls];simp only [Env.base,Env.cap,Env.set_at];exact hrun
          ·intro b hb;rw [List.mem_singleton]at hb;subst hb;show Own _ _ (Env.base _ id) ((SX.mkO .add .i64 len' (.i 1)).den _).1.toNat (Env.cap _ id) ks' (Env.int _ id) (Env.bool _ id);rw [hls];simp only [Env.base,Env.cap,Env.int,Env.bool,Env.set_at];exact hown
          ·intro b hb g hg;rw [List.mem_singleton]at hb;subst hb;obtain⟨a',ha',rfl⟩:=hg;simp only [Env.base,Env.set_at]at ha';rcases hleft.at_ with h1|⟨a1,h1,h2⟩
           ·exact .inl ⟨_,List.mem_singleton.2 rfl,a',by simp only [Env.base,Zj f1];exact h1.symm.trans ha',rfl⟩
           ·rw [h1]at ha';cases ha';exact .inr h2
          ·intro g hg hno;exact hleft.block g hg fun a' ha' hag=>hno _ (List.mem_singleton.2 rfl) ⟨a',by simp only [Env.base,Zj f1];exact ha',hag⟩
          ·exact hleft.below hR.bl fun a' ha'=>((hR.own hr).fp ha').1
          ·show _∧_;simp only [Env.int,Env.bool,Env.set_at,Zj f3,JO hoff csf,JN hoff csf,←SX.den_off hoff len' f2];rw [←hks];exact⟨rfl,rfl⟩
         ·cases h
        ·cases h
       ·rename_i c y;split at h
        ·rename_i d ks' l hn;split at h
         ·rename_i hkk;subst hkk;cases h;have g1:=Zn (hx _ (List.mem_cons_self ..));have g2:=ZB (hx _ (List.mem_cons_of_mem _ (List.mem_cons_self ..)));have g3:=WO (hx _ (List.mem_cons_of_mem _ (List.mem_cons_of_mem _ (List.mem_cons_self ..))));simp only [QdX,SX.den,Nat.mul_one,Nat.add_zero]at g3;have hm:=Qdd hn;obtain⟨f1,f2,f3,_⟩:=Qth hfr hm
          have yf:y.fr (nid id)=true:=by
           have:=hdf hfr;simp only [LX.fr,Bool.and_eq_true]at this;exact this.2
          obtain⟨g,t',bs,hb,hg,hB,hbs,hcap,hi'⟩:=hR.hp _ hm;replace hb:e.base d=some ⟨g,0,none⟩:=hb;obtain⟨c1,c2,c3,c4,c5⟩:=hi' (y.den e).1.toNat (by omega) (fun x hx=>by cases hx)
          obtain⟨base',cap',w',hrun,hown,hleft⟩:=c3.append1 (P:=P) (e:=e) hBw (ty:=ty) hel hsz.2 hks hkx hB2 (by omega)
          have hoff:=Env.off_set e id {Nm.zero with base:=base',cap:=cap',int:=QA ((e.nm c).i2 (y.den e).1.toNat) ((e.int c (y.den e).1.toNat).toNat * ks'.length) (cs.map (QZ e)),bool:=QA ((e.nm c).b2 (y.den e).1.toNat) ((e.int c (y.den e).1.toNat).toNat * ks'.length) (cs.map (Z4 e))}
          have hR':=hR.off hoff hfr (Jw hid);generalize hm':({Nm.zero with base:=base',cap:=cap',int:=QA ((e.nm c).i2 (y.den e).1.toNat) ((e.int c (y.den e).1.toNat).toNat * ks'.length) (cs.map (QZ e)),bool:=QA ((e.nm c).b2 (y.den e).1.toNat) ((e.int c (y.den e).1.toNat).toNat * ks'.length) (cs.map (Z4 e))}:Nm)=m' at *
          have m1:m'.base=base':=by rw [←hm']
          have m2:m'.cap=cap':=by rw [←hm']
          have m3:m'.int=QA ((e.nm c).i2 (y.den e).1.toNat) ((e.int c (y.den e).1.toNat).toNat * ks'.length) (cs.map (QZ e)):=by rw [←hm']
          have m4:m'.bool=QA ((e.nm c).b2 (y.den e).1.toNat) ((e.int c (y.den e).1.toNat).toNat * ks'.length) (cs.map (Z4 e)):=by rw [←hm']
          clear hm';have hyd:(y.den (e.set id m'))=y.den e:=(SX.den_off hoff y yf).symm
          have hls:((SX.mkO .add .i64 (.r c 1 0 y) (.i 1)).den (e.set id m')).1.toNat=(e.int c (y.den e).1.toNat).toNat+1:=by
           have:((SX.r c 1 0 y).den (e.set id m')).1=e.int c (y.den e).1.toNat:=by simp only [SX.den,Env.int,Zj f3,hyd,Nat.mul_one,Nat.add_zero]
           rw [Qhz _ (by rw [this];exact c2) (by rw [this];exact g3),this]
          have inner:∀a',base'=some a'→(∃a1,(e.nm c).nb (y.den e).1.toNat=some a1∧a1.block=a'.block)∨w.heap.size≤a'.block:=fun a' ha'=>by
           rcases hleft.at_ with h1|⟨a1,h1,h2⟩
           ·rw [h1]at ha';exact .inl ⟨a',ha',rfl⟩
           ·rw [h1]at ha';cases ha';exact .inr h2
          have hpm:(YY s d (.nr ks' l c (some y))).hp.Perm ([⟨d,.nr ks' l c (some y)⟩] ++ (YK s d).hp):=QbC hR.nd hm _
          have hnid:id∉(YY s d (.nr ks' l c (some y))).hp.map (·.id):=fun hmm=>by
           obtain⟨b,hb',hbe⟩:=List.mem_map.1 hmm;rcases List.mem_append.1 (hpm.mem_iff.1 hb')with h|h
           ·rw [List.mem_singleton]at h;subst h;exact QtO f1 hbe
           ·exact Qcs (d:=d) hni (List.mem_map.2 ⟨b,h,hbe⟩)
          refine⟨e.set id m',w',?_,Rel.cond1 (hR'.turn (rem:= [⟨d,.nr ks' l c none⟩]) (kept:=(YK s d).hp) (new:= [⟨id,.row ks' (SX.mkO .add .i64 (.r c 1 0 y) (.i 1)) id⟩,⟨d,.nr ks' l c (some y)⟩]) (Wm hR hm) ((Xr _ _).trans (List.Perm.cons _ hpm)) ?_ ?_ ?_ ?_ ?_ ?_) ?_⟩
          ·show _=Result.ok (Value.slice (Env.base _ id) ((SX.mkO .add .i64 (.r c 1 0 y) (.i 1)).den _).1.toNat (Env.cap _ id)) w';rw [hls];simp only [Env.base,Env.cap,Env.set_at,m1,m2];exact hrun
          ·refine WJ ?_ hnid;rw [(hpm.map _).nodup_iff];have:=(Wm hR hm).map (·.id);rw [List.map_append]at this ⊢;exact this.nodup_iff.1 hR.nd
          ·intro b hbm;rcases List.mem_cons.1 hbm with rfl|hbm
           ·show Own _ _ (Env.base _ id) ((SX.mkO .add .i64 (.r c 1 0 y) (.i 1)).den _).1.toNat (Env.cap _ id) ks' (Env.int _ id) (Env.bool _ id);rw [hls];simp only [Env.base,Env.cap,Env.int,Env.bool,Env.set_at,m1,m2,m3,m4];exact hown
           ·rw [List.mem_singleton]at hbm;subst hbm;refine⟨g,t',bs,by simp only [Env.base,Zj f1];exact hb,hg,(hleft.block g hB.lt fun a' ha'=>c4 a' ha').trans hB,by rw [←SX.den_off hoff l f2];exact hbs,by simp only [Env.cap,Zj f1];rw [←SX.den_off hoff l f2];exact hcap,fun i hil hiy=>?_⟩
            rw [←SX.den_off hoff l f2]at hil
            have hiy':i≠(y.den e).1.toNat:=by
             have:=hiy y rfl;rw [hyd]at this;exact Ne.symm this
            simp only [Env.int,Zj f3];obtain⟨d1,d2',d3,d4,d5⟩:=hi' i hil (fun x hx=>by cases hx)
            refine⟨d1,d2',d3.keep fun a' ha'=>hleft.block _ (d3.fp ha').2 fun a1 ha1=>c5 i hil (fun x hx=>by cases hx) (Ne.symm hiy') a1 a' ha1 ha',d4,fun j hj hjy hne a' a1 ha' ha1=>?_⟩
            rw [←SX.den_off hoff l f2]at hj;exact d5 j hj (fun x hx=>by cases hx) hne a' a1 ha' ha1
          ·refine List.pairwise_cons.2 ⟨fun b hbm gg h1 h2=>?_,List.pairwise_singleton ..⟩
           rw [List.mem_singleton]at hbm;subst hbm;obtain⟨a',ha',rfl⟩:=h1;simp only [Env.base,Env.set_at,m1]at ha';rcases h2 with ⟨a1,ha1,hbl⟩|⟨i,hil,hiy,a1,ha1,hbl⟩
           ·simp only [Env.base,Zj f1]at ha1;rw [show(e.nm d).base=_ from hb]at ha1
            cases ha1;rcases inner a' ha' with ⟨a2,ha2,h3⟩|h3
            ·exact c4 a2 ha2 (h3.trans hbl.symm)
            ·have:=hB.lt;simp only at hbl;omega
           ·rw [←SX.den_off hoff l f2]at hil
            have hiy':i≠(y.den e).1.toNat:=by
             have:=hiy y rfl;rw [hyd]at this;exact Ne.symm this
            rw [Zj f3]at ha1;obtain⟨d1,d2',d3,d4,d5⟩:=hi' i hil (fun x hx=>by cases hx)
            rcases inner a' ha' with ⟨a2,ha2,h3⟩|h3
            ·exact c5 i hil (fun x hx=>by cases hx) (Ne.symm hiy') a2 a1 ha2 ha1 (h3.trans hbl.symm)
            ·have:=(d3.fp ha1).2;omega
          ·intro b hbm gg hgg;rcases List.mem_cons.1 hbm with rfl|hbm
           ·obtain⟨a',ha',rfl⟩:=hgg;simp only [Env.base,Env.set_at,m1]at ha';rcases inner a' ha' with ⟨a2,ha2,h3⟩|h3
            ·exact .inl ⟨_,List.mem_singleton.2 rfl,.inr ⟨(y.den e).1.toNat,by rw [←SX.den_off hoff l f2];omega,(fun x hx=>by cases hx),a2,by rw [Zj f3];exact ha2,h3⟩⟩
            ·exact .inr h3
           ·rw [List.mem_singleton]at hbm;subst hbm;refine .inl ⟨_,List.mem_singleton.2 rfl,?_⟩;rcases hgg with h1|⟨i,hil,_,a1,ha1,hbl⟩
            ·exact .inl h1
            ·exact .inr ⟨i,hil,(fun x hx=>by cases hx),a1,ha1,hbl⟩
          ·intro gg hgg hno;refine hleft.block gg hgg fun a' ha' hag=>hno _ (List.mem_singleton.2 rfl) (.inr ⟨(y.den e).1.toNat,by rw [←SX.den_off hoff l f2];omega,(fun x hx=>by cases hx),a',by rw [Zj f3];exact ha',hag⟩)
          ·exact hleft.below hR.bl fun a' ha'=>(c3.fp ha').1
          ·show _∧_;simp only [Env.int,Env.bool,Env.set_at,Zj f3,JO hoff csf,JN hoff csf,hyd,m3,m4];rw [←hks];exact⟨rfl,rfl⟩
         ·cases h
        ·cases h
       ·cases h
      ·cases h
     ·cases h
    ·cases h
   ·rename_i d2 l2;split at h
    ·rename_i d1 ks l2' ct hr;split at h
     ·rename_i ty1 hb1;split at h
      ·rename_i hc;obtain⟨rfl,hks,hz,hne⟩:=hc;cases h;have g1:=Zn (hx _ (List.mem_cons_self ..));have g2:=WO (hx _ (List.mem_cons_of_mem _ (List.mem_cons_self ..)));simp only [QdX,SX.den]at g2;have hm:=Xo hb1;have hB1:w0.heap.size≤e.adr d1∧Blk w (e.adr d1) ty1 (([]:List LX).map (·.den e)).toArray:=hR.hp _ hm;have hA:=hR.rowAt hr
       obtain⟨base',cap',w',hrun,hown,hleft⟩:=Own.appendAll (P:=P) (ty:=ty) (c2:=e.cap d2) hB1.1 hB1.2 hBw hel hz hks hA (fun hn=>by
        rcases Nat.eq_zero_or_pos (l2'.den e).1.toNat with h|h
        ·exact h
        ·obtain⟨a',ha',_⟩:=hA 0 h;rw [hn]at ha';cases ha') (by omega)
       have hf2:l2'.fr (nid id)=true∧nid id ct=true:=by
        unfold W1 at hr;split at hr
        ·rename_i id' ks' len' ct' ho;simp only [Option.some.injEq,Prod.mk.injEq]at hr;obtain⟨rfl,rfl,rfl⟩:=hr;obtain⟨hm2,rfl⟩:=Jx ho;exact⟨(QbA hfr hm2).2.1,(QbA hfr hm2).2.2⟩
        ·cases hr
        ·split at hr
         ·rename_i r hr';simp only [Option.some.injEq,Prod.mk.injEq]at hr;obtain⟨rfl,rfl,rfl⟩:=hr;simp only [St.fr,Bool.and_eq_true]at hfr;have:=List.all_eq_true.1 hfr.1.2 r (List.mem_of_find?_eq_some hr');simp only [Rw.fr,Bool.and_eq_true]at this;exact⟨this.2,this.1⟩
         ·cases hr
       obtain⟨f1,_⟩:=Qc2 hfr hm;have hoff:=Env.off_set e id {Nm.zero with base:=base',cap:=cap'}
       have hR':=hR.off hoff hfr (Jw hid);refine⟨_,w',?_,hR'.turn (rem:= [⟨d1,.cells ty1 []⟩]) (kept:=(YK s d1).hp) (new:= [⟨id,.row ks l2' ct⟩]) (Wm hR hm) (Xr _ _) (WJ (hR.nodup_del d1) (Qcs hni)) ?_ (List.pairwise_singleton ..) ?_ ?_ ?_⟩
       ·show _=Result.ok (Value.slice (Env.base _ id) (l2'.den _).1.toNat (Env.cap _ id)) w';rw [←SX.den_off hoff l2' hf2.1];simp only [Env.base,Env.cap,Env.set_at];exact hrun
       ·intro b hb;rw [List.mem_singleton]at hb;subst hb;show Own _ _ (Env.base _ id) (l2'.den _).1.toNat (Env.cap _ id) ks (Env.int _ ct) (Env.bool _ ct);rw [←SX.den_off hoff l2' hf2.1];simp only [Env.base,Env.cap,Env.int,Env.bool,Env.set_at,Zj hf2.2];exact hown
       ·intro b hb g hg;rw [List.mem_singleton]at hb;subst hb;obtain⟨a',ha',rfl⟩:=hg;simp only [Env.base,Env.set_at]at ha';rcases hleft.at_ with h1|⟨a1,h1,h2⟩
        ·refine .inl ⟨_,List.mem_singleton.2 rfl,?_⟩;rw [h1]at ha';cases ha';show _=Env.adr _ d1;simp only [Env.adr,Zj f1]
        ·rw [h1]at ha';cases ha';exact .inr h2
       ·intro g hg hno;refine hleft.block g hg fun a' ha' hag=>hno _ (List.mem_singleton.2 rfl) ?_
        cases ha';show g=Env.adr _ d1;simp only [Env.adr,Zj f1];exact hag.symm
       ·exact hleft.below hR.bl fun a' ha'=>by cases ha';exact hB1.1
      ·cases h
     ·cases h
    ·cases h
   ·split at h
    ·rename_i d1;split at h
     ·rename_i ty1 ks hb1 hz;split at h
      ·rename_i hks;cases h;have hm:=Xo hb1;have hB1:w0.heap.size≤e.adr d1∧Blk w (e.adr d1) ty1 (([]:List LX).map (·.den e)).toArray:=hR.hp _ hm;obtain⟨base',cap',w',hrun,hown,hleft⟩:=Own.appendAll (P:=P) (ty:=ty) (c2:=0) (base:=none) (len:=0) (int:=fun _=>0) (bool:=fun _=>false) hB1.1 hB1.2 hBw hel hz hks (fun i hi=>by omega) (fun _=>rfl) (by omega)
       obtain⟨f1,_⟩:=Qc2 hfr hm;have hoff:=Env.off_set e id {Nm.zero with base:=base',cap:=cap'}
       have hR':=hR.off hoff hfr (Jw hid);refine⟨_,w',?_,Rel.cond1 (hR'.turn (rem:= [⟨d1,.cells ty1 []⟩]) (kept:=(YK s d1).hp) (new:= [⟨id,.row ks (.i 0) id⟩]) (Wm hR hm) (Xr _ _) (WJ (hR.nodup_del d1) (Qcs hni)) ?_ (List.pairwise_singleton ..) ?_ ?_ ?_) ?_⟩
       ·show _=Result.ok (Value.slice (Env.base _ id) 0 (Env.cap _ id)) w';simp only [Env.base,Env.cap,Env.set_at];exact hrun
       ·intro b hb;rw [List.mem_singleton]at hb;subst hb;show Own _ _ (Env.base _ id) 0 (Env.cap _ id) ks (Env.int _ id) (Env.bool _ id);simp only [Env.base,Env.cap,Env.int,Env.bool,Env.set_at];exact hown
       ·intro b hb g hg;rw [List.mem_singleton]at hb;subst hb;obtain⟨a',ha',rfl⟩:=hg;simp only [Env.base,Env.set_at]at ha';rcases hleft.at_ with h1|⟨a1,h1,h2⟩
        ·refine .inl ⟨_,List.mem_singleton.2 rfl,?_⟩;rw [h1]at ha';cases ha';show _=Env.adr _ d1;simp only [Env.adr,Zj f1]
        ·rw [h1]at ha';cases ha';exact .inr h2
       ·intro g hg hno;refine hleft.block g hg fun a' ha' hag=>hno _ (List.mem_singleton.2 rfl) ?_
        cases ha';show g=Env.adr _ d1;simp only [Env.adr,Zj f1];exact hag.symm
       ·exact hleft.below hR.bl fun a' ha'=>by cases ha';exact hB1.1
       ·show _∧_;simp only [Env.int,Env.bool,Env.set_at];exact⟨rfl,rfl⟩
      ·cases h
     ·cases h
    ·cases h
   ·rename_i d2 k2 _;split at h
    ·rename_i d1 m;split at h
     ·rename_i ty1 us ty2 vs q hb1 hb2 hz;split at h
      ·rename_i hc;obtain⟨rfl,⟨rfl,rfl⟩,c3,c4,c5,c6⟩:=hc;cases h;have hB1:w0.heap.size≤e.adr d1∧Blk w (e.adr d1) ty1 (us.map (·.den e)).toArray:=hR.hp _ (Xo hb1);have hB2:w0.heap.size≤e.adr d2∧Blk w (e.adr d2) ty2 (vs.map (·.den e)).toArray:=hR.hp _ (Xo hb2);obtain⟨base',cap',int',bool',w',hrun,hown,hleft⟩:=Own.appendFull (P:=P) (t:=t) (ty:=ty) hB1.2 hB2.2 hBw hel hz c5 c6 c3 c4
       have hoff:=Env.off_set e id {Nm.zero with base:=base',cap:=cap',int:=int',bool:=bool'}
       refine⟨_,w',?_,(hR.off hoff hfr (Jw hid)).push (b:=⟨id,.row [q] (.i ((us.length+vs.length:Nat):Int)) id⟩) hni ?_ ?_ ?_⟩
       ·show _=Result.ok (Value.slice (Env.base _ id) (((us.length+vs.length:Nat):Int)).toNat (Env.cap _ id)) w';simp only [Env.base,Env.cap,Env.set_at,Int.toNat_natCast];exact hrun
       ·exact⟨hleft.os,hleft.tape,hleft.output,hleft.size,fun k hk=>hleft.block k hk fun a ha=>by cases ha⟩
       ·show Own _ _ (Env.base _ id) (((us.length+vs.length:Nat):Int)).toNat (Env.cap _ id) [q] (Env.int _ id) (Env.bool _ id);simp only [Env.base,Env.cap,Env.int,Env.bool,Env.set_at,Int.toNat_natCast];exact hown
       ·rintro g ⟨a',ha',rfl⟩;simp only [Env.base,Env.set_at]at ha';rcases hleft.at_ with h1|⟨a1,h1,h2⟩
        ·rw [h1]at ha';cases ha'
        ·rw [h1]at ha';cases ha';exact h2
      ·cases h
     ·cases h
    ·cases h
   ·cases h
  ·cases h
theorem QhR(hR:Rel C I G e0 w0 e s a ups w){id:Nat}{t:TypeId}{n:SX}{s':St}{v:LX}{xs:List SX}(h:QqU P G.n0 s id t n=some (s',v,xs))(hx:∀x∈xs,(x.den e).2=true)(hnf:s.fr (nid id)=true→n.fr (nid id)=true) :
 ∃e' w',(Instr.makeSlice t (.int .i64 (n.den e).1) (.int .i64 (n.den e).1)).run P w= .ok (v.den e') w'∧Rel C I G e0 w0 e' s' a ups w':=by
 unfold QqU at h;split at h
 ·cases h
 ·rename_i el sz hel;obtain⟨i,hu,hi,hby,hisz⟩:=XO hel;split at h
  ·rename_i hc;obtain⟨hid,hfr⟩:=hc;have hni:=Qbx hfr (V5 id);have nf:=hnf hfr
   have run:∀z,i.zero=some z→0≤(n.den e).1→(n.den e).1≤1000000→(Instr.makeSlice t (.int .i64 (n.den e).1) (.int .i64 (n.den e).1)).run P w= .ok (.slice (some ⟨w.heap.size,0,none⟩) (n.den e).1.toNat (n.den e).1.toNat) (w.alloc (.cells (madeCells z.cells ((n.den e).1.toNat * i.size)) el)):=fun z hz h0 h1=>
    run_make w t el i z hu hi hz .i64 .i64 _ _ h0 (by omega) (by
     have:=Int.mul_le_mul (show(i.bytes:Int)≤100000 by omega) h1 h0 (by omega)
     omega) (by omega)
   have below:∀o:Obj,Below w.heap.size w (w.alloc o):=fun o=>(Below.refl _ w).alloc (Nat.le_refl _) o
   split at h
   ·split at h
    ·rename_i e2 ks hz hks;split at h
     ·rename_i hsz;cases h;have g1:=Zn (hx _ (List.mem_cons_self ..));have g2:=WO (hx _ (List.mem_cons_of_mem _ (List.mem_cons_self ..)));simp only [QdX,SX.den]at g2;obtain⟨i',hi',hz'⟩:=Option.bind_eq_some_iff.1 hz;rw [hi]at hi';cases hi';have hrun:=run _ hz' g1 g2;have hoff:=Env.off_set e id {Nm.zero with base:=some ⟨w.heap.size,0,none⟩,cap:=(n.den e).1.toNat}
      refine⟨_,w.alloc (.cells (madeCells (Value.slice none 0 0).cells ((n.den e).1.toNat * i.size)) el),?_,Rel.cond1 ((hR.off hoff hfr (Jw hid)).push (b:=⟨id,.nr ks n id none⟩) hni (below _) ?_ ?_) ?_⟩
      ·show _=Result.ok (Value.slice (Env.base _ id) (n.den _).1.toNat (Env.cap _ id)) _;rw [←SX.den_off hoff n nf];simp only [Env.base,Env.cap,Env.set_at];exact hrun
      ·refine⟨w.heap.size,el,_,by simp only [Env.base,Env.set_at],hR.bl.size,Blk.new w _ _,?_,?_,fun j hj _=>?_⟩
       ·rw [←SX.den_off hoff n nf,size_madeCells,hisz,hsz,Nat.mul_one]
       ·rw [←SX.den_off hoff n nf];simp only [Env.cap,Env.set_at]
       ·rw [←SX.den_off hoff n nf]at hj;simp only [Env.int,Env.set_at];refine⟨?_,Int.le_refl 0,⟨Nat.le_refl _,.inl ⟨rfl,rfl⟩⟩,(fun a' ha'=>by cases ha'),fun j' _ _ _ a' a1 ha'=>by cases ha'⟩
        simp only [madeCells,Array.getElem?_map,hisz,hsz,Nat.mul_one];rw [Array.getElem?_eq_getElem (by simpa using hj)]
        simp [Value.cells,Nm.zero,Nat.mod_one]
      ·rintro g (⟨a',ha',rfl⟩|⟨j,hj,_,a',ha',rfl⟩)
       ·simp only [Env.base,Env.set_at]at ha';cases ha';exact Nat.le_refl _
       ·simp only [Env.set_at]at ha';cases ha'
      ·show _∧_;simp only [Env.int,Env.bool,Env.set_at];exact⟨rfl,rfl⟩
     ·cases h
    ·cases h
   ·split at h
    ·rename_i ks hks;split at h
     ·rename_i hsz;cases h;have g1:=Zn (hx _ (List.mem_cons_self ..));have g2:=WO (hx _ (List.mem_cons_of_mem _ (List.mem_cons_self ..)));simp only [QdX,SX.den]at g2;obtain⟨i',z,hi',hz,hzs,hzc⟩:=Yd hks;rw [hi]at hi';cases hi';have hrun:=run _ hz g1 g2;rw [hisz,←hsz]at hrun;have hoff:=Env.off_set e id {Nm.zero with base:=some ⟨w.heap.size,0,none⟩,cap:=(n.den e).1.toNat}
      refine⟨_,w.alloc (.cells (madeCells z.cells ((n.den e).1.toNat * ks.length)) el),?_,Rel.cond1 ((hR.off hoff hfr (Jw hid)).push (b:=⟨id,.row ks n id⟩) hni (below _) ?_ ?_) ?_⟩
      ·show _=Result.ok (Value.slice (Env.base _ id) (n.den _).1.toNat (Env.cap _ id)) _;rw [←SX.den_off hoff n nf];simp only [Env.base,Env.cap,Env.set_at];exact hrun
      ·show Own _ _ (Env.base _ id) (n.den _).1.toNat (Env.cap _ id) ks (Env.int _ id) (Env.bool _ id);rw [←SX.den_off hoff n nf];simp only [Env.base,Env.cap,Env.int,Env.bool,Env.set_at];exact Qrh hR.bl.size hzs hzc
      ·rintro g ⟨a',ha',rfl⟩;simp only [Env.base,Env.set_at]at ha';cases ha';exact Nat.le_refl _
      ·show _∧_;simp only [Env.int,Env.bool,Env.set_at];exact⟨rfl,rfl⟩
     ·cases h
    ·cases h
  ·cases h
end
end Go.Proofs.YteplnamfpodmlaaGreat.T2
end
section
namespace Go.Proofs.YteplnamfpodmlaaGreat.T2
theorem Own.mono{B B':Nat}{w:World}{base:Option Addr}{len cap:Nat}{ks:List (Option IntKind)}{int:Nat→Int}{bool:Nat→Bool}(h:Own B w base len cap ks int bool)(hB:B'≤B):Own B' w base len cap ks int bool:=by
 obtain⟨h1,h2|⟨g,t,cs,h2,hg,h3⟩⟩:=h
 ·exact⟨h1,.inl h2⟩
 ·exact⟨h1,.inr ⟨g,t,cs,h2,Nat.le_trans hB hg,h3⟩⟩
theorem Qln(z:Array Value):(Array.range z.size).map (fun x=>z[x % z.size]!)=z:=by
 apply Array.ext
 ·simp
 ·intro i h1 h2;simp only [Array.getElem_map,Array.getElem_range];rw [Nat.mod_eq_of_lt h2,getElem!_pos z i h2]
section
variable{P:Program}{C:List (Kon P)}{I:List (Nat→Env→Prop)}{G:Cfg}{e0 e e':Env}{w0 w w':World}{s:St}{a:Act}{ups:List (List Value)}
theorem Qbi(e:Env){t:TypeId}{ks:List (Option IntKind)}(h:J2 P t=some ks):∃i z zs,P.info? t=some i∧i.zero=some z∧z.cells=((zs:List LX).map (·.den e)).toArray∧zs.length=ks.length:=by
 unfold J2 at h;split at h
 ·rename_i z hz;obtain⟨i,hi,hz'⟩:=Option.bind_eq_some_iff.1 hz;split at h
  ·rename_i cs hcs;split at h
   ·refine⟨i,z,cs,hi,hz',?_,(Z9 (e:=e) (Xt h)).1⟩;apply Array.ext';rw [←X7 (e:=e) hcs]
   ·cases h
  ·cases h
 ·cases h
theorem Qa0{t el:TypeId}{sz:Nat}{ks:List (Option IntKind)}{p:PX}(hel:Yt P t=some (el,sz))(hz:J2 P el=some ks)(h1:p.cells.length=sz)(h2:ks.length=sz)(hsp:0 < sz)(hsm:sz≤1000) :
 (Instr.buildSlice t 1 #[(0,p.den e)]).run P w= .ok (.slice (some ⟨w.heap.size,0,none⟩) 1 1) (w.alloc (.cells (p.cells.map (·.den e)).toArray el)):=by
 obtain⟨i,hu,hi,hby,hisz⟩:=XO hel;obtain⟨i',z,zs,hi',hzz,hzc,hzl⟩:=Qbi e hz;rw [hi]at hi';cases hi';have hzs:z.cells.size=sz:=by rw [hzc];simp [hzl,h2]
 have hfill:=XC (e:=e) (place:=fun i=>some (i * sz,sz)) (parts:= [(0,p)]) (cells:=zs) (cs:=p.cells) (by
  unfold Kp;simp only [Nat.zero_mul,Nat.zero_add,List.take_zero,List.nil_append];rw [if_pos ⟨h1,by rw [hzl,h2];exact Nat.le_refl _⟩,List.drop_of_length_le (by rw [hzl,h2];exact Nat.le_refl _),List.append_nil]
  rfl)
 rw [←hzc]at hfill;have hr:=Qln z.cells;rw [hzs]at hr;have hns:¬16777216 < sz:=by omega
 have h0:¬sz=0:=by omega
 simp only [List.map_cons,List.map_nil]at hfill;simp [Instr.buildSlice,run_underlying hu,sizeOf,typeInfo,zeroValue,hi,hzz,hisz,h0,hns,hr,hzs,hfill,newRow]
theorem WX{t el:TypeId}{sz:Nat}(hel:Yt P t=some (el,sz)):(Instr.buildSlice t 0 #[]).run P w= .ok (.slice (some ⟨w.heap.size,0,none⟩) 0 0) (w.alloc (.cells #[] el)):=by
 obtain⟨i,hu,hi,hby,hisz⟩:=XO hel;simp [Instr.buildSlice,run_underlying hu,sizeOf,typeInfo,hi,newRow,Instr.fill,show Array.range 0= #[]from rfl]
theorem Qi8{α:Type}{f:Nat→α}{xs ys:List α}{n:Nat}(hn:xs.length=n):QA (QA f 0 xs) n ys=QA f 0 (xs ++ ys):=by
 subst hn;funext j;unfold QA;simp only [Nat.zero_le,if_true,Nat.sub_zero];split
 ·rename_i h;rw [List.getElem?_append_right h,List.getElem?_eq_none (l:=xs) h];rfl
 ·rename_i h;rw [List.getElem?_append_left (by omega)]
theorem Qif(z:Array Value):(Array.range (2 * z.size)).map (fun x=>z[x % z.size]!)=z ++ z:=by
 apply Array.ext
 ·simp;omega
 ·intro i h1 h2;simp only [Array.getElem_map,Array.getElem_range];simp only [Array.size_map,Array.size_range]at h1;rcases Nat.lt_or_ge i z.size with h0|h0
  ·rw [Nat.mod_eq_of_lt h0,getElem!_pos z i h0,Array.getElem_append_left h0]
  ·have e1:i % z.size=i - z.size:=by rw [Nat.mod_eq_sub_mod h0,Nat.mod_eq_of_lt (by omega)]
   rw [e1,getElem!_pos z (i - z.size) (by omega),Array.getElem_append_right h0]
theorem Qa1{t el:TypeId}{sz:Nat}{ks:List (Option IntKind)}{p q:PX}(hel:Yt P t=some (el,sz))(hz:J2 P el=some ks)(h1:p.cells.length=sz)(h1':q.cells.length=sz)(h2:ks.length=sz)(hsp:0 < sz)(hsm:sz≤1000) :
 (Instr.buildSlice t 2 #[(0,p.den e),(1,q.den e)]).run P w= .ok (.slice (some ⟨w.heap.size,0,none⟩) 2 2) (w.alloc (.cells ((p.cells ++ q.cells).map (·.den e)).toArray el)):=by
 obtain⟨i,hu,hi,hby,hisz⟩:=XO hel;obtain⟨i',z,zs,hi',hzz,hzc,hzl⟩:=Qbi e hz;rw [hi]at hi';cases hi';have hzl2:zs.length=sz:=hzl.trans h2;have hzs:z.cells.size=sz:=by rw [hzc];simp [hzl2]
 have hfill:=XC (e:=e) (place:=fun i=>some (i * sz,sz)) (parts:= [(0,p),(1,q)]) (cells:=zs ++ zs) (cs:=p.cells ++ q.cells) (by
  unfold Kp;simp only [Nat.zero_mul,Nat.zero_add,List.take_zero,List.nil_append,List.length_append];rw [if_pos ⟨h1,by omega⟩]
  unfold Kp;simp only [Nat.one_mul,List.length_append,List.length_drop];rw [if_pos ⟨h1',by omega⟩]
  unfold Kp;rw [List.drop_append_of_le_length (by omega),List.drop_of_length_le (by omega),List.nil_append,List.take_append_of_le_length (by omega),List.take_of_length_le (by omega),List.drop_of_length_le (by simp only [List.length_append];omega),List.append_nil])
 rw [show(List.map (fun x=>LX.den e x) (zs ++ zs)).toArray=z.cells ++ z.cells by rw [hzc,List.map_append];simp]at hfill
 have hr:=Qif z.cells;rw [hzs]at hr;have hns:¬16777216 < 2 * sz:=by omega
 have h0:¬2 * sz=0:=by omega
 simp only [List.map_cons,List.map_nil]at hfill;simp [Instr.buildSlice,run_underlying hu,sizeOf,typeInfo,zeroValue,hi,hzz,hisz,h0,hns,hzs,hr,hfill,newRow]
theorem QoH(n:Nat)(v:Value):(Array.range n).map (fun x=>(#[v]:Array Value)[x % 1]!)=(List.replicate n v).toArray:=by
 apply Array.ext
 ·simp
 ·intro i h1 h2;simp [Nat.mod_one]
theorem W3{t el:TypeId}{n:Nat}{ps:List (Nat×PX)}{cs:List LX}(hel:Yt P t=some (el,1))(hn2:2≤n)(hn:n≤1000)
 (hf:(QtP P el).bind (fun z=>Kp (fun i=>some (i * 1,1)) (List.replicate n z) ps)=some cs) :
 (Instr.buildSlice t n (ps.map fun p=>(p.1,p.2.den e)).toArray).run P w= .ok (.slice (some ⟨w.heap.size,0,none⟩) n n) (w.alloc (.cells (cs.map (·.den e)).toArray el)):=by
 obtain⟨i,hu,hi,hby,hisz⟩:=XO hel;obtain⟨z,hz,hf⟩:=Option.bind_eq_some_iff.1 hf;unfold QtP at hz;rw [hi]at hz;simp only [Option.bind_some]at hz;split at hz
 ·rename_i zv hzv;split at hz
  ·rename_i x hx;cases hz
   have hzc:zv.cells= #[z.den e]:=by
    apply Array.ext';rw [←X7 (e:=e) hx];rfl
   have hfill:=XC (e:=e) hf;rw [List.map_replicate]at hfill;have hr:=QoH n (z.den e);have hns:¬16777216 < n:=by omega
   have h0:¬n=0:=by omega
   simp [Instr.buildSlice,run_underlying hu,sizeOf,typeInfo,zeroValue,hi,hzv,hisz,h0,hns,hzc];simp at hr hfill ⊢;rw [hr,hfill];simp [newRow]
  ·cases hz
 ·cases hz
theorem Qao(hR:Rel C I G e0 w0 e s a ups w){h:SH}{p:PX}(hf:Yg s h p=true):h.fits w (p.dat e (QbS s p)):=by
 unfold Yg at hf;split at hf
 ·exact⟨_,rfl⟩
 ·simp only [beq_iff_eq]at hf;subst hf;exact⟨_,rfl⟩
 ·rename_i ks xs;obtain⟨h1,h2⟩:=Z9 (e:=e) hf;refine⟨xs.map (·.den e),rfl,by simpa using h1,fun j k hk=>?_⟩
  have hjl:j < xs.length:=by
   rw [h1];rcases Nat.lt_or_ge j ks.length with h0|h0
   ·exact h0
   ·rw [List.getElem?_eq_none h0]at hk;cases hk
  have hx:=List.getElem?_eq_getElem hjl;exact⟨_,_,by rw [List.getElem?_map,hx,Option.map_some,h2 j _ k hx hk]⟩
 ·rename_i ks d len;split at hf
  ·rename_i ks' l ct hr;simp only [decide_eq_true_eq]at hf;have hA:=hR.rowAt hr;rw [hf.1,hf.2]at hA;refine⟨_,_,_,rfl,?_⟩;simp only [PX.dat,QbS,hr];exact hA
  ·cases hf
 ·exact⟨none,0,0,rfl,fun i hi=>by omega⟩
 ·cases hf
abbrev Qai(s:St)(ps:List PX):List (PX×Nat):=ps.map fun p=>(p,QbS s p)
theorem KS(hR:Rel C I G e0 w0 e s a ups w):∀{hs:List SH} {ps:List PX},Kq s hs ps=true→Qcw w hs ((Qai s ps).map (Jk e))
 | [],[],_=>trivial
 |h :: hs,p :: ps,hf=>by
  simp only [Kq,Bool.and_eq_true]at hf;exact⟨Qao hR hf.1,KS hR hf.2⟩
 | [],_ :: _,h=>by simp [Kq]at h
 |_ :: _,[],h=>by simp [Kq]at h
theorem Qqn(e:Env)(s:St)(ps:List PX):((Qai s ps).map (Jk e)).map (·.val)=ps.map (·.den e):=by
 simp [Qai,Jk,PX.dat_val]
theorem Kb{d j:Nat}(k:Option IntKind):(JP d j k).den e=Xu k (e.int d j) (e.bool d j):=by cases k <;> rfl
theorem JT{d:Nat}:∀(j:Nat) (ks:List (Option IntKind)),(Qa d j ks).map (·.den e)=ZL (e.int d) (e.bool d) j ks
 |_,[]=>rfl
 |j,k :: ks=>by simp only [Qa,ZL,List.map_cons,Kb,JT (j+1) ks]
theorem JV{d:Nat}:∀(j:Nat) (cs:List (Option IntKind ⊕ List (Option IntKind))),(J7 d j cs).map (·.den e)=YU (e.int d) (e.bool d) j cs
 |_,[]=>rfl
 |j,.inl k :: cs=>by rw [J7,List.map_cons,JV (j+1) cs];simp only [PX.den,Kb,YU]
 |j,.inr ks :: cs=>by rw [J7,List.map_cons,JV (j+ks.length) cs];simp only [PX.den,JT,YU]
theorem inst_sat{d:Nat}(r:RS):(RS.inst d r).sat e (r.val (e.int d) (e.bool d)):=by
 cases r with
 |no=>rfl
 |l k=>simp only [RS.inst,RS.val,VX.sat,PX.den,Kb]
 |a ks=>simp only [RS.inst,RS.val,VX.sat,PX.den,JT]
 |tp cs=>simp only [RS.inst,RS.val,VX.sat,JV]
theorem X5{f:FuncId}:∀{gs:List Sg} {n k:Nat} {g:Sg},JG f n gs=some (k,g)→g.f=f∧n≤k∧gs[k - n]?=some g
 | [],_,_,_,h=>by cases h
 |g0 :: gs,n,k,g,h=>by
  unfold JG at h;split at h
  ·rename_i hf;cases h;exact⟨hf,Nat.le_refl _,by simp⟩
  ·obtain⟨h1,h2,h3⟩:=X5 h;refine⟨h1,by omega,?_⟩
   rw [show k - n=(k - (n+1))+1 by omega,List.getElem?_cons_succ]
   exact h3
theorem Zp{k:Nat}{ps:List (PX×Nat)}{d:Nat}:∀{cs:List Cd},ZI k ps cs=some d→ .f d k ps∈cs
 | .f d' k' ps' :: cs,h=>by
   unfold ZI at h;split at h
   ·rename_i he;obtain⟨rfl,rfl⟩:=he;simp only [Option.some.injEq]at h;subst h;exact List.mem_cons_self ..
   ·exact List.mem_cons_of_mem _ (Zp h)
 | .c _ _ :: cs,h=>List.mem_cons_of_mem _ (Zp (by unfold ZI at h;exact h))
 | .g _ _ _ :: cs,h=>List.mem_cons_of_mem _ (Zp (by unfold ZI at h;exact h))
 | .z _ :: cs,h=>List.mem_cons_of_mem _ (Zp (by unfold ZI at h;exact h))
 | .u _ _ _ _ _ _ :: cs,h=>List.mem_cons_of_mem _ (Zp (by unfold ZI at h;exact h))
 | .w _ _ _ _ :: cs,h=>List.mem_cons_of_mem _ (Zp (by unfold ZI at h;exact h))
 | .a _ _ _ _ _ :: cs,h=>List.mem_cons_of_mem _ (Zp (by unfold ZI at h;exact h))
 | .nu _ _ _ _ _ _ :: cs,h=>List.mem_cons_of_mem _ (Zp (by unfold ZI at h;exact h))
theorem Qdf{ok:Nat→Bool}{v:Value}{x:LX}(h:ofL v=some x):x.fr ok=true:=by
 unfold ofL at h;split at h <;> simp only [Option.some.injEq,reduceCtorEq]at h <;> subst h <;> rfl
theorem QaU{ok:Nat→Bool}:∀{vs:List Value} {xs:List LX},K8 vs=some xs→xs.all (·.fr ok)=true
 | [],xs,h=>by simp only [K8,Option.some.injEq]at h;subst h;rfl
 |v :: vs,xs,h=>by
  unfold K8 at h;split at h
  ·rename_i x xs' h1 h2;cases h;rw [List.all_cons,Qdf h1,QaU h2];rfl
  ·cases h
theorem Qlg{ok:Nat→Bool}{v:Value}{x:PX}(h:ofV v=some x):x.fr ok=true:=by
 unfold ofV at h;split at h
 ·obtain⟨y,hy,rfl⟩:=Ql h;exact QaU hy
 ·obtain⟨y,hy,rfl⟩:=Ql h;exact Qdf hy
theorem Qam{hs:List SX}{s:St}{ok:Nat→Bool}(hf:s.tm.all (·.fr ok)=true){x:Operand}{p:PX}(h1:evP hs s x=some p):p.fr ok=true:=by
 unfold evP at h1;split at h1
 ·rename_i p' hv;simp only [Option.some.injEq]at h1;subst h1;unfold evV at hv;split at hv
  ·rename_i t;split at hv
   ·cases hv
   ·rename_i c z hz;split at hv
    ·simp only [Option.some.injEq,VX.v.injEq]at hv;subst hv;have:=List.all_eq_true.1 hf _ (List.mem_of_getElem? hz);simp only [VX.fr,Bool.and_eq_true]at this;exact this.2
    ·cases hv
   ·exact List.all_eq_true.1 hf _ (List.mem_of_getElem? hv)
  ·rename_i u;obtain⟨q,hq,hqv⟩:=Ql hv;cases hqv;exact Qlg hq
  ·cases hv
 ·cases h1
theorem QbZ{ok:Nat→Bool}{p:PX}(h:p.fr ok=true):p.cells.all (·.fr ok)=true:=by
 cases p with
 |l x=>simpa [PX.cells,PX.fr] using h
 |a xs=>exact h
theorem Qlk{hs:List SX}{s:St}{ok:Nat→Bool}(hf:s.tm.all (·.fr ok)=true){xs:List (Nat×Operand)}{i j:Nat}{p q:PX}(h:JI hs s xs=some [(i,p),(j,q)]):p.fr ok=true∧q.fr ok=true:=by
 have key:∀{xs:List (Nat×Operand)} {ps:List (Nat×PX)},JI hs s xs=some ps→∀x∈ps,x.2.fr ok=true:=by
  intro xs
  induction xs with
  |nil=>intro ps h x hx;simp only [JI,Option.some.injEq]at h;subst h;cases hx
  |cons y ys ih=>
   intro ps h x hx;unfold JI at h;split at h
   ·rename_i p ps' h1 h2;cases h;rcases List.mem_cons.1 hx with rfl|hx
    ·exact Qam hf h1
    ·exact ih h2 x hx
   ·cases h
 exact⟨key h _ (List.mem_cons_self ..),key h _ (List.mem_cons_of_mem _ (List.mem_cons_self ..))⟩
theorem YL{hs:List SX}{s:St}{ok:Nat→Bool}(hf:s.tm.all (·.fr ok)=true):∀{xs:List Operand} {ps:List PX},Ko hs s xs=some ps→ps.all (·.fr ok)=true
 | [],ps,h=>by simp only [Ko,Option.some.injEq]at h;subst h;rfl
 |x :: xs,ps,h=>by
  unfold Ko at h;split at h
  ·rename_i p ps' h1 h2;cases h;rw [List.all_cons,YL hf h2,Bool.and_true];exact Qam hf h1
  ·cases h
theorem QaZ{ok:Nat→Bool}(h:s.fr ok=true):s.tm.all (·.fr ok)=true:=by
 simp only [St.fr,Bool.and_eq_true]at h;exact h.1.1.1.1
theorem Qrn{ok:Nat→Bool}(h:s.fr ok=true){d ct:Nat}{ks:List (Option IntKind)}{len:SX}(hr:W1 s d=some (ks,len,ct)):ok ct=true:=by
 unfold W1 at hr;split at hr
 ·rename_i id' ks' len' ct' ho;simp only [Option.some.injEq,Prod.mk.injEq]at hr;obtain⟨rfl,rfl,rfl⟩:=hr;obtain⟨hm2,rfl⟩:=Jx ho;exact(QbA h hm2).2.2
 ·cases hr
 ·split at hr
  ·rename_i r hr';simp only [Option.some.injEq,Prod.mk.injEq]at hr;obtain⟨rfl,rfl,rfl⟩:=hr;simp only [St.fr,Bool.and_eq_true]at h;have:=List.all_eq_true.1 h.1.2 r (List.mem_of_find?_eq_some hr');simp only [Rw.fr,Bool.and_eq_true]at this;exact this.1
  ·cases hr
theorem Qn7{id:Nat}{m m':Nm}(hfr:s.fr (nid id)=true){ps:List PX}(hps:ps.all (·.fr (nid id))=true):(Qai s ps).map (Jk ((e.set id m).set (id+1) m'))=(Qai s ps).map (Jk e):=by
 have hoff:Env.off (nid id) e ((e.set id m).set (id+1) m'):=Env.off_trans (Env.off_set e id m) (Env.off_set' _ id m');simp only [Qai,List.map_map];refine List.map_congr_left fun p hp=>?_
 have hpf:=List.all_eq_true.1 hps p hp;show p.dat _ (QbS s p)=p.dat _ (QbS s p);cases p with
 |a xs=>simp only [PX.dat];rw [PX.den_off hoff _ hpf]
 |l x=>
  cases x with
  |sl d len=>
   simp only [QbS];split
   ·rename_i ks l ct hr;exact(PX.dat_off hoff _ ct hpf (Qrn hfr hr)).symm
   ·have hd:nid id d=true:=by
     simp only [PX.fr,LX.fr,Bool.and_eq_true]at hpf;exact hpf.1
    exact(PX.dat_off hoff _ d hpf hd).symm
  |_=>simp only [PX.dat];rw [PX.den_off hoff _ hpf]
theorem Rel.result(hR:Rel C I G e0 w0 e s a ups w){id k:Nat}{ps:List PX}(hps:ps.all (·.fr (nid id))=true)(hid:G.n0≤id)(hfr:s.fr (nid id)=true){c:Kon P}(hck:C[k]?=some c){m m':Nm}(hb:Below w.heap.size w w')(hpost:c.post ((Qai s ps).map (Jk e)) m m')(r:RZ)(hmem:r.mem w.heap.size w' m m') :
 Rel C I G e0 w0 ((e.set id m).set (id+1) m') {s with cd:= .f id k (Qai s ps) :: s.cd,hp:=r.blk id ++ s.hp} a ups w':=by
 have hoff:Env.off (nid id) e ((e.set id m).set (id+1) m'):=Env.off_trans (Env.off_set e id m) (Env.off_set' _ id m');have n0:((e.set id m).set (id+1) m').nm id=m:=by rw [Env.set_ne _ _ (by omega),Env.set_at]
 have n1:((e.set id m).set (id+1) m').nm (id+1)=m':=Env.set_at _ _ _;have hR1:=(hR.grow hb).off hoff hfr (Jw hid);have hcd:(Cd.f id k (Qai s ps)).holds C I ((e.set id m).set (id+1) m'):=⟨c,hck,by rw [Qn7 hfr hps,n0,n1];exact hpost⟩
 have hR0:=hR.off hoff hfr (Jw hid)
 have row:∀ks,Own w.heap.size w' m'.base (m.int 0).toNat m'.cap ks m'.int m'.bool→Rel C I G e0 w0 ((e.set id m).set (id+1) m') {s with hp:=⟨id+1,.row ks (.v id 0) (id+1)⟩ :: s.hp} a ups w':=fun ks hown=>by
  refine hR0.turn (rem:= []) (kept:=s.hp) (new:= [⟨id+1,.row ks (.v id 0) (id+1)⟩]) (List.Perm.refl _) (List.Perm.refl _) ?_ ?_ (List.pairwise_singleton ..) ?_ (fun g hg _=>hb.block g hg) (hR.bl.trans (hb.mono hR.bl.size))
  ·rw [List.map_cons,List.nodup_cons];exact⟨Qbx hfr (Qfd id),hR.nd⟩
  ·intro b hbm;rw [List.mem_singleton]at hbm;subst hbm;show Own _ _ (Env.base _ (id+1)) ((SX.v id 0).den _).1.toNat (Env.cap _ (id+1)) ks (Env.int _ (id+1)) (Env.bool _ (id+1));simp only [SX.den,Env.base,Env.cap,Env.int,Env.bool,n0,n1];exact hown.mono hR.bl.size
  ·intro b hbm g hg;rw [List.mem_singleton]at hbm;subst hbm;obtain⟨a',ha',rfl⟩:=hg;simp only [Env.base,n1]at ha';exact .inr (hown.fp ha').1
 cases r with
 |b r=>exact hR1.cond1 hcd
 |s ks=>exact(row ks hmem).cond1 hcd
 |se ks k'=>exact(row ks hmem).cond1 hcd
theorem RZ.inst_sat{id:Nat}{m m':Nm}(r:RZ):(r.inst id).sat ((e.set id m).set (id+1) m') (r.val m m'):=by
 have n0:((e.set id m).set (id+1) m').nm id=m:=by rw [Env.set_ne _ _ (by omega),Env.set_at]
 have n1:((e.set id m).set (id+1) m').nm (id+1)=m':=Env.set_at _ _ _;cases r with
 |b r=>
  have:=T2.inst_sat (e:=(e.set id m).set (id+1) m') (d:=id) r;simp only [Env.int,Env.bool,n0]at this;exact this
 |s ks=>simp only [RZ.inst,RZ.val,VX.sat,PX.den,LX.den,SX.den,Env.int,Env.base,Env.cap,n0,n1]
 |se ks k=>
  have h2:PX.den ((e.set id m).set (id+1) m') (.l (JP id 1 k))=Xu k (m.int 1) (m.bool 1):=by
   simp only [PX.den];rw [Kb];simp only [Env.int,Env.bool,n0]
  simp only [RZ.inst,RZ.val,VX.sat,List.map_cons,List.map_nil];rw [h2];simp only [PX.den,LX.den,SX.den,Env.int,Env.base,Env.cap,n0,n1]
theorem XN(hS:C.map (·.sg)=G.sg)(hR:Rel C I G e0 w0 e s a ups w){hs:List SX}(hk:Kn C I e s hs a){o:Oper}{f:FuncId}{args:Array Operand}{at_:Array TypeId}(hop:o.op= .call ⟨.value (.func f),args,at_⟩){k:Nat}{g:Sg}{ps:List PX}
 (hf:JG f 0 G.sg=some (k,g)) (hps:Ko hs s args.toList=some ps) {c:Kon P} (hck:C[k]?=some c) (hpre:c.pre ((Qai s ps).map (Jk e))) (hfx:Kq s g.args ps=true) :
 ∀K':Ending→World→Prop,(∀m m' w',Below w.heap.size w w'→c.post ((Qai s ps).map (Jk e)) m m'→g.res.mem w.heap.size w' m m'→K' (.returned (g.res.val m m')) w')→Calls P f (args.map a.eval) w K'∧∀w,(execOp a.eval o).run P w= .ok (.enter f (args.map a.eval)) w:=by
 obtain⟨hgf,_,hgk⟩:=X5 hf
 have hcg:c.sg=g:=by
  rw [←hS,Nat.sub_zero,List.getElem?_map,hck]at hgk
  simpa using hgk
 obtain⟨fn,hfn,hnm,hbd⟩:=c.body;have hfit:=KS hR hfx;rw [←hcg]at hfit hgf;rw [hgf]at hfn;have hsound:=c.sound ((Qai s ps).map (Jk e)) w hfit hpre
 have hargs:(args.map a.eval)=(((Qai s ps).map (Jk e)).map (·.val)).toArray:=by
  apply Array.ext';rw [Array.toList_map,ZN hk hps,Qqn]
 refine fun K' hK'=>⟨?_,fun w=>?_⟩
 ·rw [hargs,←hgf];refine hsound.mono fun en w' hen=>?_
  obtain⟨m,m',rfl,hb,hpost,hmem⟩:=hen;rw [hcg]at hmem ⊢;exact hK' m m' w' hb hpost hmem
 ·simp only [execOp,hop,Sem.run_bind,resolve,Act.eval,Deferred.ofValue,Sem.run_pure,Result.andThen_ok,invoke];rw [show(#[] ++ args.map a.eval) ++ #[]=args.map a.eval by simp]
  exact WS (x:=Sem.halt (.stuck "")) hfn hnm hbd
theorem Qal(hS:C.map (·.sg)=G.sg){f:FuncId}{k:Nat}{g:Sg}(hf:JG f 0 G.sg=some (k,g)){c:Kon P}(hck:C[k]?=some c):c.sg=g:=by
 obtain⟨_,_,hgk⟩:=X5 hf;rw [←hS,Nat.sub_zero,List.getElem?_map,hck]at hgk
 simpa using hgk
theorem QfQ(hS:C.map (·.sg)=G.sg){f:FuncId}{k:Nat}{g:Sg}(hk:JG f 0 G.sg=some (k,g)){cd:List Cd}{ads:List (PX×Nat)}(hob:∀ob∈(if g.np then []else [Ob.pre cd k ads]),ob.ok C I G.n0 e0)(hex:Env.agr G.n0 e0 e)(hcd:∀c∈cd,c.holds C I e) :
 ∃c,C[k]?=some c∧c.pre (ads.map (Jk e)):=by
 cases hn:g.np
 ·rw [hn]at hob;exact hob _ (List.mem_singleton.2 rfl) e hex hcd
 ·obtain⟨_,_,hgk⟩:=X5 hk;rw [Nat.sub_zero,←hS,List.getElem?_map]at hgk;obtain⟨c,hck,hcg⟩:=Ql hgk;exact⟨c,hck,c.free (by rw [hcg];exact hn) _⟩
def QbK(P:Program)(C:List (Kon P))(I:List (Nat→Env→Prop))(inl:Inl):Prop:=∀(G:Cfg) (f:FuncId) (ps:List PX) (s:St) (rs:List (VX×St)) (os:List Ob),inl G f ps s=some (rs,os)→C.map (·.sg)=G.sg→
 (∃fn,P.funcs[f]?=some fn∧(fn.name== "runtime.NumGoroutine")=false∧fn.body.isNone=false)∧∀(e0:Env) (w0:World) (e:Env) (a:Act) (ups:List (List Value)) (w:World),(∀ob∈os,ob.ok C I G.n0 e0)→Rel C I G e0 w0 e s a ups w→
   Calls P f (ps.map (·.den e)).toArray w fun en w'=>∃v s',(v,s')∈rs∧∃e' u,en= .returned u∧v.sat e' u∧Rel C I G e0 w0 e' s' a ups w'
theorem KX(hS:C.map (·.sg)=G.sg){inl:Inl}(hI:QbK P C I inl){id:Nat}{o:Oper}{ss:List St}{os:List Ob}(h:Vc P inl G id o s=some (ss,os))(hob:∀ob∈os,ob.ok C I G.n0 e0)
 (hR:Rel C I G e0 w0 e s a ups w) {K:Act→World→Prop} {Q:Exit→Act→World→Prop} (hK:∀s'∈ss,∀e' a' w',Rel C I G e0 w0 e' s' a' ups w'→K a' w'):o.wp P a w K Q:=by
 have pure:((Jl P [] s o.op).map fun(v,xs)=>([s.put o.dst v],owe s xs))=some (ss,os)→o.wp P a w K Q:=fun h=>by
  obtain⟨⟨v,xs⟩,hv,hp⟩:=Ql h;simp only [Prod.mk.injEq]at hp;obtain⟨rfl,rfl⟩:=hp;obtain⟨u,hu,hr⟩:=Xj hR.kn0 hR.bs hv (hR.owed hob);unfold Oper.wp;rw [hr];exact hK _ (List.mem_singleton.2 rfl) _ _ _ (hR.put hu _)
 have below:∀o:Obj,Below w.heap.size w (w.alloc o):=fun o=>(Below.refl _ w).alloc (Nat.le_refl _) o
 -- a new block
 have fresh:∀{t:TypeId} {cs:List LX} {x:LX},G.n0≤id→s.fr (nid id)=true→(∀e':Env,e'.adr id=w.heap.size→x.den e'=(LX.p id 0).den e'∨∃n,x.den e'=(LX.sb id n).den e')→
  (∀e':Env,Rel C I G e0 w0 e' s a ups w→e'.adr id=w.heap.size→(execOp a.eval o).run P w= .ok (.value (x.den e')) (w.alloc (.cells (cs.map (·.den e')).toArray t)))→
  (∀e' a' w',Rel C I G e0 w0 e' ({s with hp:=Xq ⟨id,.cells t cs⟩ s.hp}.put o.dst (.v (.l x))) a' ups w'→K a' w')→o.wp P a w K Q:=by
  intro t cs x hid hfr _ hrun hK;have hoff:=Env.off_set e id {Nm.zero with adr:=w.heap.size}
  have hR':=hR.off hoff hfr (Jw hid);have hat:Env.adr (e.set id {Nm.zero with adr:=w.heap.size}) id=w.heap.size:=by simp only [Env.adr,Env.set_at]
  unfold Oper.wp;rw [hrun _ hR' hat]
  refine hK _ _ _ ((hR'.push (b:=⟨id,.cells t cs⟩) (Qbx hfr (V5 id)) (below _) ⟨by rw [hat];exact hR.bl.size,by rw [hat];exact Blk.new w _ _⟩ (fun g hg=>by
   have:g=Env.adr (e.set id {Nm.zero with adr:=w.heap.size}) id:=hg
   rw [this,hat];exact Nat.le_refl _)).put (v:= .v (.l x)) rfl _)
 unfold Vc at h;split at h
 ·rename_i t hop;split at h
  ·rename_i hid;split at h
   ·rename_i z hz;obtain⟨cs,hcs,hp⟩:=Ql h;simp only [Prod.mk.injEq]at hp;obtain⟨rfl,rfl⟩:=hp;obtain⟨i,hi,hz'⟩:=Option.bind_eq_some_iff.1 hz;refine fresh (t:=t) (cs:=cs) (x:= .p id 0) hid.1 hid.2 (fun _ _=> .inl rfl) (fun e' hR' hat=>?_) (hK _ (List.mem_singleton.2 rfl))
    have hcells:z.cells=(cs.map (·.den e')).toArray:=by rw [X7 hcs]
    rw [←hcells];simp only [execOp,hop,LX.den,hat];simp [Instr.alloc,zeroValue,typeInfo,hi,hz',newVar,newRow]
   ·cases h
  ·cases h
 ·rename_i t x hop;split at h
  ·rename_i hid;obtain⟨p,hp0,hp⟩:=Ql h;simp only [Prod.mk.injEq]at hp;obtain⟨rfl,rfl⟩:=hp;refine fresh (t:=t) (cs:=p.cells) (x:= .p id 0) hid.1 hid.2 (fun _ _=> .inl rfl) (fun e' hR' hat=>?_) (hK _ (List.mem_singleton.2 rfl))
   have hcells:(a.eval x).cells=(p.cells.map (·.den e')).toArray:=by rw [Qi hR'.kn0 hp0,PX.cells_den]
   rw [←hcells];simp only [execOp,hop,LX.den,hat];simp [Instr.box,newVar,newRow]
  ·cases h
 ·rename_i t n parts hop;split at h
  ·rename_i el sz ps hel hps;split at h
   ·rename_i hid;split at h
    ·rename_i hsm;obtain⟨rfl,hn2,hn⟩:=hsm;split at h
     ·rename_i cs hcs;cases h;refine fresh (t:=el) (cs:=cs) (x:= .sb id n) hid.1 hid.2 (fun _ _=> .inr ⟨n,rfl⟩) (fun e' hR' hat=>?_) (hK _ (List.mem_singleton.2 rfl))
      have hpd:=XR hR'.kn0 hps;have hpe:(parts.map fun x=>(x.1,a.eval x.2))=(ps.map fun p=>(p.1,p.2.den e')).toArray:=by apply Array.ext';rw [Array.toList_map,hpd]
      simp only [execOp,hop,LX.den,hat,hpe];rw [Sem.run_bind,W3 hel hn2 hn hcs];rfl
     ·cases h
    rename_i hnot;clear hnot;split at h
    ·cases h;refine fresh (t:=el) (cs:= []) (x:= .sb id 0) hid.1 hid.2 (fun _ _=> .inr ⟨0,rfl⟩) (fun e' hR' hat=>?_) (hK _ (List.mem_singleton.2 rfl))
     have hpd:=XR hR'.kn0 hps;have hpe:(parts.map fun x=>(x.1,a.eval x.2))= #[]:=by apply Array.ext';rw [Array.toList_map,hpd];rfl
     simp only [execOp,hop,LX.den,hat,hpe];rw [Sem.run_bind,WX hel];rfl
    ·rename_i p;split at h
     ·rename_i ks hz;split at h
      ·rename_i hsz;cases h;refine fresh (t:=el) (cs:=p.cells) (x:= .sb id 1) hid.1 hid.2 (fun _ _=> .inr ⟨1,rfl⟩) (fun e' hR' hat=>?_) (hK _ (List.mem_singleton.2 rfl))
       have hpd:=XR hR'.kn0 hps;have hpe:(parts.map fun x=>(x.1,a.eval x.2))= #[(0,p.den e')]:=by apply Array.ext';rw [Array.toList_map,hpd];rfl
       simp only [execOp,hop,LX.den,hat,hpe];rw [Sem.run_bind,Qa0 hel hz hsz.1 hsz.2.1 hsz.2.2.1 hsz.2.2.2];rfl
      ·cases h
     ·cases h
    ·rename_i p q;split at h
     ·rename_i ks hz;split at h
      ·rename_i hsz;obtain⟨k1,k2,k3,k4,k5⟩:=hsz;cases h;have x1:=Xt k1;have x2:=Xt k2;have l1:=(Z9 (e:=e) x1).1;have l2:=(Z9 (e:=e) x2).1;obtain⟨f1,f2⟩:=Qlk (QaZ hid.2) hps;have csf:(p.cells ++ q.cells).all (·.fr (nid id))=true:=by rw [List.all_append,QbZ f1,QbZ f2];rfl
       have hoff:=Env.off_set e id {Nm.zero with base:=some ⟨w.heap.size,0,none⟩,cap:=2,int:=QA (fun _=>0) 0 ((p.cells ++ q.cells).map (QZ e)),bool:=QA (fun _=>false) 0 ((p.cells ++ q.cells).map (Z4 e))}
       have hrun:(execOp a.eval o).run P w= .ok (.value (.slice (some ⟨w.heap.size,0,none⟩) 2 2)) (w.alloc (.cells ((p.cells ++ q.cells).map (·.den e)).toArray el)):=by
        have hpd:=XR hR.kn0 hps;have hpe:(parts.map fun x=>(x.1,a.eval x.2))= #[(0,p.den e),(1,q.den e)]:=by apply Array.ext';rw [Array.toList_map,hpd];rfl
        simp only [execOp,hop,hpe];rw [Sem.run_bind,Qa1 hel hz (l1.trans k3) (l2.trans k3) k3 k4 k5];rfl
       have c1:=YH (e:=e) (len:=0) (int:=fun _=>0) (bool:=fun _=>false) (cs:=((p.cells ++ q.cells).map (·.den e)).toArray.extract 0 sz) x1 (fun i hi=>absurd hi (Nat.not_lt_zero i)) (fun j x hj=>by
        have hl:=(List.getElem?_eq_some_iff.1 hj).1;rw [Nat.zero_mul,Nat.zero_add,Array.getElem?_extract];simp only [Nat.zero_add,Nat.sub_zero];rw [if_pos (by simp only [List.size_toArray,List.length_map,List.length_append];omega),List.getElem?_toArray,List.getElem?_map,List.getElem?_append_left hl,hj]
        rfl)
       have c2:=YH (e:=e) (len:=1) (int:=QA (fun _=>0) (0 * ks.length) (p.cells.map (QZ e))) (bool:=QA (fun _=>false) (0 * ks.length) (p.cells.map (Z4 e))) (cs:=((p.cells ++ q.cells).map (·.den e)).toArray) x2 (fun i hi j k hj=>by
        obtain rfl:i=0:=by omega
        have:=c1 0 (by omega) j k hj
        rw [Array.getElem?_extract]at this;split at this
        ·simpa using this
        ·cases this) (fun j x hj=>by
        rw [Nat.one_mul,List.getElem?_toArray,List.getElem?_map,List.getElem?_append_right (by omega),show ks.length+j - p.cells.length=j by omega,hj]
        rfl)
       rw [Nat.zero_mul,Nat.one_mul]at c2;rw [Qi8 (by rw [List.length_map,l1]),Qi8 (by rw [List.length_map,l1]),←List.map_append,←List.map_append]at c2
       have hR':Rel C I G e0 w0 (e.set id {Nm.zero with base:=some ⟨w.heap.size,0,none⟩,cap:=2,int:=QA (fun _=>0) 0 ((p.cells ++ q.cells).map (QZ e)),bool:=QA (fun _=>false) 0 ((p.cells ++ q.cells).map (Z4 e))}) {s with hp:=Xq ⟨id,.row ks (.i 2) id⟩ s.hp,cd:= .u id none (.i 0) sz 0 (p.cells ++ q.cells) :: s.cd} a ups (w.alloc (.cells ((p.cells ++ q.cells).map (·.den e)).toArray el)):=by
        refine Rel.cond1 ((hR.off hoff hid.2 (Jw hid.1)).push (b:=⟨id,.row ks (.i 2) id⟩) (Qbx hid.2 (V5 id)) (below _) ?_ ?_) ?_
        ·show Own _ _ (Env.base _ id) _ (Env.cap _ id) ks (Env.int _ id) (Env.bool _ id);simp only [Env.base,Env.cap,Env.int,Env.bool,Env.set_at];refine⟨Nat.le_refl _,.inr ⟨w.heap.size,el,_,rfl,hR.bl.size,Blk.new w _ _,?_,c2⟩⟩;simp only [List.size_toArray,List.length_map,List.length_append];omega
        ·rintro g ⟨a',ha',rfl⟩;simp only [Env.base,Env.set_at]at ha';cases ha';exact Nat.le_refl _
        ·show _∧_;simp only [Env.int,Env.bool,Env.set_at,JO hoff csf,JN hoff csf,SX.den];exact⟨by simp,by simp⟩
       unfold Oper.wp;rw [hrun];exact hK _ (List.mem_singleton.2 rfl) _ _ _ (hR'.put (v:= .v (.l (.sl id (.i 2)))) (by simp only [VX.sat,PX.den,LX.den,SX.den,Env.base,Env.cap,Env.set_at];rfl) _)
      ·cases h
     ·cases h
    ·cases h
   ·cases h
  ·cases h
 ·rename_i t len cap hop;split at h
  ·rename_i n n' h1 h2;split at h
   ·rename_i hn;subst hn;obtain⟨⟨s',v,xs⟩,hm,hp⟩:=Ql h;simp only [Prod.mk.injEq]at hp;obtain⟨rfl,rfl⟩:=hp;obtain⟨e',w',hrun,hR'⟩:=QhR hR hm (hR.owed hob) (fun hf=>by have:=Qam (QaZ hf) h1;simpa [PX.fr,LX.fr] using this)
    have x1:=Qi hR.kn0 h1;have x2:=Qi hR.kn0 h2;simp only [PX.den,LX.den]at x1 x2
    have hex:(execOp a.eval o).run P w= .ok (.value (v.den e')) w':=by
     simp only [execOp,hop,x1,x2];rw [Sem.run_bind,hrun];rfl
    unfold Oper.wp;rw [hex];exact hK _ (List.mem_singleton.2 rfl) _ _ _ (hR'.put (v:= .v (.l v)) rfl _)
   ·cases h
  ·cases h
 ·rename_i t hop;split at h
  ·rename_i kt et hu;split at h
   ·rename_i kk kv h1 h2;split at h
    ·rename_i hid;cases h;have hoff:=Env.off_set e id {Nm.zero with adr:=w.heap.size}
     have hR':=hR.off hoff hid.2 (Jw hid.1);have hat:Env.adr (e.set id {Nm.zero with adr:=w.heap.size}) id=w.heap.size:=by simp only [Env.adr,Env.set_at]
     have hex:(execOp a.eval o).run P w= .ok (.value ((LX.mp id).den (e.set id {Nm.zero with adr:=w.heap.size}))) (w.alloc (.map #[] 0)):=by
      simp only [execOp,hop,LX.den,hat];simp [Instr.makeMap]
     unfold Oper.wp;rw [hex];refine hK _ (List.mem_singleton.2 rfl) _ _ _ (Rel.put (v:= .v (.l (.mp id))) (Rel.cond1 (hR'.push (b:=⟨id,.map kk kv id⟩) (Qbx hid.2 (V5 id)) (below _) ⟨by rw [hat];exact hR.bl.size,#[],0,by rw [hat];exact heap_alloc_new w _,?_⟩ (fun g hg=>?_)) ?_) rfl _)
     ·simp only [Env.int,Env.bool,Env.set_at];exact Vr.empty
     ·have:g=Env.adr (e.set id {Nm.zero with adr:=w.heap.size}) id:=hg
      rw [this,hat];exact Nat.le_refl _
     ·show _∧_;simp only [Env.int,Env.bool,Env.set_at];exact⟨rfl,rfl⟩
    ·cases h
   ·cases h
  ·cases h
 ·rename_i t x ix ok hop;split at h
  ·rename_i kt et d k i hu h1 h2;split at h
   ·rename_i kk kv ct kk' kv' hm hkt hz;split at h
    ·rename_i hc;obtain⟨rfl,rfl,rfl⟩:=hc;cases h;have g1:=Zn (hR.owed hob _ (List.mem_singleton.2 rfl));obtain⟨inf,hinf,hz'⟩:=Option.bind_eq_some_iff.1 hz;obtain⟨hB,es,cl,hw,hmi⟩:=hR.hp _ (QeY hm);have x1:=Qi hR.kn0 h1;have x2:=Qi hR.kn0 h2;simp only [PX.den,LX.den]at x1 x2;have hr:=Qds (P:=P) (w:=w) hu hkt hinf hz' hw hmi (i.den e).1.toNat ok
     rw [show(((i.den e).1.toNat:Nat):Int)=(i.den e).1 by omega]at hr
     have hex:(execOp a.eval o).run P w= .ok (.value (if ok then .tuple #[.int kv (e.int ct (i.den e).1.toNat),.bool (e.bool ct (i.den e).1.toNat)]else .int kv (e.int ct (i.den e).1.toNat))) w:=by
      simp only [execOp,hop,x1,x2];rw [Sem.run_bind,hr];rfl
     unfold Oper.wp;rw [hex];refine hK _ (List.mem_singleton.2 rfl) _ _ _ (hR.put ?_ _);cases ok <;> simp [VX.sat,PX.den,LX.den,SX.den]
    ·cases h
   ·cases h
  ·cases h
 ·rename_i t x ix y hop;split at h
  ·rename_i kt et d k i kv' z hu h1 h2 h3;split at h
   ·rename_i kk kv ct kk' hm hkt;split at h
    ·rename_i hc;obtain⟨rfl,rfl,rfl,hid,hfr⟩:=hc;cases h;have g1:=Zn (hR.owed hob _ (List.mem_singleton.2 rfl));have hmm:=QeY hm;obtain⟨hB,es,cl,hw,hmi⟩:=hR.hp _ hmm;have x1:=Qi hR.kn0 h1;have x2:=Qi hR.kn0 h2;have x3:=Qi hR.kn0 h3;simp only [PX.den,LX.den]at x1 x2 x3;obtain⟨es',cl',hr,hmi'⟩:=QaX (P:=P) (w:=w) hu hkt hw hmi (i.den e).1.toNat (z.den e).1
     rw [show(((i.den e).1.toNat:Nat):Int)=(i.den e).1 by omega]at hr
     have hex:(execOp a.eval o).run P w= .ok .skip {w with heap:=w.heap.setIfInBounds (e.adr d) (.map es' cl')}:=by
      simp only [execOp,hop,x1,x2,x3];rw [Sem.run_bind,hr];rfl
     have f:=QnK hfr hmm;simp only [Bk.fr,Bd.fr,Bool.and_eq_true]at f;have zf:z.fr (nid id)=true:=by have:=Qam (QaZ hfr) h3;simpa [PX.fr,LX.fr] using this
     have if_:i.fr (nid id)=true:=by have:=Qam (QaZ hfr) h2;simpa [PX.fr,LX.fr] using this
     have hoff:=Env.off_set e id {Nm.zero with int:=QA (e.int ct) (i.den e).1.toNat [(z.den e).1],bool:=QA (e.bool ct) (i.den e).1.toNat [true]}
     have hR':=hR.off hoff hfr (Jw hid);have hlt:e.adr d < w.heap.size:=((hR.hp _ hmm).fp (g:=e.adr d) rfl).2;unfold Oper.wp;rw [hex]
     refine hK _ (List.mem_singleton.2 rfl) (e.set id {Nm.zero with int:=QA (e.int ct) (i.den e).1.toNat [(z.den e).1],bool:=QA (e.bool ct) (i.den e).1.toNat [true]}) _ _ (Rel.put (v:= .un) (Rel.cond1 (hR'.change hmm (bd:= .map kk' kv id) ⟨?_,es',cl',?_,?_⟩ (fun g hg=> .inl hg) (fun g hg hn=>?_) ?_) ?_) rfl _)
     ·simp only [Env.adr,Zj f.1];exact hB
     ·simp only [Env.adr,Zj f.1];show(w.heap.setIfInBounds (e.adr d) (.map es' cl'))[e.adr d]?=_;rw [Array.getElem?_setIfInBounds_self_of_lt hlt]
     ·simp only [Env.int,Env.bool,Env.set_at];exact hmi'
     ·have hne:g≠e.adr d:=fun he=>hn (by show g=Env.adr _ d;simp only [Env.adr,Zj f.1];exact he)
      show(w.heap.setIfInBounds (e.adr d) (.map es' cl'))[g]?=_;rw [Array.getElem?_setIfInBounds_ne (Ne.symm hne)]
     ·refine hR.bl.trans ⟨rfl,rfl,rfl,by simp,fun k hk=>?_⟩
      have hne:k≠e.adr d:=fun he=>by
       have hB':w0.heap.size≤e.adr d:=hB;omega
      show(w.heap.setIfInBounds (e.adr d) (.map es' cl'))[k]?=_;rw [Array.getElem?_setIfInBounds_ne (Ne.symm hne)]
     ·show _∧_;simp only [Env.int,Env.bool,Env.set_at,Zj f.2,←SX.den_off hoff i if_,QZ];rw [←SX.den_off hoff z zf];exact⟨rfl,trivial⟩
    ·cases h
   ·cases h
  ·cases h
 ·rename_i t x h' hop;split at h
  ·rename_i el d len k i hu h1 h2;split at h
   ·rename_i ks len' ct hr;split at h
    ·rename_i hl;obtain⟨hl,hel⟩:=hl;subst hl;obtain⟨⟨el',sz⟩,hel'⟩:=Option.isSome_iff_exists.1 hel;obtain⟨inf,hu',hinf,_,_⟩:=XO hel';rw [hu]at hu';cases hu';cases h;have g1:=Zn (hR.owed hob _ (List.mem_cons_self ..));have g2:=WO (hR.owed hob _ (List.mem_cons_of_mem _ (List.mem_cons_self ..)));have hm:=Y5 hr;have hown:=hR.own hr;have hle:=hown.1;have x1:=Qi hR.kn0 h1;have x2:=Qi hR.kn0 h2
     simp only [PX.den,LX.den]at x1 x2;have hcap:(i.den e).1≤(e.cap d:Int):=by omega
     have hex:(execOp a.eval o).run P w= .ok (.value ((LX.sl d i).den e)) w:=by
      simp only [execOp,hop,x1,Option.map_none,Option.map_some,x2,LX.den]
      have hz:(if e.cap d=0 then e.base d else Option.map (fun x=>x.add 0) (e.base d))=e.base d:=by
       split
       ·rfl
       ·cases e.base d <;> rfl
      simp [Instr.sliceAt,Instr.slice,run_underlying hu,Instr.sliceBounds,Instr.sliceBound,asIntOf,g1,hcap,Xw hinf,hz]
     unfold Oper.wp;rw [hex];refine hK _ (List.mem_singleton.2 rfl) _ _ _ ((hR.change hm (bd:= .row ks i ct) ?_ (fun g hg=> .inl hg) (fun g _ _=>rfl) hR.bl).put (v:= .v (.l (.sl d i))) rfl _)
     show Own _ _ (e.base d) (i.den e).1.toNat (e.cap d) ks (e.int ct) (e.bool ct);obtain⟨c1,c2|⟨g,t',cs,c2,c3,c4,c5,c6⟩⟩:=hown
     ·exact⟨by omega,.inl c2⟩
     ·exact⟨by omega,.inr ⟨g,t',cs,c2,c3,c4,c5,fun j hj=>c6 j (by omega)⟩⟩
    ·cases h
   ·cases h
  ·cases h
 ·rename_i t x hop;split at h
  ·rename_i p hp0;obtain⟨⟨v,xs⟩,hv,hp⟩:=Ql h;simp only [Prod.mk.injEq]at hp;obtain⟨rfl,rfl⟩:=hp;obtain⟨ad,had,hr⟩:=Jv hR hv (hR.owed hob);have hx:=Qi hR.kn0 hp0;simp only [PX.den,had]at hx;unfold Oper.wp
   have:(execOp a.eval o).run P w= .ok (.value (v.den e)) w:=by
    simp only [execOp,hop,hx];simp [Instr.loadAt,Instr.sureAddr,hr]
   rw [this];exact hK _ (List.mem_singleton.2 rfl) _ _ _ (hR.put (v:= .v v) rfl _)
  ·cases h
 ·rename_i t x y hop;split at h
  ·rename_i p v hp0 hv0;obtain⟨⟨s1,xs⟩,hv,hp⟩:=Ql h;simp only [Prod.mk.injEq]at hp;obtain⟨rfl,rfl⟩:=hp;obtain⟨ad,e1,w1,had,hr,hR1⟩:=Wa hR hv (hR.owed hob) (fun hf=>⟨Qam (QaZ hf) hv0,by have:=Qam (QaZ hf) hp0;simpa [PX.fr] using this⟩)
   have hx:=Qi hR.kn0 hp0;simp only [PX.den,had]at hx;have hy:=Qi hR.kn0 hv0;unfold Oper.wp
   have:(execOp a.eval o).run P w= .ok .skip w1:=by
    simp only [execOp,hop,hx,hy];simp [Instr.storeAt,Instr.sureAddr,hr]
   rw [this];exact hK _ (List.mem_singleton.2 rfl) _ _ _ (hR1.put (v:= .un) rfl _)
  ·cases h
 ·rename_i args at_ hop;split at h
  ·rename_i dst src t t' hps hat;split at h
   ·rename_i htt;subst htt;obtain⟨⟨s',v,xs⟩,hm,hp⟩:=Ql h;simp only [Prod.mk.injEq]at hp;obtain⟨rfl,rfl⟩:=hp;have hx:=ZN hR.kn0 hps;simp only [List.map_cons,List.map_nil,PX.den]at hx;have hargs:args.map a.eval= #[dst.den e,src.den e]:=by apply Array.ext';rw [Array.toList_map,hx]
    have hat':at_= #[t,t]:=by apply Array.ext';rw [hat]
    obtain⟨e',w',hrun,hR'⟩:=QdQ (ty:=o.type) hR hm (hR.owed hob) (fun hf=>by have:=YL (QaZ hf) hps;simp only [List.all_cons,Bool.and_eq_true]at this;exact this.1)
    have hex:(execOp a.eval o).run P w= .ok (.value (v.den e')) w':=by
     simp only [execOp,hop,resolve,hargs,hat',Sem.run_bind,Sem.run_pure,Result.andThen_ok,invoke,builtin,hrun]
    unfold Oper.wp;rw [hex];exact hK _ (List.mem_singleton.2 rfl) _ _ _ (hR'.put (v:= .v (.l v)) rfl _)
   ·cases h
  ·cases h
 ·rename_i f args at_ hop;split at h
  ·cases h
  ·rename_i ps hps;split at h
   ·rename_i k g hk
    dsimp only at h
    split at h
    ·rename_i d hd;split at h
     ·rename_i hfx;cases h;obtain⟨c,hck,hpre⟩:=QfQ hS hk hob hR.ex hR.cd;have hcg:=Qal hS hk hck
      have hdet:g.det=true:=by
       cases hg:g.det
       ·rw [hg]at hd;cases hd
       ·rfl
      rw [hdet,if_pos rfl]at hd;obtain⟨c',hc',hp'⟩:=hR.cd _ (Zp hd);rw [hck]at hc';cases hc';obtain⟨rb,hrb⟩:=c.flat (by rw [hcg];exact hdet)
      rw [hcg]at hrb
      obtain⟨h1,h2⟩:=XN hS hR hR.kn0 hop hk hps hck hpre hfx (fun| .returned v,w'=>K (a.put o.dst v) w'| .panicked chain,w'=>Q (.panic chain) a w'| .outgrown,_=>LetsOut Q) (fun m m' w' hb hpost _=>by
       have hv:=c.same (by rw [hcg];exact hdet) _ _ _ _ _ hpost hp'
       rw [hcg]at hv
       dsimp only
       refine hK _ (List.mem_singleton.2 rfl) _ _ _ ((hR.grow hb).put (v:=g.res.inst d) ?_ _);rw [hv,hrb];exact T2.inst_sat rb)
      unfold Oper.wp;rw [h2,Oper.upon_enter];exact h1
     ·cases h
    ·split at h
     ·rename_i hc;cases h;obtain⟨c,hck,hpre⟩:=QfQ hS hk hob hR.ex hR.cd
      obtain⟨h1,h2⟩:=XN hS hR hR.kn0 hop hk hps hck hpre hc.1 (fun| .returned v,w'=>K (a.put o.dst v) w'| .panicked chain,w'=>Q (.panic chain) a w'| .outgrown,_=>LetsOut Q) (fun m m' w' hb hpost hmem=>by
       dsimp only
       exact hK _ (List.mem_singleton.2 rfl) _ _ _ ((hR.result (YL (QaZ hc.2.2) hps) hc.2.1 hc.2.2 hck hb hpost g.res hmem).put (v:=g.res.inst id) (RZ.inst_sat g.res) _))
      unfold Oper.wp;rw [h2,Oper.upon_enter];exact h1
     ·cases h
   ·split at h
    ·rename_i hfin;obtain⟨⟨rs,os'⟩,hr,hp⟩:=Ql h;simp only [Prod.mk.injEq]at hp;obtain⟨rfl,rfl⟩:=hp;obtain⟨⟨fn,hfn,hnm,hbd⟩,hc⟩:=hI G f ps s rs os' hr hS;have hcall:=hc e0 w0 e a ups w hob hR;have hx:=ZN hR.kn0 hps;have hargs:args.map a.eval=(ps.map (·.den e)).toArray:=by apply Array.ext';rw [Array.toList_map,hx]
     have h2:(execOp a.eval o).run P w= .ok (.enter f (args.map a.eval)) w:=by
      simp only [execOp,hop,Sem.run_bind,resolve,Act.eval,Deferred.ofValue,Sem.run_pure,Result.andThen_ok,invoke];rw [show(#[] ++ args.map a.eval) ++ #[]=args.map a.eval by simp]
      exact WS (x:=Sem.halt (.stuck "")) hfn hnm hbd
     unfold Oper.wp;rw [h2,Oper.upon_enter,hargs];refine hcall.mono fun en w' hen=>?_
     obtain⟨v,s',hm,e',u,rfl,hsat,hR'⟩:=hen;exact hK _ (List.mem_map.2 ⟨(v,s'),hm,rfl⟩) _ _ _ (hR'.put hsat _)
    ·cases h
 ·rename_i t args at_ hop;split at h
  ·rename_i f caps ps hf hps;split at h
   ·rename_i hfin;obtain⟨⟨rs,os'⟩,hr,hp⟩:=Ql h;simp only [Prod.mk.injEq]at hp;obtain⟨rfl,rfl⟩:=hp;obtain⟨⟨fn,hfn,hnm,hbd⟩,hc⟩:=hI G f _ s rs os' hr hS;have hcall:=hc e0 w0 e a ups w hob hR;have hx:=ZN hR.kn0 hps;have hfv:=Qi hR.kn0 hf;simp only [PX.den,LX.den]at hfv;have hargs:args.map a.eval=(ps.map (·.den e)).toArray:=by apply Array.ext';rw [Array.toList_map,hx]
    have hall:((ps ++ caps.map fun p=>PX.l (.p p.1 p.2)).map (·.den e)).toArray=(ps.map (·.den e)).toArray ++ (caps.map fun p=>Value.pointer (some ⟨e.adr p.1,p.2,none⟩)).toArray:=by
     simp [PX.den,LX.den,Function.comp_def]
    have h2:(execOp a.eval o).run P w= .ok (.enter f ((ps ++ caps.map fun p=>PX.l (.p p.1 p.2)).map (·.den e)).toArray) w:=by
     simp only [execOp,hop,Sem.run_bind,resolve,hfv,Deferred.ofValue,Sem.run_pure,Result.andThen_ok,invoke,hargs];rw [show(#[] ++ (ps.map (·.den e)).toArray) ++ (caps.map fun p=>Value.pointer (some ⟨e.adr p.1,p.2,none⟩)).toArray=((ps ++ caps.map fun p=>PX.l (.p p.1 p.2)).map (·.den e)).toArray by rw [hall];simp]
     exact WS (x:=Sem.halt (.stuck "")) hfn hnm hbd
    unfold Oper.wp;rw [h2,Oper.upon_enter];refine hcall.mono fun en w' hen=>?_
    obtain⟨v,s',hm,e',u,rfl,hsat,hR'⟩:=hen;exact hK _ (List.mem_map.2 ⟨(v,s'),hm,rfl⟩) _ _ _ (hR'.put hsat _)
   ·cases h
  ·cases h
 ·rename_i hop;exact pure h
theorem Qfm{inl:Inl}{id:Nat}{o:Oper}{ss:List St}{os:List Ob}(h:Vc P inl G id o s=some (ss,os))(hn:QfB o.op=false):∃xs,os=owe s xs:=by
 have pure:((Jl P [] s o.op).map fun(v,xs)=>([s.put o.dst v],owe s xs))=some (ss,os)→∃xs,os=owe s xs:=fun h=>by
  obtain⟨⟨v,xs⟩,hv,hp⟩:=Ql h;simp only [Prod.mk.injEq]at hp;exact⟨xs,hp.2.symm⟩
 have nil:∃xs,([]:List Ob)=owe s xs:=⟨[],rfl⟩;unfold Vc at h;split at h
 ·split at h
  ·split at h
   ·obtain⟨x,_,hp⟩:=Ql h;simp only [Prod.mk.injEq]at hp;rw [←hp.2];exact nil
   ·cases h
  ·cases h
 ·split at h
  ·obtain⟨x,_,hp⟩:=Ql h;simp only [Prod.mk.injEq]at hp;rw [←hp.2];exact nil
  ·cases h
 ·split at h
  ·split at h
   ·split at h
    ·split at h
     ·simp only [Option.some.injEq,Prod.mk.injEq]at h;rw [←h.2];exact nil
     ·cases h
    split at h
    ·simp only [Option.some.injEq,Prod.mk.injEq]at h;rw [←h.2];exact nil
    ·split at h
     ·split at h
      ·simp only [Option.some.injEq,Prod.mk.injEq]at h;rw [←h.2];exact nil
      ·cases h
     ·cases h
    ·split at h
     ·split at h
      ·simp only [Option.some.injEq,Prod.mk.injEq]at h;rw [←h.2];exact nil
      ·cases h
     ·cases h
    ·cases h
   ·cases h
  ·cases h
 ·split at h
  ·split at h
   ·obtain⟨x,_,hp⟩:=Ql h;simp only [Prod.mk.injEq]at hp;exact⟨_,hp.2.symm⟩
   ·cases h
  ·cases h
 ·split at h
  ·split at h
   ·split at h
    ·simp only [Option.some.injEq,Prod.mk.injEq]at h;rw [←h.2];exact nil
    ·cases h
   ·cases h
  ·cases h
 ·split at h
  ·split at h
   ·split at h
    ·simp only [Option.some.injEq,Prod.mk.injEq]at h;exact⟨_,h.2.symm⟩
    ·cases h
   ·cases h
  ·cases h
 ·split at h
  ·split at h
   ·split at h
    ·simp only [Option.some.injEq,Prod.mk.injEq]at h;exact⟨_,h.2.symm⟩
    ·cases h
   ·cases h
  ·cases h
 ·split at h
  ·split at h
   ·split at h
    ·simp only [Option.some.injEq,Prod.mk.injEq]at h;exact⟨_,h.2.symm⟩
    ·cases h
   ·cases h
  ·cases h
 ·split at h
  ·obtain⟨x,_,hp⟩:=Ql h;simp only [Prod.mk.injEq]at hp;exact⟨_,hp.2.symm⟩
  ·cases h
 ·split at h
  ·obtain⟨x,_,hp⟩:=Ql h;simp only [Prod.mk.injEq]at hp;exact⟨_,hp.2.symm⟩
  ·cases h
 ·split at h
  ·split at h
   ·obtain⟨x,_,hp⟩:=Ql h;simp only [Prod.mk.injEq]at hp;exact⟨_,hp.2.symm⟩
   ·cases h
  ·cases h
 ·rename_i hop;rw [hop]at hn;simp [QfB]at hn
 ·rename_i hop;rw [hop]at hn;simp [QfB]at hn
 ·exact pure h
theorem Rel.plus(hR:Rel C I G e0 w0 e s a ups w){xs:List SX}(hob:∀ob∈owe s xs,ob.ok C I G.n0 e0):Rel C I G e0 w0 e (s.plus ((owe s xs).filterMap clX)) a ups w:=by
 refine hR.conds fun c hc=>?_
 obtain⟨x,hx,rfl⟩:=List.mem_map.1 hc;obtain⟨ob,hob',hcl⟩:=List.mem_filterMap.1 hx;have:=hob ob hob';unfold owe at hob';obtain⟨y,_,rfl⟩:=List.mem_map.1 hob';simp only [clX,Option.some.injEq]at hcl;subst hcl;exact this e hR.ex hR.cd
theorem Qiz(hS:C.map (·.sg)=G.sg){inl:Inl}(hI:QbK P C I inl){id:Nat}{o:Oper}{ss:List St}{os:List Ob}(h:Qfn P inl G id o s=some (ss,os))(hob:∀ob∈os,ob.ok C I G.n0 e0)
 (hR:Rel C I G e0 w0 e s a ups w) {K:Act→World→Prop} {Q:Exit→Act→World→Prop} (hK:∀s'∈ss,∀e' a' w',Rel C I G e0 w0 e' s' a' ups w'→K a' w'):o.wp P a w K Q:=by
 unfold Qfn at h;split at h
 ·cases h
 ·rename_i ss1 os1 h1;split at h
  ·cases h;exact KX hS hI h1 hob hR hK
  ·rename_i hn;split at h
   ·cases h;exact KX hS hI h1 hob hR hK
   ·obtain⟨⟨ss2,os2⟩,h2,hp⟩:=Ql h;simp only [Prod.mk.injEq]at hp;obtain⟨rfl,rfl⟩:=hp;obtain⟨xs,rfl⟩:=Qfm h1 (by simpa using hn)
    exact KX hS hI h2 (fun ob hm=>hob ob (List.mem_append_right _ hm)) (hR.plus fun ob hm=>hob ob (List.mem_append_left _ hm)) hK
theorem W9(hS:C.map (·.sg)=G.sg){id:Nat}{o:Oper}{y:SX}{s':St}{os:List Ob}(h:KV P G id o y s=some (s',os))(hob:∀ob∈os,ob.ok C I G.n0 e0)
 (hR:Rel C I G e0 w0 e s a ups w):((y.den e).2=true→∀(K:Act→World→Prop) (Q:Exit→Act→World→Prop),(∀e' a' w',Rel C I G e0 w0 e' s' a' ups w'→K a' w')→o.wp P a w K Q)∧
   ((y.den e).2=false→∃e',Rel C I G e0 w0 e' s' (a.put o.dst undef) ups w):=by
 have yes:∀{x:PX} {e':Env},(y.den e').2=true→(VX.gd y x).sat e' (x.den e'):=fun h=>⟨fun _=>rfl,(fun h'=>by rw [h]at h';cases h')⟩
 have no:∀{x:PX} {e':Env},(y.den e').2=false→(VX.gd y x).sat e' undef:=fun h=>⟨(fun h'=>by rw [h]at h';cases h'),fun _=>rfl⟩
 have hyc:(y.den e).2=true→∀x∈QP y,(x.den e).2=true:=fun hy=>Zq.2 hy
 have kn:(y.den e).2=true→Kn C I e s (QP y) a:=fun hy=>hR.kn (hyc hy)
 have hcd:(y.den e).2=true→∀c∈(QP y).map (Cd.c · true) ++ s.cd,c.holds C I e:=fun hy c hc=>by
  rcases List.mem_append.1 hc with hc|hc
  ·obtain⟨z,hz,rfl⟩:=List.mem_map.1 hc;exact hyc hy z hz
  ·exact hR.cd c hc
 have pure:∀x xs,Jl P (QP y) s o.op=some (.v x,xs)→s'=s.put o.dst (.gd y x)→os=Qlj s (QP y) xs→((y.den e).2=true→∀(K:Act→World→Prop) (Q:Exit→Act→World→Prop),(∀e' a' w',Rel C I G e0 w0 e' s' a' ups w'→K a' w')→o.wp P a w K Q)∧
  ((y.den e).2=false→∃e',Rel C I G e0 w0 e' s' (a.put o.dst undef) ups w):=fun x xs hx hs ho=>by
  subst hs;subst ho;refine⟨fun hy K Q hK=>?_,fun hy=>⟨e,hR.put (no hy) _⟩⟩
  obtain⟨u,hu,hr⟩:=Xj (kn hy) hR.bs hx (hR.owedH (hyc hy) hob);unfold Oper.wp;rw [hr];simp only [VX.sat]at hu;subst hu;exact hK _ _ _ (hR.put (yes hy) _)
 unfold KV at h;split at h
 ·rename_i t x hop;split at h
  ·rename_i p hp0;split at h
   ·rename_i v xs hv;cases h;refine⟨fun hy K Q hK=>?_,fun hy=>⟨e,hR.put (no hy) _⟩⟩
    obtain⟨ad,had,hr⟩:=Jv hR hv (hR.owedH (hyc hy) hob);have hx:=Qi (kn hy) hp0;simp only [PX.den,had]at hx;unfold Oper.wp
    have:(execOp a.eval o).run P w= .ok (.value (v.den e)) w:=by
     simp only [execOp,hop,hx];simp [Instr.loadAt,Instr.sureAddr,hr]
    rw [this];exact hK _ _ _ (hR.put (yes hy) _)
   ·cases h
  ·cases h
 ·rename_i f args at_ hop;split at h
  ·rename_i k g ps hk hps
   dsimp only at h
   split at h
   ·rename_i hc;split at h
    ·rename_i d hd;split at h
     ·rename_i x hx;cases h;refine⟨fun hy K Q hK=>?_,fun hy=>⟨e,hR.put (no hy) _⟩⟩
      obtain⟨c,hck,hpre⟩:=QfQ hS hk hob hR.ex (hcd hy);have hcg:=Qal hS hk hck;obtain⟨c',hc',hp'⟩:=hR.cd _ (Zp hd);rw [hck]at hc';cases hc';obtain⟨rb,hrb⟩:=c.flat (by rw [hcg];exact hc.1)
      rw [hcg]at hrb
      obtain⟨h1,h2⟩:=XN hS hR (kn hy) hop hk hps hck hpre hc.2 (fun| .returned v,w'=>K (a.put o.dst v) w'| .panicked chain,w'=>Q (.panic chain) a w'| .outgrown,_=>LetsOut Q) (fun m m' w' hb hpost _=>by
       have hv:=c.same (by rw [hcg];exact hc.1) _ _ _ _ _ hpost hp'
       rw [hcg,hrb]at hv;have hi:=T2.inst_sat (e:=e) (d:=d) rb;rw [hrb]at hx;simp only [RZ.inst]at hx;rw [hx]at hi;simp only [VX.sat]at hi
       dsimp only
       rw [hrb,hv];show K (a.put o.dst (RS.val (e.int d) (e.bool d) rb)) w';rw [hi];exact hK _ _ _ ((hR.grow hb).put (yes hy) _))
      unfold Oper.wp;rw [h2,Oper.upon_enter];exact h1
     ·cases h
    ·split at h
     ·rename_i hid;split at h
      ·rename_i x hx;cases h;have hyf:=hid.2.2;have hpf:=YL (QaZ hid.2.1) hps;have hyd:∀m m',(y.den ((e.set id m).set (id+1) m'))=y.den e:=fun m m'=>(SX.den_off (Env.off_trans (Env.off_set e id m) (Env.off_set' _ id m')) y hyf).symm
       refine⟨fun hy K Q hK=>?_,fun hy=>?_⟩
       ·obtain⟨c,hck,hpre⟩:=QfQ hS hk hob hR.ex (hcd hy);have hcg:=Qal hS hk hck;obtain⟨rb,hrb⟩:=c.flat (by rw [hcg];exact hc.1)
        rw [hcg]at hrb
        obtain⟨h1,h2⟩:=XN hS hR (kn hy) hop hk hps hck hpre hc.2 (fun| .returned v,w'=>K (a.put o.dst v) w'| .panicked chain,w'=>Q (.panic chain) a w'| .outgrown,_=>LetsOut Q) (fun m m' w' hb hpost hmem=>by
         dsimp only
         have hi:=RZ.inst_sat (e:=e) (id:=id) (m:=m) (m':=m') g.res;rw [hx]at hi;simp only [VX.sat]at hi;rw [hi];have hres:=hR.result hpf hid.1 hid.2.1 hck hb hpost (.b rb) trivial;exact hK _ _ _ (hres.put (yes (by rw [hyd];exact hy)) _))
        unfold Oper.wp;rw [h2,Oper.upon_enter];exact h1
       ·obtain⟨_,_,hgk⟩:=X5 hk;rw [Nat.sub_zero,←hS,List.getElem?_map]at hgk;obtain⟨c,hck,hcg⟩:=Ql hgk;obtain⟨m,m',hpost⟩:=c.total (by rw [hcg];exact hc.1) ((Qai s ps).map (Jk e))
        have hoff:Env.off (nid id) e ((e.set id m).set (id+1) m'):=Env.off_trans (Env.off_set e id m) (Env.off_set' _ id m');have n0:((e.set id m).set (id+1) m').nm id=m:=by rw [Env.set_ne _ _ (by omega),Env.set_at]
        have n1:((e.set id m).set (id+1) m').nm (id+1)=m':=Env.set_at _ _ _;refine⟨_,((hR.off hoff hid.2.1 (Jw hid.1)).cond1 (x:= .f id k (Qai s ps)) ⟨c,hck,?_⟩).put (no (by rw [hyd];exact hy)) _⟩
        rw [Qn7 hid.2.1 hpf,n0,n1];exact hpost
      ·cases h
     ·cases h
   ·cases h
  ·cases h
 ·rename_i hop;split at h
  ·rename_i x xs hx;cases h;exact pure x xs hx rfl rfl
  ·cases h
end
end Go.Proofs.YteplnamfpodmlaaGreat.T2
end
section
namespace Go.Proofs.YteplnamfpodmlaaGreat.T2
theorem SX.bq_eq:∀(x y:SX),x.bq y=true→x=y:=by
 intro x
 induction x <;> intro y h <;> cases y <;> first
  |(unfold SX.bq at h;exact absurd h Bool.false_ne_true)
  |(simp only [SX.bq,Bool.and_eq_true,beq_iff_eq,decide_eq_true_eq]at h;first|(subst h;rfl)|(simp_all;done)|skip)
 all_goals grind
theorem LX.bq_eq(x y:LX)(h:x.bq y=true):x=y:=by
 cases x <;> cases y <;> first
  |rfl
  |(unfold LX.bq at h;exact absurd h Bool.false_ne_true)
  |skip
 all_goals
  simp only [LX.bq,Bool.and_eq_true,beq_iff_eq,decide_eq_true_eq]at h
 all_goals grind [SX.bq_eq]
theorem PX.bq_eq(x y:PX)(h:x.bq y=true):x=y:=by
 cases x <;> cases y <;> first
  |(unfold PX.bq at h;exact absurd h Bool.false_ne_true)
  |(simp only [PX.bq]at h;rw [LX.bq_eq _ _ h])
  |(simp only [PX.bq]at h;rw [ZO LX.bq_eq h])
theorem VX.bq_eq(x y:VX)(h:x.bq y=true):x=y:=by
 cases x <;> cases y <;> first
  |rfl
  |(unfold VX.bq at h;exact absurd h Bool.false_ne_true)
  |(simp only [VX.bq]at h;rw [PX.bq_eq _ _ h])
  |(simp only [VX.bq]at h;rw [ZO PX.bq_eq h])
  |(simp only [VX.bq,Bool.and_eq_true]at h;rw [SX.bq_eq _ _ h.1,PX.bq_eq _ _ h.2])
theorem QcW(x y:Option IntKind)(h:kbq x y=true):x=y:=by
 cases x <;> cases y <;> first
  |rfl
  |(unfold kbq at h;exact absurd h Bool.false_ne_true)
  |(simp only [kbq,decide_eq_true_eq]at h;rw [h])
theorem Qre{α:Type}{f:α→α→Bool}(hf:∀x y,f x y=true→x=y)(x y:Option α)(h:obq f x y=true):x=y:=by
 cases x <;> cases y <;> first
  |rfl
  |(unfold obq at h;exact absurd h Bool.false_ne_true)
  |(simp only [obq]at h;rw [hf _ _ h])
theorem Bd.bq_eq(x y:Bd)(h:x.bq y=true):x=y:=by
 cases x <;> cases y <;> first
  |(unfold Bd.bq at h;exact absurd h Bool.false_ne_true)
  |skip
 ·simp only [Bd.bq,Bool.and_eq_true,beq_iff_eq]at h;rw [h.1,ZO LX.bq_eq h.2]
 ·simp only [Bd.bq,Bool.and_eq_true,beq_iff_eq]at h;rw [ZO QcW h.1.1,SX.bq_eq _ _ h.1.2,h.2]
 ·simp only [Bd.bq,Bool.and_eq_true,beq_iff_eq,decide_eq_true_eq]at h;rw [h.1.1,h.1.2,h.2]
 ·simp only [Bd.bq,Bool.and_eq_true,beq_iff_eq]at h;rw [ZO QcW h.1.1.1,SX.bq_eq _ _ h.1.1.2,h.1.2,Qre SX.bq_eq _ _ h.2]
theorem Bk.bq_eq(x y:Bk)(h:x.bq y=true):x=y:=by
 cases x;cases y;simp only [Bk.bq,Bool.and_eq_true,beq_iff_eq]at h;obtain⟨rfl,h⟩:=h;rw [Bd.bq_eq _ _ h]
theorem Qqx(x y:PX×Nat)(h:Qqw x y=true):x=y:=by
 cases x;cases y;simp only [Qqw,Bool.and_eq_true,beq_iff_eq]at h;rw [PX.bq_eq _ _ h.1,h.2]
theorem Cd.bq_eq(x y:Cd)(h:x.bq y=true):x=y:=by
 cases x <;> cases y <;> first
  |(unfold Cd.bq at h;exact absurd h Bool.false_ne_true)
  |skip
 ·simp only [Cd.bq,Bool.and_eq_true,beq_iff_eq]at h;rw [h.1,SX.bq_eq _ _ h.2]
 ·simp only [Cd.bq,Bool.and_eq_true,beq_iff_eq]at h;rw [h.1.1,h.1.2,ZO Qqx h.2]
 ·simp only [Cd.bq,Bool.and_eq_true,beq_iff_eq]at h;rw [h.1.1,h.1.2,h.2]
 ·simp only [Cd.bq,beq_iff_eq]at h;rw [h]
 ·simp only [Cd.bq,Bool.and_eq_true,beq_iff_eq]at h;obtain⟨⟨⟨⟨⟨h1,h2⟩,h3⟩,h4⟩,h5⟩,h6⟩:=h;rw [h1,Qre (fun p q h=>by simpa using h) _ _ h2,SX.bq_eq _ _ h3,h4,h5,ZO LX.bq_eq h6]
 ·simp only [Cd.bq,Bool.and_eq_true,beq_iff_eq]at h;obtain⟨⟨⟨h1,h2⟩,h3⟩,h4⟩:=h;rw [h1,h2,SX.bq_eq _ _ h3,LX.bq_eq _ _ h4]
 ·simp only [Cd.bq,Bool.and_eq_true,beq_iff_eq]at h;obtain⟨⟨⟨⟨h1,h2⟩,h3⟩,h4⟩,h5⟩:=h;rw [h1,h2,SX.bq_eq _ _ h3,h4,ZO LX.bq_eq h5]
 ·simp only [Cd.bq,Bool.and_eq_true,beq_iff_eq]at h;obtain⟨⟨⟨⟨⟨h1,h2⟩,h3⟩,h4⟩,h5⟩,h6⟩:=h;rw [h1,h2,SX.bq_eq _ _ h3,h4,h5,SX.bq_eq _ _ h6]
theorem St.bq_eq(x y:St)(h:x.bq y=true):x=y:=by
 cases x;cases y;simp only [St.bq,Bool.and_eq_true,beq_iff_eq,decide_eq_true_eq]at h;obtain⟨⟨⟨⟨⟨h1,h2⟩,h3⟩,rfl⟩,rfl⟩,h6⟩:=h;rw [ZO VX.bq_eq h1,ZO Bk.bq_eq h2,ZO Cd.bq_eq h3,ZO (fun _ _ h=>ZO VX.bq_eq h) h6]
theorem Wh(s:St):∀(l:List St),s∈Qbj s l
 | []=>List.mem_singleton.2 rfl
 |t :: ts=>by
  unfold Qbj;split
  ·rename_i h;rw [St.bq_eq _ _ h];exact List.mem_cons_self ..
  ·exact List.mem_cons_of_mem _ (Wh s ts)
theorem Wi(s:St):∀{l:List St} {x:St},x∈l→x∈Qbj s l
 |t :: ts,x,h=>by
  unfold Qbj;split
  ·exact h
  ·rcases List.mem_cons.1 h with rfl|h
   ·exact List.mem_cons_self ..
   ·exact List.mem_cons_of_mem _ (Wi s h)
theorem Tr.ins_new(s:St):∀(l pre:List Bool) (t:Tr),(pre.reverse ++ l,s)∈(t.ins s l).all pre
 | [],pre,.nil=>by simp [Tr.ins,Tr.all]
 | [],pre,.node ss a b=>by
   simp only [Tr.ins,Tr.all,List.append_nil];exact List.mem_append_left _ (List.mem_map.2 ⟨s,Wh s ss,rfl⟩)
 |true :: l,pre,.nil=>by
  have:=Tr.ins_new s l (true :: pre) .nil;simp only [List.reverse_cons,List.append_assoc,List.cons_append,List.nil_append]at this;simp only [Tr.ins,Tr.all];exact List.mem_append_right _ (List.mem_append_left _ this)
 |false :: l,pre,.nil=>by
  have:=Tr.ins_new s l (false :: pre) .nil;simp only [List.reverse_cons,List.append_assoc,List.cons_append,List.nil_append]at this;simp only [Tr.ins,Tr.all];exact List.mem_append_right _ (List.mem_append_right _ this)
 |true :: l,pre,.node ss a b=>by
  have:=Tr.ins_new s l (true :: pre) a;simp only [List.reverse_cons,List.append_assoc,List.cons_append,List.nil_append]at this;simp only [Tr.ins,Tr.all];exact List.mem_append_right _ (List.mem_append_left _ this)
 |false :: l,pre,.node ss a b=>by
  have:=Tr.ins_new s l (false :: pre) b;simp only [List.reverse_cons,List.append_assoc,List.cons_append,List.nil_append]at this;simp only [Tr.ins,Tr.all];exact List.mem_append_right _ (List.mem_append_right _ this)
theorem Tr.ins_old(s:St):∀(l pre:List Bool) (t:Tr) {e:List Bool×St},e∈t.all pre→e∈(t.ins s l).all pre
 | [],pre,.nil,e,h=>by cases h
 | [],pre,.node ss a b,e,h=>by
   simp only [Tr.ins,Tr.all]at h ⊢;rcases List.mem_append.1 h with h|h
   ·obtain⟨x,hx,rfl⟩:=List.mem_map.1 h;exact List.mem_append_left _ (List.mem_map.2 ⟨x,Wi s hx,rfl⟩)
   ·exact List.mem_append_right _ h
 |true :: l,pre,.nil,e,h=>by cases h
 |false :: l,pre,.nil,e,h=>by cases h
 |true :: l,pre,.node ss a b,e,h=>by
  simp only [Tr.ins,Tr.all]at h ⊢;rcases List.mem_append.1 h with h|h
  ·exact List.mem_append_left _ h
  ·rcases List.mem_append.1 h with h|h
   ·exact List.mem_append_right _ (List.mem_append_left _ (Tr.ins_old s l (true :: pre) a h))
   ·exact List.mem_append_right _ (List.mem_append_right _ h)
 |false :: l,pre,.node ss a b,e,h=>by
  simp only [Tr.ins,Tr.all]at h ⊢;rcases List.mem_append.1 h with h|h
  ·exact List.mem_append_left _ h
  ·rcases List.mem_append.1 h with h|h
   ·exact List.mem_append_right _ (List.mem_append_left _ h)
   ·exact List.mem_append_right _ (List.mem_append_right _ (Tr.ins_old s l (false :: pre) b h))
theorem Tr.fill_old:∀(es:List (List Bool×St)) (t:Tr) {e:List Bool×St},e∈t.all []→e∈(Tr.fill es t).all []
 | [],_,_,h=>h
 |x :: es,t,e,h=>Tr.fill_old es _ (Tr.ins_old x.2 x.1 [] t h)
theorem Tr.fill_new:∀(es:List (List Bool×St)) (t:Tr) {e:List Bool×St},e∈es→e∈(Tr.fill es t).all []
 |x :: es,t,e,h=>by
  rcases List.mem_cons.1 h with rfl|h
  ·exact Tr.fill_old es _ (Tr.ins_new e.2 e.1 [] t)
  ·exact Tr.fill_new es _ h
theorem V4{es:List (List Bool×St)}{e:List Bool×St}(h:e∈es):e∈QcC es:=Tr.fill_new es _ h
section
variable{P:Program}{C:List (Kon P)}{I:List (Nat→Env→Prop)}{G:Cfg}{e0 e e':Env}{w0 w w':World}{s:St}{a:Act}{ups:List (List Value)}{inl:Inl}
def Oks(C:List (Kon P))(I:List (Nat→Env→Prop))(n0:Nat)(e0:Env)(os:List Ob):Prop:=∀ob∈os,ob.ok C I n0 e0
theorem Oks.sub{os os':List Ob}{n0:Nat}(h:Oks C I n0 e0 os')(hs:∀o∈os,o∈os'):Oks C I n0 e0 os:=fun o ho=>h o (hs o ho)
theorem Oks.left{os os':List Ob}{n0:Nat}(h:Oks C I n0 e0 (os ++ os')):Oks C I n0 e0 os:=h.sub fun o ho=>List.mem_append_left _ ho
theorem Oks.right{os os':List Ob}{n0:Nat}(h:Oks C I n0 e0 (os ++ os')):Oks C I n0 e0 os':=h.sub fun o ho=>List.mem_append_right _ ho
def JL(C:List (Kon P))(I:List (Nat→Env→Prop))(G:Cfg)(e0:Env)(w0:World)(ups:List (List Value))(ss:List St)(a:Act)(w:World):Prop:=∃s∈ss,∃e,Rel C I G e0 w0 e s a ups w
theorem JL.mono{ss ss':List St}(h:JL C I G e0 w0 ups ss a w)(hs:∀s∈ss,s∈ss'):JL C I G e0 w0 ups ss' a w:=by
 obtain⟨s,hm,e,hR⟩:=h;exact⟨s,hs s hm,e,hR⟩
theorem JY{ops:Array Oper}{j:Nat}(ht:Z2 e s.tm a.tmps.toList){v:VX}(h:((ops[j]?).bind (·.dst)).bind (s.tm[·]?)=some v):∃t u,(ops[j]?).bind (·.dst)=some t∧a.tmps[t]?=some u∧v.sat e u:=by
 obtain⟨t,ht1,ht2⟩:=Option.bind_eq_some_iff.1 h;obtain⟨u,hu,hs⟩:=ht.get ht2;exact⟨t,u,ht1,by rw [←Array.getElem?_toList];exact hu,hs⟩
theorem Vt{y:SX}{r:Bool}(hc:∀c∈s.cd,c.holds C I e)(h:Qfx s.cd y=some r):(y.den e).2=r:=by
 unfold Qfx at h;split at h
 ·rename_i ha;cases h;refine Zq.1 fun z hz=>?_
  have:=List.all_eq_true.1 ha z hz;exact Zh hc (by simpa using this)
 ·split at h
  ·rename_i ha;cases h;obtain⟨z,hz,hz'⟩:=List.any_eq_true.1 ha;have h1:=Zh hc (show ask s.cd z=some false by simpa using hz')
   cases hy:(y.den e).2
   ·rfl
   ·have:=Zq.2 hy z hz;rw [h1]at this;cases this
  ·split at h
   ·rename_i ha;cases h;exact Zh hc ha
   ·cases h
def Md.says(e:Env)(m:Md)(b:Bool):Prop:=
 match m with
 | .run=>b=true
 | .skip=>b=false
 | .spec y=>b=(y.den e).2
theorem Ks{id:Nat}{ops:Array Oper}{o:Oper}{l:List (Md×St)}(h:YN P G id ops o s=some l)(hR:Rel C I G e0 w0 e s a ups w) :
 ∃m s',(m,s')∈l∧Rel C I G e0 w0 e s' a ups w∧m.says e (Region.wanted o (yielded ops a.tmps)):=by
 have on:∀y:SX,Region.wanted o (yielded ops a.tmps)=(y.den e).2→∀l,(match Qfx s.cd y with
  |some true=>some [(Md.run,s)]
  |some false=>some [(.skip,s)]
  |none=>if(KV P G id o y s).isSome then some [(.spec y,s)]else some [(.run,{s with cd:=Zo y true ++ s.cd}),(.skip,{s with cd:=Zo y false ++ s.cd})])=some l→
   ∃m s',(m,s')∈l∧Rel C I G e0 w0 e s' a ups w∧m.says e (Region.wanted o (yielded ops a.tmps)):=by
  intro y hw l h;split at h
  ·rename_i hr;cases h;exact⟨_,s,List.mem_singleton.2 rfl,hR,by rw [hw];exact Vt hR.cd hr⟩
  ·rename_i hr;cases h;exact⟨_,s,List.mem_singleton.2 rfl,hR,by rw [hw];exact Vt hR.cd hr⟩
  ·split at h
   ·cases h;exact⟨_,s,List.mem_singleton.2 rfl,hR,hw⟩
   ·cases h;cases hx:(y.den e).2
    ·exact⟨.skip,_,List.mem_cons_of_mem _ (List.mem_singleton.2 rfl),hR.conds (Zt y false hx),by rw [hw,hx];rfl⟩
    ·exact⟨.run,_,List.mem_cons_self ..,hR.conds (Zt y true hx),by rw [hw,hx];rfl⟩
 have wantd:∀(x:SX) (want:Bool),((if want then x else x.mkNo).den e).2=((x.den e).2==want):=fun x want=>by
  cases want
  ·simp [SX.mkNo_den]
  ·simp
 unfold YN at h
 dsimp only at h
 split at h
 ·rename_i hg;cases h;exact⟨.run,s,List.mem_singleton.2 rfl,hR,by simp [Md.says,Region.wanted,hg]⟩
 ·rename_i j want hg;split at h
  ·rename_i hj;cases h;obtain⟨t,u,h1,h2,h3⟩:=JY hR.tm hj;refine⟨.skip,s,List.mem_singleton.2 rfl,hR,?_⟩;simp only [VX.sat]at h3;subst h3;simp [Md.says,Region.wanted,hg,yielded,h1,h2,undef]
  ·rename_i x hj;obtain⟨t,u,h1,h2,h3⟩:=JY hR.tm hj;simp only [VX.sat,PX.den,LX.den]at h3;subst h3;exact on _ (by rw [wantd];simp [Region.wanted,hg,yielded,h1,h2]) l h
  ·rename_i c x hj;obtain⟨t,u,h1,h2,h3⟩:=JY hR.tm hj;refine on _ ?_ l h;rw [SX.mkAn_den,wantd];simp only [VX.sat,PX.den,LX.den]at h3;cases hc:(c.den e).2
   ·have:=h3.2 hc;subst this;simp [Region.wanted,hg,yielded,h1,h2,undef]
   ·have:=h3.1 hc;subst this;simp [Region.wanted,hg,yielded,h1,h2]
  ·cases h
theorem ZQ{ops:Array Oper}{id:Nat}{o:Oper}:∀{l:List (Md×St)} {ss:List St} {os:List Ob},Kw P inl G ops id o l=some (ss,os)→
 (∀s',(.run,s')∈l→∃ss'' os',Qfn P inl G id o s'=some (ss'',os')∧(∀x∈ss'',x∈ss)∧∀x∈os',x∈os)∧(∀s',(.skip,s')∈l→s'.put o.dst .un∈ss)∧
   (∀y s',(.spec y,s')∈l→∃s'' os',KV P G id o y s'=some (s'',os')∧s''∈ss∧∀x∈os',x∈os)
 | [],ss,os,h=>⟨fun s' h=>(List.not_mem_nil h).elim,fun s' h=>(List.not_mem_nil h).elim,fun y s' h=>(List.not_mem_nil h).elim⟩
 |(m,s1) :: rest,ss,os,h=>by
  cases m with
  |run=>
   unfold Kw at h;split at h
   ·rename_i s2 o1 ss' o2 h1 h2;cases h;obtain⟨i1,i2,i3⟩:=ZQ h2;refine⟨fun s' hm=>?_,fun s' hm=>?_,fun y s' hm=>?_⟩
    ·rcases List.mem_cons.1 hm with hm|hm
     ·cases hm;exact⟨s2,o1,h1,fun x hx=>List.mem_append_left _ hx,fun x hx=>List.mem_append_left _ hx⟩
     ·obtain⟨s3,o3,h3,h4,h5⟩:=i1 s' hm;exact⟨s3,o3,h3,fun x hx=>List.mem_append_right _ (h4 x hx),fun x hx=>List.mem_append_right _ (h5 x hx)⟩
    ·rcases List.mem_cons.1 hm with hm|hm
     ·cases hm
     ·exact List.mem_append_right _ (i2 s' hm)
    ·rcases List.mem_cons.1 hm with hm|hm
     ·cases hm
     ·obtain⟨s3,o3,h3,h4,h5⟩:=i3 y s' hm;exact⟨s3,o3,h3,List.mem_append_right _ h4,fun x hx=>List.mem_append_right _ (h5 x hx)⟩
   ·cases h
  |spec y0=>
   unfold Kw at h;split at h
   ·rename_i s2 o1 ss' o2 h1 h2;cases h;obtain⟨i1,i2,i3⟩:=ZQ h2;refine⟨fun s' hm=>?_,fun s' hm=>?_,fun y s' hm=>?_⟩
    ·rcases List.mem_cons.1 hm with hm|hm
     ·cases hm
     ·obtain⟨s3,o3,h3,h4,h5⟩:=i1 s' hm;exact⟨s3,o3,h3,fun x hx=>List.mem_cons_of_mem _ (h4 x hx),fun x hx=>List.mem_append_right _ (h5 x hx)⟩
    ·rcases List.mem_cons.1 hm with hm|hm
     ·cases hm
     ·exact List.mem_cons_of_mem _ (i2 s' hm)
    ·rcases List.mem_cons.1 hm with hm|hm
     ·cases hm;exact⟨s2,o1,h1,List.mem_cons_self ..,fun x hx=>List.mem_append_left _ hx⟩
     ·obtain⟨s3,o3,h3,h4,h5⟩:=i3 y s' hm;exact⟨s3,o3,h3,List.mem_cons_of_mem _ h4,fun x hx=>List.mem_append_right _ (h5 x hx)⟩
   ·cases h
  |skip=>
   unfold Kw at h;split at h
   ·rename_i ss' o2 h2;cases h;obtain⟨i1,i2,i3⟩:=ZQ h2;refine⟨fun s' hm=>?_,fun s' hm=>?_,fun y s' hm=>?_⟩
    ·rcases List.mem_cons.1 hm with hm|hm
     ·cases hm
     ·obtain⟨s3,o3,h3,h4,h5⟩:=i1 s' hm;exact⟨s3,o3,h3,fun x hx=>List.mem_cons_of_mem _ (h4 x hx),h5⟩
    ·rcases List.mem_cons.1 hm with hm|hm
     ·cases hm;exact List.mem_cons_self ..
     ·exact List.mem_cons_of_mem _ (i2 s' hm)
    ·rcases List.mem_cons.1 hm with hm|hm
     ·cases hm
     ·obtain⟨s3,o3,h3,h4,h5⟩:=i3 y s' hm;exact⟨s3,o3,h3,List.mem_cons_of_mem _ h4,h5⟩
   ·cases h
theorem VA{ops:Array Oper}{id:Nat}{o:Oper}:∀{l:List St} {ss:List St} {os:List Ob},Qaz P inl G ops id o l=some (ss,os)→s∈l→
 ∃g ss' os',YN P G id ops o s=some g∧Kw P inl G ops id o g=some (ss',os')∧(∀x∈ss',x∈ss)∧∀x∈os',x∈os
 |s1 :: rest,ss,os,h,hm=>by
  unfold Qaz at h;split at h
  ·rename_i a1 x1 b1 y1 h1 h2;cases h;rcases List.mem_cons.1 hm with hm|hm
   ·subst hm;obtain⟨g,hg,ho⟩:=Option.bind_eq_some_iff.1 h1;exact⟨g,a1,x1,hg,ho,fun x hx=>List.mem_append_left _ hx,fun x hx=>List.mem_append_left _ hx⟩
   ·obtain⟨g,s2,o2,h3,h4,h5,h6⟩:=VA h2 hm;exact⟨g,s2,o2,h3,h4,fun x hx=>List.mem_append_right _ (h5 x hx),fun x hx=>List.mem_append_right _ (h6 x hx)⟩
  ·cases h
theorem VB(hS:C.map (·.sg)=G.sg)(hI:QbK P C I inl){ops:Array Oper}{i id:Nat}{o:Oper}(ho:ops[i]?=some o){l ss:List St}{os:List Ob}(h:Qaz P inl G ops id o l=some (ss,os))(hm:s∈l)(hob:Oks C I G.n0 e0 os)
 (hR:Rel C I G e0 w0 e s a ups w) {K:Act→World→Prop} {Q:Exit→Act→World→Prop} (hK:∀a' w',JL C I G e0 w0 ups ss a' w'→K a' w'):wpOp P ops Q i K a w:=by
 obtain⟨g,ss',os',hg,ho',h1,h2⟩:=VA h hm;obtain⟨m,s',hb,hR',hw⟩:=Ks hg hR;obtain⟨p1,p2,p3⟩:=ZQ ho';unfold wpOp;rw [ho]
 dsimp only
 cases m with
 |run=>
  simp only [Md.says]at hw;rw [if_pos hw];obtain⟨s'',o1,h3,h4,h5⟩:=p1 s' hb;exact .inl (Qiz hS hI h3 (fun ob hm=>hob ob (h2 ob (h5 ob hm))) hR' fun s3 hs3 e' a' w' hr=>hK a' w' ⟨s3,h1 _ (h4 _ hs3),e',hr⟩)
 |skip=>
  simp only [Md.says]at hw;rw [if_neg (by rw [hw];simp)]
  exact hK _ _ ⟨_,h1 _ (p2 s' hb),e,hR'.put (v:= .un) rfl _⟩
 |spec y=>
  simp only [Md.says]at hw;obtain⟨s'',o1,h3,h4,h5⟩:=p3 y s' hb;obtain⟨q1,q2⟩:=W9 hS h3 (fun ob hm=>hob ob (h2 ob (h5 ob hm))) hR'
  cases hy:(y.den e).2
  ·rw [if_neg (by rw [hw,hy];simp)]
   obtain⟨e',hr⟩:=q2 hy;exact hK _ _ ⟨_,h1 _ h4,e',hr⟩
  ·rw [if_pos (by rw [hw,hy])]
   exact .inl (q1 hy _ _ fun e' a' w' hr=>hK a' w' ⟨s'',h1 _ h4,e',hr⟩)
theorem KZ(hS:C.map (·.sg)=G.sg)(hI:QbK P C I inl){ops:Array Oper}{nx:Nat}{Q:Exit→Act→World→Prop}:∀{is:List Nat} {l ss:List St} {os:List Ob},WC P inl G ops nx is l=some (ss,os)→Oks C I G.n0 e0 os→
 (∀a' w',JL C I G e0 w0 ups ss a' w'→Q .normal a' w')→∀{a:Act} {w:World},JL C I G e0 w0 ups l a w→wpOps P ops Q is a w
 | [],l,ss,os,h,_,hQ,a,w,hs=>by
   simp only [WC,Option.some.injEq,Prod.mk.injEq]at h;obtain⟨rfl,rfl⟩:=h;exact hQ a w hs
 |i :: is,l,ss,os,h,hob,hQ,a,w,hs=>by
  unfold WC at h;split at h
  ·cases h
  ·rename_i o ho;split at h
   ·rename_i l' o1 h1;obtain⟨⟨r,o2⟩,h2,hp⟩:=Ql h;simp only [Prod.mk.injEq]at hp;obtain⟨rfl,rfl⟩:=hp;obtain⟨s,hm,e,hR⟩:=hs;rw [wpOps_cons];exact VB hS hI ho h1 hm hob.left hR fun a' w' hs'=>KZ hS hI h2 hob.right hQ hs'
   ·cases h
theorem Y1{ops:Array Oper}{nx:Nat}{l:List Bool}:∀{is:List Nat} {r:List (List Bool×St)} {os:List Ob},Kv.all P inl G ops nx l s is=some (r,os)→∀i∈is,∃r' os',Kv.one P inl G ops nx l s i=some (r',os')∧(∀x∈r',x∈r)∧∀x∈os',x∈os
 |i0 :: is,r,os,h,i,hi=>by
  unfold Kv.all at h;split at h
  ·rename_i a1 x1 b1 y1 h1 h2;cases h;rcases List.mem_cons.1 hi with hi|hi
   ·subst hi;exact⟨a1,x1,h1,fun x hx=>List.mem_append_left _ hx,fun x hx=>List.mem_append_left _ hx⟩
   ·obtain⟨r',o',h3,h4,h5⟩:=Y1 h2 i hi;exact⟨r',o',h3,fun x hx=>List.mem_append_right _ (h4 x hx),fun x hx=>List.mem_append_right _ (h5 x hx)⟩
  ·cases h
theorem Y2{ops:Array Oper}{nx i:Nat}{l:List Bool}{r:List (List Bool×St)}{os:List Ob}(h:Kv.one P inl G ops nx l s i=some (r,os)) :
 ∃o ss,ops[i]?=some o∧Qaz P inl G ops (nx+4 * i) o [s]=some (ss,os)∧∀s'∈ss,(l.set i true,s'.norm)∈r:=by
 unfold Kv.one at h;split at h
 ·cases h
 ·rename_i o ho;obtain⟨⟨ss,o1⟩,h1,hp⟩:=Ql h;simp only [Prod.mk.injEq]at hp;obtain⟨rfl,rfl⟩:=hp;exact⟨o,ss,ho,h1,fun s' hs'=>List.mem_map.2 ⟨s',hs',rfl⟩⟩
theorem Qll{id:Nat}{o:Oper}{s:St}{ss:List St}{os:List Ob}(hp:Kt o.op=true)(h:Vc P inl G id o s=some (ss,os)):((Jl P [] s o.op).map fun(v,xs)=>([s.put o.dst v],owe s xs))=some (ss,os):=by
 obtain⟨dst,op,type,pos,after,guard⟩:=o;unfold Vc at h
 dsimp only at h hp ⊢
 split at h <;> first
  |(simp [Kt]at hp;done)
  |exact h
theorem Qb1{id:Nat}{o:Oper}{ss:List St}{os:List Ob}(hp:Kt o.op=true)(h:Qfn P inl G id o s=some (ss,os))(hob:∀ob∈os,ob.ok C I G.n0 e0)(hR:Rel C I G e0 w0 e s a ups w) :
 ∃s1 v u,ss= [s1.put o.dst v]∧Rel C I G e0 w0 e s1 a ups w∧v.sat e u∧∀w,(execOp a.eval o).run P w= .ok (.value u) w:=by
 have one:∀{s1:St} {ss:List St} {os:List Ob},Vc P inl G id o s1=some (ss,os)→(∀ob∈os,ob.ok C I G.n0 e0)→Rel C I G e0 w0 e s1 a ups w→∃s1 v u,ss= [s1.put o.dst v]∧Rel C I G e0 w0 e s1 a ups w∧v.sat e u∧∀w,(execOp a.eval o).run P w= .ok (.value u) w:=fun {s1 ss os} h hob hR=>by
  obtain⟨⟨v,xs⟩,hv,hvp⟩:=Ql (Qll hp h);simp only [Prod.mk.injEq]at hvp;obtain⟨rfl,rfl⟩:=hvp;obtain⟨u,hu,hr⟩:=Xj hR.kn0 hR.bs hv (hR.owed hob);exact⟨s1,v,u,rfl,hR,hu,hr⟩
 unfold Qfn at h;split at h
 ·cases h
 ·rename_i ss1 os1 h1;split at h
  ·cases h;exact one h1 hob hR
  ·rename_i hn;split at h
   ·cases h;exact one h1 hob hR
   ·obtain⟨⟨ss2,os2⟩,h2,hq⟩:=Ql h;simp only [Prod.mk.injEq]at hq;obtain⟨rfl,rfl⟩:=hq;obtain⟨xs,rfl⟩:=Qfm h1 (by simpa using hn)
    exact one h2 (fun ob hm=>hob ob (List.mem_append_right _ hm)) (hR.plus fun ob hm=>hob ob (List.mem_append_left _ hm))
theorem QhS{c x:Cd}:∀{l:List Cd},x∈Qst c l→x=c∨x∈l
 | [],h=> .inl (List.mem_singleton.1 h)
 |d :: ds,h=>by
  unfold Qst at h;split at h
  ·exact List.mem_cons.1 h
  ·rcases List.mem_cons.1 h with h|h
   ·exact .inr (h ▸ List.mem_cons_self ..)
   ·rcases QhS h with h|h
    ·exact .inl h
    ·exact .inr (List.mem_cons_of_mem _ h)
theorem Qfb{x:Cd}:∀{l:List Cd},x∈QnY l→x∈l
 | [],h=>h
 |c :: cs,h=>by
  unfold QnY at h;rcases QhS h with h|h
  ·exact h ▸ List.mem_cons_self ..
  ·exact List.mem_cons_of_mem _ (Qfb h)
theorem Rel.norm(hR:Rel C I G e0 w0 e s a ups w):Rel C I G e0 w0 e s.norm a ups w:=⟨hR.df,hR.tm,hR.up,hR.hp,hR.nd,hR.inj,hR.rw,hR.bl,fun c hc=>hR.cd c (Qfb hc),hR.ex⟩
theorem Qb0{id:Nat}{o:Oper}{y:SX}{s':St}{os:List Ob}(hp:Kt o.op=true)(h:KV P G id o y s=some (s',os)):∃x xs,Jl P (QP y) s o.op=some (.v x,xs)∧s'=s.put o.dst (.gd y x)∧os=Qlj s (QP y) xs:=by
 obtain⟨dst,op,type,pos,after,guard⟩:=o;unfold KV at h
 dsimp only at h hp ⊢
 split at h
 ·simp [Kt]at hp
 ·simp [Kt]at hp
 ·split at h
  ·rename_i x xs hx;cases h;exact⟨x,xs,hx,rfl,rfl⟩
  ·cases h
theorem JU{ops:Array Oper}{nx:Nat}:∀{es es':List (List Bool×St)} {os:List Ob},YQ P inl G ops nx es=some (es',os)→∀{l:List Bool} {s:St},(l,s)∈es→∃r os',Kv P inl G ops nx l s=some (r,os')∧(∀x∈r,x∈es')∧∀x∈os',x∈os
 |(l0,s0) :: es,es',os,h,l,s,hm=>by
  unfold YQ at h;split at h
  ·rename_i a1 x1 b1 y1 h1 h2;cases h;rcases List.mem_cons.1 hm with hm|hm
   ·cases hm;exact⟨a1,x1,h1,fun x hx=>List.mem_append_left _ hx,fun x hx=>List.mem_append_left _ hx⟩
   ·obtain⟨r',o',h3,h4,h5⟩:=JU h2 hm;exact⟨r',o',h3,fun x hx=>List.mem_append_right _ (h4 x hx),fun x hx=>List.mem_append_right _ (h5 x hx)⟩
  ·cases h
theorem K5{ops:Array Oper}{nx:Nat}:∀{n:Nat} {es:List (List Bool×St)} {ss:List St} {os:List Ob},KO P inl G ops nx n es=some (ss,os)→∀{l:List Bool} {s:St},(l,s)∈es→Region.ready .any ops l.toArray= []→s∈ss
 |0,es,ss,os,h,l,s,hm,_=>by
  unfold KO at h;split at h
  ·cases h;exact Jj (List.mem_map.2 ⟨(l,s),hm,rfl⟩)
  ·cases h
 |n+1,es,ss,os,h,l,s,hm,hr=>by
  unfold KO at h;split at h
  ·rename_i es' o1 h1;obtain⟨⟨r,o2⟩,h2,hp⟩:=Ql h;simp only [Prod.mk.injEq]at hp;obtain⟨rfl,rfl⟩:=hp;obtain⟨r',o',h3,h4,_⟩:=JU h1 hm;unfold Kv at h3;rw [Vp,hr]at h3;simp only [Option.some.injEq,Prod.mk.injEq]at h3;obtain⟨rfl,rfl⟩:=h3;exact K5 h2 (V4 (h4 _ (List.mem_singleton.2 rfl))) hr
  ·cases h
theorem KP(hS:C.map (·.sg)=G.sg)(hI:QbK P C I inl){ops:Array Oper}(hsel:Region.noSelect ops=true){nx:Nat}{Q:Exit→Act→World→Prop}(hpan:∀c a w,¬Q (.panic c) a w):∀{n:Nat} {es:List (List Bool×St)} {ss:List St} {os:List Ob},
 KO P inl G ops nx n es=some (ss,os)→Oks C I G.n0 e0 os→(∀a' w',JL C I G e0 w0 ups ss a' w'→Q .normal a' w')→∀{l:List Bool} {s:St} {e:Env} {a:Act} {w:World},(l,s)∈es→Rel C I G e0 w0 e s a ups w→wpAny P .any ops Q n l.toArray a w
 |0,es,ss,os,h,_,hQ,l,s,e,a,w,hm,hR=>by
  have hfin:=K5 h hm;unfold KO at h;split at h
  ·rename_i hall;have:=List.all_eq_true.1 hall (l,s) hm;simp only [List.isEmpty_iff,Vp]at this;exact⟨this,hQ a w ⟨s,hfin this,e,hR⟩⟩
  ·cases h
 |n+1,es,ss,os,h,hob,hQ,l,s,e,a,w,hm,hR=>by
  have hfin:=K5 h hm;by_cases hr:Region.ready .any ops l.toArray= []
  ·exact wpAny_done hr (hQ a w ⟨s,hfin hr,e,hR⟩) _
  unfold KO at h;split at h
  ·rename_i es' o1 h1;obtain⟨⟨r,o2⟩,h2,hp⟩:=Ql h;simp only [Prod.mk.injEq]at hp;obtain⟨rfl,rfl⟩:=hp;obtain⟨r',o',h3,h4,h5⟩:=JU h1 hm
   have next:∀{i:Nat} {s':St} {e':Env} {a':Act} {w':World},(l.set i true,s'.norm)∈r'→Rel C I G e0 w0 e' s' a' ups w'→wpAny P .any ops Q n (l.toArray.setIfInBounds i true) a' w':=fun {i s' e' a' w'} hm' hR'=>by
    have:=KP hS hI hsel hpan h2 hob.right hQ (V4 (h4 _ hm')) hR'.norm;rwa [show(l.set i true).toArray=l.toArray.setIfInBounds i true by simp]at this
   have hob1:Oks C I G.n0 e0 o':=hob.left.sub h5;unfold Kv at h3;rw [Vp]at h3
   dsimp only at h3
   split at h3
   ·rename_i h0;exact absurd h0 hr
   ·split at h3
    ·rename_i i hi;have hir:=List.mem_of_find?_eq_some hi;have hip:=List.find?_some hi;simp only [Bool.and_eq_true,Qh8]at hip;obtain⟨o,ss',ho,hrun,hall⟩:=Y2 h3;rw [ho]at hip;simp only [Option.map_some,Option.getD_some]at hip;obtain⟨g,ss1,os1,hg,hop,m1,m2⟩:=VA hrun (List.mem_singleton.2 rfl);obtain⟨m,s1,hb,hR1,hw⟩:=Ks hg hR;obtain⟨p1,p2,p3⟩:=ZQ hop;cases m with
     |run=>
      simp only [Md.says]at hw;obtain⟨s2,o3,h6,h7,h8⟩:=p1 s1 hb;obtain⟨s3,v,u,rfl,hR3,hu,hrun'⟩:=Qb1 hip.1 h6 (fun ob hm=>hob1 ob (m2 ob (h8 ob hm))) hR1
      exact wpAny_take ho hsel hip.2 (by simpa using hir) (fun c a w hq=>absurd hq (hpan c _ w)) (.inl ⟨hw,hrun'⟩) (next (hall _ (m1 _ (h7 _ (List.mem_singleton.2 rfl)))) (hR3.put hu _))
     |skip=>
      simp only [Md.says]at hw;exact wpAny_take ho hsel hip.2 (by simpa using hir) (fun c a w hq=>absurd hq (hpan c _ w)) (.inr ⟨hw,rfl⟩) (next (hall _ (m1 _ (p2 s1 hb))) (hR1.put (v:= .un) rfl _))
     |spec y=>
      simp only [Md.says]at hw;obtain⟨s2,o3,h6,h7,h8⟩:=p3 y s1 hb;obtain⟨x,xs,hx,rfl,rfl⟩:=Qb0 hip.1 h6;cases hy:(y.den e).2
      ·exact wpAny_take ho hsel hip.2 (by simpa using hir) (fun c a w hq=>absurd hq (hpan c _ w)) (.inr ⟨by rw [hw,hy],rfl⟩) (next (hall _ (m1 _ h7)) (hR1.put (v:= .gd y x) ⟨(fun h'=>by rw [hy]at h';cases h'),fun _=>rfl⟩ _))
      ·obtain⟨u,hu,hrun'⟩:=Xj (hR1.kn (Zq.2 hy)) hR1.bs hx (hR1.owedH (Zq.2 hy) fun ob hm=>hob1 ob (m2 ob (h8 ob hm)))
       exact wpAny_take ho hsel hip.2 (by simpa using hir) (fun c a w hq=>absurd hq (hpan c _ w)) (.inl ⟨by rw [hw,hy],hrun'⟩) (next (hall _ (m1 _ h7)) (hR1.put (v:= .gd y x) ⟨fun _=>hu,(fun h'=>by rw [hy]at h';cases h')⟩ _))
    ·refine⟨fun h0=>absurd h0 hr,fun i hi=>?_⟩
     obtain⟨r1,os1,h6,h7,h8⟩:=Y1 h3 i hi;obtain⟨o,ss',ho,hrun,hall⟩:=Y2 h6
     exact VB hS hI ho hrun (List.mem_singleton.2 rfl) (hob1.sub h8) hR fun a' w' hs'=>by
      obtain⟨s',hs1,e',hR'⟩:=hs';exact next (h7 _ (hall s' hs1)) hR'
  ·cases h
end
def Ex.exit:Ex→Exit
 | .nor=> .normal
 | .ex id=> .exit id
 | .rt=> .ret
section
variable{P:Program}{C:List (Kon P)}{I:List (Nat→Env→Prop)}{ups:List (List Value)}{inl:Inl}
def Jr(C:List (Kon P))(I:List (Nat→Env→Prop))(G:Cfg)(e0:Env)(w0:World)(ups:List (List Value))(es:List (Ex×St)):Exit→Act→World→Prop:=fun x a w=>∃y s,(y,s)∈es∧y.exit=x∧∃e,Rel C I G e0 w0 e s a ups w
theorem Ym{G:Cfg}{e0 e:Env}{w0 w:World}{s:St}{a:Act}(hS:C.map (·.sg)=G.sg)(hI:QbK P C I inl)(hmix:P.follows .mixedOrders=true){id:Nat}{ops:Array Oper}{draw:Bool}{ss:List St}{os:List Ob}(h:YW P inl G ops draw s=some (ss,os))(hob:Oks C I G.n0 e0 os)
 (hR:Rel C I G e0 w0 e s a ups w):(Code.region id ops draw).wp P (fun x a w=>x= .normal∧JL C I G e0 w0 ups ss a w) a w:=by
 unfold YW at h
 dsimp only at h
 obtain⟨⟨ss',os'⟩,h1,hp⟩:=Ql h;simp only [Prod.mk.injEq]at hp;obtain⟨rfl,rfl⟩:=hp;have hob':Oks C I G.n0 e0 os':=hob.sub fun o ho=>Jj ho
 cases draw with
 |false=>
  simp only [Bool.false_eq_true,if_false]at h1;exact wp_region (KZ hS hI h1 hob' (fun a' w' hs=>⟨rfl,hs⟩) ⟨_,List.mem_singleton.2 rfl,e,hR.nx _⟩)
 |true=>
  simp only [if_true]at h1;split at h1
  ·rename_i hsel;refine wp_region_any hmix ?_;have:=KP (Q:=fun x a w=>x= .normal∧JL C I G e0 w0 ups ss' a w) hS hI hsel (fun c a w hq=>by cases hq.1) h1 hob' (fun a' w' hs=>⟨rfl,hs⟩) (List.mem_singleton.2 rfl) (hR.drew.nx _)
   simpa using this
  ·cases h1
theorem KH{f:St→Option (List (Ex×St)×List Ob)}:∀{es r:List (Ex×St)} {os:List Ob},VF f es=some (r,os)→∀{x:Ex} {s:St},(x,s)∈es→
 (x= .nor→∃r' os',f s=some (r',os')∧(∀z∈r',z∈r)∧∀z∈os',z∈os)∧(x≠ .nor→(x,s)∈r)
 |(x0,s0) :: es,r,os,h,x,s,hm=>by
  unfold VF at h;split at h
  ·rename_i heq;cases heq
  ·rename_i s1 r1 heq;cases heq;split at h
   ·rename_i a1 x1 b1 y1 h1 h2;cases h;rcases List.mem_cons.1 hm with hm|hm
    ·cases hm;exact⟨fun _=>⟨a1,x1,h1,fun z hz=>List.mem_append_left _ hz,fun z hz=>List.mem_append_left _ hz⟩,fun hn=>absurd rfl hn⟩
    ·obtain⟨i1,i2⟩:=KH h2 hm;refine⟨fun hx=>?_,fun hn=>List.mem_append_right _ (i2 hn)⟩
     obtain⟨r',o',h3,h4,h5⟩:=i1 hx;exact⟨r',o',h3,fun z hz=>List.mem_append_right _ (h4 z hz),fun z hz=>List.mem_append_right _ (h5 z hz)⟩
   ·cases h
  ·rename_i y r1 hne heq;cases heq;obtain⟨⟨b1,y1⟩,h2,hp⟩:=Ql h;simp only [Prod.mk.injEq]at hp;obtain⟨rfl,rfl⟩:=hp;rcases List.mem_cons.1 hm with hm|hm
   ·cases hm;exact⟨fun hx=>by subst hx;exact absurd rfl (hne _),fun _=>List.mem_cons_self ..⟩
   ·obtain⟨i1,i2⟩:=KH h2 hm;exact⟨fun hx=>by obtain⟨r',o',h3,h4,h5⟩:=i1 hx;exact⟨r',o',h3,fun z hz=>List.mem_cons_of_mem _ (h4 z hz),h5⟩,fun hn=>List.mem_cons_of_mem _ (i2 hn)⟩
theorem Vq{G:Cfg}{e0:Env}{w0:World}{es r:List (Ex×St)}{os:List Ob}{f:St→Option (List (Ex×St)×List Ob)}(h:VF f es=some (r,os)){K:Act→World→Prop}
 (hK:∀s r' os' e a w,f s=some (r',os')→(∀z∈r',z∈r)→(∀z∈os',z∈os)→Rel C I G e0 w0 e s a ups w→K a w) :
 ∀x a w,Jr C I G e0 w0 ups es x a w→Exit.then K (Jr C I G e0 w0 ups r) x a w:=fun x a w hp=>by
 obtain⟨y,s,hm,rfl,e,hR⟩:=hp;obtain⟨i1,i2⟩:=KH h hm;cases y with
 |nor=>
  obtain⟨r',o',h3,h4,h5⟩:=i1 rfl;exact hK s r' o' e a w h3 h4 h5 hR
 |ex id=>exact⟨_,s,i2 (by simp),rfl,e,hR⟩
 |rt=>exact⟨_,s,i2 (by simp),rfl,e,hR⟩
theorem Jr.mono{G:Cfg}{e0:Env}{w0:World}{es r:List (Ex×St)}(h:∀z∈es,z∈r):∀x a w,Jr C I G e0 w0 ups es x a w→Jr C I G e0 w0 ups r x a w:=fun x a w hp=>by
 obtain⟨y,s,hm,rfl,e,hR⟩:=hp;exact⟨y,s,h _ hm,rfl,e,hR⟩
theorem JQ{G:Cfg}{e0:Env}{w0:World}{c:Code}{f:St→Option (List (Ex×St)×List Ob)}
 (hf:∀s es os e a w,f s=some (es,os)→Oks C I G.n0 e0 os→Rel C I G e0 w0 e s a ups w→c.wp P (Jr C I G e0 w0 ups es) a w) :
 ∀(m:Nat) (s:St) (r rr:List (Ex×St)) (os:List Ob) (e:Env) (a:Act) (w:World),Vk f m s=some (r,os)→(∀z∈r,z∈rr)→Oks C I G.n0 e0 os→Rel C I G e0 w0 e s a ups w→Code.rounds P c (Jr C I G e0 w0 ups rr) m a w
 |0,_,_,_,_,_,_,_,h,_,_,_=>by cases h
 |m+1,s,r,rr,os,e,a,w,h,hrr,hob,hR=>by
  unfold Vk at h;split at h
  ·rename_i es o1 h1;obtain⟨⟨r2,o2⟩,h2,hp⟩:=Ql h;simp only [Prod.mk.injEq]at hp;obtain⟨rfl,rfl⟩:=hp;rw [rounds_succ];refine wp_mono (hf s es o1 e a w h1 hob.left hR) fun x a' w' hpx=>?_
   have:=Vq h2 (K:=Code.rounds P c (Jr C I G e0 w0 ups rr) m) (fun s' r' o' e' a'' w'' h3 h4 h5 hR'=>JQ hf m s' r' rr o' e' a'' w'' h3 (fun z hz=>hrr z (h4 z hz)) (hob.right.sub h5) hR') x a' w' hpx
   cases x <;> first
    |exact this
    |exact Jr.mono hrr _ _ _ this
  ·cases h
end
end Go.Proofs.YteplnamfpodmlaaGreat.T2
end
section
namespace Go.Proofs.YteplnamfpodmlaaGreat.T2
section
variable{e e':Env}
theorem Z2.set':∀{xs:List VX} {vs:List Value} (t:Nat) {x:VX},Z2 e xs vs→(∀v,vs[t]?=some v→x.sat e v)→Z2 e (xs.set t x) vs
 | [],[],_,_,_,_=>trivial
 | [],_ :: _,_,_,h,_=>h.elim
 |_ :: _,[],_,_,h,_=>h.elim
 |_ :: _,v :: _,0,_,h,hx=>⟨hx v rfl,h.2⟩
 |_ :: _,_ :: _,t+1,_,h,hx=>⟨h.1,Z2.set' t h.2 fun v hv=>hx v (by simpa using hv)⟩
theorem Env.agr_refl(n:Nat)(e:Env):Env.agr n e e:=fun _ _=>rfl
theorem Env.agr_trans{n m:Nat}{e0 e1 e2:Env}(h:Env.agr n e0 e1)(h':Env.agr m e1 e2)(hm:n≤m):Env.agr n e0 e2:=fun x hx=>(h' x (by omega)).trans (h x hx)
theorem Ya{d:Nat}(h:Env.agr d e e'):Env.off (fun x=>decide (x < d)) e e':=fun x hx=>by
 simp only [decide_eq_true_eq]at hx;exact(h x hx).symm
section
variable{d:Nat}{xs:List LX}{ms:List (Option (Nat×Nat))}
theorem Yo{x:Nat}(h:x < d):(e.sub d xs ms).nm x=e.nm x:=by
 unfold Env.sub;simp only [show ¬x=d by omega,show ¬d < x by omega,if_false]
theorem Qa4:(e.sub d xs ms).nm d={Nm.zero with int:=fun j=>match xs[j]? with|some (.n _ y)=>(y.den e).1|_=>0,bool:=fun j=>match xs[j]? with|some (.t y)=>(y.den e).2|_=>false}:=by
 unfold Env.sub;simp only [if_true];rfl
theorem Qa5{x:Nat}(h:d < x){m:Option (Nat×Nat)}(hm:ms[x - (d+1)]?=some m):(e.sub d xs ms).nm x=Qi2 e m:=by
 unfold Env.sub;simp only [show ¬x=d by omega,h,if_false,if_true,hm]
theorem Qfs:Env.agr d e (e.sub d xs ms):=fun x hx=>Yo hx
theorem WP:Env.off (fun x=>decide (x < d)) e (e.sub d xs ms):=Ya Qfs
theorem Qf5{h c:SX}(hq:eqS d xs h c=true):(h.den (e.sub d xs ms)).1=(c.den e).1:=by
 unfold eqS at hq;rw [Bool.or_eq_true,Bool.and_eq_true]at hq;rcases hq with ⟨h1,h2⟩|hq
 ·rw [←SX.den_off WP h h2,SX.bq_eq _ _ h1]
 ·split at hq
  ·rename_i d' j;simp only [Bool.and_eq_true,beq_iff_eq]at hq;obtain⟨rfl,hq⟩:=hq;split at hq
   ·rename_i k y hx;simp only [SX.den,Env.int,Qa4,hx];rw [SX.bq_eq _ _ hq]
   ·cases hq
  ·cases hq
theorem QnF{h c:LX}(hq:eqL d xs ms h c=true):h.den (e.sub d xs ms)=c.den e:=by
 unfold eqL at hq;rw [Bool.or_eq_true,Bool.and_eq_true]at hq;rcases hq with ⟨h1,h2⟩|hq
 ·rw [←LX.den_off WP h h2,LX.bq_eq _ _ h1]
 ·split at hq
  ·rename_i k d' j k' y;simp only [Bool.and_eq_true,beq_iff_eq,decide_eq_true_eq]at hq;obtain⟨⟨rfl,rfl⟩,hq⟩:=hq;split at hq
   ·rename_i k2 z hx;simp only [LX.den,SX.den,Env.int,Qa4,hx];rw [SX.bq_eq _ _ hq]
   ·cases hq
  ·rename_i d' j y;simp only [Bool.and_eq_true,beq_iff_eq]at hq;obtain⟨rfl,hq⟩:=hq;split at hq
   ·rename_i z hx;simp only [LX.den,SX.den,Env.bool,Qa4,hx];rw [SX.bq_eq _ _ hq]
   ·cases hq
  ·rename_i m d' j b len;simp only [Bool.and_eq_true,beq_iff_eq,decide_eq_true_eq]at hq;obtain⟨⟨⟨hm,rfl⟩,h1⟩,h2⟩:=hq;split at h1
   ·rename_i k z hx;split at h2
    ·rename_i b' c' hms;simp only [beq_iff_eq]at h2;subst h2;simp only [LX.den,SX.den,Env.int,Env.base,Env.cap,Qa4,hx,Qa5 hm hms,Qi2];rw [SX.bq_eq _ _ h1]
    ·cases h2
   ·cases h1
  ·rename_i m d' j;simp only [Bool.and_eq_true,beq_iff_eq,decide_eq_true_eq]at hq;obtain⟨⟨⟨hm,rfl⟩,h1⟩,h2⟩:=hq;split at h1
   ·rename_i k hx;split at h2
    ·rename_i hms;simp only [LX.den,SX.den,Env.int,Env.base,Env.cap,Qa4,hx,Qa5 hm hms,Qi2];rfl
    ·cases h2
   ·cases h1
  ·cases hq
theorem Qh4:∀{hs cs:List LX},Qsq d xs ms hs cs=true→hs.map (·.den (e.sub d xs ms))=cs.map (·.den e)
 | [],[],_=>rfl
 |h :: hs,c :: cs,hq=>by
  simp only [Qsq,Bool.and_eq_true]at hq;rw [List.map_cons,List.map_cons,QnF hq.1,Qh4 hq.2]
 | [],_ :: _,h=>by cases h
 |_ :: _,[],h=>by cases h
structure Qsi(m m':Nm):Prop where
 int:m.int=m'.int
 bool:m.bool=m'.bool
 nb:m.nb=m'.nb
 nc:m.nc=m'.nc
 i2:m.i2=m'.i2
 b2:m.b2=m'.b2
theorem QqS{b c:Nat}:Qsi (Qi2 e (some (b,c))) (e.nm c):=⟨rfl,rfl,rfl,rfl,rfl,rfl⟩
theorem QcH{h c:Nat}(hq:eqC d ms h c=true):Qsi ((e.sub d xs ms).nm h) (e.nm c):=by
 unfold eqC at hq;rw [Bool.or_eq_true,Bool.and_eq_true]at hq;rcases hq with ⟨h1,h2⟩|hq
 ·simp only [beq_iff_eq,decide_eq_true_eq]at h1 h2;subst h1;rw [Yo h2];exact⟨rfl,rfl,rfl,rfl,rfl,rfl⟩
 ·rw [Bool.and_eq_true,decide_eq_true_eq]at hq;obtain⟨h1,h2⟩:=hq;split at h2
  ·rename_i b c' hms;simp only [beq_iff_eq]at h2;subst h2;rw [Qa5 h1 hms];exact QqS
  ·cases h2
theorem Qks{j:Nat}(h:Qn4 xs j=true):∃k,xs[j]?=some (.n k (.i 0)):=by
 unfold Qn4 at h;split at h
 ·rename_i k hx;exact⟨k,hx⟩
 ·cases h
theorem Qas{s:St}{b b':Bk}(h:QeZ d xs ms s b=some (some b')):b'∈s.hp∧(∀B w,b'.ok e B w→b.ok (e.sub d xs ms) B w)∧∀g,b.fp (e.sub d xs ms) g→b'.fp e g:=by
 unfold QeZ at h;split at h
 ·rename_i id ty hs;split at h
  ·rename_i id' ty' cs ho;split at h
   ·rename_i hc;simp only [Bool.and_eq_true,decide_eq_true_eq,beq_iff_eq]at hc;obtain⟨⟨h1,rfl⟩,h3⟩:=hc;cases h;obtain⟨hm,rfl⟩:=Jx ho;refine⟨hm,fun B w hk=>?_,fun g hg=>?_⟩
    ·simp only [Bk.ok,Env.adr]at hk ⊢;rw [Yo h1,Qh4 h3];exact hk
    ·simp only [Bk.fp,Env.adr]at hg ⊢;rw [Yo h1]at hg;exact hg
   ·cases h
  ·cases h
 ·rename_i id kk kv ct;split at h
  ·rename_i id' kk' kv' ct' ho;split at h
   ·rename_i hc;simp only [Bool.and_eq_true,decide_eq_true_eq]at hc;obtain⟨⟨⟨h1,rfl⟩,rfl⟩,h3⟩:=hc;cases h;obtain⟨hm,rfl⟩:=Jx ho;have hl:=QcH (e:=e) (xs:=xs) h3;refine⟨hm,fun B w hk=>?_,fun g hg=>?_⟩
    ·simp only [Bk.ok,Env.adr,Env.int,Env.bool]at hk ⊢;rw [Yo h1,hl.int,hl.bool];exact hk
    ·simp only [Bk.fp,Env.adr]at hg ⊢;rw [Yo h1]at hg;exact hg
   ·cases h
  ·cases h
 ·rename_i id ks len ct;split at h
  ·rename_i id' ks' len' ct' ho;split at h
   ·rename_i hc;simp only [Bool.and_eq_true,decide_eq_true_eq]at hc;obtain⟨⟨⟨h1,h2⟩,h4⟩,h3⟩:=hc;cases h;obtain⟨hm,rfl⟩:=Jx ho;have hl:=QcH (e:=e) (xs:=xs) h3;have hk2:=ZO QcW h2;subst hk2;have hle:=Qf5 (e:=e) (ms:=ms) h4;refine⟨hm,fun B w hk=>?_,fun g hg=>?_⟩
    ·simp only [Bk.ok,Env.base,Env.cap,Env.int,reduceCtorEq,false_implies,implies_true,true_implies]at hk ⊢;rw [Yo h1,hle,hl.int,hl.nb,hl.nc,hl.i2,hl.b2];exact hk
    ·simp only [Bk.fp,Env.base,reduceCtorEq,false_implies,implies_true,true_and]at hg ⊢;rw [Yo h1,hle,hl.nb]at hg;exact hg
   ·cases h
  ·cases h
 ·cases h
 ·rename_i id ks len ct;split at h
  ·rename_i h1;split at h
   ·rename_i id' ks' len' ct' ho;split at h
    ·rename_i hc;simp only [Bool.and_eq_true]at hc;obtain⟨⟨h2,h4⟩,h3⟩:=hc;cases h;obtain⟨hm,rfl⟩:=Jx ho;have hl:=QcH (e:=e) (xs:=xs) h3;have hk2:=ZO QcW h2;subst hk2;have hle:=Qf5 (e:=e) (ms:=ms) h4;refine⟨hm,fun B w hk=>?_,fun g hg=>?_⟩
     ·simp only [Bk.ok,Env.base,Env.cap,Env.int,Env.bool]at hk ⊢;rw [Yo h1,hle,hl.int,hl.bool];exact hk
     ·simp only [Bk.fp,Env.base]at hg ⊢;rw [Yo h1]at hg;exact hg
    ·cases h
   ·cases h
  ·rename_i h1;split at h
   ·cases h
   ·rename_i h2;simp only [Bool.or_eq_true,beq_iff_eq,Bool.not_eq_true',beq_eq_false_iff_ne,ne_eq,not_or,Decidable.not_not]at h2;obtain⟨h2,rfl⟩:=h2;split at h
    ·split at h <;> cases h
    ·rename_i b c len' hms;split at h
     ·rename_i id' ks' len2 ct' ho;split at h
      ·rename_i hc;simp only [Bool.and_eq_true,beq_iff_eq]at hc;obtain⟨⟨h3,h4⟩,rfl⟩:=hc;cases h;obtain⟨hm,rfl⟩:=Jx ho;have hk2:=ZO QcW h3;subst hk2;have hle:=Qf5 (e:=e) (ms:=ms) h4;have hlt:d < ct:=by omega
       refine⟨hm,fun B w hk=>?_,fun g hg=>?_⟩
       ·simp only [Bk.ok,Env.base,Env.cap,Env.int,Env.bool]at hk ⊢;rw [Qa5 hlt hms,hle];exact hk
       ·simp only [Bk.fp,Env.base]at hg ⊢;rw [Qa5 hlt hms]at hg;exact hg
      ·cases h
     ·cases h
    ·cases h
theorem Qar{s:St}{b:Bk}(h:QeZ d xs ms s b=some none):(∀B w,b.ok (e.sub d xs ms) B w)∧∀g,¬b.fp (e.sub d xs ms) g:=by
 unfold QeZ at h;split at h
 ·split at h
  ·split at h <;> cases h
  ·cases h
 ·split at h
  ·split at h <;> cases h
  ·cases h
 ·split at h
  ·split at h <;> cases h
  ·cases h
 ·cases h
 ·rename_i id ks len ct;split at h
  ·split at h
   ·split at h <;> cases h
   ·cases h
  ·rename_i h1;split at h
   ·cases h
   ·rename_i h2;simp only [Bool.or_eq_true,beq_iff_eq,Bool.not_eq_true',beq_eq_false_iff_ne,ne_eq,not_or,Decidable.not_not]at h2;obtain⟨h2,rfl⟩:=h2;split at h
    ·rename_i d' j hms;split at h
     ·rename_i hc;simp only [Bool.and_eq_true,beq_iff_eq]at hc;obtain⟨rfl,hc⟩:=hc;obtain⟨k,hx⟩:=Qks hc;have hlt:d' < ct:=by omega
      refine⟨fun B w=>?_,fun g hg=>?_⟩
      ·simp only [Bk.ok,SX.den,Env.base,Env.cap,Env.int,Env.bool,Qa5 hlt hms,Qa4,hx,Qi2,Nm.zero];exact⟨Nat.le_refl _,.inl ⟨rfl,rfl⟩⟩
      ·simp only [Bk.fp,Env.base,Qa5 hlt hms,Qi2,Nm.zero]at hg;obtain⟨a,ha,_⟩:=hg;cases ha
     ·cases h
    ·split at h
     ·split at h <;> cases h
     ·cases h
    ·cases h
theorem Qat{s:St}:∀{l:List Bk} {ml:List (Option Bk)},Qbv d xs ms s l=some ml→∀b∈l,∃m∈ml,QeZ d xs ms s b=some m
 |b0 :: l,ml,h,b,hb=>by
  unfold Qbv at h;split at h
  ·rename_i m l' h1 h2;cases h;rcases List.mem_cons.1 hb with rfl|hb
   ·exact⟨m,List.mem_cons_self ..,h1⟩
   ·obtain⟨m',h3,h4⟩:=Qat h2 b hb;exact⟨m',List.mem_cons_of_mem _ h3,h4⟩
  ·cases h
theorem Wu{s:St}(hinj:∀x∈s.hp,∀y∈s.hp,x.id≠y.id→Yp e x y):∀{l:List Bk} {ml:List (Option Bk)},Qbv d xs ms s l=some ml→Qbw ml=true→l.Pairwise (Yp (e.sub d xs ms))
 | [],_,_,_=>List.Pairwise.nil
 |b0 :: l,ml,h,hn=>by
  unfold Qbv at h;split at h
  ·rename_i m l' h1 h2;cases h;cases m with
   |none=>
    simp only [Qbw]at hn;exact List.pairwise_cons.2 ⟨fun b hb g hg=>absurd hg ((Qar h1).2 g),Wu hinj h2 hn⟩
   |some m=>
    simp only [Qbw,Bool.and_eq_true]at hn;refine List.pairwise_cons.2 ⟨fun b hb g hg hg'=>?_,Wu hinj h2 hn.2⟩
    obtain⟨m',hm',hb'⟩:=Qat h2 b hb;cases m' with
    |none=>exact(Qar hb').2 g hg'
    |some m'=>
     have hne:=List.all_eq_true.1 hn.1 _ hm';simp only [Bool.not_eq_true',beq_eq_false_iff_ne,ne_eq]at hne;obtain⟨a1,_,a3⟩:=Qas (e:=e) h1;obtain⟨c1,_,c3⟩:=Qas (e:=e) hb';exact hinj m a1 m' c1 (Ne.symm hne) g (a3 g hg) (c3 g hg')
  ·cases h
theorem Qdc:∀{l:List Nat},Qsy l=true→l.Nodup
 | [],_=>List.nodup_nil
 |x :: l,h=>by
  simp only [Qsy,Bool.and_eq_true]at h;refine List.nodup_cons.2 ⟨fun hm=>?_,Qdc h.2⟩
  have:=List.all_eq_true.1 h.1 x hm;simp at this
theorem Yc:∀{hs cs:List VX} {vs:List Value},Jm d xs ms hs cs=true→Z2 e cs vs→Z2 (e.sub d xs ms) hs vs
 | [],[],vs,_,h=>by cases vs with|nil=>trivial|cons _ _=>exact h.elim
 | [],_ :: _,_,hq,_=>by cases hq
 |h0 :: hs,[],_,hq,_=>by
  cases h0 <;> first|(simp [Jm]at hq;done)|(rename_i x;cases x <;> simp [Jm]at hq)
 |h0 :: hs,c0 :: cs,[],_,h=>h.elim
 |h0 :: hs,c0 :: cs,v :: vs,hq,h=>by
  have gen:(h0.bq c0 && h0.fr (fun x=>decide (x < d)) && Jm d xs ms hs cs)=true→Z2 (e.sub d xs ms) (h0 :: hs) (v :: vs):=fun hq=>by
   simp only [Bool.and_eq_true]at hq;have:=VX.bq_eq _ _ hq.1.1;subst this;exact⟨VX.sat_off WP _ hq.1.2 _ h.1,Yc hq.2 h.2⟩
  unfold Jm at hq;split at hq
  ·rename_i heq1 heq2;cases heq1
  ·rename_i hs' y cs' heq1 heq2;cases heq1;cases heq2;exact⟨trivial,Yc hq h.2⟩
  ·rename_i x hs' y cs' heq1 heq2;cases heq1;cases heq2;simp only [Bool.and_eq_true]at hq;refine⟨?_,Yc hq.2 h.2⟩;have:=h.1;simp only [VX.sat,PX.den]at this ⊢;rw [this,QnF hq.1]
  ·rename_i a1 hs' a2 cs' _ _ heq1 heq2;cases heq1;cases heq2;exact gen hq
  ·cases hq
end
end
section
variable{P:Program}{C:List (Kon P)}{I:List (Nat→Env→Prop)}{ups:List (List Value)}{inl:Inl}
theorem Oks.base{n0 d:Nat}{e0 e1:Env}{os:List Ob}(h:Oks C I n0 e0 os)(h1:Env.agr n0 e0 e1)(hd:n0≤d):Oks C I d e1 os:=fun ob hm=>by
 have:=h ob hm;cases ob with
 |cl cd x=>exact fun e he hc=>this e (Env.agr_trans h1 he hd) hc
 |pre cd k args=>exact fun e he hc=>this e (Env.agr_trans h1 he hd) hc
 |inv cd k d' xs ms=>exact fun e he hc=>this e (Env.agr_trans h1 he hd) hc
theorem Rel.rebase{G G':Cfg}{e0 e1 e:Env}{w0 w:World}{s:St}{a:Act}(h:Rel C I G e0 w0 e s a ups w)(hx:Env.agr G'.n0 e1 e):Rel C I G' e1 w0 e s a ups w:=⟨h.df,h.tm,h.up,h.hp,h.nd,h.inj,h.rw,h.bl,h.cd,hx⟩
theorem Y3{e:Env}{s:St}{a:Act}(ht:Z2 e s.tm a.tmps.toList){t:Nat}{x:SX}(h:VZ s t=some x):∃k,a.tmps[t]?=some (.int k (x.den e).1):=by
 unfold VZ at h;split at h
 ·rename_i k x' hx;cases h;obtain⟨v,hv,hs⟩:=ht.get hx;simp only [VX.sat]at hs;subst hs;exact⟨k,by rw [←Array.getElem?_toList];exact hv⟩
 ·cases h
theorem QeO{G:Cfg}{e1 e0:Env}{w0 w1:World}{h s1:St}{a1:Act}{d k:Nat}{hv:List Hv}{xs:List LX}{ms:List (Option (Nat×Nat))}(hup:Qku e1 h.up ups)(hupf:h.up.all (·.all (·.fr fun x=>decide (x < d)))=true)
 (hcd:∀x∈h.cd,x= .g d (Kf hv) k∨(x.holds C I e1∧x.fr (fun x=>decide (x < d))=true)) (hR1:Rel C I G e0 w0 e1 s1 a1 ups w1) (hn:G.n0≤d) (hm:Qac d hv h s1=some (xs,ms)) (hinv:∃i,I[k]?=some i∧i d ((e1.sub d xs ms).cut (d+ms.length))) :
 Rel C I G e0 w0 (e1.sub d xs ms) h a1 ups w1:=by
 unfold Qac at hm;split at hm
 ·rename_i xs' ms' _;split at hm
  ·rename_i l hl;split at hm
   ·rename_i hc;simp only [Option.some.injEq,Prod.mk.injEq]at hm;obtain⟨rfl,rfl⟩:=hm;simp only [Bool.and_eq_true,beq_iff_eq,decide_eq_true_eq]at hc;obtain⟨⟨⟨⟨⟨q1,q2⟩,q3⟩,q4⟩,q5⟩,q6⟩:=hc;refine⟨hR1.df,Yc q3 hR1.tm,hup.off WP hupf,fun b hb=>?_,Qdc q2,?_,fun r hr=>?_,hR1.bl,fun x hx=>?_,Env.agr_trans hR1.ex (Qfs (d:=d)) hn⟩
    ·obtain⟨m,_,hbm⟩:=Qat hl b hb;cases m with
     |none=>exact(Qar hbm).1 _ _
     |some m=>
      obtain⟨h1,h2,_⟩:=Qas (e:=e1) hbm;exact h2 _ _ (hR1.hp m h1)
    ·exact Wu (fun x hx y hy hne=>Qct (fun x y h=>Yp.symm h) hR1.inj x hx y hy (fun he=>hne (by rw [he]))) hl q1
    ·have hr1:r∈s1.rw:=by rw [←q5];exact hr
     exact Rw.ok_off WP (List.all_eq_true.1 q6 r hr) (hR1.rw r hr1)
    ·rcases hcd x hx with rfl|⟨hx1,hx2⟩
     ·obtain⟨i,hi,hp⟩:=hinv;exact⟨i,hi,by rw [←q4];exact hp⟩
     ·exact Cd.holds_off C I WP x hx2 hx1
   ·cases hm
  ·cases hm
 ·cases hm
theorem QqD{G:Cfg}{e1 e0 e:Env}{w0 w w1:World}{s h s1:St}{a a1:Act}{d k:Nat}{hv:List Hv}{xs:List LX}{ms:List (Option (Nat×Nat))}(hR:Rel C I G e0 w0 e s a ups w)(hfr:s.fr (fun x=>decide (x < d))=true)
 (hcd:∀x∈h.cd,x= .g d (Kf hv) k∨x∈s.cd) (hup:h.up=s.up) (hR1:Rel C I {G with n0:=d} e w0 e1 s1 a1 ups w1) (hm:Qac d hv h s1=some (xs,ms)) (hinv:∃i,I[k]?=some i∧i d ((e1.sub d xs ms).cut (d+ms.length))) (n:Nat) :
 Rel C I {G with n0:=n} (e1.sub d xs ms) w0 (e1.sub d xs ms) h a1 ups w1:=by
 simp only [St.fr,Bool.and_eq_true]at hfr;obtain⟨⟨⟨⟨f1,f5⟩,f2⟩,f3⟩,f4⟩:=hfr;have hoff:=Ya hR1.ex;refine(QeO (by rw [hup];exact hR.up.off hoff f5) (by rw [hup];exact f5) (fun x hx=>?_) hR1 (Nat.le_refl _) hm hinv).rebase (Env.agr_refl _ _)
 rcases hcd x hx with h|h
 ·exact .inl h
 ·exact .inr ⟨Cd.holds_off C I hoff x (List.all_eq_true.1 f4 x h) (hR.cd x h),List.all_eq_true.1 f4 x h⟩
theorem QhY{s:St}:∀{es:List (Ex×St)},(.nor,s)∈es→s∈Qsz es
 |(y,s0) :: es,h=>by
  rcases List.mem_cons.1 h with h1|h1
  ·cases h1;exact List.mem_cons_self ..
  ·have ih:=QhY h1;cases y <;> first|exact List.mem_cons_of_mem _ ih|exact ih
theorem Qia{s:St}{y:Ex}(hy:y≠ .nor):∀{es:List (Ex×St)},(y,s)∈es→(y,s)∈Qs1 es
 |(y0,s0) :: es,h=>by
  rcases List.mem_cons.1 h with h1|h1
  ·cases h1;cases y <;> first|exact absurd rfl hy|exact List.mem_cons_self ..
  ·have ih:=Qia hy h1;cases y0 <;> first|exact List.mem_cons_of_mem _ ih|exact ih
theorem Qdb{d:Nat}{m:Mg}{h s:St}:∀{ss:List St} {os:List Ob},QfJ d m h ss=some os→s∈ss→∃xs ms,Qac d m.hv h s=some (xs,ms)∧s.fr (fun x=>decide (x < d))=true∧h.up=s.up∧Ob.inv s.cd m.k d xs ms∈os
 |s0 :: ss,os,hq,hm=>by
  unfold QfJ at hq;split at hq
  ·rename_i xs ms os' h1 h2;split at hq
   ·rename_i hc;simp only [Option.some.injEq]at hq;subst hq;rcases List.mem_cons.1 hm with rfl|hm
    ·exact⟨xs,ms,h1,hc.1,ZO (fun _ _ h=>ZO VX.bq_eq h) hc.2,List.mem_cons_self ..⟩
    ·obtain⟨xs',ms',q1,q2,q3,q4⟩:=Qdb h2 hm;exact⟨xs',ms',q1,q2,q3,List.mem_cons_of_mem _ q4⟩
   ·cases hq
  ·cases hq
theorem QhT{G:Cfg}{f tag:Nat}{es r:List (Ex×St)}{om:List Ob}{e0:Env}{w0:World}(hm:Qlc G f tag es=some (r,om))(hob:Oks C I G.n0 e0 om):∀x a w,Jr C I G e0 w0 ups es x a w→Jr C I G e0 w0 ups r x a w:=by
 intro x a w hp;obtain⟨y,s,hs,rfl,e,hR⟩:=hp;unfold Qlc at hm;split at hm
 ·simp only [Option.some.injEq,Prod.mk.injEq]at hm;obtain⟨rfl,rfl⟩:=hm;exact⟨y,s,hs,rfl,e,hR⟩
 ·rename_i m _;split at hm
  ·simp only [Option.some.injEq,Prod.mk.injEq]at hm;obtain⟨rfl,rfl⟩:=hm;exact⟨y,s,hs,rfl,e,hR⟩
  ·rename_i s1 ss hnor
   dsimp only at hm
   split at hm
   ·cases hm
   ·rename_i h hj;obtain⟨os,hq,hp⟩:=Ql hm;simp only [Prod.mk.injEq]at hp;obtain⟨rfl,rfl⟩:=hp;by_cases hy:y= .nor
    ·subst hy;have hmem:=QhY hs;rw [hnor]at hmem;obtain⟨xs,ms,q1,q2,q3,q4⟩:=Qdb hq hmem;generalize hd:(s1 :: ss).foldl (fun a s=>if a≤s.nx then s.nx else a) G.n0=d at *
     have hle:∀(l:List St) (n:Nat),n≤l.foldl (fun a s=>if a≤s.nx then s.nx else a) n:=by
      intro l
      induction l with
      |nil=>intro n;exact Nat.le_refl _
      |cons z l ih=>
       intro n;rw [List.foldl_cons];split
       ·exact Nat.le_trans (by assumption) (ih _)
       ·exact ih _
     have hn:G.n0≤d:=by rw [←hd];exact hle _ _
     simp only [St.fr,Bool.and_eq_true]at q2;obtain⟨⟨⟨⟨f1,f5⟩,f2⟩,f3⟩,f4⟩:=q2;obtain⟨h0,_,hh⟩:=Ql hj;have hcd:h.cd= [.g d (Kf m.hv) m.k]:=by rw [←hh]
     refine⟨.nor,h,List.mem_cons_self ..,rfl,_,QeO (k:=m.k) (by rw [q3];exact hR.up) (by rw [q3];exact f5) (fun x hx=>?_) hR hn q1 (hob _ q4 e hR.ex hR.cd)⟩
     rw [hcd,List.mem_singleton]at hx;exact .inl hx
    ·exact⟨y,s,List.mem_cons_of_mem _ (Qia hy hs),rfl,e,hR⟩
theorem JW{d:Nat}{l:Lp}{up:SX}{h:St}:∀{es r:List (Ex×St)} {os:List Ob},KE d l up h es=some (r,os)→∀{y:Ex} {s:St},(y,s)∈es→
 (y≠ .nor→(y,s)∈r)∧(y= .nor→∃xs ms x x',Qac d l.hv h s=some (xs,ms)∧VZ h l.c=some x∧VZ s l.c=some x'∧x.fr (fun z=>decide (z < d+Kf l.hv+1))=true∧Ob.inv s.cd l.k d xs ms∈os∧Ob.cl s.cd (.mkC .lss x x')∈os∧Ob.cl s.cd (.mkC .lss x up)∈os)
 |(y0,s0) :: es,r,os,hr,y,s,hm=>by
  unfold KE at hr;split at hr
  ·rename_i heq;cases heq
  ·rename_i s1 r1 heq;cases heq;split at hr
   ·rename_i xs ms x x' b y1 h1 h2 h3 h4;split at hr
    ·rename_i hc;simp only [Option.some.injEq,Prod.mk.injEq]at hr;obtain⟨rfl,rfl⟩:=hr;rcases List.mem_cons.1 hm with hm|hm
     ·cases hm;exact⟨fun hn=>absurd rfl hn,fun _=>⟨xs,ms,x,x',h1,h2,h3,hc,List.mem_cons_self ..,List.mem_cons_of_mem _ (List.mem_cons_self ..),List.mem_cons_of_mem _ (List.mem_cons_of_mem _ (List.mem_cons_self ..))⟩⟩
     ·obtain⟨i1,i2⟩:=JW h4 hm;refine⟨i1,fun hn=>?_⟩
      obtain⟨xs',ms',z,z',q1,q2,q3,q4,q8,q9,q10⟩:=i2 hn;exact⟨xs',ms',z,z',q1,q2,q3,q4,List.mem_cons_of_mem _ (List.mem_cons_of_mem _ (List.mem_cons_of_mem _ q8)),List.mem_cons_of_mem _ (List.mem_cons_of_mem _ (List.mem_cons_of_mem _ q9)),List.mem_cons_of_mem _ (List.mem_cons_of_mem _ (List.mem_cons_of_mem _ q10))⟩
    ·cases hr
   ·cases hr
  ·rename_i z r1 hne heq;cases heq;obtain⟨⟨b1,y1⟩,h2,hp⟩:=Ql hr;simp only [Prod.mk.injEq]at hp;obtain⟨rfl,rfl⟩:=hp;rcases List.mem_cons.1 hm with hm|hm
   ·cases hm;exact⟨fun _=>List.mem_cons_self ..,fun hx=>by subst hx;exact absurd rfl (hne _)⟩
   ·obtain⟨i1,i2⟩:=JW h2 hm;exact⟨fun hn=>List.mem_cons_of_mem _ (i1 hn),i2⟩
theorem Wt{w0:World}{G:Cfg}{e0 e:Env}{s h:St}{a:Act}{w:World}{c:Code}{l:Lp}{up:SX}{xs:List LX}{ms:List (Option (Nat×Nat))}{es r:List (Ex×St)}{os os':List Ob}
 (htop:Qus l c s=some h) (hmeet:Qac s.nx l.hv h s=some (xs,ms)) (hn:G.n0≤s.nx) (hfr:s.fr (fun x=>decide (x < s.nx))=true) (hupf:up.fr (fun x=>decide (x < s.nx))=true)
 (hbody:∀e1 a w,Oks C I (s.nx+Kf l.hv+1) e1 os→Rel C I {G with n0:=s.nx+Kf l.hv+1} e1 w0 e1 h a ups w→c.wp P (Jr C I {G with n0:=s.nx+Kf l.hv+1} e1 w0 ups es) a w)
 (hr:KE s.nx l up h es=some (r,os')) (hob:Oks C I G.n0 e0 (.inv s.cd l.k s.nx xs ms :: os ++ os')) (hR:Rel C I G e0 w0 e s a ups w):(Code.loop c).wp P (Jr C I G e0 w0 ups r) a w:=by
 have hob1:Oks C I G.n0 e0 os:=hob.sub fun o ho=>List.mem_append_left _ (List.mem_cons_of_mem _ ho)
 have hob2:Oks C I G.n0 e0 os':=hob.sub fun o ho=>List.mem_append_right _ ho
 have hinv0:=hob _ (List.mem_append_left _ (List.mem_cons_self ..));obtain⟨h0,_,hh⟩:=Ql htop
 have hcd:∀x∈h.cd,x= .g s.nx (Kf l.hv) l.k∨x∈s.cd:=fun x hx=>by
  rw [←hh]at hx;rcases List.mem_cons.1 hx with hx|hx
  ·exact .inl hx
  ·cases hk:l.keep
   ·simp [hk]at hx
   ·simp [hk]at hx;exact .inr hx
 have hup:h.up=s.up:=by rw [←hh]
 have head:∀{e1:Env} {a1:Act} {w1:World} {s1:St} {xs:List LX} {ms:List (Option (Nat×Nat))},Rel C I {G with n0:=s.nx} e w0 e1 s1 a1 ups w1→Qac s.nx l.hv h s1=some (xs,ms)→(∃i,I[l.k]?=some i∧i s.nx ((e1.sub s.nx xs ms).cut (s.nx+ms.length)))→
  ∃e2,Env.agr s.nx e e2∧Rel C I {G with n0:=s.nx+Kf l.hv+1} e2 w0 e2 h a1 ups w1:=fun {e1 a1 w1 s1 xs ms} hR1 hm hinv=>
  ⟨e1.sub s.nx xs ms,Env.agr_trans hR1.ex Qfs (Nat.le_refl _),QqD hR hfr hcd hup hR1 hm hinv _⟩
 obtain⟨e2,hag2,hR2⟩:=head (hR.rebase (Env.agr_refl _ _)) hmeet (hinv0 e hR.ex hR.cd)
 refine wp_loop (fun a w=>∃e1,Env.agr s.nx e e1∧Rel C I {G with n0:=s.nx+Kf l.hv+1} e1 w0 e1 h a ups w)
  (fun a _=>match a.tmps[l.c]? with|some (.int _ x)=>((up.den e).1 - x).toNat|_=>0) ⟨e2,hag2,hR2⟩ fun a1 w1 hI=>?_
 obtain⟨e1,hag1,hR1⟩:=hI;have hb1:Env.agr G.n0 e0 e1:=Env.agr_trans hR.ex hag1 hn;refine wp_mono (hbody e1 a1 w1 (hob1.base hb1 (by omega)) hR1) fun x a' w' hp=>?_
 obtain⟨y,s',hm,rfl,e',hR'⟩:=hp;have hag':Env.agr (s.nx+Kf l.hv+1) e1 e':=hR'.ex;have hage':Env.agr s.nx e e':=Env.agr_trans hag1 hag' (by omega)
 have hb':Env.agr G.n0 e0 e':=Env.agr_trans hb1 hag' (by omega)
 obtain⟨i1,i2⟩:=JW hr hm;cases y with
 |ex id=>exact⟨_,s',i1 (by simp),rfl,e',hR'.rebase hb'⟩
 |rt=>exact⟨_,s',i1 (by simp),rfl,e',hR'.rebase hb'⟩
 |nor=>
  obtain⟨ys,ms',z,z',q1,q2,q3,q7,q8,q9,q10⟩:=i2 rfl;refine⟨head (hR'.rebase hage') q1 (hob2 _ q8 e' hb' hR'.cd),?_⟩;have hz':=ZB (hob2 _ q9 e' hb' hR'.cd);have hu':=ZB (hob2 _ q10 e' hb' hR'.cd);have e3:(z.den e').1=(z.den e1).1:=by rw [SX.den_off (Ya hag') z q7]
  have e4:(up.den e').1=(up.den e).1:=by rw [SX.den_off (Ya hage') up hupf]
  obtain⟨k1,v1⟩:=Y3 hR1.tm q2;obtain⟨k2,v2⟩:=Y3 hR'.tm q3;simp only [v1,v2];omega
theorem QM{w0:World}(hmix:P.follows .mixedOrders=true)(hI:QbK P C I inl)(f:FuncId):∀(n:Nat) (c:Code) (s:St) (G:Cfg) (e0 e:Env) (a:Act) (w:World) (es:List (Ex×St)) (os:List Ob),C.map (·.sg)=G.sg→Zv P inl f G n c s=some (es,os)→Oks C I G.n0 e0 os→Rel C I G e0 w0 e s a ups w→c.wp P (Jr C I G e0 w0 ups es) a w
 |0,_,_,_,_,_,_,_,_,_,_,h,_,_=>by unfold Zv at h;cases h
 |n+1,c,s,G,e0,e,a,w,es,os,hS,h,hob,hR=>by
  cases c with
  |skip=>
   unfold Zv at h;cases h;exact wp_skip ⟨.nor,s,List.mem_singleton.2 rfl,rfl,e,hR⟩
  |exit id=>
   unfold Zv at h;cases h;exact wp_exit ⟨.ex id,s,List.mem_singleton.2 rfl,rfl,e,hR⟩
  |ret=>
   unfold Zv at h;cases h;exact wp_ret ⟨.rt,s,List.mem_singleton.2 rfl,rfl,e,hR⟩
  |region id ops draw=>
   unfold Zv at h;obtain⟨⟨ss,o1⟩,h1,hp⟩:=Ql h;simp only [Prod.mk.injEq]at hp;obtain⟨rfl,rfl⟩:=hp;refine wp_mono (Ym hS hI hmix h1 hob hR) fun x a' w' hx=>?_
   obtain⟨rfl,s',hm,e',hR'⟩:=hx;exact⟨.nor,s',List.mem_map.2 ⟨s',hm,rfl⟩,rfl,e',hR'⟩
  |seq x y=>
   unfold Zv at h;split at h
   ·rename_i es0 o1 h1;split at h
    ·rename_i es1 om hmg;obtain⟨⟨r,o2⟩,h2,hp⟩:=Ql h;simp only [Prod.mk.injEq]at hp;obtain⟨rfl,rfl⟩:=hp;refine wp_seq (wp_mono (QM hmix hI f n x s G e0 e a w es0 o1 hS h1 hob.left hR) fun z a' w' hz=>?_)
     exact Vq h2 (fun s' r' o' e' a' w' h3 h4 h5 hR'=>wp_mono (QM hmix hI f n y s' G e0 e' a' w' r' o' hS h3 (hob.right.right.sub h5) hR') (Jr.mono h4)) z a' w' (QhT hmg hob.right.left z a' w' hz)
    ·cases h
   ·cases h
  |cond c x y=>
   unfold Zv at h;split at h
   ·rename_i g hg;have hc:=Qi hR.kn0 hg;simp only [PX.den,LX.den]at hc;split at h
    ·rename_i ha;rw [Zh hR.cd ha]at hc;exact wp_cond_true hc (QM hmix hI f n x s G e0 e a w es os hS h hob hR)
    ·rename_i ha;rw [Zh hR.cd ha]at hc;exact wp_cond_false hc (QM hmix hI f n y s G e0 e a w es os hS h hob hR)
    ·split at h
     ·rename_i r1 o1 r2 o2 h1 h2;cases h;refine wp_cond_split hc (fun ht=>?_) fun ht=>?_
      ·exact wp_mono (QM hmix hI f n x _ G e0 e a w r1 o1 hS h1 hob.left (hR.conds (Zt g true ht))) (Jr.mono fun z hz=>List.mem_append_left _ hz)
      ·exact wp_mono (QM hmix hI f n y _ G e0 e a w r2 o2 hS h2 hob.right (hR.conds (Zt g false ht))) (Jr.mono fun z hz=>List.mem_append_right _ hz)
     ·cases h
   ·cases h
  |block id c=>
   unfold Zv at h;obtain⟨⟨es1,o1⟩,h1,hp⟩:=Ql h;simp only [Prod.mk.injEq]at hp;obtain⟨rfl,rfl⟩:=hp;refine wp_block (wp_mono (QM hmix hI f n c s G e0 e a w es1 o1 hS h1 hob hR) fun x a' w' hx=>?_)
   obtain⟨y,s',hm,rfl,e',hR'⟩:=hx;cases y with
   |nor=>exact⟨.nor,s',List.mem_map.2 ⟨_,hm,by simp⟩,rfl,e',hR'⟩
   |rt=>exact⟨.rt,s',List.mem_map.2 ⟨_,hm,by simp⟩,rfl,e',hR'⟩
   |ex id'=>
    show if id'=id then _ else _
    by_cases hid:id'=id
    ·subst hid;rw [if_pos rfl];exact⟨.nor,s',List.mem_map.2 ⟨_,hm,by simp⟩,rfl,e',hR'⟩
    ·rw [if_neg hid];exact⟨.ex id',s',List.mem_map.2 ⟨_,hm,by simp [hid]⟩,rfl,e',hR'⟩
  |loop c=>
   unfold Zv at h;split at h
   ·rename_i l hlp;split at h
    ·rename_i hd up htop hup;split at h
     ·rename_i xs ms hmeet;split at h
      ·rename_i hc;split at h
       ·rename_i es1 o1 h1;obtain⟨⟨r,o2⟩,h2,hp⟩:=Ql h;simp only [Prod.mk.injEq]at hp;obtain⟨rfl,rfl⟩:=hp;exact Wt htop hmeet hc.1 hc.2.1 hc.2.2 (fun e1 a1 w1 ho hr=>QM hmix hI f n c _ _ e1 e1 a1 w1 es1 o1 hS h1 ho hr) h2 hob hR
       ·cases h
      ·cases h
     ·cases h
    ·cases h
   ·refine wp_loop_rounds n (JQ (fun s es os e a w h1 h2 h3=>QM hmix hI f n c s G e0 e a w es os hS h1 h2 h3) n s es es os e a w h (fun z hz=>hz) hob hR)
  |_=>unfold Zv at h;cases h
theorem Vj{e:Env}{s:St}{a:Act}{w:World}{G:Cfg}{e0:Env}{w0:World}(hR:Rel C I G e0 w0 e s a ups w):∀{rs:List ResultVar} {ps:List PX},JJ.go P s rs=some ps→
 (rs.mapM (Qea a.tmps)).run P w=Result.ok (ps.map (·.den e)) w
 | [],ps,h=>by simp only [JJ.go,Option.some.injEq]at h;subst h;simp
 | .tmp t :: r,ps,h=>by
   unfold JJ.go at h;split at h
   ·rename_i p ps' h1 h2;cases h;obtain⟨v,hv,hs⟩:=hR.tm.get h1
    have:a.tmps.getD t undef=p.den e:=by
     rw [Array.getD_eq_getD_getElem?,←Array.getElem?_toList,hv];exact hs
    simp only [List.mapM_cons,Qea,Sem.run_bind,Sem.run_pure,Result.andThen_ok,Vj hR h2,this,List.map_cons]
   ·cases h
 | .cell t ty :: r,ps,h=>by
   unfold JJ.go at h;split at h
   ·rename_i d o ps' h1 h2;split at h
    ·rename_i v hv;cases h;obtain⟨u,hu,hs⟩:=hR.tm.get h1;obtain⟨ad,had,hl⟩:=Jv hR hv (fun x hx=>(List.not_mem_nil hx).elim)
     have:a.tmps.getD t undef= .pointer (some ad):=by
      rw [Array.getD_eq_getD_getElem?,←Array.getElem?_toList,hu];simp only [VX.sat,PX.den]at hs;rw [hs,had];rfl
     have h3:(Qea a.tmps (.cell t ty)).run P w= .ok (v.den e) w:=by simp only [Qea,Sem.run_bind,this,asAddr,Sem.run_pure,Result.andThen_ok,hl]
     simp only [List.mapM_cons,Sem.run_bind,h3,Sem.run_pure,Result.andThen_ok,Vj hR h2,List.map_cons]
    ·cases h
   ·cases h
theorem V8{e:Env}{s:St}{a:Act}{w:World}{G:Cfg}{e0:Env}{w0:World}{fn:Func}(hR:Rel C I G e0 w0 e s a ups w){v:VX}(h:JJ P fn s=some v):∃u,v.sat e u∧(results fn a.tmps).run P w= .ok u w:=by
 have one:∀(r:ResultVar) (p:PX),fn.results.toList= [r]→JJ.go P s [r]=some [p]→(results fn a.tmps).run P w= .ok (p.den e) w:=fun r p hr hg=>by
  have:=Vj hR hg;have hfr:fn.results= #[r]:=by apply Array.ext';simpa using hr
  simp only [List.map_cons,List.map_nil]at this;rw [YX,Sem.run_bind,hfr,Array.mapM_eq_mapM_toList,Sem.run_map,this];simp
 unfold JJ at h;split at h
 ·rename_i hr;cases h;have hfr:fn.results= #[]:=by apply Array.ext';simpa using hr
  exact⟨_,rfl,by simp [results,hfr]⟩
 ·rename_i t hr;split at h
  ·rename_i p hp;cases h;exact⟨_,rfl,one _ p hr (by simp [JJ.go,hp])⟩
  ·cases h
 ·rename_i t ty hr;split at h
  ·rename_i d o hp;split at h
   ·rename_i v' hv;cases h;exact⟨_,rfl,one _ v' hr (by simp [JJ.go,hp,hv])⟩
   ·cases h
  ·cases h
 ·rename_i rs h0 h1 h2;obtain⟨ps,hps,rfl⟩:=Ql h;have:=Vj hR hps;refine⟨_,rfl,?_⟩;have hl:ps.length=fn.results.toList.length:=go_len hps
  have hne:¬ps.length=1:=by
   rw [hl];intro h1'
   match hrs:fn.results.toList,h1' with
   | [.tmp t],_=>exact h1 t hrs
   | [.cell t ty],_=>exact h2 t ty hrs
  rw [YX,Sem.run_bind,Array.mapM_eq_mapM_toList,Sem.run_map,this];simp [hne]
where
 go_len {s:St}:∀{rs:List ResultVar} {ps:List PX},JJ.go P s rs=some ps→ps.length=rs.length
  | [],ps,h=>by simp only [JJ.go,Option.some.injEq]at h;subst h;rfl
  | .tmp t :: r,ps,h=>by
    unfold JJ.go at h;split at h
    ·rename_i p ps' h1 h2;cases h;simp [go_len h2]
    ·cases h
  | .cell t ty :: r,ps,h=>by
    unfold JJ.go at h;split at h
    ·rename_i d o ps' h1 h2;split at h
     ·simp only [Option.some.injEq]at h;subst h;simp [go_len h2]
     ·cases h
    ·cases h
theorem Kc{fn:Func}:∀{es:List (Ex×St)} {ls:List Lf},Ku P fn es=some ls→∀{y:Ex} {s:St},(y,s)∈es→(∀id,y≠ .ex id)∧∃v,JJ P fn s=some v∧⟨s.cd,v,s.hp⟩∈ls
 |(y0,s0) :: es,ls,h,y,s,hm=>by
  unfold Ku at h;split at h
  ·rename_i heq;cases heq
  ·rename_i heq;cases h
  ·rename_i y1 s1 r1 hne heq;cases heq;split at h
   ·rename_i v l h1 h2;cases h;rcases List.mem_cons.1 hm with hm|hm
    ·cases hm;exact⟨fun id hid=>by subst hid;exact hne _ rfl,v,h1,List.mem_cons_self ..⟩
    ·obtain⟨i1,v',i2,i3⟩:=Kc h2 hm;exact⟨i1,v',i2,List.mem_cons_of_mem _ i3⟩
   ·cases h
theorem Qe9{fn:Func}{s0:St}:∀{es:List (Ex×St)} {ls:List (VX×St)},Qn9 P fn s0 es=some ls→∀{y:Ex} {s:St},(y,s)∈es→(∀id,y≠ .ex id)∧∃v tm up,JJ P fn s=some v∧s.up=tm :: up∧(v,{s with tm:=tm,up:=up})∈ls
 |(y0,s0) :: es,ls,h,y,s,hm=>by
  unfold Qn9 at h;split at h
  ·rename_i heq;cases heq
  ·rename_i heq;cases h
  ·rename_i y1 s1 r1 hne heq;cases heq;split at h
   ·rename_i v tm up l h1 h0 h2;cases h;rcases List.mem_cons.1 hm with hm|hm
    ·cases hm;exact⟨fun id hid=>by subst hid;exact hne _ rfl,v,tm,up,h1,h0,List.mem_cons_self ..⟩
    ·obtain⟨i1,v',tm',up',i2,i3,i4⟩:=Qe9 h2 hm;exact⟨i1,v',tm',up',i2,i3,List.mem_cons_of_mem _ i4⟩
   ·cases h
theorem Qdw(e:Env)(args:List PX)(n:Nat):Z2 e (args.map .v ++ List.replicate (n - args.length) .un) ((args.map (·.den e)).toArray ++ Array.replicate (n - (args.map (·.den e)).toArray.size) undef).toList:=by
 have:∀(ps:List PX) (n:Nat),Z2 e (ps.map .v ++ List.replicate n .un) (ps.map (·.den e) ++ List.replicate n undef):=by
  intro ps
  induction ps with
  |nil=>
   intro n
   induction n with
   |zero=>trivial
   |succ n ih=>exact⟨rfl,ih⟩
  |cons p ps ih=>intro n;exact⟨rfl,ih n⟩
 simpa using this args (n - args.length)
theorem QnM(hmix:P.follows .mixedOrders=true)(fuel:Nat):∀d,QbK P C I (QqF P fuel d)
 |0=>fun G f ps s rs os h=>by simp [QqF]at h
 |d+1=>fun G f ps s rs os h hS=>by
  unfold QqF at h;split at h
  ·rename_i fn hfn;split at h
   ·rename_i c hc;split at h
    ·rename_i hnm;split at h
     ·rename_i es o1 h1;obtain⟨ls,h2,hp⟩:=Ql h;simp only [Prod.mk.injEq]at hp;obtain⟨rfl,rfl⟩:=hp;refine⟨⟨fn,hfn,hnm,by rw [hc];rfl⟩,fun e0 w0 e a ups w hob hR=>?_⟩
      refine calls_of_wp hfn hc (wp_mono (QM (ups:=a.tmps.toList :: ups) hmix (QnM hmix fuel d) f fuel c _ G e0 e _ w es o1 hS h1 hob ⟨rfl,?_,⟨hR.tm,hR.up⟩,hR.hp,hR.nd,hR.inj,hR.rw,hR.bl,hR.cd,hR.ex⟩) fun x a1 w1 hx=>?_)
      ·have:=Qdw e ps fn.ntmps
       simpa using this
      ·obtain⟨y,s1,hm,rfl,e1,hR1⟩:=hx;obtain⟨i1,v,tm,up,i2,i3,i4⟩:=Qe9 h2 hm;obtain⟨u,hu,hr⟩:=V8 hR1 i2;have hup:=hR1.up;rw [i3]at hup
       have fin:a1.defers= []∧∃v,(results fn a1.tmps).run P w1= .ok v w1∧∃v' s',(v',s')∈ls∧∃e' u,Ending.returned v= .returned u∧v'.sat e' u∧Rel C I G e0 w0 e' s' a ups w1:=
        ⟨hR1.df,u,hr,v,_,i4,e1,u,rfl,hu,⟨hR.df,hup.1,hup.2,hR1.hp,hR1.nd,hR1.inj,hR1.rw,hR1.bl,hR1.cd,hR1.ex⟩⟩
       cases y with
       |nor=>exact fin
       |rt=>exact fin
       |ex id=>exact absurd rfl (i1 id)
     ·cases h
    ·cases h
   ·cases h
  ·cases h
theorem QbO(hmix:P.follows .mixedOrders=true){G:Cfg}(hS:C.map (·.sg)=G.sg){f:FuncId}{fn:Func}(hf:P.funcs[f]?=some fn){fuel depth:Nat}{args:List PX}{rws:List Rw}{ls:List Lf}{os:List Ob}
 (hrun:QS P G fuel depth f fn args rws=some (ls,os)) (e0:Env) (w0:World) (hrw:∀r∈rws,r.ok e0 w0) (hob:Oks C I G.n0 e0 os) (R:Ending→World→Prop)
 (hl:∀l∈ls,∀e u w',Env.agr G.n0 e0 e→(∀c∈l.cd,c.holds C I e)→l.v.sat e u→Below w0.heap.size w0 w'→(∀b∈l.hp,b.ok e w0.heap.size w')→R (.returned u) w'):Calls P f (args.map (·.den e0)).toArray w0 R:=by
 unfold QS at hrun;split at hrun
 ·rename_i c hc;split at hrun
  ·rename_i es o1 h1;obtain⟨ls',h2,hp⟩:=Ql hrun;simp only [Prod.mk.injEq]at hp;obtain⟨rfl,rfl⟩:=hp;have hob':Oks C I G.n0 e0 o1:=hob.sub fun o ho=>Jj ho
   refine calls_of_wp hf hc (wp_mono (QM (ups:= []) hmix (QnM hmix fuel depth) f fuel c _ G e0 e0 _ w0 es o1 hS h1 hob' ⟨rfl,?_,trivial,fun b hb=>(List.not_mem_nil hb).elim,List.nodup_nil,List.Pairwise.nil,hrw,Below.refl _ _,fun c hc=>(List.not_mem_nil hc).elim,Env.agr_refl _ _⟩) fun x a w hx=>?_)
   ·have:=Qdw e0 args fn.ntmps
    simpa using this
   ·obtain⟨y,s,hm,rfl,e,hR⟩:=hx;obtain⟨i1,v,i2,i3⟩:=Kc h2 hm;obtain⟨u,hu,hr⟩:=V8 hR i2;have fin:a.defers= []∧∃v,(results fn a.tmps).run P w= .ok v w∧R (.returned v) w:=⟨hR.df,u,hr,hl _ i3 e u w hR.ex hR.cd hu hR.bl hR.hp⟩;cases y with
    |nor=>exact fin
    |rt=>exact fin
    |ex id=>exact absurd rfl (i1 id)
  ·cases hrun
 ·cases hrun
end
end Go.Proofs.YteplnamfpodmlaaGreat.T2
end
section
namespace Go.Proofs.YteplnamfpodmlaaGreat.T2
theorem Oks.nil{P:Program}{C:List (Kon P)}{I:List (Nat→Env→Prop)}{n0:Nat}{e0:Env}:Oks C I n0 e0 []:=fun _ h=>(List.not_mem_nil h).elim
theorem Oks.cons{P:Program}{C:List (Kon P)}{I:List (Nat→Env→Prop)}{n0:Nat}{e0:Env}{o:Ob}{os:List Ob}(h:o.ok C I n0 e0)(hs:Oks C I n0 e0 os):Oks C I n0 e0 (o :: os):=fun x hx=>by
 rcases List.mem_cons.1 hx with rfl|hx
 ·exact h
 ·exact hs x hx
def Ze{P:Program}(C:List (Kon P))(I:List (Nat→Env→Prop))(e:Env):Ob→Prop
 | .cl cd x=>QC (Cd.holds C I e) cd→(x.den e).2=true
 | .pre cd k args=>QC (Cd.holds C I e) cd→match C[k]? with|some c=>c.pre (args.map (Jk e))|none=>False
 | .inv cd k d xs ms=>QC (Cd.holds C I e) cd→match I[k]? with|some i=>i d ((e.sub d xs ms).cut (d+ms.length))|none=>False
theorem Ze.ok{P:Program}{C:List (Kon P)}{I:List (Nat→Env→Prop)}{n0:Nat}{e0:Env}{o:Ob}(h:∀e,Env.agr n0 e0 e→Ze C I e o):o.ok C I n0 e0:=by
 cases o with
 |cl cd x=>exact fun e he hc=>h e he (QC.of hc)
 |pre cd k args=>
  intro e he hc;have:=h e he (QC.of hc);unfold Ze at this;cases hk:C[k]? with
  |none=>rw [hk]at this;exact this.elim
  |some c=>rw [hk]at this;exact⟨c,rfl,this⟩
 |inv cd k d xs ms=>
  intro e he hc;have:=h e he (QC.of hc);unfold Ze at this;cases hk:I[k]? with
  |none=>rw [hk]at this;exact this.elim
  |some c=>rw [hk]at this;exact⟨c,rfl,this⟩
theorem J9{P:Program}{C:List (Kon P)}{I:List (Nat→Env→Prop)}(hmix:P.follows .mixedOrders=true){G:Cfg}(hS:C.map (·.sg)=G.sg){f:FuncId}{fn:Func}(hf:P.funcs[f]?=some fn){fuel depth:Nat}{args:List PX}{rws:List Rw}{ls:List Lf}{os:List Ob}
 (hrun:QS P G fuel depth f fn args rws=some (ls,os)) (e0:Env) (w0:World) {vs:Array Value} (hvs:(args.map (·.den e0)).toArray=vs) (hrw:∀r∈rws,r.ok e0 w0) (v:Value)
 (hob:QC (fun o=>∀e,Env.agr G.n0 e0 e→Ze C I e o) os)
 (hl:QC (fun l:Lf=>∀e u,Env.agr G.n0 e0 e→QC (Cd.holds C I e) l.cd→l.v.sat e u→u=v) ls):Calls P f vs w0 (Ret v w0):=by
 subst hvs;exact QbO hmix hS hf hrun e0 w0 hrw (fun o ho=>Ze.ok (hob.all o ho)) _ fun l hm e u w' he hc hs hb _=>⟨by rw [hl.all l hm e u he (QC.of hc) hs],hb⟩
theorem WR{P:Program}{C:List (Kon P)}{I:List (Nat→Env→Prop)}(hmix:P.follows .mixedOrders=true){G:Cfg}(hS:C.map (·.sg)=G.sg){f:FuncId}{fn:Func}(hf:P.funcs[f]?=some fn){fuel depth:Nat}{args:List PX}{rws:List Rw}{ls:List Lf}{os:List Ob}
 (hrun:QS P G fuel depth f fn args rws=some (ls,os)) (e0:Env) (w0:World) {vs:Array Value} (hvs:(args.map (·.den e0)).toArray=vs) (hrw:∀r∈rws,r.ok e0 w0) (r:RZ) (post:Nm→Nm→Prop)
 (hob:QC (fun o=>∀e,Env.agr G.n0 e0 e→Ze C I e o) os)
 (hl:QC (fun l:Lf=>∀e u w',Env.agr G.n0 e0 e→QC (Cd.holds C I e) l.cd→l.v.sat e u→QC (Bk.ok e w0.heap.size w') l.hp→∃m m',u=r.val m m'∧post m m'∧r.mem w0.heap.size w' m m') ls) :
 Calls P f vs w0 fun en w'=>∃m m',en= .returned (r.val m m')∧Below w0.heap.size w0 w'∧post m m'∧r.mem w0.heap.size w' m m':=by
 subst hvs
 exact QbO hmix hS hf hrun e0 w0 hrw (fun o ho=>Ze.ok (hob.all o ho)) _ fun l hm e u w' he hc hs hb hk=>by
  obtain⟨m,m',h1,h2,h3⟩:=hl.all l hm e u w' he (QC.of hc) hs (QC.of hk);exact⟨m,m',by rw [h1],hb,h2,h3⟩
def QV(e:Env)(d j:Nat):Qd:=⟨e.bool d j,e.bool d (j+1),e.int d (j+2),e.int d (j+3),e.int d (j+4)⟩
def QdU(e:Env)(d:Nat):Ins:=⟨e.int d 0,e.int d 1,e.int d 2,e.int d 3,e.int d 4,e.int d 5,e.int d 6,e.int d 7,e.int d 8⟩
def Q4(int:Nat→Int)(k:Nat):Ins:=⟨int (k * 9),int (k * 9+1),int (k * 9+2),int (k * 9+3),int (k * 9+4),int (k * 9+5),int (k * 9+6),int (k * 9+7),int (k * 9+8)⟩
def K1(int:Nat→Int)(bool:Nat→Bool)(k r:Nat):Qd:=⟨bool (k * 40+5 * r),bool (k * 40+(5 * r+1)),int (k * 40+(5 * r+2)),int (k * 40+(5 * r+3)),int (k * 40+(5 * r+4))⟩
section
variable(e:Env)(d c:Nat)
theorem Q0(j:Nat):QK (PX.dat e c (.a (Qa d j Qb)))=QV e d j:=rfl
theorem Qr:QL (PX.dat e c (.a (Qa d 0 Qc)))=QdU e d:=rfl
theorem Qcp(x:SX):QL (PX.dat e c (.a (rxL d 9 x 0 Qc)))=Q4 (e.int d) (x.den e).1.toNat:=rfl
theorem QtW(x:SX):∀r,r < 8→stD (PX.dat e c (.a (rxL d 40 x 0 stK))) r=K1 (e.int d) (e.bool d) (x.den e).1.toNat r
 |0,_|1,_|2,_|3,_|4,_|5,_|6,_|7,_=>rfl
theorem Qfl:∀r,r < 8→stD (PX.dat e c (.a (Qa d 0 stK))) r=QV e d (5 * r)
 |0,_|1,_|2,_|3,_|4,_|5,_|6,_|7,_=>rfl
theorem QE(x0 x1 x2 x3 x4:SX)(k2 k3 k4:IntKind):QK (PX.dat e c (.a [.t x0,.t x1,.n k2 x2,.n k3 x3,.n k4 x4]))=⟨(x0.den e).2,(x1.den e).2,(x2.den e).1,(x3.den e).1,(x4.den e).1⟩:=rfl
theorem Qy(k:IntKind)(x:SX):Q3 (PX.dat e c (.l (.n k x)))=(x.den e).1:=rfl
theorem QF(x:SX):WD (PX.dat e c (.l (.t x)))=(x.den e).2:=rfl
theorem Qk{s:Qd}(hi:e.int d=QJ s)(hb:e.bool d=QO s):QV e d 0=s:=by unfold QV;rw [hi,hb];rfl
theorem Zi{i:Ins}(hi:e.int d=Q2 i):QdU e d=i:=by unfold QdU;rw [hi];rfl
theorem QW{s:Nat→Qd}(hi:e.int d=QU s)(hb:e.bool d=QI s)(k:Nat):QV e d (5 * k)=s k:=by
 unfold QV;rw [hi,hb];have h:∀c,c < 5→(5 * k+c) / 5=k∧(5 * k+c) % 5=c:=fun c hc=>by omega
 have h0:=h 0 (by omega)
 simp only [Nat.add_zero]at h0;simp only [QU,QI,h0,h 1 (by omega),h 2 (by omega),h 3 (by omega),h 4 (by omega),QJ,QO]
theorem Zy:PX.den e (.a (Qa d 0 stK))=Zm fun k=>QV e d (5 * k):=rfl
end
theorem Jh{e:Env}{x:PX}{u:Value}(h:(VX.v x).sat e u):u=x.den e:=h
def nmI(int:Nat→Int):Nm:={Nm.zero with int:=int}
def nmB(int:Nat→Int)(bool:Nat→Bool):Nm:={Nm.zero with int:=int,bool:=bool}
def nmN(n:Int):Nm:=nmI fun _=>n
def nmT(b:Bool):Nm:=nmB (fun _=>0) fun _=>b
def nmR(base:Option Addr)(cap:Nat)(int:Nat→Int)(bool:Nat→Bool):Nm:={Nm.zero with base:=base,cap:=cap,int:=int,bool:=bool}
def Yu(l:List Nm):Env:=⟨fun d=>(l[d]?).getD Nm.zero⟩
def Xz:Value→Nat
 | .slice _ n _=>n
 |_=>0
def Qqy:Value→Option Addr
 | .slice b _ _=>b
 |_=>none
def Qud:Value→Nat
 | .slice _ _ c=>c
 |_=>0
theorem VO{w:World}{ks:List (Option IntKind)}{d:AD}(h:(SH.sl ks).fits w d):d.val= .slice (Qqy d.val) (Xz d.val) (Qud d.val)∧XW w (Qqy d.val) (Xz d.val) ks d.int d.bool:=by
 obtain⟨A,len,cap,hv,hr⟩:=h;rw [hv];exact⟨rfl,hr⟩
def Kon.fn{P:Program}(f:FuncId)(args:List SH)(res:RS)(np:Bool)(pre:List AD→Prop)(int:List AD→Nat→Int)(bool:List AD→Nat→Bool)(body:∃fn,P.funcs[f]?=some fn∧(fn.name== "runtime.NumGoroutine")=false∧fn.body.isNone=false)
 (free:np=true→∀ads,pre ads) (h:∀(ads:List AD) (w:World),Qcw w args ads→pre ads→Calls P f (ads.map (·.val)).toArray w (Ret (res.val (int ads) (bool ads)) w)):Kon P where
 sg:=⟨f,args,.b res,true,np⟩
 pre:=pre
 post ads m _:=m.int=int ads∧m.bool=bool ads
 body:=body
 free:=free
 flat _:=⟨_,rfl⟩
 total _ ads:=⟨nmB (int ads) (bool ads),Nm.zero,rfl,rfl⟩
 same _ ads i j i' j' h1 h2:=by simp only [RZ.val];rw [h1.1,h1.2,h2.1,h2.2]
 sound ads w hf hp:=(h ads w hf hp).mono fun e w' ⟨he,hb⟩=>⟨nmB (int ads) (bool ads),Nm.zero,he,hb,⟨rfl,rfl⟩,trivial⟩
theorem Con.kon_post{P:Program}(c:Con P)(ads:List AD)(m m':Nm):c.kon.post ads m m'=c.post ads m.int m.bool:=rfl
theorem Xp{e:Env}{d x:Nat}(h:x≤d):(e.cut d).nm x=e.nm x:=by simp [Env.cut,h]
end Go.Proofs.YteplnamfpodmlaaGreat.T2
end
section
namespace Go.Proofs.YteplnamfpodmlaaGreat.T2
section
variable{e:Env}{x y:SX}{d sz j:Nat}
theorem dv1:((SX.v d j).den e).1=(e.nm d).int j:=rfl
theorem dv2:((SX.v d j).den e).2=(e.nm d).bool j:=rfl
theorem di1{n:Int}:((SX.i n).den e).1=n:=rfl
theorem db2{v:Bool}:((SX.b v).den e).2=v:=rfl
theorem dr1:((SX.r d sz j x).den e).1=(e.nm d).int ((x.den e).1.toNat * sz+j):=rfl
theorem dr2:((SX.r d sz j x).den e).2=(e.nm d).bool ((x.den e).1.toNat * sz+j):=rfl
theorem dq1:((SX.r2 d y sz j x).den e).1=(e.nm d).i2 (y.den e).1.toNat ((x.den e).1.toNat * sz+j):=rfl
theorem dq2:((SX.r2 d y sz j x).den e).2=(e.nm d).b2 (y.den e).1.toNat ((x.den e).1.toNat * sz+j):=rfl
theorem do1{k:IntKind}:((SX.o .add k x y).den e).1=k.wrap ((x.den e).1+(y.den e).1):=rfl
theorem Xc:((SX.c .lss x y).den e).2=true↔(x.den e).1 < (y.den e).1:=by simp [SX.den,cmI]
theorem Xb:((SX.c .lss x y).den e).2=false↔¬(x.den e).1 < (y.den e).1:=by simp [SX.den,cmI]
theorem ZY:((SX.c .gtr x y).den e).2=true↔(y.den e).1 < (x.den e).1:=by simp [SX.den,cmI]
theorem ZX:((SX.c .gtr x y).den e).2=false↔¬(y.den e).1 < (x.den e).1:=by simp [SX.den,cmI]
theorem Xa:((SX.c .leq x y).den e).2=true↔(x.den e).1≤(y.den e).1:=by simp [SX.den,cmI]
theorem ZZ:((SX.c .leq x y).den e).2=false↔¬(x.den e).1≤(y.den e).1:=by simp [SX.den,cmI]
theorem ZW:((SX.c .geq x y).den e).2=true↔(y.den e).1≤(x.den e).1:=by simp [SX.den,cmI]
theorem ZV:((SX.c .geq x y).den e).2=false↔¬(y.den e).1≤(x.den e).1:=by simp [SX.den,cmI]
theorem ZU:((SX.c .eql x y).den e).2=true↔(x.den e).1=(y.den e).1:=by simp [SX.den,cmI]
theorem ZT:((SX.c .eql x y).den e).2=false↔¬(x.den e).1=(y.den e).1:=by simp [SX.den,cmI]
theorem Xe:((SX.c .neq x y).den e).2=true↔¬(x.den e).1=(y.den e).1:=by simp [SX.den,cmI]
theorem Xd:((SX.c .neq x y).den e).2=false↔(x.den e).1=(y.den e).1:=by simp [SX.den,cmI]
theorem Jc:((SX.no x).den e).2=true↔(x.den e).2=false:=by simp [SX.den]
theorem Jb:((SX.no x).den e).2=false↔(x.den e).2=true:=by simp [SX.den]
theorem XY:((SX.an x y).den e).2=true↔(x.den e).2=true∧(y.den e).2=true:=by simp [SX.den]
theorem XX:((SX.an x y).den e).2=false↔¬((x.den e).2=true∧(y.den e).2=true):=by simp [SX.den]
theorem Ja:((SX.eq x y).den e).2=true↔(x.den e).2=(y.den e).2:=by simp [SX.den]
theorem XZ:((SX.eq x y).den e).2=false↔¬(x.den e).2=(y.den e).2:=by simp [SX.den]
theorem QtD{v:Bool}:((SX.c .eql x y).den e).2=decide ((x.den e).1=(y.den e).1):=rfl
theorem li{k:IntKind}:QZ e (.n k x)=(x.den e).1:=rfl
theorem lb:Z4 e (.t x)=(x.den e).2:=rfl
def QnJ(e:Env)(xs:List LX)(j:Nat):Int:=match xs[j]? with|some x=>QZ e x|none=>0
def QqC(e:Env)(xs:List LX)(j:Nat):Bool:=match xs[j]? with|some x=>Z4 e x|none=>false
theorem Jz{xs:List LX}{ms:List (Option (Nat×Nat))}:((e.sub d xs ms).cut (d+ms.length)).nm d={Nm.zero with int:=QnJ e xs,bool:=QqC e xs}:=by
 rw [Xp (Nat.le_add_right _ _),Qa4]
 have h1:∀x:Option LX,(match x with|some (.n _ y)=>(y.den e).1|_=>0)=(match x with|some x=>QZ e x|none=>0):=fun x=>by
  cases x with
  |none=>rfl
  |some x=>cases x <;> rfl
 have h2:∀x:Option LX,(match x with|some (.t y)=>(y.den e).2|_=>false)=(match x with|some x=>Z4 e x|none=>false):=fun x=>by
  cases x with
  |none=>rfl
  |some x=>cases x <;> rfl
 have e1:(fun j=>match xs[j]? with|some (.n _ y)=>(y.den e).1|_=>0)=QnJ e xs:=funext fun j=>h1 _
 have e2:(fun j=>match xs[j]? with|some (.t y)=>(y.den e).2|_=>false)=QqC e xs:=funext fun j=>h2 _
 rw [←e1,←e2]
 try rfl
theorem Wf{k:IntKind}{xs:List LX}:QnJ e (.n k x :: xs) 0=(x.den e).1:=rfl
end
end Go.Proofs.YteplnamfpodmlaaGreat.T2
end
