/-
  Part of the proof.
-/
import Derived.Test.YteplnamfpodmlaaQLw
import Derived.Test.YteplnamfpodmlaaQB
set_option linter.unusedVariables false
set_option linter.unusedSimpArgs false
set_option maxRecDepth 100000
open Go.ChangeShapes Go.WideShapes Go.ChangeAt Go.RowKit
section
namespace Go.Proofs.Yteplnamfpodmlaa.T2
def Qbc(I:Nat→Ins)(G:Nat→Int)(b:Nat→Nat→Qd)(k:Nat)(es:List (Nat×Bool)):Prop:=∀p∈es,Xi (Xw I (G k) k (b k) p.2) (b p.1)
def QdJ:Nat→Qd:=ZN fun _=>Q4
structure Qq1(I:Nat→Ins)(E:Nat→List (Nat×Bool))(G:Nat→Int)(N f:Nat)(s:VS):Prop where
 ok:okB s.b
 top:Xi (fun _=>Qy) (s.b f)
 fix:∀k,k < N→s.m k=true∨s.b k=QdJ∨Qbc I G s.b k (E k)
structure Qhe(I:Nat→Ins)(E:Nat→List (Nat×Bool))(G:Nat→Int)(N f k:Nat)(es:List (Nat×Bool))(s:VS):Prop where
 ok:okB s.b
 top:Xi (fun _=>Qy) (s.b f)
 fix:∀j,j < N→j≠k→s.m j=true∨s.b j=QdJ∨Qbc I G s.b j (E j)
 here:s.m k=true∨Qbc I G s.b k es
theorem Jf{b:Nat→Nat→Qd}(h:okB b)(k:Nat):∀r,(b k r).wf:=fun r=>(h k r).1
theorem QoY{I:Nat→Ins}{G:Nat→Int}{k:Nat}{s:VS}{p:Nat×Bool}(hI:∀k,(I k).wf)(h:okB s.b) :
 Xi (s.b p.1) (KA s p.1 (Jb I G k s p))∧Xi (Xw I (G k) k (s.b k) p.2) (KA s p.1 (Jb I G k s p)):=by
 have wb:=Jf h p.1
 have wa:=Qda (g:=G k) (k:=k) (tk:=p.2) hI (Jf h k)
 have nok:=KU (G:=G) (k:=k) (p:=p) hI h
 have n1:Xi (s.b p.1) (Jb I G k s p):=fun r hr=>by
  unfold Jb ZN
  rw [if_pos hr]
  exact(QbF (wb r) (wa r)).1
 have n2:Xi (Xw I (G k) k (s.b k) p.2) (Jb I G k s p):=fun r hr=>by
  unfold Jb ZN
  rw [if_pos hr]
  exact(QbF (wb r) (wa r)).2
 unfold KA
 split
 ·have w1:Xi (s.b p.1) (ZN fun r=>JH (s.b p.1 r) (Jb I G k s p r)):=fun r hr=>by
   unfold ZN
   rw [if_pos hr]
   exact(Qa1 (wb r) (nok r).1).1
  have w2:Xi (Jb I G k s p) (ZN fun r=>JH (s.b p.1 r) (Jb I G k s p r)):=fun r hr=>by
   unfold ZN
   rw [if_pos hr]
   exact(Qa1 (wb r) (nok r).1).2
  have wk:∀r,(ZN (fun r=>JH (s.b p.1 r) (Jb I G k s p r)) r).wf:=fun r=>(Qbn (fun r=>Qcu (wb r) (nok r).1) r).1
  exact⟨w1,Xi.trans wa (fun r=>(nok r).1) wk n2 w2⟩
 ·exact⟨n1,n2⟩
theorem Qhz{I:Nat→Ins}{G:Nat→Int}{b b':Nat→Nat→Qd}{j:Nat}{es:List (Nat×Bool)}(hI:∀k,(I k).wf)(h:okB b)(h':okB b')(hj:b' j=b j)(hg:∀t,Xi (b t) (b' t))(H:Qbc I G b j es):Qbc I G b' j es:=fun p hp=>by
 rw [hj]
 exact Xi.trans (Qda hI (Jf h j)) (Jf h p.1) (Jf h' p.1) (H p hp) (hg p.1)
theorem Qlm{I:Nat→Ins}{E:Nat→List (Nat×Bool)}{G:Nat→Int}{N f k:Nat}{es:List (Nat×Bool)}{s:VS}{p:Nat×Bool}(hI:∀k,(I k).wf)(H:Qhe I E G N f k es s):Qhe I E G N f k (es ++ [p]) (Vg I G k s p):=by
 have hw:=QoY (G:=G) (k:=k) (p:=p) hI H.ok
 have ok':=Qiq (G:=G) (k:=k) (p:=p) hI H.ok
 have hx:∀r,r < 8→True:=fun _ _=>trivial
 unfold Vg at ok' ⊢
 unfold QdQ at ok' ⊢
 by_cases hs:Qfw (KA s p.1 (Jb I G k s p)) (s.b p.1)=true
 ·rw [if_pos hs]at ok' ⊢
  refine⟨H.ok,H.top,H.fix,?_⟩
  rcases H.here with h|h
  ·exact .inl h
  ·refine .inr fun q hq=>?_
   rcases List.mem_append.1 hq with hq|hq
   ·exact h q hq
   ·rw [List.mem_singleton.1 hq]
    intro r hr
    have:=hw.2 r hr
    rwa [QdZ.1 hs r hr]at this
 ·rw [if_neg hs]at ok' ⊢
  have ok2:okB (Jq s.b p.1 (KA s p.1 (Jb I G k s p))):=ok'
  have hg:∀t,Xi (s.b t) (Jq s.b p.1 (KA s p.1 (Jb I G k s p)) t):=fun t=>by
   by_cases ht:t=p.1
   ·rw [ht,Vw];exact hw.1
   ·rw [JV _ _ ht];exact Xi.refl (Jf H.ok t)
  refine⟨ok2,Xi.trans (fun _=>Z5) (Jf H.ok f) (Jf ok2 f) H.top (hg f),fun j hj hjk=>?_,?_⟩
  ·by_cases ht:j=p.1
   ·left;show Jq s.m p.1 true j=true;rw [ht,Vw]
   ·rcases H.fix j hj hjk with h|h|h
    ·left;show Jq s.m p.1 true j=true;rw [JV _ _ ht];exact h
    ·right;left;show Jq s.b p.1 _ j=QdJ;rw [JV _ _ ht];exact h
    ·right;right;exact Qhz hI H.ok ok2 (JV _ _ ht) hg h
  ·by_cases ht:k=p.1
   ·left;show Jq s.m p.1 true k=true;rw [ht,Vw]
   ·rcases H.here with h|h
    ·left;show Jq s.m p.1 true k=true;rw [JV _ _ ht];exact h
    ·right
     intro q hq
     rcases List.mem_append.1 hq with hq|hq
     ·exact Qhz hI H.ok ok2 (JV _ _ ht) hg h q hq
     ·rw [List.mem_singleton.1 hq]
      show Xi (Xw I (G k) k (Jq s.b p.1 _ k) p.2) (Jq s.b p.1 _ p.1)
      rw [JV _ _ ht,Vw]
      exact hw.2
theorem Qei{I:Nat→Ins}{E:Nat→List (Nat×Bool)}{G:Nat→Int}{N f k:Nat}(hI:∀k,(I k).wf):∀(es' es:List (Nat×Bool)) (s:VS),Qhe I E G N f k es s→Qhe I E G N f k (es ++ es') (es'.foldl (Vg I G k) s)
 | [],es,s,H=>by rw [List.append_nil];exact H
 |p :: es',es,s,H=>by
  have:=Qei hI es' (es ++ [p]) _ (Qlm (p:=p) hI H)
  rwa [List.append_assoc]at this
theorem Qlo{I:Nat→Ins}{E:Nat→List (Nat×Bool)}{G:Nat→Int}{N f k:Nat}{s:VS}(hI:∀k,(I k).wf)(H:Qq1 I E G N f s):Qq1 I E G N f (Qlt I E G s k):=by
 have h0:Qhe I E G N f k [] (Qls s k):=by
  refine⟨H.ok,H.top,fun j hj hjk=>?_,.inr fun q hq=>absurd hq (List.not_mem_nil)⟩
  rcases H.fix j hj with h|h|h
  ·left;show Jq s.m k false j=true;rw [JV _ _ hjk];exact h
  ·exact .inr (.inl h)
  ·exact .inr (.inr h)
 have h1:=Qei hI (E k) [] _ h0
 rw [List.nil_append]at h1
 refine⟨h1.ok,h1.top,fun j hj=>?_⟩
 by_cases hjk:j=k
 ·subst hjk
  rcases h1.here with h|h
  ·exact .inl h
  ·exact .inr (.inr h)
 ·exact h1.fix j hj hjk
theorem Qln{I:Nat→Ins}{E:Nat→List (Nat×Bool)}{G:Nat→Int}{N f:Nat}:Qq1 I E G N f (Ws f):=by
 refine⟨Qil f,fun r hr=>?_,fun k hk=>?_⟩
 ·show ZF Qy (Jq (fun _=>ZN fun _=>Q4) f (ZN fun _=>Qy) f r)=true
  rw [Vw]
  unfold ZN
  rw [if_pos hr]
  exact QbG Z5
 ·by_cases h:k=f
  ·left;show Jq (fun _=>false) f true k=true;rw [h,Vw]
  ·right;left;show Jq (fun _=>ZN fun _=>Q4) f _ k=QdJ;rw [JV _ _ h];rfl
theorem Qff{m:Nat→Bool}:∀(n k:Nat),Qbu m true k n < 0→∀j,k≤j→j < k+n→m j=false
 |0,k,h,j,h1,h2=>by omega
 |n+1,k,h,j,h1,h2=>by
  unfold Qbu at h
  by_cases hm:true=m k
  ·rw [if_pos hm]at h;omega
  ·rw [if_neg hm]at h
   by_cases hj:j=k
   ·subst hj
    cases hv:m j
    ·rfl
    ·exact absurd hv.symm hm
   ·exact Qff n (k+1) h j (by omega) (by omega)
theorem QrZ{I:Nat→Ins}{E:Nat→List (Nat×Bool)}{G:Nat→Int}{N f:Nat}(hI:∀k,(I k).wf){b:Nat→Nat→Qd}:∀(fuel:Nat) (s:VS),Qq1 I E G N f s→QaM I E G N fuel s=some b→okB b∧Xi (fun _=>Qy) (b f)∧∀k,k < N→b k=QdJ∨Qbc I G b k (E k):=by
 have fin:∀s:VS,Qq1 I E G N f s→JL s.m N true < 0→s.b=b→okB b∧Xi (fun _=>Qy) (b f)∧∀k,k < N→b k=QdJ∨Qbc I G b k (E k):=fun s H h e=>by
  subst e
  refine⟨H.ok,H.top,fun k hk=>?_⟩
  have hm:=Qff N 0 h k (by omega) (by omega)
  rcases H.fix k hk with h1|h1
  ·rw [hm]at h1;cases h1
  ·exact h1
 intro fuel
 induction fuel with
 |zero=>
  intro s H h
  unfold QaM at h
  by_cases hi:JL s.m N true < 0
  ·rw [if_pos hi]at h;exact fin s H hi (Option.some.inj h)
  ·rw [if_neg hi]at h;cases h
 |succ n ih=>
  intro s H h
  unfold QaM at h
  by_cases hi:JL s.m N true < 0
  ·rw [if_pos hi]at h;exact fin s H hi (Option.some.inj h)
  ·rw [if_neg hi]at h;exact ih _ (Qlo hI H) h
theorem Qkf{I:Nat→Ins}{N:Nat}{en R:Int}{b:Nat→Nat→Qd}(hI:∀k,(I k).wf)(h:Xz I N en R= .ok b) :
 ∃f,Qv I en N=some f∧okB b∧Xi (fun _=>Qy) (b f)∧∀k,k < N→b k=QdJ∨Qbc I (Xk I N f) b k (XH I N k):=by
 unfold Xz at h
 by_cases hN:4096 < N
 ·rw [if_pos hN]at h;cases h
 rw [if_neg hN]at h
 cases hf:Qv I en N with
 |none=>rw [hf]at h;cases h
 |some f=>
  rw [hf]at h
  dsimp only at h
  cases hr:QaM I (XH I N) (Xk I N f) N R.toNat (Ws f)with
  |none=>rw [hr]at h;cases h
  |some b'=>
   rw [hr]at h
   cases h
   exact⟨f,rfl,QrZ hI _ _ Qln hr⟩
end Go.Proofs.Yteplnamfpodmlaa.T2
end
section
namespace Go.Proofs.Yteplnamfpodmlaa.T2
theorem Qab{I:Nat→Ins}{N k:Nat}{a:Int}(h:Qv I a N=some k):k < N∧Qv I (I k).addr N=some k:=by
 have h1:=XL h
 exact⟨h1.1,by rw [h1.2];exact h⟩
theorem V8{I:Nat→Ins}{N k t:Nat}{a:Int}{l:List Int}(hs:Qv I (I k).addr N=some k)(hl:Q7 (I k)=a :: l)(ht:Qv I a N=some t):(t,true)∈XH I N k:=by
 unfold XH
 rw [if_pos hs,hl]
 unfold Vd
 rw [ht]
 exact List.mem_append_left _ (List.mem_singleton.2 rfl)
theorem W6{I:Nat→Ins}{N k t:Nat}{a c:Int}(hs:Qv I (I k).addr N=some k)(hl:Q7 (I k)= [c,a])(ht:Qv I a N=some t):(t,false)∈XH I N k:=by
 unfold XH
 rw [if_pos hs,hl]
 unfold Vd
 refine List.mem_append_right _ ?_
 unfold Vd
 rw [ht]
 exact List.mem_append_left _ (List.mem_singleton.2 rfl)
theorem Qop{es:List (Nat×Bool)}{k:Nat}{p:Nat×Bool}(h:p∈es):k∈Qaw es k p.1:=by
 unfold Qaw
 exact List.mem_filterMap.2 ⟨p,h,if_pos rfl⟩
theorem Qh5{I:Nat→Ins}{N k:Nat}{p:Nat×Bool}(h:p∈XH I N k):∀{n:Nat},k < n→k∈Ki I N n p.1
 |n+1,hk=>by
  unfold Ki
  by_cases e:k=n
  ·subst e;exact List.mem_append_right _ (Qop h)
  ·exact List.mem_append_left _ (Qh5 h (by omega))
theorem Qdz{I:Nat→Ins}{N f k:Nat}{p:Nat×Bool}(h:p∈XH I N k)(hk:k < N)(hg:0≤Xk I N f p.1):Xk I N f p.1=(k:Int)∧Yt (I k)=true∧(I p.1).addr≠(I f).addr:=by
 have hm:=Qh5 h hk
 unfold Xk at hg ⊢
 split at hg
 ·rename_i g hl
  rw [hl]at hm
  have e:=List.mem_singleton.1 hm
  subst e
  split at hg
  ·rename_i hc
   rw [if_pos hc]
   exact⟨rfl,hc.2.2.2,hc.2.2.1⟩
  ·omega
 ·omega
theorem QuG{x:Nat→Int}(h:inP QdJ x):False:=by
 have h0:=h 0 (by decide)
 revert h0
 unfold QdJ ZN
 rw [if_pos (by decide)]
 unfold Qz
 rw [Zm (show Qq Q4=true from rfl)]
 intro h;cases h
structure V3(I:Nat→Ins)(N f:Nat)(b:Nat→Nat→Qd)(n a:Int)(x:Nat→Int)(fz fn fc fv:Bool)(L:Int)(st:Nat→Int):Prop where
 n0:0≤n
 L0:0≤L
 Ln:L≤n
 a32:Q5 a
 x32:∀r,Q5 (x r)
 here:∀k,Qv I a N=some k→inP (b k) x
 flag:∀k,Qv I a N=some k→∀g:Nat,Xk I N f k=(g:Int)→fz=QaV (x (I g).a.toNat) (I g).imm∧fn=Go.Proofs.Yteplnamfpodmlaa.subN (x (I g).a.toNat) (I g).imm∧fc=Qe6 (x (I g).a.toNat) (I g).imm∧fv=Go.Proofs.Yteplnamfpodmlaa.subV (x (I g).a.toNat) (I g).imm
 stk:∀j:Nat,(j:Int) < L→Q5 (st j)∧∀t,Qv I (st j) N=some t→Xi (fun _=>Qy) (b t)∧Xk I N f t < 0
structure Qeu(I:Nat→Ins)(N f:Nat)(b:Nat→Nat→Qd):Prop where
 wf:∀k,(I k).wf
 ok:okB b
 top:Xi (fun _=>Qy) (b f)
 fix:∀k,k < N→b k=QdJ∨Qbc I (Xk I N f) b k (XH I N k)
theorem Qkz{s:Nat→Qd}(ws:∀k,(s k).wf)(h:Xi (fun _=>Qy) s)(x:Nat→Int):inP s x:=Qd3 ws h fun r _=>QbM _
theorem Qom{s:Nat→Qd}{x y:Nat→Int}(h:∀r,r < 8→x r=y r)(hx:inP s x):inP s y:=fun r hr=>by rw [←h r hr];exact hx r hr
section
variable{I:Nat→Ins}{N f:Nat}{b:Nat→Nat→Qd}{n a:Int}{x:Nat→Int}{fz fn fc fv:Bool}{L:Int}{st:Nat→Int}
theorem QoS(A:Qeu I N f b)(hf:Qv I a N=some f)(ha:Q5 a)(hx:∀r,Q5 (x r))(hn:0≤n):V3 I N f b n a x fz fn fc fv 0 st where
 n0:=hn
 L0:=Int.le_refl 0
 Ln:=hn
 a32:=ha
 x32:=hx
 here k hk:=by
  rw [hf]at hk
  cases hk
  exact Qkz (Jf A.ok f) A.top x
 flag k hk g hg:=by
  rw [hf]at hk
  cases hk
  exfalso
  unfold Xk at hg
  split at hg
  ·split at hg
   ·rename_i hc;exact hc.2.2.1 rfl
   ·omega
  ·omega
 stk j hj:=by omega
theorem Qip(A:Qeu I N f b)(H:V3 I N f b n a x fz fn fc fv L st){k:Nat}(hk:Qv I a N=some k){p:Nat×Bool}(hp:p∈XH I N k):Xi (Xw I (Xk I N f k) k (b k) p.2) (b p.1):=by
 rcases A.fix k (Qab hk).1 with h|h
 ·exfalso
  have h1:=H.here k hk
  rw [h]at h1
  exact QuG h1
 ·exact h p hp
theorem Qhf(A:Qeu I N f b)(H:V3 I N f b n a x fz fn fc fv L st){k:Nat}(hk:Qv I a N=some k){p:Nat×Bool}(hp:p∈XH I N k){y:Nat→Int}(hy:inP (Xw I (Xk I N f k) k (b k) p.2) y):inP (b p.1) y:=
 Qd3 (Jf A.ok p.1) (Qip A H hk hp) hy
theorem QdX(A:Qeu I N f b)(H:V3 I N f b n a x fz fn fc fv L st){k:Nat}(hk:Qv I a N=some k)(hv:Qj (I k)=true)(o1:(I k).op≠1)(o2:(I k).op≠2)(o20:(I k).op≠20)(o21:(I k).op≠21)(o22:(I k).op≠22)(o23:(I k).op≠23)(o24:(I k).op≠24)
 {n':Int} {x':Nat→Int} {gz gn gc gv:Bool} {m:Int} (hm:Q5 m) (hx:∀r,r < 8→x' r=ZG (I k) x m r) (hx8:∀r,8≤r→x' r=0) (hn:n'=n+1)
 (hfl:Yt (I k)=true→gz=QaV (x (I k).a.toNat) (I k).imm∧gn=Go.Proofs.Yteplnamfpodmlaa.subN (x (I k).a.toNat) (I k).imm∧gc=Qe6 (x (I k).a.toNat) (I k).imm∧gv=Go.Proofs.Yteplnamfpodmlaa.subV (x (I k).a.toNat) (I k).imm) :
 V3 I N f b n' (ZY (I k)) x' gz gn gc gv L st:=by
 have hs:=Qab hk
 have hw:=Jf A.ok k
 have ht:Q7 (I k)= [ZY (I k)]:=by
  unfold Q7 KJ JK
  rw [if_pos hv]
  simp [o1,o2,o20,o21,o22,o23]
 have mr:=Qb1 (A.wf k) H.x32 hm
 have xr:∀r,Q5 (x' r):=fun r=>by
  rcases Nat.lt_or_ge r 8 with h|h
  ·rw [hx r h];exact mr r
  ·rw [hx8 r h];exact K9
 refine⟨by have:=H.n0;omega,H.L0,by have:=H.Ln;omega,QR _,xr,fun t htt=>?_,fun t htt g hg=>?_,H.stk⟩
 ·have hp:=V8 hs.2 ht htt
  refine Qhf A H hk hp (Qom (fun r hr=>(hx r hr).symm) ?_)
  have ha:Xw I (Xk I N f k) k (b k) true=Qw (I k) (b k):=by
   unfold Xw
   rw [if_neg (by omega),if_neg (fun h=>o20 h.1)]
  show inP (Xw I (Xk I N f k) k (b k) true) _
  rw [ha]
  exact VU (A.wf k) hv hw H.x32 hm (H.here k hk)
 ·have hp:=V8 hs.2 ht htt
  have hgf:=Qdz (f:=f) hp hs.1 (by rw [hg];omega)
  have:g=k:=by have:=hgf.1;rw [hg]at this;omega
  subst this
  have hfl':=hfl hgf.2.1
  have e7:x' (I g).a.toNat=x (I g).a.toNat:=by
   have hr:=Qbj hgf.2.1
   rw [hx _ (by omega)]
   have o15:(I g).op=15:=by have:=hgf.2.1;unfold Yt at this;grind
   unfold ZG
   simp [o15]
  rw [e7]
  exact hfl'
theorem Qd0{k:Nat}{p:Nat×Bool}(hp:p∈XH I N k)(hk:k < N)(ho:(I k).op≠15):Xk I N f p.1 < 0:=by
 rcases Int.lt_or_le (Xk I N f p.1) 0 with h|h
 ·exact h
 ·have:=(Qdz hp hk h).2.1
  exfalso
  unfold Yt at this
  grind
theorem Qig(A:Qeu I N f b)(H:V3 I N f b n a x fz fn fc fv L st){k:Nat}(hk:Qv I a N=some k)(hv:Qj (I k)=true)(o20:(I k).op=20){n':Int}(hn:n'=n+1){hb:Bool}(hh:KI (I k).cc fz fn fc fv=hb) :
 V3 I N f b n' (if hb=true then(I k).imm else ZY (I k)) x fz fn fc fv L st:=by
 have hs:=Qab hk
 have hw:=Jf A.ok k
 have key:∀p,p∈XH I N k→p.2=hb→inP (b p.1) x:=fun p hp h2=>by
  refine Qhf A H hk hp ?_
  unfold Xw
  rw [if_neg (by omega)]
  by_cases hg:0≤Xk I N f k
  ·rw [if_pos ⟨o20,hg⟩]
   obtain⟨g,hge⟩:=Int.eq_ofNat_of_zero_le hg
   have hfl:=H.flag k hk g hge
   have hsnd:=Qb5 (cc:=(I k).cc) (A.wf g) hw H.x32 (H.here k hk)
   rw [hge,Int.toNat_natCast,h2]
   have hcm:Yt (I g)=true:=by
    unfold Xk at hge
    split at hge
    ·rename_i g' hl
     split at hge
     ·rename_i hc
      have e:g'=g:=by omega
      subst e
      exact hc.2.2.2
     ·omega
    ·omega
   have hf:(I g).form≠0:=by unfold Yt at hcm;grind
   have hsx:Kc (I g) x=(I g).imm:=by unfold Kc;rw [if_neg hf]
   rw [hsx]at hsnd
   unfold Qau at hsnd
   rw [←hfl.1,←hfl.2.1,←hfl.2.2.1,←hfl.2.2.2,hh]at hsnd
   exact hsnd
  ·rw [if_neg (fun h=>hg h.2)]
   have hts:=VU (n:=0) (A.wf k) hv hw H.x32 K9 (H.here k hk)
   have hmv:ZG (I k) x 0=x:=by
    unfold ZG
    simp [o20]
   rwa [hmv]at hts
 have ed:∀t,Qv I (if hb=true then(I k).imm else ZY (I k)) N=some t→(t,hb)∈XH I N k:=fun t ht=>by
  cases hb with
  |true=>
   rw [if_pos rfl]at ht
   refine V8 (l:=if JK (I k)=true then []else [ZY (I k)]) hs.2 ?_ ht
   unfold Q7 KJ
   rw [if_pos hv]
   simp [o20]
  |false=>
   rw [if_neg (by decide)]at ht
   refine W6 (c:=(I k).imm) hs.2 ?_ ht
   have hcc:(I k).cc≠0:=fun h=>by rw [h]at hh;cases hh
   unfold Q7 KJ JK
   rw [if_pos hv]
   simp [o20,hcc]
 refine⟨by have:=H.n0;omega,H.L0,by have:=H.Ln;omega,?_,H.x32,fun t ht=>key _ (ed t ht) rfl,fun t ht g hg=>?_,H.stk⟩
 ·split
  ·exact(A.wf k).2.1
  ·exact QR _
 ·exfalso
  have:=Qd0 (f:=f) (ed t ht) hs.1 (by omega)
  simp only at this
  omega
theorem QrY(A:Qeu I N f b)(H:V3 I N f b n a x fz fn fc fv L st){k:Nat}(hk:Qv I a N=some k)(hv:Qj (I k)=true)(o23:(I k).op=23){n':Int}(hn:n'=n+1){x':Nat→Int}(hx:∀r,Q5 (x' r))
 {st':Nat→Int} (hst:∀j:Nat,(j:Int) < L→st' j=st j) (hst2:st' L.toNat=ZY (I k)):V3 I N f b n' (I k).imm x' fz fn fc fv (L+1) st':=by
 have hs:=Qab hk
 have htl:Q7 (I k)= [(I k).imm,ZY (I k)]:=by
  unfold Q7 KJ JK
  rw [if_pos hv]
  simp [o23]
 have topA:∀tk,Xw I (Xk I N f k) k (b k) tk=fun _=>Qy:=fun tk=>by
  unfold Xw
  rw [if_pos (.inl o23)]
 have wt:∀p,p∈XH I N k→Xi (fun _=>Qy) (b p.1):=fun p hp=>by
  have:=Qip A H hk hp
  rwa [topA]at this
 have L0:=H.L0
 refine⟨by have:=H.n0;omega,by omega,by have:=H.Ln;omega,(A.wf k).2.1,hx,fun t ht=>?_,fun t ht g hg=>?_,fun j hj=>?_⟩
 ·exact Qkz (Jf A.ok t) (wt _ (V8 hs.2 htl ht)) x'
 ·exfalso
  have:=Qd0 (f:=f) (V8 hs.2 htl ht) hs.1 (by omega)
  simp only at this
  omega
 ·by_cases h:(j:Int) < L
  ·rw [hst j h];exact H.stk j h
  ·have e:j=L.toNat:=by omega
   subst e
   rw [hst2]
   exact⟨QR _,fun t ht=>⟨wt _ (W6 hs.2 htl ht),Qd0 (W6 hs.2 htl ht) hs.1 (by omega)⟩⟩
theorem Qt3(A:Qeu I N f b)(H:V3 I N f b n a x fz fn fc fv L st)(hL:0≤L - 1){n':Int}(hn:n'=n+1){x':Nat→Int}(hx:∀r,Q5 (x' r)):V3 I N f b n' (st (L - 1).toNat) x' fz fn fc fv (L - 1) st:=by
 have hs:=H.stk (L - 1).toNat (by omega)
 refine⟨by have:=H.n0;omega,by omega,by have:=H.Ln;omega,hs.1,hx,fun t ht=>Qkz (Jf A.ok t) (hs.2 t ht).1 x',fun t ht g hg=>?_,fun j hj=>H.stk j (by omega)⟩
 exfalso
 have:=(hs.2 t ht).2
 omega
end
end Go.Proofs.Yteplnamfpodmlaa.T2
end
