/-
  Part of the proof.
-/
import Derived.Test.YteplnamfpodmlaaRT2
import Derived.Test.YteplnamfpodmlaaRA5
set_option linter.unusedVariables false
set_option linter.unusedSimpArgs false
set_option maxRecDepth 100000
open Go.ChangeShapes Go.WideShapes Go.ChangeAt Go.RowKit
section
namespace Go.Proofs.Yteplnamfpodmlaa.T2
set_option maxHeartbeats 1000000
def okV(s:Qd):Prop:=s.wf∧Qq s=true
theorem Qh9{a b:Qd}(wa:a.wf)(wb:b.wf):okV (Va a b):=⟨Jw (QJ wa) (QJ wb),XN (QJ wa) (QJ wb) (Q2 a) (Q2 b)⟩
theorem Qcu{a b:Qd}(wa:a.wf)(wb:b.wf):okV (JH a b):=⟨Qan (QJ wa) (QJ wb) (Q2 a) (Q2 b),Vx (QJ wa) (QJ wb) (Q2 a) (Q2 b)⟩
theorem KC(op:Int){a b:Qd}(wa:a.wf)(wb:b.wf):okV (JW op a b):=QnT op (QJ wa) (QJ wb) (Q2 a) (Q2 b)
theorem YI{a b:Qd}(wa:a.wf)(wb:b.wf):okV (WF a b):=Qrt (QJ wa) (QJ wb) (Q2 a) (Q2 b)
theorem Qt8:okV Qy:=⟨Z5,rfl⟩
theorem QnZ:okV Q4:=⟨XW,rfl⟩
theorem ZD{lo hi st:Int}(h1:Q5 lo)(h2:Q5 hi)(h3:Q5 st):(Qs lo hi st).wf:=ZW _ _ _ h1.1 h1.2 h2.1 h2.2 h3.1 h3.2
theorem YU:Q5 1:=⟨by decide,by decide⟩
theorem K9:Q5 0:=⟨by decide,by decide⟩
theorem Qf4:Q5 4294967295:=⟨by decide,by decide⟩
theorem QoF{a:Qd}{n:Int}(ha:a.wf)(hn:Q5 n):(Wn a n).wf:=by
 unfold Wn
 split
 ·exact(KC _ ha (ZR hn)).1
 ·exact(KC _ ha (ZR (QR _))).1
theorem Qi0{s:Qd}{n:Int}(hs:s.wf)(hn:Q5 n):(JR s n).wf:=by
 have hl:Q5 s.lo:=⟨hs.1,hs.2.1⟩
 have hh:Q5 s.hi:=⟨hs.2.2.1,hs.2.2.2.1⟩
 have ht:Q5 s.st:=⟨hs.2.2.2.2.1,hs.2.2.2.2.2⟩
 unfold JR
 (repeat' split)
 ·exact hs
 ·exact XW
 ·exact ZD (QR _) hh ht
 ·exact ZD hl (QR _) ht
theorem K8{s:Nat→Qd}{a:Int}{v:Qd}(hs:∀k,(s k).wf)(hv:v.wf):∀k,(Ks s a v k).wf:=fun k=>by
 unfold Ks
 split
 ·exact hv
 ·exact hs k
theorem Qgc{c:Int}{a:Qd}{n:Int}(ha:a.wf)(hn:Q5 n):(KL c a n).wf:=by
 unfold KL
 split
 ·exact(YI ha (ZR hn)).1
 split
 ·exact Qi0 ha hn
 split
 ·split
  ·exact XW
  ·exact(YI ha (ZD K9 (QR _) YU)).1
 split
 ·exact(YI ha (ZD K9 hn YU)).1
 split
 ·exact(YI ha (ZD hn Qf4 YU)).1
 split
 ·split
  ·exact XW
  ·exact(YI ha (ZD (QR _) Qf4 YU)).1
 ·exact ha
theorem QaJ{cc:Int}{i:Ins}{s:Nat→Qd}{tk:Bool}(hi:i.wf)(hs:∀k,(s k).wf):∀k,(X3 cc i s tk k).wf:=by
 unfold X3
 split
 ·refine K8 hs ?_
  unfold YQ
  (repeat' split) <;> first|exact Qgc (hs _) hi.2.1|exact hs _
 ·exact hs
theorem Vu{i:Ins}{s:Nat→Qd}(hi:i.wf)(hs:∀k,(s k).wf):∀k,(Qw i s k).wf:=by
 have u4:Q5 4:=⟨by decide,by decide⟩
 suffices h:∀P:(Nat→Qd)→Prop,(∀f,(∀k,(f k).wf)→P f)→P (Qw i s)from h (fun f=>∀k,(f k).wf) fun _ h=>h
 intro P hP
 unfold Qw
 split
 ·exact hP _ hs
 split
 ·exact hP _ (K8 hs (QcV hi hs))
 split
 ·exact hP _ (K8 hs (KC _ (hs _) (QcV hi hs)).1)
 split
 ·exact hP _ (K8 hs (ZD K9 (QR _) YU))
 split
 ·exact hP _ (K8 hs Z5)
 split
 ·exact hP _ (K8 hs (QoF (hs _) hi.2.1))
 split
 ·exact hP _ (K8 hs (ZD K9 YU YU))
 split
 ·exact hP _ (K8 hs (KC _ (hs _) (ZR u4)).1)
 split
 ·exact hP _ (K8 (K8 hs (KC _ (hs _) (ZR u4)).1) Z5)
 split
 ·exact hP _ (K8 hs (KC _ (hs _) (ZR u4)).1)
 split
 ·exact hP _ fun _=>Z5
 ·exact hP _ hs
def ZN(s:Nat→Qd):Nat→Qd:=fun r=>if r < 8 then s r else X2 0
def Qv(I:Nat→Ins)(a:Int):Nat→Option Nat
 |0=>none
 |n+1=>match Qv I a n with|some k=>some k|none=>if(I n).addr=a then some n else none
def Vd(I:Nat→Ins)(N:Nat):Nat→List Int→List (Nat×Bool)
 |_,[]=> []
 |n,a :: l=>(match Qv I a N with|some t=> [(t,n==0)]|none=> []) ++ Vd I N (n+1) l
def XH(I:Nat→Ins)(N k:Nat):List (Nat×Bool):=if Qv I (I k).addr N=some k then Vd I N 0 (Q7 (I k))else []
def Qaw(es:List (Nat×Bool))(k j:Nat):List Nat:=es.filterMap fun p=>if p.1=j then some k else none
def Ki(I:Nat→Ins)(N:Nat):Nat→Nat→List Nat
 |0,_=> []
 |k+1,j=>Ki I N k j ++ Qaw (XH I N k) k j
def Xk(I:Nat→Ins)(N f k:Nat):Int:=
 match Ki I N N k with
 | [g]=>if(I k).op=20∧Qj (I k)=true∧(I k).addr≠(I f).addr∧Yt (I g)=true then(g:Int)else -1
 |_=> -1
structure VS where
 b:Nat→Nat→Qd
 v:Nat→Int
 m:Nat→Bool
def Jq{α:Type}(f:Nat→α)(k:Nat)(x:α):Nat→α:=fun j=>if j=k then x else f j
def Qfw(x y:Nat→Qd):Bool:=(List.range 8).all fun r=>(x r).e==(y r).e && (x r).t==(y r).t && (x r).lo==(y r).lo && (x r).hi==(y r).hi && (x r).st==(y r).st
def Xw(I:Nat→Ins)(g:Int)(k:Nat)(s:Nat→Qd)(tk:Bool):Nat→Qd:=
 if(I k).op=23∨(I k).op=24 then fun _=>Qy
 else if(I k).op=20∧0≤g then X3 (I k).cc (I g.toNat) s tk
 else Qw (I k) s
def Jb(I:Nat→Ins)(G:Nat→Int)(k:Nat)(s:VS)(p:Nat×Bool):Nat→Qd:=ZN (Vb (s.b p.1) (Xw I (G k) k (s.b k) p.2))
def KA(s:VS)(t:Nat)(x:Nat→Qd):Nat→Qd:=if 4≤s.v t then ZN (fun r=>JH (s.b t r) (x r))else x
def QdQ(s:VS)(t:Nat)(x:Nat→Qd):VS:=if Qfw x (s.b t)=true then s else⟨Jq s.b t x,s.v,Jq s.m t true⟩
def Vg(I:Nat→Ins)(G:Nat→Int)(k:Nat)(s:VS)(p:Nat×Bool):VS:=QdQ s p.1 (KA s p.1 (Jb I G k s p))
def Qls(s:VS)(k:Nat):VS:=⟨s.b,Jq s.v k (s.v k+1),Jq s.m k false⟩
def Qlt(I:Nat→Ins)(E:Nat→List (Nat×Bool))(G:Nat→Int)(s:VS)(k:Nat):VS:=(E k).foldl (Vg I G k) (Qls s k)
def QaM(I:Nat→Ins)(E:Nat→List (Nat×Bool))(G:Nat→Int)(N:Nat):Nat→VS→Option (Nat→Nat→Qd)
 |0,s=>if JL s.m N true < 0 then some s.b else none
 |f+1,s=>if JL s.m N true < 0 then some s.b else QaM I E G N f (Qlt I E G s (JL s.m N true).toNat)
def Ws(f:Nat):VS:=⟨Jq (fun _=>ZN fun _=>Q4) f (ZN fun _=>Qy),fun _=>0,Jq (fun _=>false) f true⟩
def Xz(I:Nat→Ins)(N:Nat)(entry R:Int):Except Int (Nat→Nat→Qd):=
 if 4096 < N then .error 6 else
 match Qv I entry N with
 |none=> .error 9
 |some f=>match QaM I (XH I N) (Xk I N f) N R.toNat (Ws f)with
  |none=> .error 15
  |some b=> .ok b
def okB(b:Nat→Nat→Qd):Prop:=∀k r,okV (b k r)
theorem Qbn{s:Nat→Qd}(h:∀r,okV (s r)):∀r,okV (ZN s r):=fun r=>by
 unfold ZN
 split
 ·exact h r
 ·exact⟨ZR K9,JZ 0⟩
def Qap(b:Nat→Nat→Qd):Prop:=∀k r,8≤r→b k r=X2 0
theorem Qdo{s:Nat→Qd}{r:Nat}(h:8≤r):ZN s r=X2 0:=by unfold ZN;rw [if_neg (by omega)]
theorem Qda{I:Nat→Ins}{g:Int}{k:Nat}{s:Nat→Qd}{tk:Bool}(hI:∀k,(I k).wf)(hs:∀r,(s r).wf):∀r,(Xw I g k s tk r).wf:=by
 unfold Xw
 (repeat' split)
 ·exact fun _=>Z5
 ·exact QaJ (hI _) hs
 ·exact Vu (hI _) hs
theorem KU{I:Nat→Ins}{G:Nat→Int}{k:Nat}{s:VS}{p:Nat×Bool}(hI:∀k,(I k).wf)(h:okB s.b):∀r,okV (Jb I G k s p r):=
 Qbn fun r=>Qh9 (h _ _).1 (Qda hI (fun r=>(h _ r).1) r)
theorem QtC{s:VS}{t:Nat}{x:Nat→Qd}(h:okB s.b)(hx:∀r,okV (x r)):∀r,okV (KA s t x r):=by
 unfold KA
 split
 ·exact Qbn fun r=>Qcu (h _ _).1 (hx r).1
 ·exact hx
theorem QuL{s:VS}{t:Nat}{x:Nat→Qd}(h:okB s.b)(hx:∀r,okV (x r)):okB (QdQ s t x).b:=by
 unfold QdQ
 split
 ·exact h
 ·intro k r
  show okV ((if k=t then x else s.b k) r)
  split
  ·exact hx r
  ·exact h k r
theorem Qsx{s:VS}{t:Nat}{x:Nat→Qd}(hx:∀r,8≤r→x r=X2 0):∀r,8≤r→KA s t x r=X2 0:=fun r hr=>by
 unfold KA
 split
 ·exact Qdo hr
 ·exact hx r hr
theorem Qt0{s:VS}{t:Nat}{x:Nat→Qd}(h:Qap s.b)(hx:∀r,8≤r→x r=X2 0):Qap (QdQ s t x).b:=by
 unfold QdQ
 split
 ·exact h
 ·intro k r hr
  show(if k=t then x else s.b k) r=_
  split
  ·exact hx r hr
  ·exact h k r hr
theorem Qio{I:Nat→Ins}{G:Nat→Int}{k:Nat}{s:VS}{p:Nat×Bool}(h:Qap s.b):Qap (Vg I G k s p).b:=Qt0 h (Qsx fun r hr=>Qdo hr)
theorem Qf0(f:Nat):Qap (Ws f).b:=fun k r hr=>by
 show(if k=f then(ZN fun _=>Qy)else(ZN fun _=>Q4)) r=_
 split <;> exact Qdo hr
theorem Qiq{I:Nat→Ins}{G:Nat→Int}{k:Nat}{s:VS}{p:Nat×Bool}(hI:∀k,(I k).wf)(h:okB s.b):okB (Vg I G k s p).b:=QuL h (QtC h (KU hI h))
theorem Qil(f:Nat):okB (Ws f).b:=fun k r=>by
 show okV ((if k=f then(ZN fun _=>Qy)else(ZN fun _=>Q4)) r)
 split
 ·exact Qbn (fun _=>Qt8) r
 ·exact Qbn (fun _=>QnZ) r
end Go.Proofs.Yteplnamfpodmlaa.T2
end
section
namespace Go.Proofs.Yteplnamfpodmlaa.T2
theorem Jj{α:Type}(f:Nat→α)(p:Nat)(x:α)(j:Nat):QD f p [x] j=if j=p then x else f j:=by
 by_cases h:j=p
 ·subst h
  rw [if_pos rfl]
  exact JB (j:=0) rfl
 ·rw [if_neg h]
  exact ZL (by show j < p∨p+1≤j;omega)
theorem Quk{α:Type}(f:Nat→α)(p:Nat)(x y:α)(j:Nat):QD f p [x,y] j=if j=p then x else if j=p+1 then y else f j:=by
 by_cases h:j=p
 ·subst h
  rw [if_pos rfl]
  exact JB (j:=0) rfl
 ·rw [if_neg h]
  by_cases h1:j=p+1
  ·subst h1
   rw [if_pos rfl]
   exact JB (j:=1) rfl
  ·rw [if_neg h1]
   exact ZL (by show j < p∨p+2≤j;omega)
theorem Vw{α:Type}(f:Nat→α)(k:Nat)(x:α):Jq f k x k=x:=by simp [Jq]
theorem JV{α:Type}(f:Nat→α){k j:Nat}(x:α)(h:j≠k):Jq f k x j=f j:=by simp [Jq,h]
def Qkb(m:Nm)(I:Nat→Ins)(k:Nat):Prop:=∀a:Nat,m.bool a=(Qv I a k).isSome∧∀t,Qv I a k=some t→m.int a=(t:Int)
def Vo(m:Nm)(N:Nat)(E:Nat→List (Nat×Bool)):Prop:=∀j,j < N→m.int j=((E j).length:Int)∧∀n p,(E j)[n]?=some p→m.i2 j (n * 2)=(p.1:Int)∧m.b2 j (n * 2+1)=p.2
def Yq(m:Nm)(N:Nat)(T:Nat→List Nat):Prop:=∀j,j < N→m.int j=((T j).length:Int)∧∀(n x:Nat),(T j)[n]?=some x→m.i2 j n=(x:Int)
def BIs(m:Nm)(N:Nat)(b:Nat→Nat→Qd):Prop:=∀k,k < N→∀r,r < 8→Jr m.int m.bool k r=b k r
def VIs(m:Nm)(N:Nat)(v:Nat→Int):Prop:=∀k,k < N→m.int k=v k
def MIs(m:Nm)(N:Nat)(f:Nat→Bool):Prop:=∀k,k < N→m.bool k=f k
theorem Vo.congr{m:Nm}{N:Nat}{E E':Nat→List (Nat×Bool)}(H:Vo m N E)(h:∀j,j < N→E j=E' j):Vo m N E':=fun j hj=>h j hj ▸ H j hj
theorem Yq.congr{m:Nm}{N:Nat}{T T':Nat→List Nat}(H:Yq m N T)(h:∀j,j < N→T j=T' j):Yq m N T':=fun j hj=>h j hj ▸ H j hj
theorem Qkp{m m' r:Nm}{N:Nat}{E:Nat→List (Nat×Bool)}{k:Nat}{p:Nat×Bool}{L x y:Int}{z u:Bool}(H:Vo m N E)(hk:k < N)(h1:m'.int=QD m.int k [L])(hL:L=((E k).length:Int)+1)
 (h2:m'.i2=QD m.i2 k [r.int]) (h3:m'.b2=QD m.b2 k [r.bool]) (h4:r.int=QD (m.i2 k) ((m.int k).toNat * 2) [x,y]) (h5:r.bool=QD (m.b2 k) ((m.int k).toNat * 2) [z,u]) (hx:x=(p.1:Int)) (hu:u=p.2) :
 Vo m' N (Jq E k (E k ++ [p])):=by
 intro j hj
 rw [h1,h2,h3]
 by_cases h:j=k
 ·subst h
  rw [Vw,Jj,Jj,Jj,if_pos rfl,if_pos rfl,if_pos rfl]
  refine⟨by rw [hL,List.length_append];simp,fun n q hq=>?_⟩
  have hl:(m.int j).toNat=(E j).length:=by rw [(H j hj).1];rfl
  rw [h4,h5,hl,Quk,Quk]
  rw [List.getElem?_append]at hq
  split at hq
  ·rename_i hn
   rw [if_neg (by omega),if_neg (by omega),if_neg (by omega),if_neg (by omega)]
   exact(H j hj).2 n q hq
  ·rename_i hn
   have:n - (E j).length=0:=by
    by_cases h0:n - (E j).length=0
    ·exact h0
    ·rw [List.getElem?_eq_none (by simp;omega)]at hq;cases hq
   rw [this]at hq
   cases hq
   have hn:n=(E j).length:=by omega
   subst hn
   rw [if_pos rfl,if_neg (by omega),if_pos rfl]
   exact⟨hx,hu⟩
 ·rw [JV _ _ h,Jj,Jj,Jj,if_neg h,if_neg h,if_neg h]
  exact H j hj
theorem Qor{m m' r:Nm}{N:Nat}{T:Nat→List Nat}{k:Nat}{p:Nat}{L x:Int}(H:Yq m N T)(hk:k < N)(h1:m'.int=QD m.int k [L])(hL:L=((T k).length:Int)+1)
 (h2:m'.i2=QD m.i2 k [r.int]) (h4:r.int=QD (m.i2 k) ((m.int k).toNat * 1) [x]) (hx:x=(p:Int)) :
 Yq m' N (Jq T k (T k ++ [p])):=by
 intro j hj
 rw [h1,h2]
 by_cases h:j=k
 ·subst h
  rw [Vw,Jj,Jj,if_pos rfl,if_pos rfl]
  refine⟨by rw [hL,List.length_append];simp,fun n q hq=>?_⟩
  have hl:(m.int j).toNat=(T j).length:=by rw [(H j hj).1];rfl
  rw [h4,hl,Jj,Nat.mul_one]
  rw [List.getElem?_append]at hq
  split at hq
  ·rename_i hn
   rw [if_neg (by omega)]
   exact(H j hj).2 n q hq
  ·rename_i hn
   have:n - (T j).length=0:=by
    by_cases h0:n - (T j).length=0
    ·exact h0
    ·rw [List.getElem?_eq_none (by simp;omega)]at hq;cases hq
   rw [this]at hq
   cases hq
   rw [if_pos (by omega)]
   exact hx
 ·rw [JV _ _ h,Jj,Jj,if_neg h,if_neg h]
  exact H j hj
theorem QtB{m m':Nm}{N:Nat}{v:Nat→Int}{k:Nat}{x:Int}(H:VIs m N v)(h:m'.int=QD m.int k [x]):VIs m' N (Jq v k x):=fun j hj=>by
 rw [h,Jj]
 unfold Jq
 split
 ·rfl
 ·exact H j hj
theorem QfU{m m':Nm}{N:Nat}{v:Nat→Bool}{k:Nat}{x:Bool}(H:MIs m N v)(h:m'.bool=QD m.bool k [x]):MIs m' N (Jq v k x):=fun j hj=>by
 rw [h,Jj]
 unfold Jq
 split
 ·rfl
 ·exact H j hj
theorem Quj(e:Env)(d:Nat)(f:Nat→Int)(g:Nat→Bool)(t:Nat):∀r,r < 8→Jr (QD f (t * 40+0) ((Qa d 0 stK).map (QW e))) (QD g (t * 40+0) ((Qa d 0 stK).map (Xe e))) t r=Zg e d (5 * r)
 |0,_|1,_|2,_|3,_|4,_|5,_|6,_|7,_=>by
  unfold Jr Zg
  simp only [Nat.add_zero]
  congr 1 <;> exact JB rfl
theorem Qsl(e:Env)(d:Nat)(f:Nat→Int)(g:Nat→Bool)(t k:Nat)(h:k≠t)(r:Nat)(hr:r < 8):Jr (QD f (t * 40+0) ((Qa d 0 stK).map (QW e))) (QD g (t * 40+0) ((Qa d 0 stK).map (Xe e))) k r=Jr f g k r:=by
 have hl:((Qa d 0 stK).map (QW e)).length=40:=rfl
 have hl':((Qa d 0 stK).map (Xe e)).length=40:=rfl
 unfold Jr
 have o:∀c,c < 5→k * 40+(5 * r+c) < t * 40+0∨t * 40+0+40≤k * 40+(5 * r+c):=fun c hc=>by omega
 congr 1
 ·exact ZL (by rw [hl'];exact o 0 (by omega))
 ·exact ZL (by rw [hl'];exact o 1 (by omega))
 ·exact ZL (by rw [hl];exact o 2 (by omega))
 ·exact ZL (by rw [hl];exact o 3 (by omega))
 ·exact ZL (by rw [hl];exact o 4 (by omega))
theorem Qnr{e:Env}{m m':Nm}{N d:Nat}{b:Nat→Nat→Qd}{t:Nat}{x:Nat→Qd}(H:BIs m N b)(h1:m'.int=QD m.int (t * 40+0) ((Qa d 0 stK).map (QW e)))(h2:m'.bool=QD m.bool (t * 40+0) ((Qa d 0 stK).map (Xe e)))
 (hx:∀r,r < 8→Zg e d (5 * r)=x r):BIs m' N (Jq b t x):=fun k hk r hr=>by
 rw [h1,h2]
 by_cases h:k=t
 ·subst h
  rw [Vw,Quj e d _ _ _ r hr]
  exact hx r hr
 ·rw [JV _ _ h,Qsl e d _ _ _ _ h r hr]
  exact H k hk r hr
theorem XL{I:Nat→Ins}{a:Int}:∀{n k:Nat},Qv I a n=some k→k < n∧(I k).addr=a
 |n+1,k,h=>by
  unfold Qv at h
  split at h
  ·rename_i t ht
   cases h
   have:=XL ht
   exact⟨by omega,this.2⟩
  ·split at h
   ·cases h;exact⟨by omega,by assumption⟩
   ·cases h
theorem QaC{I:Nat→Ins}{a:Int}{n:Nat}{k:Nat}(h:Qv I a n=some k):∀{m:Nat},n≤m→Qv I a m=some k
 |0,hm=>by rw [show n=0 by omega]at h;exact h
 |m+1,hm=>by
  by_cases e:n=m+1
  ·rw [←e];exact h
  ·unfold Qv
   rw [QaC h (show n≤m by omega)]
theorem Qob{I:Nat→Ins}{k n:Nat}(h:k < n):∃t,Qv I (I k).addr n=some t:=by
 have:∃t,Qv I (I k).addr (k+1)=some t:=by
  unfold Qv
  split
  ·exact⟨_,rfl⟩
  ·rw [if_pos rfl];exact⟨_,rfl⟩
 obtain⟨t,ht⟩:=this
 exact⟨t,QaC ht (by omega)⟩
end Go.Proofs.Yteplnamfpodmlaa.T2
end
section
namespace Go.Proofs.Yteplnamfpodmlaa.T2
structure Cx where
 I:Nat→Ins
 N:Nat
 en:Int
 R:Int
def Cx.f(c:Cx):Nat:=(Qv c.I c.en c.N).getD 0
def Cx.E(c:Cx):Nat→List (Nat×Bool):=XH c.I c.N
def Cx.G(c:Cx):Nat→Int:=Xk c.I c.N c.f
structure Cx.ok(c:Cx):Prop where
 wf:∀k,(c.I k).wf
 R1:c.R≤9223372036854775807
 en0:0≤c.en
structure Qun(c:Cx)(n42 n54:Nm):Prop where
 N:c.N≤4096
 z42:n42.int=fun _=>0
 z54:n54.bool=fun _=>false
structure QnR(c:Cx)(n42 n54 h ct bf:Nm):Prop where
 p:Qun c n42 n54
 k0:0≤h.int 0
 kN:h.int 0≤c.N
 k1:h.int 1=h.int 0
 at':Qkb ct c.I (h.int 0).toNat
 bf:BIs bf (h.int 0).toNat fun _ _=>Q4
structure QcW(c:Cx)(n42 n54 n82 n83 n84:Nm):Prop where
 p:Qun c n42 n54
 len:n82.int 1=c.N
 at':Qkb n83 c.I c.N
 bf:BIs n84 c.N fun _ _=>Q4
 fst:Qv c.I c.en c.N=some c.f
theorem Qk1{c:Cx}{n42 n54 h ct bf:Nm}(p:Qun c n42 n54)(h0:h.int 0=0)(h1:h.int 1=0)(hc:ct.bool=fun _=>false):QnR c n42 n54 h ct bf where
 p:=p
 k0:=by omega
 kN:=by omega
 k1:=by omega
 at':=fun a=>by
  rw [h0,hc]
  exact⟨rfl,fun t ht=>by cases ht⟩
 bf:=fun k hk=>by rw [h0]at hk;omega
theorem Qth{m m':Nm}{I:Nat→Ins}{k:Nat}(H:Qkb m I k)(ha:0≤(I k).addr)(hn:m.bool (I k).addr.toNat=false)(h1:m'.int=QD m.int (I k).addr.toNat [(k:Int)])(h2:m'.bool=QD m.bool (I k).addr.toNat [true]):Qkb m' I (k+1):=by
 intro a
 rw [h1,h2,Jj,Jj]
 have hnone:Qv I (I k).addr k=none:=by
  have:=(H (I k).addr.toNat).1
  rw [hn,Int.toNat_of_nonneg ha]at this
  cases hf:Qv I (I k).addr k with
  |none=>rfl
  |some t=>rw [hf]at this;cases this
 by_cases h:a=(I k).addr.toNat
 ·rw [if_pos h,if_pos h]
  have e:((a:Nat):Int)=(I k).addr:=by omega
  have:Qv I (a:Int) (k+1)=some k:=by
   unfold Qv
   rw [e,hnone]
   simp
  rw [this]
  exact⟨rfl,fun t ht=>by cases ht;rfl⟩
 ·rw [if_neg h,if_neg h]
  have:Qv I (a:Int) (k+1)=Qv I a k:=by
   conv=>lhs;unfold Qv
   split
   ·rename_i t ht;rw [ht]
   ·rename_i ht;rw [ht,if_neg (by omega)]
  rw [this]
  exact H a
theorem Qtg{m:Nm}{I:Nat→Ins}{k:Nat}(H:Qkb m I k)(ha:0≤(I k).addr)(hn:m.bool (I k).addr.toNat=true):Qkb m I (k+1):=by
 intro a
 have:Qv I (a:Int) (k+1)=Qv I a k:=by
  conv=>lhs;unfold Qv
  split
  ·rename_i t ht;rw [ht]
  ·rename_i ht
   rw [ht]
   split
   ·rename_i h
    have e:a=(I k).addr.toNat:=by omega
    have:=(H a).1
    rw [e,hn,←e,ht]at this
    cases this
   ·rfl
 rw [this]
 exact H a
theorem Qnq{e:Env}{m m':Nm}{d k:Nat}(H:BIs m k fun _ _=>Q4)(h1:m'.int=QD m.int (k * 40+0) ((Qa d 0 stK).map (QW e)))(h2:m'.bool=QD m.bool (k * 40+0) ((Qa d 0 stK).map (Xe e)))
 (hx:∀r,r < 8→Zg e d (5 * r)=Q4):BIs m' (k+1) fun _ _=>Q4:=fun j hj r hr=>by
 rw [h1,h2]
 by_cases h:j=k
 ·subst h
  rw [Quj e d _ _ _ r hr]
  exact hx r hr
 ·rw [Qsl e d _ _ _ _ h r hr]
  exact H j (by omega) r hr
theorem Qfi{c:Cx}{n42 n54 h ct bf h' ct' bf':Nm}(H:QnR c n42 n54 h ct bf)(hk:h.int 0 < c.N)(h0:h'.int 0=h.int 0+1)(h1:h'.int 1=h.int 1+1)(ha:Qkb ct' c.I ((h.int 0).toNat+1))(hb:BIs bf' ((h.int 0).toNat+1) fun _ _=>Q4) :
 QnR c n42 n54 h' ct' bf':=by
 have e:(h'.int 0).toNat=(h.int 0).toNat+1:=by have:=H.k0;omega
 exact⟨H.p,by have:=H.k0;omega,by omega,by rw [h1,H.k1,h0],by rw [e];exact ha,by rw [e];exact hb⟩
theorem Qti{c:Cx}{n42 n54 h ct bf:Nm}(hc:c.ok)(H:QnR c n42 n54 h ct bf)(hk:¬h.int 0 < c.N)(hb:ct.bool c.en.toNat=true):QcW c n42 n54 h ct bf:=by
 have e:h.int 0=c.N:=by have:=H.kN;omega
 have et:(h.int 0).toNat=c.N:=by omega
 have ha:=H.at'
 rw [et]at ha
 refine⟨H.p,by rw [H.k1,e],ha,by have:=H.bf;rw [et]at this;exact this,?_⟩
 have:=(ha c.en.toNat).1
 rw [hb,Int.toNat_of_nonneg hc.en0]at this
 unfold Cx.f
 cases hf:Qv c.I c.en c.N with
 |none=>rw [hf]at this;cases this
 |some t=>rfl
theorem QcW.first{c:Cx}{n42 n54 n82 n83 n84:Nm}(hc:c.ok)(H:QcW c n42 n54 n82 n83 n84):n83.int c.en.toNat=(c.f:Int)∧c.f < c.N:=by
 have:=(H.at' c.en.toNat).2
 rw [Int.toNat_of_nonneg hc.en0]at this
 exact⟨this _ H.fst,(XL H.fst).1⟩
theorem QcW.look{c:Cx}{n42 n54 n82 n83 n84:Nm}(H:QcW c n42 n54 n82 n83 n84){a:Int}(ha:0≤a):n83.bool a.toNat=(Qv c.I a c.N).isSome∧∀t,Qv c.I a c.N=some t→n83.int a.toNat=(t:Int):=by
 have:=H.at' a.toNat
 rw [Int.toNat_of_nonneg ha]at this
 exact this
theorem QoW{i:Ins}(hi:i.wf){x:Int}(h:x∈Q7 i):0≤x:=by
 unfold Q7 at h
 split at h
 ·rcases List.mem_append.1 h with h|h
  ·split at h
   ·rw [List.mem_singleton.1 h];exact hi.2.1.1
   ·cases h
  ·split at h
   ·cases h
   ·rw [List.mem_singleton.1 h];exact(QR _).1
 ·cases h
theorem Vi(i:Ins):(Q7 i).length≤2:=by
 unfold Q7
 (repeat' split) <;> simp
theorem Qcg{I:Nat→Ins}{N:Nat}:∀(l:List Int) (n:Nat),(Vd I N n l).length≤l.length
 | [],_=>Nat.le_refl _
 |a :: l,n=>by
  have:=Qcg (I:=I) (N:=N) l (n+1)
  unfold Vd
  split <;> simp <;> omega
theorem QhY{I:Nat→Ins}{N:Nat}:∀(l:List Int) (n:Nat) (p:Nat×Bool),p∈Vd I N n l→p.1 < N
 | [],_,p,h=>by cases h
 |a :: l,n,p,h=>by
  unfold Vd at h
  rcases List.mem_append.1 h with h|h
  ·split at h
   ·rename_i t ht
    rw [List.mem_singleton.1 h]
    exact(XL ht).1
   ·cases h
  ·exact QhY l (n+1) p h
theorem QdP{I:Nat→Ins}{N:Nat}(a:Int):∀(l:List Int) (n:Nat),Vd I N n (l ++ [a])=Vd I N n l ++ (match Qv I a N with|some t=> [(t,n+l.length==0)]|none=> [])
 | [],n=>by cases h:Qv I a N <;> simp [Vd,h]
 |b :: l,n=>by
  simp only [List.cons_append,Vd,QdP a l (n+1),List.append_assoc,List.length_cons]
  congr 2
  rw [show n+1+l.length=n+(l.length+1)by omega]
theorem Qbq{I:Nat→Ins}{N k:Nat}:(XH I N k).length≤2:=by
 unfold XH
 split
 ·exact Nat.le_trans (Qcg _ _) (Vi _)
 ·simp
theorem Qnt{I:Nat→Ins}{N k:Nat}{p:Nat×Bool}(h:p∈XH I N k):p.1 < N:=by
 unfold XH at h
 split at h
 ·exact QhY _ _ _ h
 ·cases h
theorem Qfh(es:List (Nat×Bool))(k j:Nat):(Qaw es k j).length≤es.length:=List.length_filterMap_le _ _
theorem Qh6{I:Nat→Ins}{N:Nat}(j:Nat):∀k,(Ki I N k j).length≤2 * k
 |0=>Nat.le_refl _
 |k+1=>by
  have h1:=Qh6 (I:=I) (N:=N) j k
  have h2:=Qfh (XH I N k) k j
  have h3:=Qbq (I:=I) (N:=N) (k:=k)
  unfold Ki
  rw [List.length_append]
  omega
theorem Qoq{es:List (Nat×Bool)}{k j x:Nat}(h:x∈Qaw es k j):x=k:=by
 obtain⟨p,hp,hx⟩:=List.mem_filterMap.1 h
 split at hx
 ·cases hx;rfl
 ·cases hx
theorem QfI{I:Nat→Ins}{N:Nat}{j x:Nat}:∀{k:Nat},x∈Ki I N k j→x < k
 |k+1,h=>by
  unfold Ki at h
  rcases List.mem_append.1 h with h|h
  ·have:=QfI h;omega
  ·rw [Qoq h];omega
theorem Qk0(es:List (Nat×Bool))(p:Nat×Bool)(k j:Nat):Qaw (es ++ [p]) k j=Qaw es k j ++ (if p.1=j then [k]else []):=by
 unfold Qaw
 rw [List.filterMap_append]
 congr 1
 by_cases h:p.1=j <;> simp [h]
end Go.Proofs.Yteplnamfpodmlaa.T2
end
section
namespace Go.Proofs.Yteplnamfpodmlaa.T2
structure Qhc(c:Cx)(h ed gd it:Nm):Prop where
 k0:0≤h.int 0
 kN:h.int 0≤c.N
 ed:Vo ed c.N fun j=>if j < (h.int 0).toNat then c.E j else []
 gd:∀j,j < (h.int 0).toNat→gd.int j= -1
 it:Yq it c.N (Ki c.I c.N (h.int 0).toNat)
def Cx.part(c:Cx)(k m:Nat):List (Nat×Bool):=Vd c.I c.N 0 ((Q7 (c.I k)).take m)
structure Qao(c:Cx)(n285 n341 n385 n386 h ed it:Nm):Prop where
 k0:0≤n285.int 0
 kN:n285.int 0 < c.N
 self:Qv c.I (c.I (n285.int 0).toNat).addr c.N=some (n285.int 0).toNat
 gd:∀j,j < (n285.int 0).toNat+1→n341.int j= -1
 len:n385.int 0=((Q7 (c.I (n285.int 0).toNat)).length:Int)
 row:∀m x,(Q7 (c.I (n285.int 0).toNat))[m]?=some x→n386.int m=x
 m0:0≤h.int 0
 mL:h.int 0≤n385.int 0
 ed:Vo ed c.N fun j=>if j < (n285.int 0).toNat then c.E j else if j=(n285.int 0).toNat then c.part (n285.int 0).toNat (h.int 0).toNat else []
 it:Yq it c.N fun j=>Ki c.I c.N (n285.int 0).toNat j ++ Qaw (c.part (n285.int 0).toNat (h.int 0).toNat) (n285.int 0).toNat j
theorem Qk2{c:Cx}{h ed gd it:Nm}(h0:h.int 0=0)(he:ed.int=fun _=>0)(hi:it.int=fun _=>0):Qhc c h ed gd it where
 k0:=by omega
 kN:=by omega
 ed:=fun j hj=>by
  rw [h0,he]
  exact⟨rfl,fun n p hp=>by simp at hp⟩
 gd:=fun j hj=>by rw [h0]at hj;simp at hj
 it:=fun j hj=>by
  rw [h0,hi]
  exact⟨rfl,fun n p hp=>by simp [Ki]at hp⟩
theorem Qnz{m m':Nm}{k:Nat}(H:∀j,j < k→m.int j= -1)(h:m'.int=QD m.int k [-1]):∀j,j < k+1→m'.int j= -1:=fun j hj=>by
 rw [h,Jj]
 split
 ·rfl
 ·exact H j (by omega)
theorem Qk3{c:Cx}{h ed gd it n341 n385 n386 h':Nm}(H:Qhc c h ed gd it)(hk:h.int 0 < c.N)(self:Qv c.I (c.I (h.int 0).toNat).addr c.N=some (h.int 0).toNat)(hg:n341.int=QD gd.int (h.int 0).toNat [-1])
 (hl:JE (Q7 (c.I (h.int 0).toNat)) n385 n386) (h0:h'.int 0=0):Qao c h n341 n385 n386 h' ed it where
 k0:=H.k0
 kN:=hk
 self:=self
 gd:=Qnz H.gd hg
 len:=hl.1
 row:=hl.2
 m0:=by omega
 mL:=by rw [hl.1];omega
 ed:=H.ed.congr fun j hj=>by
  rw [h0]
  split
  ·rfl
  ·split <;> rfl
 it:=H.it.congr fun j hj=>by
  rw [h0]
  show _=_ ++ []
  rw [List.append_nil]
theorem Qao.tgt{c:Cx}{n285 n341 n385 n386 h ed it:Nm}(H:Qao c n285 n341 n385 n386 h ed it)(hm:h.int 0 < n385.int 0) :
 (Q7 (c.I (n285.int 0).toNat))[(h.int 0).toNat]?=some (n386.int (h.int 0).toNat):=by
 have h1:=H.m0
 have h2:=H.len
 have hlt:(h.int 0).toNat < (Q7 (c.I (n285.int 0).toNat)).length:=by omega
 rw [List.getElem?_eq_getElem hlt,H.row _ _ (List.getElem?_eq_getElem hlt)]
theorem Qao.tgt0{c:Cx}{n285 n341 n385 n386 h ed it:Nm}(hc:c.ok)(H:Qao c n285 n341 n385 n386 h ed it)(hm:h.int 0 < n385.int 0):0≤n386.int (h.int 0).toNat:=
 QoW (hc.wf _) (List.mem_of_getElem? (H.tgt hm))
theorem QhZ{c:Cx}{k m:Nat}:(c.part k m).length≤2:=Nat.le_trans (Qcg _ _) (by have:=Vi (c.I k);rw [List.length_take];omega)
theorem Qao.elen{c:Cx}{n285 n341 n385 n386 h ed it:Nm}(H:Qao c n285 n341 n385 n386 h ed it):0≤ed.int (n285.int 0).toNat∧ed.int (n285.int 0).toNat≤2:=by
 have h1:=(H.ed (n285.int 0).toNat (by have:=H.k0;have:=H.kN;omega)).1
 have h2:=QhZ (c:=c) (k:=(n285.int 0).toNat) (m:=(h.int 0).toNat)
 simp only [Nat.lt_irrefl,if_false,if_true]at h1
 omega
theorem Qao.ilen{c:Cx}{n285 n341 n385 n386 h ed it:Nm}(H:Qao c n285 n341 n385 n386 h ed it){t:Nat}(ht:t < c.N):0≤it.int t∧it.int t≤2 * c.N+2:=by
 have h1:=(H.it t ht).1
 rw [List.length_append]at h1
 have h2:=QhZ (c:=c) (k:=(n285.int 0).toNat) (m:=(h.int 0).toNat)
 have h3:=Qh6 (I:=c.I) (N:=c.N) t (n285.int 0).toNat
 have h4:=Qfh (c.part (n285.int 0).toNat (h.int 0).toNat) (n285.int 0).toNat t
 have:=H.kN
 have:=H.k0
 omega
theorem Qft{c:Cx}{k m:Nat}{x:Int}(h:(Q7 (c.I k))[m]?=some x):c.part k (m+1)=c.part k m ++ (match Qv c.I x c.N with|some t=> [(t,m==0)]|none=> []):=by
 have hlt:m < (Q7 (c.I k)).length:=by
  rcases Nat.lt_or_ge m (Q7 (c.I k)).length with h1|h1
  ·exact h1
  ·rw [List.getElem?_eq_none h1]at h;cases h
 unfold Cx.part
 rw [List.take_add_one,h]
 show Vd c.I c.N 0 (_ ++ [x])=_
 rw [QdP,List.length_take,Nat.zero_add,Nat.min_eq_left (by omega)]
 try (cases Qv c.I x c.N <;> rfl)
theorem Qow{c:Cx}{n285 n341 n385 n386 h ed it h':Nm}(H:Qao c n285 n341 n385 n386 h ed it)(hm:h.int 0 < n385.int 0)(hf:Qv c.I (n386.int (h.int 0).toNat) c.N=none)(h0:h'.int 0=h.int 0+1) :
 Qao c n285 n341 n385 n386 h' ed it:=by
 have e:(h'.int 0).toNat=(h.int 0).toNat+1:=by have:=H.m0;omega
 have ep:c.part (n285.int 0).toNat (h'.int 0).toNat=c.part (n285.int 0).toNat (h.int 0).toNat:=by
  rw [e,Qft (H.tgt hm),hf]
  exact List.append_nil _
 refine {H with m0:=by have:=H.m0;omega,mL:=by omega,ed:=?_,it:=?_}
 ·rw [ep];exact H.ed
 ·rw [ep];exact H.it
theorem Qov{c:Cx}{n285 n341 n385 n386 h ed it h' ed' re it' ri:Nm}{t:Nat}{L L' z x y:Int}{b:Bool}{u:Bool}(H:Qao c n285 n341 n385 n386 h ed it)(hm:h.int 0 < n385.int 0)(hf:Qv c.I (n386.int (h.int 0).toNat) c.N=some t)(h0:h'.int 0=h.int 0+1)
 (e1:ed'.int=QD ed.int (n285.int 0).toNat [L]) (hL:L=ed.int (n285.int 0).toNat+1) (e2:ed'.i2=QD ed.i2 (n285.int 0).toNat [re.int]) (e3:ed'.b2=QD ed.b2 (n285.int 0).toNat [re.bool])
 (e4:re.int=QD (ed.i2 (n285.int 0).toNat) ((ed.int (n285.int 0).toNat).toNat * 2) [x,y]) (e5:re.bool=QD (ed.b2 (n285.int 0).toNat) ((ed.int (n285.int 0).toNat).toNat * 2) [b,u]) (hx:x=(t:Int)) (hu:u=((h.int 0).toNat==0))
 (i1:it'.int=QD it.int t [L']) (hL':L'=it.int t+1) (i2:it'.i2=QD it.i2 t [ri.int]) (i4:ri.int=QD (it.i2 t) ((it.int t).toNat * 1) [z]) (hz:z=n285.int 0) :
 Qao c n285 n341 n385 n386 h' ed' it':=by
 have e:(h'.int 0).toNat=(h.int 0).toNat+1:=by have:=H.m0;omega
 have ht:t < c.N:=(XL hf).1
 have hkN:(n285.int 0).toNat < c.N:=by have:=H.k0;have:=H.kN;omega
 have ep:c.part (n285.int 0).toNat (h'.int 0).toNat=c.part (n285.int 0).toNat (h.int 0).toNat ++ [(t,(h.int 0).toNat==0)]:=by
  rw [e,Qft (H.tgt hm),hf]
 have hk:=(H.ed _ hkN).1
 have hi:=(H.it _ ht).1
 refine {H with m0:=by have:=H.m0;omega,mL:=by omega,ed:=?_,it:=?_}
 ·refine(Qkp (p:=(t,(h.int 0).toNat==0)) H.ed hkN e1 (by rw [hL,hk]) e2 e3 e4 e5 hx hu).congr fun j hj=>?_
  unfold Jq
  by_cases hj:j=(n285.int 0).toNat
  ·subst hj
   simp only [if_true,Nat.lt_irrefl,if_false,ep]
  ·simp only [hj,if_false]
 ·refine(Qor (p:=(n285.int 0).toNat) H.it ht i1 (by rw [hL',hi]) i2 i4 (by rw [hz];have:=H.k0;omega)).congr fun j hj=>?_
  unfold Jq
  rw [ep,Qk0]
  by_cases hj:j=t
  ·subst hj
   simp only [if_true,List.append_assoc]
  ·rw [if_neg hj,if_neg (by simpa using fun h=>hj h.symm),List.append_nil]
theorem Qot{c:Cx}{n285 n341 n385 n386 h ed it h':Nm}(H:Qao c n285 n341 n385 n386 h ed it)(hm:¬h.int 0 < n385.int 0)(h0:h'.int 0=n285.int 0+1):Qhc c h' ed n341 it:=by
 have e:(h'.int 0).toNat=(n285.int 0).toNat+1:=by have:=H.k0;omega
 have em:(h.int 0).toNat=(Q7 (c.I (n285.int 0).toNat)).length:=by have:=H.len;have:=H.mL;omega
 have eE:c.part (n285.int 0).toNat (h.int 0).toNat=c.E (n285.int 0).toNat:=by
  unfold Cx.part Cx.E XH
  rw [if_pos H.self,em,List.take_length]
 have hed:=H.ed
 have hit:=H.it
 rw [eE]at hed hit
 refine⟨by have:=H.k0;omega,by have:=H.kN;omega,?_,by rw [e];exact H.gd,?_⟩
 ·refine hed.congr fun j hj=>?_
  rw [e]
  by_cases h1:j < (n285.int 0).toNat
  ·rw [if_pos h1,if_pos (by omega)]
  ·rw [if_neg h1]
   by_cases h2:j=(n285.int 0).toNat
   ·rw [if_pos h2,if_pos (by omega),h2]
   ·rw [if_neg h2,if_neg (by omega)]
 ·refine hit.congr fun j hj=>?_
  rw [e]
  rfl
theorem Qou{c:Cx}{h ed gd it n341 h':Nm}(H:Qhc c h ed gd it)(hk:h.int 0 < c.N)(self:Qv c.I (c.I (h.int 0).toNat).addr c.N≠some (h.int 0).toNat)(hg:n341.int=QD gd.int (h.int 0).toNat [-1])(h0:h'.int 0=h.int 0+1) :
 Qhc c h' ed n341 it:=by
 have e:(h'.int 0).toNat=(h.int 0).toNat+1:=by have:=H.k0;omega
 have eE:c.E (h.int 0).toNat= []:=by unfold Cx.E XH;rw [if_neg self]
 refine⟨by have:=H.k0;omega,by omega,?_,by rw [e];exact Qnz H.gd hg,?_⟩
 ·refine H.ed.congr fun j hj=>?_
  rw [e]
  by_cases h1:j < (h.int 0).toNat
  ·rw [if_pos h1,if_pos (by omega)]
  ·rw [if_neg h1]
   by_cases h2:j=(h.int 0).toNat
   ·rw [if_pos (by omega),h2,eE]
   ·rw [if_neg (by omega)]
 ·refine H.it.congr fun j hj=>?_
  rw [e]
  show _=Ki c.I c.N _ j ++ Qaw (c.E _) _ j
  rw [eE]
  exact(List.append_nil _).symm
structure Qhd(c:Cx)(n286 n288 h gd:Nm):Prop where
 ed:Vo n286 c.N c.E
 it:Yq n288 c.N (Ki c.I c.N c.N)
 k0:0≤h.int 0
 kN:h.int 0≤c.N
 gd:∀j,j < c.N→gd.int j=if j < (h.int 0).toNat then c.G j else -1
theorem Qk4{c:Cx}{h ed gd it h':Nm}(H:Qhc c h ed gd it)(hk:¬h.int 0 < c.N)(h0:h'.int 0=0):Qhd c ed it h' gd:=by
 have e:(h.int 0).toNat=c.N:=by have:=H.kN;omega
 have h1:=H.ed
 have h2:=H.it
 have h3:=H.gd
 rw [e]at h1 h2 h3
 refine⟨h1.congr fun j hj=>by rw [if_pos hj],h2,by omega,by omega,fun j hj=>?_⟩
 rw [h0,h3 j hj]
 rfl
theorem Qre{c:Cx}{n286 n288 h gd h' gd':Nm}{x:Int}(H:Qhd c n286 n288 h gd)(hk:h.int 0 < c.N)(h0:h'.int 0=h.int 0+1)(hg:gd'.int=QD gd.int (h.int 0).toNat [x])(hx:x=c.G (h.int 0).toNat):Qhd c n286 n288 h' gd':=by
 have e:(h'.int 0).toNat=(h.int 0).toNat+1:=by have:=H.k0;omega
 refine {H with k0:=by have:=H.k0;omega,kN:=by omega,gd:=fun j hj=>?_}
 rw [hg,Jj,e]
 by_cases h1:j=(h.int 0).toNat
 ·rw [if_pos h1,if_pos (by omega),hx,h1]
 ·rw [if_neg h1,H.gd j hj]
  by_cases h2:j < (h.int 0).toNat
  ·rw [if_pos h2,if_pos (by omega)]
  ·rw [if_neg h2,if_neg (by omega)]
theorem Qox{c:Cx}{n286 n288 h gd h':Nm}(H:Qhd c n286 n288 h gd)(hk:h.int 0 < c.N)(h0:h'.int 0=h.int 0+1)(hx:c.G (h.int 0).toNat= -1):Qhd c n286 n288 h' gd:=by
 have e:(h'.int 0).toNat=(h.int 0).toNat+1:=by have:=H.k0;omega
 refine {H with k0:=by have:=H.k0;omega,kN:=by omega,gd:=fun j hj=>?_}
 rw [H.gd j hj,e]
 by_cases h1:j=(h.int 0).toNat
 ·rw [if_neg (by omega),if_pos (by omega),h1,hx]
 ·by_cases h2:j < (h.int 0).toNat
  ·rw [if_pos h2,if_pos (by omega)]
  ·rw [if_neg h2,if_neg (by omega)]
theorem Qd4{c:Cx}{n288:Nm}(H:Yq n288 c.N (Ki c.I c.N c.N)){k:Nat}(hk:k < c.N)(h:n288.int k=1):∃g,Ki c.I c.N c.N k= [g]∧g < c.N∧n288.i2 k 0=(g:Int):=by
 obtain⟨h1,h2⟩:=H k hk
 have hl:(Ki c.I c.N c.N k).length=1:=by omega
 obtain⟨g,hg⟩:=List.length_eq_one_iff.1 hl
 refine⟨g,hg,QfI (by rw [hg];exact List.mem_singleton.2 rfl),h2 0 g (by rw [hg];rfl)⟩
theorem QtM{c:Cx}{k g:Nat}(h:Ki c.I c.N c.N k= [g]):c.G k=if(c.I k).op=20∧Qj (c.I k)=true∧(c.I k).addr≠(c.I c.f).addr∧Yt (c.I g)=true then(g:Int)else -1:=by
 unfold Cx.G Xk
 rw [h]
theorem QuX{c:Cx}{n288:Nm}(H:Yq n288 c.N (Ki c.I c.N c.N)){k:Nat}(hk:k < c.N)(h:n288.int k≠1):c.G k= -1:=by
 have hl:(Ki c.I c.N c.N k).length≠1:=by have:=(H k hk).1;omega
 unfold Cx.G Xk
 split
 ·rename_i g hg;rw [hg]at hl;exact absurd rfl hl
 ·rfl
theorem Qvr{c:Cx}{k:Nat}:c.G k < c.N∧(c.G k= -1∨0≤c.G k):=by
 unfold Cx.G Xk
 split
 ·rename_i g hg
  have:=QfI (show g∈Ki c.I c.N c.N k by rw [hg];exact List.mem_singleton.2 rfl)
  split <;> omega
 ·omega
end Go.Proofs.Yteplnamfpodmlaa.T2
end
section
namespace Go.Proofs.Yteplnamfpodmlaa.T2
theorem QdZ{x y:Nat→Qd}:Qfw x y=true↔∀r,r < 8→x r=y r:=by
 unfold Qfw
 rw [List.all_eq_true]
 refine⟨fun h r hr=>?_,fun h r hr=>?_⟩
 ·have:=h r (List.mem_range.2 hr)
  simp only [Bool.and_eq_true,beq_iff_eq]at this
  obtain⟨⟨⟨⟨h1,h2⟩,h3⟩,h4⟩,h5⟩:=this
  cases hx:x r
  cases hy:y r
  rw [hx,hy]at h1 h2 h3 h4 h5
  simp_all
 ·rw [h r (List.mem_range.1 hr)]
  simp
theorem Qd2{m m':Nat→Bool}{v:Bool}:∀(n k:Nat),(∀j,k≤j→j < k+n→m j=m' j)→Qbu m v k n=Qbu m' v k n
 |0,_,_=>rfl
 |n+1,k,h=>by
  unfold Qbu
  rw [h k (Nat.le_refl _) (by omega),Qd2 n (k+1) fun j h1 h2=>h j (by omega) (by omega)]
theorem Qky{m m':Nat→Bool}{v:Bool}{n:Nat}(h:∀j,j < n→m j=m' j):JL m n v=JL m' n v:=Qd2 n 0 fun j _ h2=>h j (by omega)
theorem Qn2{m:Nat→Bool}{v:Bool}:∀(n k:Nat),Qbu m v k n= -1∨((k:Int)≤Qbu m v k n∧Qbu m v k n < k+n)
 |0,_=> .inl rfl
 |n+1,k=>by
  unfold Qbu
  split
  ·right;omega
  ·have:=Qn2 (m:=m) (v:=v) n (k+1)
   omega
theorem Qn3{m:Nat→Bool}{v:Bool}{n:Nat}:JL m n v= -1∨(0≤JL m n v∧JL m n v < n):=by
 have:=Qn2 (m:=m) (v:=v) n 0
 unfold JL
 omega
def Cx.run(c:Cx):Nat→VS→Option (Nat→Nat→Qd):=QaM c.I c.E c.G c.N
def Cx.res(c:Cx):Option (Nat→Nat→Qd):=c.run c.R.toNat (Ws c.f)
structure QnS(c:Cx)(nb nv nm:Nm)(s:VS):Prop where
 b:BIs nb c.N s.b
 v:VIs nv c.N s.v
 m:MIs nm c.N s.m
 ok:okB s.b
 cut:Qap s.b
structure EG(c:Cx)(n286 n318:Nm):Prop where
 ed:Vo n286 c.N c.E
 gd:∀j,j < c.N→n318.int j=c.G j
structure QcY(c:Cx)(n286 n318 h nb nv nm:Nm):Prop where
 eg:EG c n286 n318
 n0:0≤h.int 0
 nR:h.int 0=0∨h.int 0≤c.R
 st:∃s,QnS c nb nv nm s∧(∀j,0≤s.v j∧s.v j≤h.int 0)∧c.run (c.R - h.int 0).toNat s=c.res
structure Mid(c:Cx)(n286 n318 n387 n407 h nb nv nm:Nm)(s:VS):Prop where
 eg:EG c n286 n318
 n0:0≤n387.int 0
 nR:n387.int 0 < c.R
 k0:0≤n407.int 0
 kN:n407.int 0 < c.N
 m0:0≤h.int 0
 mL:h.int 0≤((c.E (n407.int 0).toNat).length:Int)
 st:QnS c nb nv nm s
 v:∀j,0≤s.v j∧s.v j≤n387.int 0+1
 run:c.run (c.R - n387.int 0 - 1).toNat (((c.E (n407.int 0).toNat).drop (h.int 0).toNat).foldl (Vg c.I c.G (n407.int 0).toNat) s)=c.res
def WU(m:Nm)(r:Nat):Qd:=⟨m.bool (5 * r),m.bool (5 * r+1),m.int (5 * r+2),m.int (5 * r+3),m.int (5 * r+4)⟩
structure QcZ(c:Cx)(n286 n318 n387 n407 h nb nv nm n898:Nm)(s:VS)(p:Nat×Bool):Prop where
 mid:Mid c n286 n318 n387 n407 h nb nv nm s
 pe:(c.E (n407.int 0).toNat)[(h.int 0).toNat]?=some p
 nx:∀r,r < 8→WU n898 r=Jb c.I c.G (n407.int 0).toNat s p r
structure Qq0(c:Cx)(n286 n318 n387 n407 h nb nv nm n1519:Nm)(s:VS)(p:Nat×Bool):Prop where
 mid:Mid c n286 n318 n387 n407 h nb nv nm s
 pe:(c.E (n407.int 0).toNat)[(h.int 0).toNat]?=some p
 nx:∀r,r < 8→WU n1519 r=KA s p.1 (Jb c.I c.G (n407.int 0).toNat s p) r
theorem Qt2{c:Cx}{s:VS}{f:Nat}(h:JL s.m c.N true < 0):c.run f s=some s.b:=by
 unfold Cx.run
 cases f <;> (unfold QaM;rw [if_pos h])
theorem Qk5{c:Cx}{n42 n54 n82 n83 n84 n286 n288 h gd h' nb nm:Nm}{e e':Env}{d:Nat}(hc:c.ok)(B:QcW c n42 n54 n82 n83 n84)(H:Qhd c n286 n288 h gd)(hk:¬h.int 0 < c.N)(h0:h'.int 0=0)
 (b1:nb.int=QD n84.int (c.f * 40+0) ((Qa d 0 stK).map (QW e))) (b2:nb.bool=QD n84.bool (c.f * 40+0) ((Qa d 0 stK).map (Xe e))) (hx:∀r,r < 8→Zg e d (5 * r)=Qy)
 (hm:nm.bool=QD n54.bool c.f [true]):QcY c n286 gd h' nb n42 nm where
 eg:=⟨H.ed,fun j hj=>by rw [H.gd j hj,if_pos (by have:=H.kN;omega)]⟩
 n0:=by omega
 nR:= .inl h0
 st:=by
  refine⟨Ws c.f,⟨?_,?_,?_,Qil _,Qf0 _⟩,fun j=>?_,?_⟩
  ·intro k hk r hr
   have:=Qnr (x:=fun _=>Qy) B.bf b1 b2 hx k hk r hr
   rw [this]
   show _=Jq (fun _=>ZN fun _=>Q4) c.f (ZN fun _=>Qy) k r
   unfold Jq
   split <;> simp [ZN,hr]
  ·intro k hk
   show n42.int k=0
   rw [B.p.z42]
  ·refine QfU (v:=fun _=>false) (fun k hk=>?_) hm
   rw [B.p.z54]
  ·rw [h0];exact⟨Int.le_refl _,Int.le_refl _⟩
  ·rw [h0,Int.sub_zero];rfl
theorem QcY.idx{c:Cx}{n286 n318 h nb nv nm:Nm}{s:VS}(H:QnS c nb nv nm s):JL nm.bool c.N true=JL s.m c.N true:=Qky fun j hj=>H.m j hj
theorem Qrf{c:Cx}{n286 n318 h nb nv nm:Nm}(H:QcY c n286 n318 h nb nv nm)(hi:JL nm.bool c.N true < 0):∃b,c.res=some b∧BIs nb c.N b:=by
 obtain⟨s,hs,hv,hr⟩:=H.st
 rw [QcY.idx (n286:=n286) (n318:=n318) (h:=h) hs]at hi
 exact⟨s.b,by rw [←hr,Qt2 hi],hs.b⟩
theorem Qoz{c:Cx}{n286 n318 h nb nv nm:Nm}(H:QcY c n286 n318 h nb nv nm)(hi:¬JL nm.bool c.N true < 0)(hR:c.R≤h.int 0):c.res=none:=by
 obtain⟨s,hs,hv,hr⟩:=H.st
 rw [QcY.idx (n286:=n286) (n318:=n318) (h:=h) hs]at hi
 rw [←hr,show(c.R - h.int 0).toNat=0 by omega]
 unfold Cx.run QaM
 rw [if_neg hi]
theorem QoE{c:Cx}{n286 n318 h nb nv nm n407 h' nv' nm':Nm}{x:Int}(H:QcY c n286 n318 h nb nv nm)(hR:h.int 0 < c.R)(hk:n407.int 0=JL nm.bool c.N true)(hi:¬n407.int 0 < 0)(h0:h'.int 0=0)
 (hv':nv'.int=QD nv.int (n407.int 0).toNat [x]) (hx:x=nv.int (n407.int 0).toNat+1) (hm':nm'.bool=QD nm.bool (n407.int 0).toNat [false]):∃s,Mid c n286 n318 h n407 h' nb nv' nm' s:=by
 obtain⟨s,hs,hv,hr⟩:=H.st
 have hix:=QcY.idx (n286:=n286) (n318:=n318) (h:=h) hs
 have hlt:=Qn3 (m:=nm.bool) (v:=true) (n:=c.N)
 have hkN:(n407.int 0).toNat < c.N:=by omega
 have hvk:=hs.v _ hkN
 refine⟨Qls s (n407.int 0).toNat,H.eg,H.n0,hR,by omega,by omega,by omega,by omega,⟨hs.b,?_,QfU hs.m hm',hs.ok,hs.cut⟩,?_,?_⟩
 ·refine QtB hs.v ?_
  rw [hv',hx,hvk]
 ·intro j
  show 0≤Jq s.v _ _ j∧Jq s.v _ _ j≤_
  unfold Jq
  split
  ·have:=hv (n407.int 0).toNat;omega
  ·have:=hv j;omega
 ·rw [h0]
  rw [←hr,show(c.R - h.int 0).toNat=(c.R - h.int 0 - 1).toNat+1 by omega]
  conv=>rhs;unfold Cx.run QaM
  rw [if_neg (by rw [←hix,←hk];exact hi),←hix,←hk]
  rfl
theorem Mid.edge{c:Cx}{n286 n318 n387 n407 h nb nv nm:Nm}{s:VS}(H:Mid c n286 n318 n387 n407 h nb nv nm s)(hm:h.int 0 < n286.int (n407.int 0).toNat) :
 ∃p,(c.E (n407.int 0).toNat)[(h.int 0).toNat]?=some p∧p.1 < c.N∧n286.i2 (n407.int 0).toNat ((h.int 0).toNat * 2)=(p.1:Int)∧n286.b2 (n407.int 0).toNat ((h.int 0).toNat * 2+1)=p.2:=by
 have hkN:(n407.int 0).toNat < c.N:=by have:=H.k0;have:=H.kN;omega
 obtain⟨h1,h2⟩:=H.eg.ed _ hkN
 have hlt:(h.int 0).toNat < (c.E (n407.int 0).toNat).length:=by have:=H.m0;omega
 refine⟨_,List.getElem?_eq_getElem hlt,Qnt (List.getElem_mem hlt),h2 _ _ (List.getElem?_eq_getElem hlt)⟩
theorem Mid.edge'{c:Cx}{n286 n318 n387 n407 h nb nv nm:Nm}{s:VS}(H:Mid c n286 n318 n387 n407 h nb nv nm s){p:Nat×Bool}(hp:(c.E (n407.int 0).toNat)[(h.int 0).toNat]?=some p) :
 h.int 0 < n286.int (n407.int 0).toNat∧p.1 < c.N∧n286.i2 (n407.int 0).toNat ((h.int 0).toNat * 2)=(p.1:Int)∧n286.b2 (n407.int 0).toNat ((h.int 0).toNat * 2+1)=p.2:=by
 have hkN:(n407.int 0).toNat < c.N:=by have:=H.k0;have:=H.kN;omega
 obtain⟨h1,h2⟩:=H.eg.ed _ hkN
 have hlt:(h.int 0).toNat < (c.E (n407.int 0).toNat).length:=by
  rcases Nat.lt_or_ge (h.int 0).toNat (c.E (n407.int 0).toNat).length with h3|h3
  ·exact h3
  ·rw [List.getElem?_eq_none h3]at hp;cases hp
 exact⟨by have:=H.m0;omega,Qnt (List.mem_of_getElem? hp),h2 _ _ hp⟩
theorem QhP{c:Cx}{n286 n318 n387 n407 h nb nv nm h' nb' nm':Nm}{s:VS}{p:Nat×Bool}(hc:c.ok)(H:Mid c n286 n318 n387 n407 h nb nv nm s)(hp:(c.E (n407.int 0).toNat)[(h.int 0).toNat]?=some p)(h0:h'.int 0=h.int 0+1)
 (hb:BIs nb' c.N (Vg c.I c.G (n407.int 0).toNat s p).b) (hm:MIs nm' c.N (Vg c.I c.G (n407.int 0).toNat s p).m):∃s,Mid c n286 n318 n387 n407 h' nb' nv nm' s:=by
 have hv:(Vg c.I c.G (n407.int 0).toNat s p).v=s.v:=by unfold Vg QdQ;split <;> rfl
 have hlt:(h.int 0).toNat < (c.E (n407.int 0).toNat).length:=by
  rcases Nat.lt_or_ge (h.int 0).toNat (c.E (n407.int 0).toNat).length with h3|h3
  ·exact h3
  ·rw [List.getElem?_eq_none h3]at hp;cases hp
 have e:(h'.int 0).toNat=(h.int 0).toNat+1:=by have:=H.m0;omega
 refine⟨Vg c.I c.G (n407.int 0).toNat s p,{H with m0:=by have:=H.m0;omega,mL:=by have:=H.m0;omega,st:=⟨hb,by rw [hv];exact H.st.v,hm,Qiq hc.wf H.st.ok,Qio H.st.cut⟩,v:=by rw [hv];exact H.v,run:=?_}⟩
 rw [←H.run,e,List.drop_eq_getElem_cons hlt,List.foldl_cons]
 rw [List.getElem?_eq_getElem hlt]at hp
 cases hp
 rfl
theorem Qtu{c:Cx}{n286 n318 n387 n407 h nb nv nm n1519 h' nb' nm':Nm}{s:VS}{p:Nat×Bool}{e:Env}{d:Nat}(hc:c.ok)(H:Qq0 c n286 n318 n387 n407 h nb nv nm n1519 s p)(h0:h'.int 0=h.int 0+1)
 (b1:nb'.int=QD nb.int (p.1 * 40+0) ((Qa d 0 stK).map (QW e))) (b2:nb'.bool=QD nb.bool (p.1 * 40+0) ((Qa d 0 stK).map (Xe e))) (hx:∀r,r < 8→Zg e d (5 * r)=WU n1519 r)
 (hm:nm'.bool=QD nm.bool p.1 [true]) (hne:¬∀r,r < 8→WU n1519 r=Jr nb.int nb.bool p.1 r):∃s,Mid c n286 n318 n387 n407 h' nb' nv nm' s:=by
 have hpN:=(H.mid.edge' H.pe).2.1
 have hs:Qfw (KA s p.1 (Jb c.I c.G (n407.int 0).toNat s p)) (s.b p.1)≠true:=fun h1=>hne fun r hr=>by
  rw [H.nx r hr,QdZ.1 h1 r hr,H.mid.st.b _ hpN r hr]
 refine QhP hc H.mid H.pe h0 ?_ ?_
 ·unfold Vg QdQ
  rw [if_neg hs]
  exact Qnr H.mid.st.b b1 b2 fun r hr=>by rw [hx r hr,H.nx r hr]
 ·unfold Vg QdQ
  rw [if_neg hs]
  exact QfU H.mid.st.m hm
theorem Qrw{c:Cx}{n286 n318 n387 n407 h nb nv nm n1519 h':Nm}{s:VS}{p:Nat×Bool}(hc:c.ok)(H:Qq0 c n286 n318 n387 n407 h nb nv nm n1519 s p)(h0:h'.int 0=h.int 0+1)
 (he:∀r,r < 8→WU n1519 r=Jr nb.int nb.bool p.1 r):∃s,Mid c n286 n318 n387 n407 h' nb nv nm s:=by
 have hpN:=(H.mid.edge' H.pe).2.1
 have hs:Qfw (KA s p.1 (Jb c.I c.G (n407.int 0).toNat s p)) (s.b p.1)=true:=QdZ.2 fun r hr=>by
  rw [←H.nx r hr,he r hr,H.mid.st.b _ hpN r hr]
 refine QhP hc H.mid H.pe h0 ?_ ?_
 ·unfold Vg QdQ
  rw [if_pos hs]
  exact H.mid.st.b
 ·unfold Vg QdQ
  rw [if_pos hs]
  exact H.mid.st.m
theorem Qoy{c:Cx}{n286 n318 n387 n407 h nb nv nm h':Nm}{s:VS}(H:Mid c n286 n318 n387 n407 h nb nv nm s)(hm:¬h.int 0 < n286.int (n407.int 0).toNat)(h0:h'.int 0=n387.int 0+1):QcY c n286 n318 h' nb nv nm:=by
 have hkN:(n407.int 0).toNat < c.N:=by have:=H.k0;have:=H.kN;omega
 have hl:=(H.eg.ed _ hkN).1
 have hr:=H.run
 rw [List.drop_eq_nil_of_le (by omega)]at hr
 refine⟨H.eg,by have:=H.n0;omega,.inr (by have:=H.nR;omega),s,H.st,by rw [h0];exact H.v,?_⟩
 rw [h0,←hr,show c.R - (n387.int 0+1)=c.R - n387.int 0 - 1 by omega]
 rfl
end Go.Proofs.Yteplnamfpodmlaa.T2
end
section
namespace Go.Proofs.Yteplnamfpodmlaa.T2
theorem Qb9{e:Env}{c:Nat}{xs:List LX}(hl:xs.length=40){r:Nat}(hr:8≤r):stD (PX.dat e c (.a xs)) r=X2 0:=by
 have h:∀j,40≤j→X7 (PX.dat e c (.a xs)).val j=undef:=fun j hj=>by
  rw [PX.dat_val]
  simp [X7,PX.den,hl,hj]
 unfold stD
 rw [h _ (by omega),h _ (by omega),h _ (by omega),h _ (by omega),h _ (by omega)]
 rfl
theorem QnL(e:Env)(d c:Nat)(x:SX):stD (PX.dat e c (.a (rxL d 40 x 0 stK)))=ZN (Jr (e.int d) (e.bool d) (x.den e).1.toNat):=by
 funext r
 unfold ZN
 split
 ·rename_i h;exact QuP e d c x r h
 ·exact Qb9 rfl (by omega)
theorem Qll(e:Env)(d c:Nat):stD (PX.dat e c (.a (Qa d 0 stK)))=ZN fun r=>Zg e d (5 * r):=by
 funext r
 unfold ZN
 split
 ·rename_i h;exact Qfz e d c r h
 ·exact Qb9 rfl (by omega)
theorem K7{e:Env}{d c:Nat}{A:Nat→Qd}(hi:e.int d=ZH A)(hb:e.bool d=QU A):stD (PX.dat e c (.a (Qa d 0 stK)))=ZN A:=by
 rw [Qll]
 funext r
 unfold ZN
 split
 ·exact ZA e d hi hb r
 ·rfl
theorem We{A:Nat→Qd}(h:∀r,(A r).wf):∀r,(ZN A r).wf:=fun r=>by
 unfold ZN
 split
 ·exact h r
 ·exact ZR K9
theorem QrD{e:Env}{d k:Nat}{I:Nat→Ins}{G:Nat→Int}{s:VS}{p:Nat×Bool}{A:Nat→Qd}(hi:e.int d=ZH (Vb (s.b p.1) (ZN A)))(hb:e.bool d=QU (Vb (s.b p.1) (ZN A)))(hA:Xw I (G k) k (s.b k) p.2=A) :
 ∀r,r < 8→Zg e d (5 * r)=Jb I G k s p r:=fun r hr=>by
 rw [ZA e d hi hb r]
 have h1:ZN A r=A r:=by unfold ZN;rw [if_pos hr]
 have h2:Jb I G k s p r=Vb (s.b p.1) (Xw I (G k) k (s.b k) p.2) r:=by unfold Jb ZN;rw [if_pos hr]
 rw [h2,hA]
 show Va _ (ZN A r)=Va _ (A r)
 rw [h1]
theorem Qam{e:Env}{d:Nat}{m:Nm}(h1:m.int=Qn0 e (Qa d 0 stK))(h2:m.bool=QqV e (Qa d 0 stK)):∀r,r < 8→WU m r=Zg e d (5 * r):=fun r hr=>by
 unfold WU
 rw [h1,h2]
 exact match r,hr with
  |0,_|1,_|2,_|3,_|4,_|5,_|6,_|7,_=>rfl
theorem QnS.row{c:Cx}{nv nm:Nm}{e:Env}{d k:Nat}{s:VS}(H:QnS c (e.nm d) nv nm s)(hk:k < c.N):ZN (Jr (e.int d) (e.bool d) k)=s.b k:=by
 funext r
 unfold ZN
 split
 ·rename_i h;exact H.b k hk r h
 ·rename_i h;exact(H.cut k r (by omega)).symm
end Go.Proofs.Yteplnamfpodmlaa.T2
end
