/-
  Part of the proof.
-/
import Derived.Test.YteplnamfpodmlaaGreatQT2
import Derived.Test.YteplnamfpodmlaaGreatQA4
set_option linter.unusedVariables false
set_option linter.unusedSimpArgs false
set_option maxRecDepth 100000
open Go.ChangeShapes Go.WideShapes Go.ChangeAt Go.RowKit
section
namespace Go.Proofs.YteplnamfpodmlaaGreat.T2
set_option maxHeartbeats 1000000
def okV(s:Qd):Prop:=s.wf∧Qx s=true
theorem QcS{a b:Qd}(wa:a.wf)(wb:b.wf):okV (Jp a b):=⟨Jd (Q8 wa) (Q8 wb),X6 (Q8 wa) (Q8 wb) (Qz a) (Qz b)⟩
theorem QbH{a b:Qd}(wa:a.wf)(wb:b.wf):okV (XF a b):=⟨WV (Q8 wa) (Q8 wb) (Qz a) (Qz b),Vm (Q8 wa) (Q8 wb) (Qz a) (Qz b)⟩
theorem Vn(op:Int){a b:Qd}(wa:a.wf)(wb:b.wf):okV (Js op a b):=Qoe op (Q8 wa) (Q8 wb) (Qz a) (Qz b)
theorem Wv{a b:Qd}(wa:a.wf)(wb:b.wf):okV (VV a b):=QqW (Q8 wa) (Q8 wb) (Qz a) (Qz b)
theorem QsL:okV Qp:=⟨Z5,rfl⟩
theorem Qoi:okV Qt:=⟨Ji,rfl⟩
theorem X1{lo hi st:Int}(h1:Zk lo)(h2:Zk hi)(h3:Zk st):(Qj lo hi st).wf:=Z7 _ _ _ h1.1 h1.2 h2.1 h2.2 h3.1 h3.2
theorem Qd9:Zk 1:=⟨by decide,by decide⟩
theorem Qd8:Zk 0:=⟨by decide,by decide⟩
theorem Qtu:Zk 4294967295:=⟨by decide,by decide⟩
theorem QoD{a:Qd}{n:Int}(ha:a.wf)(hn:Zk n):(Va a n).wf:=by
 unfold Va;split
 ·exact(Vn _ ha (ZJ hn)).1
 ·exact(Vn _ ha (ZJ (QR _))).1
theorem QiB{s:Qd}{n:Int}(hs:s.wf)(hn:Zk n):(XK s n).wf:=by
 have hl:Zk s.lo:=⟨hs.1,hs.2.1⟩;have hh:Zk s.hi:=⟨hs.2.2.1,hs.2.2.2.1⟩;have ht:Zk s.st:=⟨hs.2.2.2.2.1,hs.2.2.2.2.2⟩;unfold XK
 (repeat' split)
 ·exact hs
 ·exact Ji
 ·exact X1 (QR _) hh ht
 ·exact X1 hl (QR _) ht
theorem K0{s:Nat→Qd}{a:Int}{v:Qd}(hs:∀k,(s k).wf)(hv:v.wf):∀k,(Kj s a v k).wf:=fun k=>by
 unfold Kj;split
 ·exact hv
 ·exact hs k
theorem QfW{c:Int}{a:Qd}{n:Int}(ha:a.wf)(hn:Zk n):(Kg c a n).wf:=by
 unfold Kg;split
 ·exact(Wv ha (ZJ hn)).1
 split
 ·exact QiB ha hn
 split
 ·split
  ·exact Ji
  ·exact(Wv ha (X1 Qd8 (QR _) Qd9)).1
 split
 ·exact(Wv ha (X1 Qd8 hn Qd9)).1
 split
 ·exact(Wv ha (X1 hn Qtu Qd9)).1
 split
 ·split
  ·exact Ji
  ·exact(Wv ha (X1 (QR _) Qtu Qd9)).1
 ·exact ha
theorem Qdm{cc:Int}{i:Ins}{s:Nat→Qd}{tk:Bool}(hi:i.wf)(hs:∀k,(s k).wf):∀k,(ZE cc i s tk k).wf:=by
 unfold ZE;split
 ·refine K0 hs ?_;unfold J8
  (repeat' split) <;> first|exact QfW (hs _) hi.2.1|exact hs _
 ·exact hs
theorem Qba{i:Ins}{s:Nat→Qd}(hi:i.wf)(hs:∀k,(s k).wf):∀k,(Qu i s k).wf:=by
 have u4:Zk 4:=⟨by decide,by decide⟩
 suffices h:∀P:(Nat→Qd)→Prop,(∀f,(∀k,(f k).wf)→P f)→P (Qu i s)from h (fun f=>∀k,(f k).wf) fun _ h=>h
 intro P hP;unfold Qu;split
 ·exact hP _ hs
 split
 ·exact hP _ (K0 hs (Qcu hi hs))
 split
 ·exact hP _ (K0 hs (Vn _ (hs _) (Qcu hi hs)).1)
 split
 ·exact hP _ (K0 hs (X1 Qd8 (QR _) Qd9))
 split
 ·exact hP _ (K0 hs Z5)
 split
 ·exact hP _ (K0 hs (QoD (hs _) hi.2.1))
 split
 ·exact hP _ (K0 hs (X1 Qd8 Qd9 Qd9))
 split
 ·exact hP _ (K0 hs (Vn _ (hs _) (ZJ u4)).1)
 split
 ·exact hP _ (K0 (K0 hs (Vn _ (hs _) (ZJ u4)).1) Z5)
 split
 ·exact hP _ (K0 hs (Vn _ (hs _) (ZJ u4)).1)
 split
 ·exact hP _ fun _=>Z5
 ·exact hP _ hs
def ZP(s:Nat→Qd):Nat→Qd:=fun r=>if r < 8 then s r else Zs 0
def QG(I:Nat→Ins)(a:Int):Nat→Option Nat
 |0=>none
 |n+1=>match QG I a n with|some k=>some k|none=>if(I n).addr=a then some n else none
def Jf(I:Nat→Ins)(N:Nat):Nat→List Int→List (Nat×Bool)
 |_,[]=> []
 |n,a :: l=>(match QG I a N with|some t=> [(t,n==0)]|none=> []) ++ Jf I N (n+1) l
def X4(I:Nat→Ins)(N k:Nat):List (Nat×Bool):=if QG I (I k).addr N=some k then Jf I N 0 (Q9 (I k))else []
def VP(es:List (Nat×Bool))(k j:Nat):List Nat:=es.filterMap fun p=>if p.1=j then some k else none
def Xh(I:Nat→Ins)(N:Nat):Nat→Nat→List Nat
 |0,_=> []
 |k+1,j=>Xh I N k j ++ VP (X4 I N k) k j
def XP(I:Nat→Ins)(N f k:Nat):Int:=
 match Xh I N N k with
 | [g]=>if(I k).op=20∧Qv (I k)=true∧(I k).addr≠(I f).addr∧Vf (I g)=true then(g:Int)else -1
 |_=> -1
structure VS where
 b:Nat→Nat→Qd
 v:Nat→Int
 m:Nat→Bool
def XU{α:Type}(f:Nat→α)(k:Nat)(x:α):Nat→α:=fun j=>if j=k then x else f j
def Qfj(x y:Nat→Qd):Bool:=(List.range 8).all fun r=>(x r).e==(y r).e && (x r).t==(y r).t && (x r).lo==(y r).lo && (x r).hi==(y r).hi && (x r).st==(y r).st
def XM(I:Nat→Ins)(g:Int)(k:Nat)(s:Nat→Qd)(tk:Bool):Nat→Qd:=
 if(I k).op=23∨(I k).op=24 then fun _=>Qp
 else if(I k).op=20∧0≤g then ZE (I k).cc (I g.toNat) s tk
 else Qu (I k) s
def Xl(I:Nat→Ins)(G:Nat→Int)(k:Nat)(s:VS)(p:Nat×Bool):Nat→Qd:=ZP (Xs (s.b p.1) (XM I (G k) k (s.b k) p.2))
def JE(s:VS)(t:Nat)(x:Nat→Qd):Nat→Qd:=if 4≤s.v t then ZP (fun r=>XF (s.b t r) (x r))else x
def Qdj(s:VS)(t:Nat)(x:Nat→Qd):VS:=if Qfj x (s.b t)=true then s else⟨XU s.b t x,s.v,XU s.m t true⟩
def KW(I:Nat→Ins)(G:Nat→Int)(k:Nat)(s:VS)(p:Nat×Bool):VS:=Qdj s p.1 (JE s p.1 (Xl I G k s p))
def QlB(s:VS)(k:Nat):VS:=⟨s.b,XU s.v k (s.v k+1),XU s.m k false⟩
def QlC(I:Nat→Ins)(E:Nat→List (Nat×Bool))(G:Nat→Int)(s:VS)(k:Nat):VS:=(E k).foldl (KW I G k) (QlB s k)
def W2(I:Nat→Ins)(E:Nat→List (Nat×Bool))(G:Nat→Int)(N:Nat):Nat→VS→Option (Nat→Nat→Qd)
 |0,s=>if XQ s.m N true < 0 then some s.b else none
 |f+1,s=>if XQ s.m N true < 0 then some s.b else W2 I E G N f (QlC I E G s (XQ s.m N true).toNat)
def Vb(f:Nat):VS:=⟨XU (fun _=>ZP fun _=>Qt) f (ZP fun _=>Qp),fun _=>0,XU (fun _=>false) f true⟩
def Zz(I:Nat→Ins)(N:Nat)(entry R:Int):Except Int (Nat→Nat→Qd):=
 if 4096 < N then .error 6 else
 match QG I entry N with
 |none=> .error 9
 |some f=>match W2 I (X4 I N) (XP I N f) N R.toNat (Vb f)with
  |none=> .error 15
  |some b=> .ok b
def okB(b:Nat→Nat→Qd):Prop:=∀k r,okV (b k r)
theorem QaG{s:Nat→Qd}(h:∀r,okV (s r)):∀r,okV (ZP s r):=fun r=>by
 unfold ZP;split
 ·exact h r
 ·exact⟨ZJ Qd8,YT 0⟩
def Qce(b:Nat→Nat→Qd):Prop:=∀k r,8≤r→b k r=Zs 0
theorem QcB{s:Nat→Qd}{r:Nat}(h:8≤r):ZP s r=Zs 0:=by unfold ZP;rw [if_neg (by omega)]
theorem QaA{I:Nat→Ins}{g:Int}{k:Nat}{s:Nat→Qd}{tk:Bool}(hI:∀k,(I k).wf)(hs:∀r,(s r).wf):∀r,(XM I g k s tk r).wf:=by
 unfold XM
 (repeat' split)
 ·exact fun _=>Z5
 ·exact Qdm (hI _) hs
 ·exact Qba (hI _) hs
theorem KN{I:Nat→Ins}{G:Nat→Int}{k:Nat}{s:VS}{p:Nat×Bool}(hI:∀k,(I k).wf)(h:okB s.b):∀r,okV (Xl I G k s p r):=
 QaG fun r=>QcS (h _ _).1 (QaA hI (fun r=>(h _ r).1) r)
theorem QsQ{s:VS}{t:Nat}{x:Nat→Qd}(h:okB s.b)(hx:∀r,okV (x r)):∀r,okV (JE s t x r):=by
 unfold JE;split
 ·exact QaG fun r=>QbH (h _ _).1 (hx r).1
 ·exact hx
theorem QtR{s:VS}{t:Nat}{x:Nat→Qd}(h:okB s.b)(hx:∀r,okV (x r)):okB (Qdj s t x).b:=by
 unfold Qdj;split
 ·exact h
 ·intro k r;show okV ((if k=t then x else s.b k) r)
  split
  ·exact hx r
  ·exact h k r
theorem Qr7{s:VS}{t:Nat}{x:Nat→Qd}(hx:∀r,8≤r→x r=Zs 0):∀r,8≤r→JE s t x r=Zs 0:=fun r hr=>by
 unfold JE;split
 ·exact QcB hr
 ·exact hx r hr
theorem Qs2{s:VS}{t:Nat}{x:Nat→Qd}(h:Qce s.b)(hx:∀r,8≤r→x r=Zs 0):Qce (Qdj s t x).b:=by
 unfold Qdj;split
 ·exact h
 ·intro k r hr;show(if k=t then x else s.b k) r=_
  split
  ·exact hx r hr
  ·exact h k r hr
theorem Qi0{I:Nat→Ins}{G:Nat→Int}{k:Nat}{s:VS}{p:Nat×Bool}(h:Qce s.b):Qce (KW I G k s p).b:=Qs2 h (Qr7 fun r hr=>QcB hr)
theorem QbF(f:Nat):Qce (Vb f).b:=fun k r hr=>by
 show(if k=f then(ZP fun _=>Qp)else(ZP fun _=>Qt)) r=_
 split <;> exact QcB hr
theorem Qi1{I:Nat→Ins}{G:Nat→Int}{k:Nat}{s:VS}{p:Nat×Bool}(hI:∀k,(I k).wf)(h:okB s.b):okB (KW I G k s p).b:=QtR h (QsQ h (KN hI h))
theorem Qd7(f:Nat):okB (Vb f).b:=fun k r=>by
 show okV ((if k=f then(ZP fun _=>Qp)else(ZP fun _=>Qt)) r)
 split
 ·exact QaG (fun _=>QsL) r
 ·exact QaG (fun _=>Qoi) r
end Go.Proofs.YteplnamfpodmlaaGreat.T2
end
section
namespace Go.Proofs.YteplnamfpodmlaaGreat.T2
theorem J1{α:Type}(f:Nat→α)(p:Nat)(x:α)(j:Nat):QA f p [x] j=if j=p then x else f j:=by
 by_cases h:j=p
 ·subst h;rw [if_pos rfl];exact JD (j:=0) rfl
 ·rw [if_neg h];exact ZA (by show j < p∨p+1≤j;omega)
theorem Qtv{α:Type}(f:Nat→α)(p:Nat)(x y:α)(j:Nat):QA f p [x,y] j=if j=p then x else if j=p+1 then y else f j:=by
 by_cases h:j=p
 ·subst h;rw [if_pos rfl];exact JD (j:=0) rfl
 ·rw [if_neg h];by_cases h1:j=p+1
  ·subst h1;rw [if_pos rfl];exact JD (j:=1) rfl
  ·rw [if_neg h1];exact ZA (by show j < p∨p+2≤j;omega)
theorem Vl{α:Type}(f:Nat→α)(k:Nat)(x:α):XU f k x k=x:=by simp [XU]
theorem JS{α:Type}(f:Nat→α){k j:Nat}(x:α)(h:j≠k):XU f k x j=f j:=by simp [XU,h]
def Qkt(m:Nm)(I:Nat→Ins)(k:Nat):Prop:=∀a:Nat,m.bool a=(QG I a k).isSome∧∀t,QG I a k=some t→m.int a=(t:Int)
def Vd(m:Nm)(N:Nat)(E:Nat→List (Nat×Bool)):Prop:=∀j,j < N→m.int j=((E j).length:Int)∧∀n p,(E j)[n]?=some p→m.i2 j (n * 2)=(p.1:Int)∧m.b2 j (n * 2+1)=p.2
def Ye(m:Nm)(N:Nat)(T:Nat→List Nat):Prop:=∀j,j < N→m.int j=((T j).length:Int)∧∀(n x:Nat),(T j)[n]?=some x→m.i2 j n=(x:Int)
def BIs(m:Nm)(N:Nat)(b:Nat→Nat→Qd):Prop:=∀k,k < N→∀r,r < 8→K1 m.int m.bool k r=b k r
def VIs(m:Nm)(N:Nat)(v:Nat→Int):Prop:=∀k,k < N→m.int k=v k
def MIs(m:Nm)(N:Nat)(f:Nat→Bool):Prop:=∀k,k < N→m.bool k=f k
theorem Vd.congr{m:Nm}{N:Nat}{E E':Nat→List (Nat×Bool)}(H:Vd m N E)(h:∀j,j < N→E j=E' j):Vd m N E':=fun j hj=>h j hj ▸ H j hj
theorem Ye.congr{m:Nm}{N:Nat}{T T':Nat→List Nat}(H:Ye m N T)(h:∀j,j < N→T j=T' j):Ye m N T':=fun j hj=>h j hj ▸ H j hj
theorem Qk6{m m' r:Nm}{N:Nat}{E:Nat→List (Nat×Bool)}{k:Nat}{p:Nat×Bool}{L x y:Int}{z u:Bool}(H:Vd m N E)(hk:k < N)(h1:m'.int=QA m.int k [L])(hL:L=((E k).length:Int)+1)
 (h2:m'.i2=QA m.i2 k [r.int]) (h3:m'.b2=QA m.b2 k [r.bool]) (h4:r.int=QA (m.i2 k) ((m.int k).toNat * 2) [x,y]) (h5:r.bool=QA (m.b2 k) ((m.int k).toNat * 2) [z,u]) (hx:x=(p.1:Int)) (hu:u=p.2) :
 Vd m' N (XU E k (E k ++ [p])):=by
 intro j hj;rw [h1,h2,h3];by_cases h:j=k
 ·subst h;rw [Vl,J1,J1,J1,if_pos rfl,if_pos rfl,if_pos rfl];refine⟨by rw [hL,List.length_append];simp,fun n q hq=>?_⟩
  have hl:(m.int j).toNat=(E j).length:=by rw [(H j hj).1];rfl
  rw [h4,h5,hl,Qtv,Qtv];rw [List.getElem?_append]at hq;split at hq
  ·rename_i hn;rw [if_neg (by omega),if_neg (by omega),if_neg (by omega),if_neg (by omega)]
   exact(H j hj).2 n q hq
  ·rename_i hn
   have:n - (E j).length=0:=by
    by_cases h0:n - (E j).length=0
    ·exact h0
    ·rw [List.getElem?_eq_none (by simp;omega)]at hq;cases hq
   rw [this]at hq;cases hq;have hn:n=(E j).length:=by omega
   subst hn;rw [if_pos rfl,if_neg (by omega),if_pos rfl]
   exact⟨hx,hu⟩
 ·rw [JS _ _ h,J1,J1,J1,if_neg h,if_neg h,if_neg h];exact H j hj
theorem Qou{m m' r:Nm}{N:Nat}{T:Nat→List Nat}{k:Nat}{p:Nat}{L x:Int}(H:Ye m N T)(hk:k < N)(h1:m'.int=QA m.int k [L])(hL:L=((T k).length:Int)+1)
 (h2:m'.i2=QA m.i2 k [r.int]) (h4:r.int=QA (m.i2 k) ((m.int k).toNat * 1) [x]) (hx:x=(p:Int)) :
 Ye m' N (XU T k (T k ++ [p])):=by
 intro j hj;rw [h1,h2];by_cases h:j=k
 ·subst h;rw [Vl,J1,J1,if_pos rfl,if_pos rfl];refine⟨by rw [hL,List.length_append];simp,fun n q hq=>?_⟩
  have hl:(m.int j).toNat=(T j).length:=by rw [(H j hj).1];rfl
  rw [h4,hl,J1,Nat.mul_one];rw [List.getElem?_append]at hq;split at hq
  ·rename_i hn;rw [if_neg (by omega)]
   exact(H j hj).2 n q hq
  ·rename_i hn
   have:n - (T j).length=0:=by
    by_cases h0:n - (T j).length=0
    ·exact h0
    ·rw [List.getElem?_eq_none (by simp;omega)]at hq;cases hq
   rw [this]at hq;cases hq;rw [if_pos (by omega)]
   exact hx
 ·rw [JS _ _ h,J1,J1,if_neg h,if_neg h];exact H j hj
theorem QsO{m m':Nm}{N:Nat}{v:Nat→Int}{k:Nat}{x:Int}(H:VIs m N v)(h:m'.int=QA m.int k [x]):VIs m' N (XU v k x):=fun j hj=>by
 rw [h,J1];unfold XU;split
 ·rfl
 ·exact H j hj
theorem Qcr{m m':Nm}{N:Nat}{v:Nat→Bool}{k:Nat}{x:Bool}(H:MIs m N v)(h:m'.bool=QA m.bool k [x]):MIs m' N (XU v k x):=fun j hj=>by
 rw [h,J1];unfold XU;split
 ·rfl
 ·exact H j hj
theorem Qtt(e:Env)(d:Nat)(f:Nat→Int)(g:Nat→Bool)(t:Nat):∀r,r < 8→K1 (QA f (t * 40+0) ((Qa d 0 stK).map (QZ e))) (QA g (t * 40+0) ((Qa d 0 stK).map (Z4 e))) t r=QV e d (5 * r)
 |0,_|1,_|2,_|3,_|4,_|5,_|6,_|7,_=>by
  unfold K1 QV;simp only [Nat.add_zero];congr 1 <;> exact JD rfl
theorem Qr2(e:Env)(d:Nat)(f:Nat→Int)(g:Nat→Bool)(t k:Nat)(h:k≠t)(r:Nat)(hr:r < 8):K1 (QA f (t * 40+0) ((Qa d 0 stK).map (QZ e))) (QA g (t * 40+0) ((Qa d 0 stK).map (Z4 e))) k r=K1 f g k r:=by
 have hl:((Qa d 0 stK).map (QZ e)).length=40:=rfl;have hl':((Qa d 0 stK).map (Z4 e)).length=40:=rfl;unfold K1;have o:∀c,c < 5→k * 40+(5 * r+c) < t * 40+0∨t * 40+0+40≤k * 40+(5 * r+c):=fun c hc=>by omega
 congr 1
 ·exact ZA (by rw [hl'];exact o 0 (by omega))
 ·exact ZA (by rw [hl'];exact o 1 (by omega))
 ·exact ZA (by rw [hl];exact o 2 (by omega))
 ·exact ZA (by rw [hl];exact o 3 (by omega))
 ·exact ZA (by rw [hl];exact o 4 (by omega))
theorem Qf0{e:Env}{m m':Nm}{N d:Nat}{b:Nat→Nat→Qd}{t:Nat}{x:Nat→Qd}(H:BIs m N b)(h1:m'.int=QA m.int (t * 40+0) ((Qa d 0 stK).map (QZ e)))(h2:m'.bool=QA m.bool (t * 40+0) ((Qa d 0 stK).map (Z4 e)))
 (hx:∀r,r < 8→QV e d (5 * r)=x r):BIs m' N (XU b t x):=fun k hk r hr=>by
 rw [h1,h2];by_cases h:k=t
 ·subst h;rw [Vl,Qtt e d _ _ _ r hr];exact hx r hr
 ·rw [JS _ _ h,Qr2 e d _ _ _ _ h r hr];exact H k hk r hr
theorem JM{I:Nat→Ins}{a:Int}:∀{n k:Nat},QG I a n=some k→k < n∧(I k).addr=a
 |n+1,k,h=>by
  unfold QG at h;split at h
  ·rename_i t ht;cases h;have:=JM ht;exact⟨by omega,this.2⟩
  ·split at h
   ·cases h;exact⟨by omega,by assumption⟩
   ·cases h
theorem Qan{I:Nat→Ins}{a:Int}{n:Nat}{k:Nat}(h:QG I a n=some k):∀{m:Nat},n≤m→QG I a m=some k
 |0,hm=>by rw [show n=0 by omega]at h;exact h
 |m+1,hm=>by
  by_cases e:n=m+1
  ·rw [←e];exact h
  ·unfold QG;rw [Qan h (show n≤m by omega)]
theorem Qok{I:Nat→Ins}{k n:Nat}(h:k < n):∃t,QG I (I k).addr n=some t:=by
 have:∃t,QG I (I k).addr (k+1)=some t:=by
  unfold QG;split
  ·exact⟨_,rfl⟩
  ·rw [if_pos rfl];exact⟨_,rfl⟩
 obtain⟨t,ht⟩:=this;exact⟨t,Qan ht (by omega)⟩
end Go.Proofs.YteplnamfpodmlaaGreat.T2
end
section
namespace Go.Proofs.YteplnamfpodmlaaGreat.T2
structure Cx where
 I:Nat→Ins
 N:Nat
 en:Int
 R:Int
def Cx.f(c:Cx):Nat:=(QG c.I c.en c.N).getD 0
def Cx.E(c:Cx):Nat→List (Nat×Bool):=X4 c.I c.N
def Cx.G(c:Cx):Nat→Int:=XP c.I c.N c.f
structure Cx.ok(c:Cx):Prop where
 wf:∀k,(c.I k).wf
 R1:c.R≤9223372036854775807
 en0:0≤c.en
structure Qty(c:Cx)(n42 n54:Nm):Prop where
 N:c.N≤4096
 z42:n42.int=fun _=>0
 z54:n54.bool=fun _=>false
structure Qob(c:Cx)(n42 n54 h ct bf:Nm):Prop where
 p:Qty c n42 n54
 k0:0≤h.int 0
 kN:h.int 0≤c.N
 k1:h.int 1=h.int 0
 at':Qkt ct c.I (h.int 0).toNat
 bf:BIs bf (h.int 0).toNat fun _ _=>Qt
structure Qcv(c:Cx)(n42 n54 n82 n83 n84:Nm):Prop where
 p:Qty c n42 n54
 len:n82.int 1=c.N
 at':Qkt n83 c.I c.N
 bf:BIs n84 c.N fun _ _=>Qt
 fst:QG c.I c.en c.N=some c.f
theorem QkI{c:Cx}{n42 n54 h ct bf:Nm}(p:Qty c n42 n54)(h0:h.int 0=0)(h1:h.int 1=0)(hc:ct.bool=fun _=>false):Qob c n42 n54 h ct bf where
 p:=p
 k0:=by omega
 kN:=by omega
 k1:=by omega
 at':=fun a=>by
  rw [h0,hc];exact⟨rfl,fun t ht=>by cases ht⟩
 bf:=fun k hk=>by rw [h0]at hk;omega
theorem Qsn{m m':Nm}{I:Nat→Ins}{k:Nat}(H:Qkt m I k)(ha:0≤(I k).addr)(hn:m.bool (I k).addr.toNat=false)(h1:m'.int=QA m.int (I k).addr.toNat [(k:Int)])(h2:m'.bool=QA m.bool (I k).addr.toNat [true]):Qkt m' I (k+1):=by
 intro a;rw [h1,h2,J1,J1]
 have hnone:QG I (I k).addr k=none:=by
  have:=(H (I k).addr.toNat).1;rw [hn,Int.toNat_of_nonneg ha]at this;cases hf:QG I (I k).addr k with
  |none=>rfl
  |some t=>rw [hf]at this;cases this
 by_cases h:a=(I k).addr.toNat
 ·rw [if_pos h,if_pos h];have e:((a:Nat):Int)=(I k).addr:=by omega
  have:QG I (a:Int) (k+1)=some k:=by
   unfold QG;rw [e,hnone];simp
  rw [this];exact⟨rfl,fun t ht=>by cases ht;rfl⟩
 ·rw [if_neg h,if_neg h]
  have:QG I (a:Int) (k+1)=QG I a k:=by
   conv=>lhs;unfold QG
   split
   ·rename_i t ht;rw [ht]
   ·rename_i ht;rw [ht,if_neg (by omega)]
  rw [this];exact H a
theorem Qsm{m:Nm}{I:Nat→Ins}{k:Nat}(H:Qkt m I k)(ha:0≤(I k).addr)(hn:m.bool (I k).addr.toNat=true):Qkt m I (k+1):=by
 intro a
 have:QG I (a:Int) (k+1)=QG I a k:=by
  conv=>lhs;unfold QG
  split
  ·rename_i t ht;rw [ht]
  ·rename_i ht;rw [ht];split
   ·rename_i h;have e:a=(I k).addr.toNat:=by omega
    have:=(H a).1;rw [e,hn,←e,ht]at this;cases this
   ·rfl
 rw [this];exact H a
theorem Qfz{e:Env}{m m':Nm}{d k:Nat}(H:BIs m k fun _ _=>Qt)(h1:m'.int=QA m.int (k * 40+0) ((Qa d 0 stK).map (QZ e)))(h2:m'.bool=QA m.bool (k * 40+0) ((Qa d 0 stK).map (Z4 e)))
 (hx:∀r,r < 8→QV e d (5 * r)=Qt):BIs m' (k+1) fun _ _=>Qt:=fun j hj r hr=>by
 rw [h1,h2];by_cases h:j=k
 ·subst h;rw [Qtt e d _ _ _ r hr];exact hx r hr
 ·rw [Qr2 e d _ _ _ _ h r hr];exact H j (by omega) r hr
theorem QeT{c:Cx}{n42 n54 h ct bf h' ct' bf':Nm}(H:Qob c n42 n54 h ct bf)(hk:h.int 0 < c.N)(h0:h'.int 0=h.int 0+1)(h1:h'.int 1=h.int 1+1)(ha:Qkt ct' c.I ((h.int 0).toNat+1))(hb:BIs bf' ((h.int 0).toNat+1) fun _ _=>Qt) :
 Qob c n42 n54 h' ct' bf':=by
 have e:(h'.int 0).toNat=(h.int 0).toNat+1:=by have:=H.k0;omega
 exact⟨H.p,by have:=H.k0;omega,by omega,by rw [h1,H.k1,h0],by rw [e];exact ha,by rw [e];exact hb⟩
theorem Qso{c:Cx}{n42 n54 h ct bf:Nm}(hc:c.ok)(H:Qob c n42 n54 h ct bf)(hk:¬h.int 0 < c.N)(hb:ct.bool c.en.toNat=true):Qcv c n42 n54 h ct bf:=by
 have e:h.int 0=c.N:=by have:=H.kN;omega
 have et:(h.int 0).toNat=c.N:=by omega
 have ha:=H.at';rw [et]at ha;refine⟨H.p,by rw [H.k1,e],ha,by have:=H.bf;rw [et]at this;exact this,?_⟩
 have:=(ha c.en.toNat).1;rw [hb,Int.toNat_of_nonneg hc.en0]at this;unfold Cx.f;cases hf:QG c.I c.en c.N with
 |none=>rw [hf]at this;cases this
 |some t=>rfl
theorem Qcv.first{c:Cx}{n42 n54 n82 n83 n84:Nm}(hc:c.ok)(H:Qcv c n42 n54 n82 n83 n84):n83.int c.en.toNat=(c.f:Int)∧c.f < c.N:=by
 have:=(H.at' c.en.toNat).2;rw [Int.toNat_of_nonneg hc.en0]at this;exact⟨this _ H.fst,(JM H.fst).1⟩
theorem Qcv.look{c:Cx}{n42 n54 n82 n83 n84:Nm}(H:Qcv c n42 n54 n82 n83 n84){a:Int}(ha:0≤a):n83.bool a.toNat=(QG c.I a c.N).isSome∧∀t,QG c.I a c.N=some t→n83.int a.toNat=(t:Int):=by
 have:=H.at' a.toNat;rw [Int.toNat_of_nonneg ha]at this;exact this
theorem QoU{i:Ins}(hi:i.wf){x:Int}(h:x∈Q9 i):0≤x:=by
 unfold Q9 at h;split at h
 ·rcases List.mem_append.1 h with h|h
  ·split at h
   ·rw [List.mem_singleton.1 h];exact hi.2.1.1
   ·cases h
  ·split at h
   ·cases h
   ·rw [List.mem_singleton.1 h];exact(QR _).1
 ·cases h
theorem KY(i:Ins):(Q9 i).length≤2:=by
 unfold Q9
 (repeat' split) <;> simp
theorem Qbz{I:Nat→Ins}{N:Nat}:∀(l:List Int) (n:Nat),(Jf I N n l).length≤l.length
 | [],_=>Nat.le_refl _
 |a :: l,n=>by
  have:=Qbz (I:=I) (N:=N) l (n+1);unfold Jf;split <;> simp <;> omega
theorem Qid{I:Nat→Ins}{N:Nat}:∀(l:List Int) (n:Nat) (p:Nat×Bool),p∈Jf I N n l→p.1 < N
 | [],_,p,h=>by cases h
 |a :: l,n,p,h=>by
  unfold Jf at h;rcases List.mem_append.1 h with h|h
  ·split at h
   ·rename_i t ht;rw [List.mem_singleton.1 h];exact(JM ht).1
   ·cases h
  ·exact Qid l (n+1) p h
theorem Qdi{I:Nat→Ins}{N:Nat}(a:Int):∀(l:List Int) (n:Nat),Jf I N n (l ++ [a])=Jf I N n l ++ (match QG I a N with|some t=> [(t,n+l.length==0)]|none=> [])
 | [],n=>by cases h:QG I a N <;> simp [Jf,h]
 |b :: l,n=>by
  simp only [List.cons_append,Jf,Qdi a l (n+1),List.append_assoc,List.length_cons];congr 2;rw [show n+1+l.length=n+(l.length+1)by omega]
theorem Ys{I:Nat→Ins}{N k:Nat}:(X4 I N k).length≤2:=by
 unfold X4;split
 ·exact Nat.le_trans (Qbz _ _) (KY _)
 ·simp
theorem QnB{I:Nat→Ins}{N k:Nat}{p:Nat×Bool}(h:p∈X4 I N k):p.1 < N:=by
 unfold X4 at h;split at h
 ·exact Qid _ _ _ h
 ·cases h
theorem QeS(es:List (Nat×Bool))(k j:Nat):(VP es k j).length≤es.length:=List.length_filterMap_le _ _
theorem QcO{I:Nat→Ins}{N:Nat}(j:Nat):∀k,(Xh I N k j).length≤2 * k
 |0=>Nat.le_refl _
 |k+1=>by
  have h1:=QcO (I:=I) (N:=N) j k;have h2:=QeS (X4 I N k) k j;have h3:=Ys (I:=I) (N:=N) (k:=k);unfold Xh;rw [List.length_append];omega
theorem Qot{es:List (Nat×Bool)}{k j x:Nat}(h:x∈VP es k j):x=k:=by
 obtain⟨p,hp,hx⟩:=List.mem_filterMap.1 h;split at hx
 ·cases hx;rfl
 ·cases hx
theorem QfA{I:Nat→Ins}{N:Nat}{j x:Nat}:∀{k:Nat},x∈Xh I N k j→x < k
 |k+1,h=>by
  unfold Xh at h;rcases List.mem_append.1 h with h|h
  ·have:=QfA h;omega
  ·rw [Qot h];omega
theorem QkH(es:List (Nat×Bool))(p:Nat×Bool)(k j:Nat):VP (es ++ [p]) k j=VP es k j ++ (if p.1=j then [k]else []):=by
 unfold VP;rw [List.filterMap_append];congr 1;by_cases h:p.1=j <;> simp [h]
end Go.Proofs.YteplnamfpodmlaaGreat.T2
end
section
namespace Go.Proofs.YteplnamfpodmlaaGreat.T2
structure Qho(c:Cx)(h ed gd it:Nm):Prop where
 k0:0≤h.int 0
 kN:h.int 0≤c.N
 ed:Vd ed c.N fun j=>if j < (h.int 0).toNat then c.E j else []
 gd:∀j,j < (h.int 0).toNat→gd.int j= -1
 it:Ye it c.N (Xh c.I c.N (h.int 0).toNat)
def Cx.part(c:Cx)(k m:Nat):List (Nat×Bool):=Jf c.I c.N 0 ((Q9 (c.I k)).take m)
structure WW(c:Cx)(n285 n341 n385 n386 h ed it:Nm):Prop where
 k0:0≤n285.int 0
 kN:n285.int 0 < c.N
 self:QG c.I (c.I (n285.int 0).toNat).addr c.N=some (n285.int 0).toNat
 gd:∀j,j < (n285.int 0).toNat+1→n341.int j= -1
 len:n385.int 0=((Q9 (c.I (n285.int 0).toNat)).length:Int)
 row:∀m x,(Q9 (c.I (n285.int 0).toNat))[m]?=some x→n386.int m=x
 m0:0≤h.int 0
 mL:h.int 0≤n385.int 0
 ed:Vd ed c.N fun j=>if j < (n285.int 0).toNat then c.E j else if j=(n285.int 0).toNat then c.part (n285.int 0).toNat (h.int 0).toNat else []
 it:Ye it c.N fun j=>Xh c.I c.N (n285.int 0).toNat j ++ VP (c.part (n285.int 0).toNat (h.int 0).toNat) (n285.int 0).toNat j
theorem QkJ{c:Cx}{h ed gd it:Nm}(h0:h.int 0=0)(he:ed.int=fun _=>0)(hi:it.int=fun _=>0):Qho c h ed gd it where
 k0:=by omega
 kN:=by omega
 ed:=fun j hj=>by
  rw [h0,he];exact⟨rfl,fun n p hp=>by simp at hp⟩
 gd:=fun j hj=>by rw [h0]at hj;simp at hj
 it:=fun j hj=>by
  rw [h0,hi];exact⟨rfl,fun n p hp=>by simp [Xh]at hp⟩
theorem QnI{m m':Nm}{k:Nat}(H:∀j,j < k→m.int j= -1)(h:m'.int=QA m.int k [-1]):∀j,j < k+1→m'.int j= -1:=fun j hj=>by
 rw [h,J1];split
 ·rfl
 ·exact H j (by omega)
theorem QkK{c:Cx}{h ed gd it n341 n385 n386 h':Nm}(H:Qho c h ed gd it)(hk:h.int 0 < c.N)(self:QG c.I (c.I (h.int 0).toNat).addr c.N=some (h.int 0).toNat)(hg:n341.int=QA gd.int (h.int 0).toNat [-1])
 (hl:Ju (Q9 (c.I (h.int 0).toNat)) n385 n386) (h0:h'.int 0=0):WW c h n341 n385 n386 h' ed it where
 k0:=H.k0
 kN:=hk
 self:=self
 gd:=QnI H.gd hg
 len:=hl.1
 row:=hl.2
 m0:=by omega
 mL:=by rw [hl.1];omega
 ed:=H.ed.congr fun j hj=>by
  rw [h0];split
  ·rfl
  ·split <;> rfl
 it:=H.it.congr fun j hj=>by
  rw [h0];show _=_ ++ [];rw [List.append_nil]
theorem WW.tgt{c:Cx}{n285 n341 n385 n386 h ed it:Nm}(H:WW c n285 n341 n385 n386 h ed it)(hm:h.int 0 < n385.int 0) :
 (Q9 (c.I (n285.int 0).toNat))[(h.int 0).toNat]?=some (n386.int (h.int 0).toNat):=by
 have h1:=H.m0;have h2:=H.len;have hlt:(h.int 0).toNat < (Q9 (c.I (n285.int 0).toNat)).length:=by omega
 rw [List.getElem?_eq_getElem hlt,H.row _ _ (List.getElem?_eq_getElem hlt)]
theorem WW.tgt0{c:Cx}{n285 n341 n385 n386 h ed it:Nm}(hc:c.ok)(H:WW c n285 n341 n385 n386 h ed it)(hm:h.int 0 < n385.int 0):0≤n386.int (h.int 0).toNat:=
 QoU (hc.wf _) (List.mem_of_getElem? (H.tgt hm))
theorem Qie{c:Cx}{k m:Nat}:(c.part k m).length≤2:=Nat.le_trans (Qbz _ _) (by have:=KY (c.I k);rw [List.length_take];omega)
theorem WW.elen{c:Cx}{n285 n341 n385 n386 h ed it:Nm}(H:WW c n285 n341 n385 n386 h ed it):0≤ed.int (n285.int 0).toNat∧ed.int (n285.int 0).toNat≤2:=by
 have h1:=(H.ed (n285.int 0).toNat (by have:=H.k0;have:=H.kN;omega)).1
 have h2:=Qie (c:=c) (k:=(n285.int 0).toNat) (m:=(h.int 0).toNat);simp only [Nat.lt_irrefl,if_false,if_true]at h1;omega
theorem WW.ilen{c:Cx}{n285 n341 n385 n386 h ed it:Nm}(H:WW c n285 n341 n385 n386 h ed it){t:Nat}(ht:t < c.N):0≤it.int t∧it.int t≤2 * c.N+2:=by
 have h1:=(H.it t ht).1;rw [List.length_append]at h1;have h2:=Qie (c:=c) (k:=(n285.int 0).toNat) (m:=(h.int 0).toNat);have h3:=QcO (I:=c.I) (N:=c.N) t (n285.int 0).toNat;have h4:=QeS (c.part (n285.int 0).toNat (h.int 0).toNat) (n285.int 0).toNat t;have:=H.kN;have:=H.k0;omega
theorem Qff{c:Cx}{k m:Nat}{x:Int}(h:(Q9 (c.I k))[m]?=some x):c.part k (m+1)=c.part k m ++ (match QG c.I x c.N with|some t=> [(t,m==0)]|none=> []):=by
 have hlt:m < (Q9 (c.I k)).length:=by
  rcases Nat.lt_or_ge m (Q9 (c.I k)).length with h1|h1
  ·exact h1
  ·rw [List.getElem?_eq_none h1]at h;cases h
 unfold Cx.part;rw [List.take_add_one,h];show Jf c.I c.N 0 (_ ++ [x])=_;rw [Qdi,List.length_take,Nat.zero_add,Nat.min_eq_left (by omega)]
 try (cases QG c.I x c.N <;> rfl)
theorem Qoz{c:Cx}{n285 n341 n385 n386 h ed it h':Nm}(H:WW c n285 n341 n385 n386 h ed it)(hm:h.int 0 < n385.int 0)(hf:QG c.I (n386.int (h.int 0).toNat) c.N=none)(h0:h'.int 0=h.int 0+1) :
 WW c n285 n341 n385 n386 h' ed it:=by
 have e:(h'.int 0).toNat=(h.int 0).toNat+1:=by have:=H.m0;omega
 have ep:c.part (n285.int 0).toNat (h'.int 0).toNat=c.part (n285.int 0).toNat (h.int 0).toNat:=by
  rw [e,Qff (H.tgt hm),hf];exact List.append_nil _
 refine {H with m0:=by have:=H.m0;omega,mL:=by omega,ed:=?_,it:=?_}
 ·rw [ep];exact H.ed
 ·rw [ep];exact H.it
theorem Qoy{c:Cx}{n285 n341 n385 n386 h ed it h' ed' re it' ri:Nm}{t:Nat}{L L' z x y:Int}{b:Bool}{u:Bool}(H:WW c n285 n341 n385 n386 h ed it)(hm:h.int 0 < n385.int 0)(hf:QG c.I (n386.int (h.int 0).toNat) c.N=some t)(h0:h'.int 0=h.int 0+1)
 (e1:ed'.int=QA ed.int (n285.int 0).toNat [L]) (hL:L=ed.int (n285.int 0).toNat+1) (e2:ed'.i2=QA ed.i2 (n285.int 0).toNat [re.int]) (e3:ed'.b2=QA ed.b2 (n285.int 0).toNat [re.bool])
 (e4:re.int=QA (ed.i2 (n285.int 0).toNat) ((ed.int (n285.int 0).toNat).toNat * 2) [x,y]) (e5:re.bool=QA (ed.b2 (n285.int 0).toNat) ((ed.int (n285.int 0).toNat).toNat * 2) [b,u]) (hx:x=(t:Int)) (hu:u=((h.int 0).toNat==0))
 (i1:it'.int=QA it.int t [L']) (hL':L'=it.int t+1) (i2:it'.i2=QA it.i2 t [ri.int]) (i4:ri.int=QA (it.i2 t) ((it.int t).toNat * 1) [z]) (hz:z=n285.int 0) :
 WW c n285 n341 n385 n386 h' ed' it':=by
 have e:(h'.int 0).toNat=(h.int 0).toNat+1:=by have:=H.m0;omega
 have ht:t < c.N:=(JM hf).1;have hkN:(n285.int 0).toNat < c.N:=by have:=H.k0;have:=H.kN;omega
 have ep:c.part (n285.int 0).toNat (h'.int 0).toNat=c.part (n285.int 0).toNat (h.int 0).toNat ++ [(t,(h.int 0).toNat==0)]:=by
  rw [e,Qff (H.tgt hm),hf]
 have hk:=(H.ed _ hkN).1;have hi:=(H.it _ ht).1;refine {H with m0:=by have:=H.m0;omega,mL:=by omega,ed:=?_,it:=?_}
 ·refine(Qk6 (p:=(t,(h.int 0).toNat==0)) H.ed hkN e1 (by rw [hL,hk]) e2 e3 e4 e5 hx hu).congr fun j hj=>?_
  unfold XU;by_cases hj:j=(n285.int 0).toNat
  ·subst hj;simp only [if_true,Nat.lt_irrefl,if_false,ep]
  ·simp only [hj,if_false]
 ·refine(Qou (p:=(n285.int 0).toNat) H.it ht i1 (by rw [hL',hi]) i2 i4 (by rw [hz];have:=H.k0;omega)).congr fun j hj=>?_
  unfold XU;rw [ep,QkH];by_cases hj:j=t
  ·subst hj;simp only [if_true,List.append_assoc]
  ·rw [if_neg hj,if_neg (by simpa using fun h=>hj h.symm),List.append_nil]
theorem Qow{c:Cx}{n285 n341 n385 n386 h ed it h':Nm}(H:WW c n285 n341 n385 n386 h ed it)(hm:¬h.int 0 < n385.int 0)(h0:h'.int 0=n285.int 0+1):Qho c h' ed n341 it:=by
 have e:(h'.int 0).toNat=(n285.int 0).toNat+1:=by have:=H.k0;omega
 have em:(h.int 0).toNat=(Q9 (c.I (n285.int 0).toNat)).length:=by have:=H.len;have:=H.mL;omega
 have eE:c.part (n285.int 0).toNat (h.int 0).toNat=c.E (n285.int 0).toNat:=by
  unfold Cx.part Cx.E X4;rw [if_pos H.self,em,List.take_length]
 have hed:=H.ed;have hit:=H.it;rw [eE]at hed hit;refine⟨by have:=H.k0;omega,by have:=H.kN;omega,?_,by rw [e];exact H.gd,?_⟩
 ·refine hed.congr fun j hj=>?_
  rw [e];by_cases h1:j < (n285.int 0).toNat
  ·rw [if_pos h1,if_pos (by omega)]
  ·rw [if_neg h1];by_cases h2:j=(n285.int 0).toNat
   ·rw [if_pos h2,if_pos (by omega),h2]
   ·rw [if_neg h2,if_neg (by omega)]
 ·refine hit.congr fun j hj=>?_
  rw [e];rfl
theorem Qox{c:Cx}{h ed gd it n341 h':Nm}(H:Qho c h ed gd it)(hk:h.int 0 < c.N)(self:QG c.I (c.I (h.int 0).toNat).addr c.N≠some (h.int 0).toNat)(hg:n341.int=QA gd.int (h.int 0).toNat [-1])(h0:h'.int 0=h.int 0+1) :
 Qho c h' ed n341 it:=by
 have e:(h'.int 0).toNat=(h.int 0).toNat+1:=by have:=H.k0;omega
 have eE:c.E (h.int 0).toNat= []:=by unfold Cx.E X4;rw [if_neg self]
 refine⟨by have:=H.k0;omega,by omega,?_,by rw [e];exact QnI H.gd hg,?_⟩
 ·refine H.ed.congr fun j hj=>?_
  rw [e];by_cases h1:j < (h.int 0).toNat
  ·rw [if_pos h1,if_pos (by omega)]
  ·rw [if_neg h1];by_cases h2:j=(h.int 0).toNat
   ·rw [if_pos (by omega),h2,eE]
   ·rw [if_neg (by omega)]
 ·refine H.it.congr fun j hj=>?_
  rw [e];show _=Xh c.I c.N _ j ++ VP (c.E _) _ j;rw [eE];exact(List.append_nil _).symm
structure Qhp(c:Cx)(n286 n288 h gd:Nm):Prop where
 ed:Vd n286 c.N c.E
 it:Ye n288 c.N (Xh c.I c.N c.N)
 k0:0≤h.int 0
 kN:h.int 0≤c.N
 gd:∀j,j < c.N→gd.int j=if j < (h.int 0).toNat then c.G j else -1
theorem QkL{c:Cx}{h ed gd it h':Nm}(H:Qho c h ed gd it)(hk:¬h.int 0 < c.N)(h0:h'.int 0=0):Qhp c ed it h' gd:=by
 have e:(h.int 0).toNat=c.N:=by have:=H.kN;omega
 have h1:=H.ed;have h2:=H.it;have h3:=H.gd;rw [e]at h1 h2 h3;refine⟨h1.congr fun j hj=>by rw [if_pos hj],h2,by omega,by omega,fun j hj=>?_⟩
 rw [h0,h3 j hj];rfl
theorem QqH{c:Cx}{n286 n288 h gd h' gd':Nm}{x:Int}(H:Qhp c n286 n288 h gd)(hk:h.int 0 < c.N)(h0:h'.int 0=h.int 0+1)(hg:gd'.int=QA gd.int (h.int 0).toNat [x])(hx:x=c.G (h.int 0).toNat):Qhp c n286 n288 h' gd':=by
 have e:(h'.int 0).toNat=(h.int 0).toNat+1:=by have:=H.k0;omega
 refine {H with k0:=by have:=H.k0;omega,kN:=by omega,gd:=fun j hj=>?_}
 rw [hg,J1,e];by_cases h1:j=(h.int 0).toNat
 ·rw [if_pos h1,if_pos (by omega),hx,h1]
 ·rw [if_neg h1,H.gd j hj];by_cases h2:j < (h.int 0).toNat
  ·rw [if_pos h2,if_pos (by omega)]
  ·rw [if_neg h2,if_neg (by omega)]
theorem Qo0{c:Cx}{n286 n288 h gd h':Nm}(H:Qhp c n286 n288 h gd)(hk:h.int 0 < c.N)(h0:h'.int 0=h.int 0+1)(hx:c.G (h.int 0).toNat= -1):Qhp c n286 n288 h' gd:=by
 have e:(h'.int 0).toNat=(h.int 0).toNat+1:=by have:=H.k0;omega
 refine {H with k0:=by have:=H.k0;omega,kN:=by omega,gd:=fun j hj=>?_}
 rw [H.gd j hj,e];by_cases h1:j=(h.int 0).toNat
 ·rw [if_neg (by omega),if_pos (by omega),h1,hx]
 ·by_cases h2:j < (h.int 0).toNat
  ·rw [if_pos h2,if_pos (by omega)]
  ·rw [if_neg h2,if_neg (by omega)]
theorem QcP{c:Cx}{n288:Nm}(H:Ye n288 c.N (Xh c.I c.N c.N)){k:Nat}(hk:k < c.N)(h:n288.int k=1):∃g,Xh c.I c.N c.N k= [g]∧g < c.N∧n288.i2 k 0=(g:Int):=by
 obtain⟨h1,h2⟩:=H k hk;have hl:(Xh c.I c.N c.N k).length=1:=by omega
 obtain⟨g,hg⟩:=List.length_eq_one_iff.1 hl;refine⟨g,hg,QfA (by rw [hg];exact List.mem_singleton.2 rfl),h2 0 g (by rw [hg];rfl)⟩
theorem Qtc{c:Cx}{k g:Nat}(h:Xh c.I c.N c.N k= [g]):c.G k=if(c.I k).op=20∧Qv (c.I k)=true∧(c.I k).addr≠(c.I c.f).addr∧Vf (c.I g)=true then(g:Int)else -1:=by
 unfold Cx.G XP;rw [h]
theorem Quc{c:Cx}{n288:Nm}(H:Ye n288 c.N (Xh c.I c.N c.N)){k:Nat}(hk:k < c.N)(h:n288.int k≠1):c.G k= -1:=by
 have hl:(Xh c.I c.N c.N k).length≠1:=by have:=(H k hk).1;omega
 unfold Cx.G XP;split
 ·rename_i g hg;rw [hg]at hl;exact absurd rfl hl
 ·rfl
theorem Quv{c:Cx}{k:Nat}:c.G k < c.N∧(c.G k= -1∨0≤c.G k):=by
 unfold Cx.G XP;split
 ·rename_i g hg;have:=QfA (show g∈Xh c.I c.N c.N k by rw [hg];exact List.mem_singleton.2 rfl)
  split <;> omega
 ·omega
end Go.Proofs.YteplnamfpodmlaaGreat.T2
end
section
namespace Go.Proofs.YteplnamfpodmlaaGreat.T2
theorem Qdv{x y:Nat→Qd}:Qfj x y=true↔∀r,r < 8→x r=y r:=by
 unfold Qfj;rw [List.all_eq_true];refine⟨fun h r hr=>?_,fun h r hr=>?_⟩
 ·have:=h r (List.mem_range.2 hr);simp only [Bool.and_eq_true,beq_iff_eq]at this;obtain⟨⟨⟨⟨h1,h2⟩,h3⟩,h4⟩,h5⟩:=this;cases hx:x r;cases hy:y r;rw [hx,hy]at h1 h2 h3 h4 h5;simp_all
 ·rw [h r (List.mem_range.1 hr)];simp
theorem QcN{m m':Nat→Bool}{v:Bool}:∀(n k:Nat),(∀j,k≤j→j < k+n→m j=m' j)→QaL m v k n=QaL m' v k n
 |0,_,_=>rfl
 |n+1,k,h=>by
  unfold QaL;rw [h k (Nat.le_refl _) (by omega),QcN n (k+1) fun j h1 h2=>h j (by omega) (by omega)]
theorem QkF{m m':Nat→Bool}{v:Bool}{n:Nat}(h:∀j,j < n→m j=m' j):XQ m n v=XQ m' n v:=QcN n 0 fun j _ h2=>h j (by omega)
theorem QnL{m:Nat→Bool}{v:Bool}:∀(n k:Nat),QaL m v k n= -1∨((k:Int)≤QaL m v k n∧QaL m v k n < k+n)
 |0,_=> .inl rfl
 |n+1,k=>by
  unfold QaL;split
  ·right;omega
  ·have:=QnL (m:=m) (v:=v) n (k+1);omega
theorem Qf9{m:Nat→Bool}{v:Bool}{n:Nat}:XQ m n v= -1∨(0≤XQ m n v∧XQ m n v < n):=by
 have:=QnL (m:=m) (v:=v) n 0;unfold XQ;omega
def Cx.run(c:Cx):Nat→VS→Option (Nat→Nat→Qd):=W2 c.I c.E c.G c.N
def Cx.res(c:Cx):Option (Nat→Nat→Qd):=c.run c.R.toNat (Vb c.f)
structure Qoc(c:Cx)(nb nv nm:Nm)(s:VS):Prop where
 b:BIs nb c.N s.b
 v:VIs nv c.N s.v
 m:MIs nm c.N s.m
 ok:okB s.b
 cut:Qce s.b
structure EG(c:Cx)(n286 n318:Nm):Prop where
 ed:Vd n286 c.N c.E
 gd:∀j,j < c.N→n318.int j=c.G j
structure Qah(c:Cx)(n286 n318 h nb nv nm:Nm):Prop where
 eg:EG c n286 n318
 n0:0≤h.int 0
 nR:h.int 0=0∨h.int 0≤c.R
 st:∃s,Qoc c nb nv nm s∧(∀j,0≤s.v j∧s.v j≤h.int 0)∧c.run (c.R - h.int 0).toNat s=c.res
structure Mid(c:Cx)(n286 n318 n387 n407 h nb nv nm:Nm)(s:VS):Prop where
 eg:EG c n286 n318
 n0:0≤n387.int 0
 nR:n387.int 0 < c.R
 k0:0≤n407.int 0
 kN:n407.int 0 < c.N
 m0:0≤h.int 0
 mL:h.int 0≤((c.E (n407.int 0).toNat).length:Int)
 st:Qoc c nb nv nm s
 v:∀j,0≤s.v j∧s.v j≤n387.int 0+1
 run:c.run (c.R - n387.int 0 - 1).toNat (((c.E (n407.int 0).toNat).drop (h.int 0).toNat).foldl (KW c.I c.G (n407.int 0).toNat) s)=c.res
def WA(m:Nm)(r:Nat):Qd:=⟨m.bool (5 * r),m.bool (5 * r+1),m.int (5 * r+2),m.int (5 * r+3),m.int (5 * r+4)⟩
structure Qcx(c:Cx)(n286 n318 n387 n407 h nb nv nm n898:Nm)(s:VS)(p:Nat×Bool):Prop where
 mid:Mid c n286 n318 n387 n407 h nb nv nm s
 pe:(c.E (n407.int 0).toNat)[(h.int 0).toNat]?=some p
 nx:∀r,r < 8→WA n898 r=Xl c.I c.G (n407.int 0).toNat s p r
structure Qfq(c:Cx)(n286 n318 n387 n407 h nb nv nm n1519:Nm)(s:VS)(p:Nat×Bool):Prop where
 mid:Mid c n286 n318 n387 n407 h nb nv nm s
 pe:(c.E (n407.int 0).toNat)[(h.int 0).toNat]?=some p
 nx:∀r,r < 8→WA n1519 r=JE s p.1 (Xl c.I c.G (n407.int 0).toNat s p) r
theorem QsE{c:Cx}{s:VS}{f:Nat}(h:XQ s.m c.N true < 0):c.run f s=some s.b:=by
 unfold Cx.run;cases f <;> (unfold W2;rw [if_pos h])
theorem QkM{c:Cx}{n42 n54 n82 n83 n84 n286 n288 h gd h' nb nm:Nm}{e e':Env}{d:Nat}(hc:c.ok)(B:Qcv c n42 n54 n82 n83 n84)(H:Qhp c n286 n288 h gd)(hk:¬h.int 0 < c.N)(h0:h'.int 0=0)
 (b1:nb.int=QA n84.int (c.f * 40+0) ((Qa d 0 stK).map (QZ e))) (b2:nb.bool=QA n84.bool (c.f * 40+0) ((Qa d 0 stK).map (Z4 e))) (hx:∀r,r < 8→QV e d (5 * r)=Qp)
 (hm:nm.bool=QA n54.bool c.f [true]):Qah c n286 gd h' nb n42 nm where
 eg:=⟨H.ed,fun j hj=>by rw [H.gd j hj,if_pos (by have:=H.kN;omega)]⟩
 n0:=by omega
 nR:= .inl h0
 st:=by
  refine⟨Vb c.f,⟨?_,?_,?_,Qd7 _,QbF _⟩,fun j=>?_,?_⟩
  ·intro k hk r hr;have:=Qf0 (x:=fun _=>Qp) B.bf b1 b2 hx k hk r hr
   rw [this];show _=XU (fun _=>ZP fun _=>Qt) c.f (ZP fun _=>Qp) k r
   unfold XU;split <;> simp [ZP,hr]
  ·intro k hk;show n42.int k=0;rw [B.p.z42]
  ·refine Qcr (v:=fun _=>false) (fun k hk=>?_) hm
   rw [B.p.z54]
  ·rw [h0];exact⟨Int.le_refl _,Int.le_refl _⟩
  ·rw [h0,Int.sub_zero];rfl
theorem Qah.idx{c:Cx}{n286 n318 h nb nv nm:Nm}{s:VS}(H:Qoc c nb nv nm s):XQ nm.bool c.N true=XQ s.m c.N true:=QkF fun j hj=>H.m j hj
theorem QhF{c:Cx}{n286 n318 h nb nv nm:Nm}(H:Qah c n286 n318 h nb nv nm)(hi:XQ nm.bool c.N true < 0):∃b,c.res=some b∧BIs nb c.N b:=by
 obtain⟨s,hs,hv,hr⟩:=H.st;rw [Qah.idx (n286:=n286) (n318:=n318) (h:=h) hs]at hi;exact⟨s.b,by rw [←hr,QsE hi],hs.b⟩
theorem QeV{c:Cx}{n286 n318 h nb nv nm:Nm}(H:Qah c n286 n318 h nb nv nm)(hi:¬XQ nm.bool c.N true < 0)(hR:c.R≤h.int 0):c.res=none:=by
 obtain⟨s,hs,hv,hr⟩:=H.st;rw [Qah.idx (n286:=n286) (n318:=n318) (h:=h) hs]at hi;rw [←hr,show(c.R - h.int 0).toNat=0 by omega]
 unfold Cx.run W2;rw [if_neg hi]
theorem Qfc{c:Cx}{n286 n318 h nb nv nm n407 h' nv' nm':Nm}{x:Int}(H:Qah c n286 n318 h nb nv nm)(hR:h.int 0 < c.R)(hk:n407.int 0=XQ nm.bool c.N true)(hi:¬n407.int 0 < 0)(h0:h'.int 0=0)
 (hv':nv'.int=QA nv.int (n407.int 0).toNat [x]) (hx:x=nv.int (n407.int 0).toNat+1) (hm':nm'.bool=QA nm.bool (n407.int 0).toNat [false]):∃s,Mid c n286 n318 h n407 h' nb nv' nm' s:=by
 obtain⟨s,hs,hv,hr⟩:=H.st;have hix:=Qah.idx (n286:=n286) (n318:=n318) (h:=h) hs;have hlt:=Qf9 (m:=nm.bool) (v:=true) (n:=c.N);have hkN:(n407.int 0).toNat < c.N:=by omega
 have hvk:=hs.v _ hkN;refine⟨QlB s (n407.int 0).toNat,H.eg,H.n0,hR,by omega,by omega,by omega,by omega,⟨hs.b,?_,Qcr hs.m hm',hs.ok,hs.cut⟩,?_,?_⟩
 ·refine QsO hs.v ?_;rw [hv',hx,hvk]
 ·intro j;show 0≤XU s.v _ _ j∧XU s.v _ _ j≤_;unfold XU;split
  ·have:=hv (n407.int 0).toNat;omega
  ·have:=hv j;omega
 ·rw [h0];rw [←hr,show(c.R - h.int 0).toNat=(c.R - h.int 0 - 1).toNat+1 by omega]
  conv=>rhs;unfold Cx.run W2
  rw [if_neg (by rw [←hix,←hk];exact hi),←hix,←hk]
  rfl
theorem Mid.edge{c:Cx}{n286 n318 n387 n407 h nb nv nm:Nm}{s:VS}(H:Mid c n286 n318 n387 n407 h nb nv nm s)(hm:h.int 0 < n286.int (n407.int 0).toNat) :
 ∃p,(c.E (n407.int 0).toNat)[(h.int 0).toNat]?=some p∧p.1 < c.N∧n286.i2 (n407.int 0).toNat ((h.int 0).toNat * 2)=(p.1:Int)∧n286.b2 (n407.int 0).toNat ((h.int 0).toNat * 2+1)=p.2:=by
 have hkN:(n407.int 0).toNat < c.N:=by have:=H.k0;have:=H.kN;omega
 obtain⟨h1,h2⟩:=H.eg.ed _ hkN;have hlt:(h.int 0).toNat < (c.E (n407.int 0).toNat).length:=by have:=H.m0;omega
 refine⟨_,List.getElem?_eq_getElem hlt,QnB (List.getElem_mem hlt),h2 _ _ (List.getElem?_eq_getElem hlt)⟩
theorem Mid.edge'{c:Cx}{n286 n318 n387 n407 h nb nv nm:Nm}{s:VS}(H:Mid c n286 n318 n387 n407 h nb nv nm s){p:Nat×Bool}(hp:(c.E (n407.int 0).toNat)[(h.int 0).toNat]?=some p) :
 h.int 0 < n286.int (n407.int 0).toNat∧p.1 < c.N∧n286.i2 (n407.int 0).toNat ((h.int 0).toNat * 2)=(p.1:Int)∧n286.b2 (n407.int 0).toNat ((h.int 0).toNat * 2+1)=p.2:=by
 have hkN:(n407.int 0).toNat < c.N:=by have:=H.k0;have:=H.kN;omega
 obtain⟨h1,h2⟩:=H.eg.ed _ hkN
 have hlt:(h.int 0).toNat < (c.E (n407.int 0).toNat).length:=by
  rcases Nat.lt_or_ge (h.int 0).toNat (c.E (n407.int 0).toNat).length with h3|h3
  ·exact h3
  ·rw [List.getElem?_eq_none h3]at hp;cases hp
 exact⟨by have:=H.m0;omega,QnB (List.mem_of_getElem? hp),h2 _ _ hp⟩
theorem QhU{c:Cx}{n286 n318 n387 n407 h nb nv nm h' nb' nm':Nm}{s:VS}{p:Nat×Bool}(hc:c.ok)(H:Mid c n286 n318 n387 n407 h nb nv nm s)(hp:(c.E (n407.int 0).toNat)[(h.int 0).toNat]?=some p)(h0:h'.int 0=h.int 0+1)
 (hb:BIs nb' c.N (KW c.I c.G (n407.int 0).toNat s p).b) (hm:MIs nm' c.N (KW c.I c.G (n407.int 0).toNat s p).m):∃s,Mid c n286 n318 n387 n407 h' nb' nv nm' s:=by
 have hv:(KW c.I c.G (n407.int 0).toNat s p).v=s.v:=by unfold KW Qdj;split <;> rfl
 have hlt:(h.int 0).toNat < (c.E (n407.int 0).toNat).length:=by
  rcases Nat.lt_or_ge (h.int 0).toNat (c.E (n407.int 0).toNat).length with h3|h3
  ·exact h3
  ·rw [List.getElem?_eq_none h3]at hp;cases hp
 have e:(h'.int 0).toNat=(h.int 0).toNat+1:=by have:=H.m0;omega
 refine⟨KW c.I c.G (n407.int 0).toNat s p,{H with m0:=by have:=H.m0;omega,mL:=by have:=H.m0;omega,st:=⟨hb,by rw [hv];exact H.st.v,hm,Qi1 hc.wf H.st.ok,Qi0 H.st.cut⟩,v:=by rw [hv];exact H.v,run:=?_}⟩
 rw [←H.run,e,List.drop_eq_getElem_cons hlt,List.foldl_cons];rw [List.getElem?_eq_getElem hlt]at hp;cases hp;rfl
theorem QnQ{c:Cx}{n286 n318 n387 n407 h nb nv nm n1519 h' nb' nm':Nm}{s:VS}{p:Nat×Bool}{e:Env}{d:Nat}(hc:c.ok)(H:Qfq c n286 n318 n387 n407 h nb nv nm n1519 s p)(h0:h'.int 0=h.int 0+1)
 (b1:nb'.int=QA nb.int (p.1 * 40+0) ((Qa d 0 stK).map (QZ e))) (b2:nb'.bool=QA nb.bool (p.1 * 40+0) ((Qa d 0 stK).map (Z4 e))) (hx:∀r,r < 8→QV e d (5 * r)=WA n1519 r)
 (hm:nm'.bool=QA nm.bool p.1 [true]) (hne:¬∀r,r < 8→WA n1519 r=K1 nb.int nb.bool p.1 r):∃s,Mid c n286 n318 n387 n407 h' nb' nv nm' s:=by
 have hpN:=(H.mid.edge' H.pe).2.1
 have hs:Qfj (JE s p.1 (Xl c.I c.G (n407.int 0).toNat s p)) (s.b p.1)≠true:=fun h1=>hne fun r hr=>by
  rw [H.nx r hr,Qdv.1 h1 r hr,H.mid.st.b _ hpN r hr]
 refine QhU hc H.mid H.pe h0 ?_ ?_
 ·unfold KW Qdj;rw [if_neg hs];exact Qf0 H.mid.st.b b1 b2 fun r hr=>by rw [hx r hr,H.nx r hr]
 ·unfold KW Qdj;rw [if_neg hs];exact Qcr H.mid.st.m hm
theorem QhV{c:Cx}{n286 n318 n387 n407 h nb nv nm n1519 h':Nm}{s:VS}{p:Nat×Bool}(hc:c.ok)(H:Qfq c n286 n318 n387 n407 h nb nv nm n1519 s p)(h0:h'.int 0=h.int 0+1)
 (he:∀r,r < 8→WA n1519 r=K1 nb.int nb.bool p.1 r):∃s,Mid c n286 n318 n387 n407 h' nb nv nm s:=by
 have hpN:=(H.mid.edge' H.pe).2.1
 have hs:Qfj (JE s p.1 (Xl c.I c.G (n407.int 0).toNat s p)) (s.b p.1)=true:=Qdv.2 fun r hr=>by
  rw [←H.nx r hr,he r hr,H.mid.st.b _ hpN r hr]
 refine QhU hc H.mid H.pe h0 ?_ ?_
 ·unfold KW Qdj;rw [if_pos hs];exact H.mid.st.b
 ·unfold KW Qdj;rw [if_pos hs];exact H.mid.st.m
theorem QeU{c:Cx}{n286 n318 n387 n407 h nb nv nm h':Nm}{s:VS}(H:Mid c n286 n318 n387 n407 h nb nv nm s)(hm:¬h.int 0 < n286.int (n407.int 0).toNat)(h0:h'.int 0=n387.int 0+1):Qah c n286 n318 h' nb nv nm:=by
 have hkN:(n407.int 0).toNat < c.N:=by have:=H.k0;have:=H.kN;omega
 have hl:=(H.eg.ed _ hkN).1;have hr:=H.run;rw [List.drop_eq_nil_of_le (by omega)]at hr
 refine⟨H.eg,by have:=H.n0;omega,.inr (by have:=H.nR;omega),s,H.st,by rw [h0];exact H.v,?_⟩
 rw [h0,←hr,show c.R - (n387.int 0+1)=c.R - n387.int 0 - 1 by omega]
 rfl
end Go.Proofs.YteplnamfpodmlaaGreat.T2
end
section
namespace Go.Proofs.YteplnamfpodmlaaGreat.T2
theorem Qd4{e:Env}{c:Nat}{xs:List LX}(hl:xs.length=40){r:Nat}(hr:8≤r):stD (PX.dat e c (.a xs)) r=Zs 0:=by
 have h:∀j,40≤j→X3 (PX.dat e c (.a xs)).val j=undef:=fun j hj=>by
  rw [PX.dat_val];simp [X3,PX.den,hl,hj]
 unfold stD;rw [h _ (by omega),h _ (by omega),h _ (by omega),h _ (by omega),h _ (by omega)]
 rfl
theorem Qgl(e:Env)(d c:Nat)(x:SX):stD (PX.dat e c (.a (rxL d 40 x 0 stK)))=ZP (K1 (e.int d) (e.bool d) (x.den e).1.toNat):=by
 funext r;unfold ZP;split
 ·rename_i h;exact QtW e d c x r h
 ·exact Qd4 rfl (by omega)
theorem QtV(e:Env)(d c:Nat):stD (PX.dat e c (.a (Qa d 0 stK)))=ZP fun r=>QV e d (5 * r):=by
 funext r;unfold ZP;split
 ·rename_i h;exact Qfl e d c r h
 ·exact Qd4 rfl (by omega)
theorem YZ{e:Env}{d c:Nat}{A:Nat→Qd}(hi:e.int d=QU A)(hb:e.bool d=QI A):stD (PX.dat e c (.a (Qa d 0 stK)))=ZP A:=by
 rw [QtV];funext r;unfold ZP;split
 ·exact QW e d hi hb r
 ·rfl
theorem QaH{A:Nat→Qd}(h:∀r,(A r).wf):∀r,(ZP A r).wf:=fun r=>by
 unfold ZP;split
 ·exact h r
 ·exact ZJ Qd8
theorem QnR{e:Env}{d k:Nat}{I:Nat→Ins}{G:Nat→Int}{s:VS}{p:Nat×Bool}{A:Nat→Qd}(hi:e.int d=QU (Xs (s.b p.1) (ZP A)))(hb:e.bool d=QI (Xs (s.b p.1) (ZP A)))(hA:XM I (G k) k (s.b k) p.2=A) :
 ∀r,r < 8→QV e d (5 * r)=Xl I G k s p r:=fun r hr=>by
 rw [QW e d hi hb r];have h1:ZP A r=A r:=by unfold ZP;rw [if_pos hr]
 have h2:Xl I G k s p r=Xs (s.b p.1) (XM I (G k) k (s.b k) p.2) r:=by unfold Xl ZP;rw [if_pos hr]
 rw [h2,hA];show Jp _ (ZP A r)=Jp _ (A r);rw [h1]
theorem WU{e:Env}{d:Nat}{m:Nm}(h1:m.int=QnJ e (Qa d 0 stK))(h2:m.bool=QqC e (Qa d 0 stK)):∀r,r < 8→WA m r=QV e d (5 * r):=fun r hr=>by
 unfold WA;rw [h1,h2]
 exact match r,hr with
  |0,_|1,_|2,_|3,_|4,_|5,_|6,_|7,_=>rfl
theorem Qoc.row{c:Cx}{nv nm:Nm}{e:Env}{d k:Nat}{s:VS}(H:Qoc c (e.nm d) nv nm s)(hk:k < c.N):ZP (K1 (e.int d) (e.bool d) k)=s.b k:=by
 funext r;unfold ZP;split
 ·rename_i h;exact H.b k hk r h
 ·rename_i h;exact(H.cut k r (by omega)).symm
end Go.Proofs.YteplnamfpodmlaaGreat.T2
end
