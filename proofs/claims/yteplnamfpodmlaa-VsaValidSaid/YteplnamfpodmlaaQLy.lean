/-
  Part of the proof.
-/
import Derived.Test.YteplnamfpodmlaaQA7
import Derived.Test.YteplnamfpodmlaaQP
import Derived.Test.YteplnamfpodmlaaQFr
import Derived.Test.YteplnamfpodmlaaQC
set_option linter.unusedVariables false
set_option linter.unusedSimpArgs false
set_option maxRecDepth 100000
open Go.ChangeShapes Go.WideShapes Go.ChangeAt Go.RowKit
namespace Go.Proofs.Yteplnamfpodmlaa.T2
def Qcx(I:Nat→Ins)(N:Nat)(en:Int)(m m':Nm):Prop:=(m.int 0=0∧¬m.int 1=0)∨(m.int 0=(N:Int)∧m.int 1=0∧∃f b,Qv I en N=some f∧Qeu I N f b∧BIs m' N b∧Qap b)
theorem Quq{I:Nat→Ins}{N:Nat}{en R x:Int}(h:Xz I N en R= .error x):¬x=0:=by
 unfold Xz at h
 split at h
 ·cases h;decide
 ·split at h
  ·cases h;decide
  ·split at h
   ·cases h;decide
   ·cases h
theorem Qh1{I:Nat→Ins}{G:Nat→Int}{k:Nat}:∀{es:List (Nat×Bool)} {s:VS},Qap s.b→Qap (es.foldl (Vg I G k) s).b
 | [],s,h=>h
 |p :: es,s,h=>Qh1 (es:=es) (Qio h)
theorem QnH{I:Nat→Ins}{E:Nat→List (Nat×Bool)}{G:Nat→Int}{N:Nat}{b:Nat→Nat→Qd}:∀{fuel:Nat} {s:VS},Qap s.b→QaM I E G N fuel s=some b→Qap b
 |0,s,h,hr=>by
  unfold QaM at hr
  split at hr
  ·cases hr;exact h
  ·cases hr
 |n+1,s,h,hr=>by
  unfold QaM at hr
  split at hr
  ·cases hr;exact h
  ·exact QnH (s:=Qlt I E G s _) (Qh1 h) hr
theorem Qhh{I:Nat→Ins}{N:Nat}{en R:Int}{b:Nat→Nat→Qd}(h:Xz I N en R= .ok b):Qap b:=by
 unfold Xz at h
 split at h
 ·cases h
 ·split at h
  ·cases h
  ·rename_i f hf
   split at h
   ·cases h
   ·rename_i b' hb
    cases h
    exact QnH (Qf0 f) hb
theorem Qa4{I:Nat→Ins}{N:Nat}{en R:Int}{m m':Nm}(hI:∀k,(I k).wf)(h:ZZ ⟨I,N,en,R⟩ m m'):Qcx I N en m m':=by
 unfold ZZ at h
 split at h
 ·rename_i x hx
  exact .inl ⟨h.1,by rw [h.2];exact Quq hx⟩
 ·rename_i b hb
  obtain⟨f,h1,h2,h3,h4⟩:=Qkf hI hb
  exact .inr ⟨h.1,h.2.1,f,b,h1,⟨hI,h2,h3,h4⟩,h.2.2,Qhh hb⟩
theorem QfH{ri:Nat→Int}{n:Nat}(hr:∀i,i < n→InR Qb ri (i * Qb.length)):∀k,(Ql ri n k).wf:=fun k=>by
 unfold Ql
 split
 ·exact Qrc (hr k (by assumption))
 ·exact Qn6
theorem Qp{ri:Nat→Int}{n k:Nat}(h:k < n):Ql ri n k=Qe ri k:=if_pos h
theorem Qc6{I J:Nat→Ins}{a:Int}:∀{n:Nat},(∀k,k < n→(I k).addr=(J k).addr)→Qv I a n=Qv J a n
 |0,_=>rfl
 |n+1,h=>by
  unfold Qv
  rw [Qc6 (fun k hk=>h k (by omega)),h n (by omega)]
theorem Q6{ri:Nat→Int}{n:Nat}{a:Int}:Qv (Qe ri) a n=Qv (Ql ri n) a n:=Qc6 fun k hk=>by rw [Qp hk]
theorem Qfs{I:Nat→Ins}{N t:Nat}{x:Int}(ht:Qv I x N=some t):∀{l:List Int} {n:Nat},x∈l→∃tk,(t,tk)∈Vd I N n l
 |a :: l,n,h=>by
  unfold Vd
  rcases List.mem_cons.1 h with rfl|h
  ·exact⟨_,List.mem_append_left _ (by rw [ht];exact List.mem_singleton.2 rfl)⟩
  ·obtain⟨tk,h1⟩:=Qfs ht (n:=n+1) h
   exact⟨tk,List.mem_append_right _ h1⟩
theorem QhW{I:Nat→Ins}{N k j:Nat}{x:Int}(h:(YN I N k)[j]?=some x):∃t tk,Qv I x N=some t∧(t,tk)∈XH I N k:=by
 have hm:=List.mem_of_getElem? h
 unfold YN at hm
 split at hm
 ·rename_i hs
  obtain⟨h1,h2⟩:=List.mem_filter.1 hm
  obtain⟨t,ht⟩:=Option.isSome_iff_exists.1 (show(Qv I x N).isSome=true from h2)
  obtain⟨tk,h3⟩:=Qfs ht (n:=0) h1
  exact⟨t,tk,ht,by unfold XH;rw [if_pos hs];exact h3⟩
 ·cases hm
theorem QhX{ri:Nat→Int}{n k:Nat}(hk:k < n):YN (Qe ri) n k=YN (Ql ri n) n k:=by
 unfold YN
 rw [Q6,Qp hk]
 have:hasA (Qe ri) n=hasA (Ql ri n) n:=by funext x;unfold hasA;rw [Q6]
 rw [this]
theorem Qq8{e:Env}{d t:Nat}{int:Nat→Int}{bool:Nat→Bool}(hi:e.int d=Ys (some t) int)(hb:e.bool d=Yr (some t) bool):∀r,r < 8→Zg e d (5 * r)=Jr int bool t r:=fun r hr=>by
 unfold Zg
 rw [hi,hb]
 unfold Ys Yr Jr
 simp only
 rw [if_neg (by omega),if_neg (by omega)]
theorem Qle{e:Env}{c d k N:Nat}{b:Nat→Nat→Qd}{x:SX}(hB:BIs (e.nm d) N b)(hc:Qap b)(hx:(x.den e).1.toNat=k)(hk:k < N):stD (PX.dat e c (.a (rxL d 40 x 0 stK)))=b k:=by
 rw [QnL,hx]
 funext r
 unfold ZN
 split
 ·exact hB k hk r (by assumption)
 ·exact(hc k r (by omega)).symm
theorem Qiv{a b:Nat→Qd}(h:Xi a b):Vy (ZN a) (ZN b)=true:=Qiw.2 fun r hr=>by
 unfold ZN
 rw [if_pos hr,if_pos hr]
 exact h r hr
def emptyS(s:Nat→Qd):Bool:=(s 0).e && (s 1).e && (s 2).e && (s 3).e && (s 4).e && (s 5).e && (s 6).e && (s 7).e
theorem Qoa:emptyS QdJ=true:=rfl
def QjP:List Sg:= []
def QeN:List PX:= [.a (Qa 0 0 stK)]
def QgX:List Rw:= []
def QgV:Cfg:=⟨2,QjP,[],[],[]⟩
def QjN:List Lf:=
 let z0:VX:= .v (.l (.t (.b false)))
 let z1:List Bk:= [⟨2,.cells 37 (Qa 0 0 stK)⟩]
 [⟨[.c (.v 0 0) false],z0,z1⟩,⟨[.c (.v 0 5) false,.c (.v 0 0) true],z0,z1⟩,⟨[.c (.v 0 10) false,.c (.v 0 5) true,.c (.v 0 0) true],z0,z1⟩,⟨[.c (.v 0 15) false,.c (.v 0 10) true,.c (.v 0 5) true,.c (.v 0 0) true],z0,z1⟩,⟨[.c (.v 0 20) false,.c (.v 0 15) true,.c (.v 0 10) true,.c (.v 0 5) true,.c (.v 0 0) true],z0,z1⟩,⟨[.c (.v 0 25) false,.c (.v 0 20) true,.c (.v 0 15) true,.c (.v 0 10) true,.c (.v 0 5) true,.c (.v 0 0) true],z0,z1⟩,⟨[.c (.v 0 30) false,.c (.v 0 25) true,.c (.v 0 20) true,.c (.v 0 15) true,.c (.v 0 10) true,.c (.v 0 5) true,.c (.v 0 0) true],z0,z1⟩,⟨[.c (.v 0 35) false,.c (.v 0 30) true,.c (.v 0 25) true,.c (.v 0 20) true,.c (.v 0 15) true,.c (.v 0 10) true,.c (.v 0 5) true,.c (.v 0 0) true],z0,z1⟩,⟨[.c (.v 0 35) true,.c (.v 0 30) true,.c (.v 0 25) true,.c (.v 0 20) true,.c (.v 0 15) true,.c (.v 0 10) true,.c (.v 0 5) true,.c (.v 0 0) true],.v (.l (.t (.b true))),z1⟩]
def QjO:List Ob:= []
theorem QgW:QP Try.prog QgV 1000 4 15 Try.f15 QeN QgX=some (QjN,QjO):=by kernel_rfl
theorem isEmpty_any(s:Nat→Qd)(w:World):Calls Try.prog 15 #[ZT s] w (Ret (.bool (emptyS s)) w):=by
 refine ZK (C:= []) (I:= []) Qr rfl Try.func15 QgW (Kh [nmB (ZH s) (QU s)]) w rfl (fun r hr=>(List.not_mem_nil hr).elim) _ trivial ?_
 refine⟨?_,?_,?_,?_,?_,?_,?_,?_,?_,trivial⟩
 all_goals
  intro e u he hc hs
  have h0:e.nm 0=nmB (ZH s) (QU s):=he 0 (by decide)
  rw [show u=_ from hs]
  simp only [QC,Zb,Cd.holds,dv1,dv2,di1,db2,dr1,dr2,dq1,dq2,do1,Z1,Z0,Zx,Zw,Zz,Zy,Zv,Zu,Zt,Zs,Z3,Z2,Xt,Xs,Xp,Xo,Xr,Xq,List.map_cons,List.map_nil,Nat.mul_one,Nat.add_zero,List.getElem?_cons_zero,List.getElem?_cons_succ,Option.some.injEq,exists_eq_left',and_true,and_assoc,Env.int,Env.bool,X8,Nat.reduceLeDiff,Nat.reduceAdd,Jp,Wy,h0,nmB]at hc
  have q:∀k,QU s (5 * k)=(s k).e:=fun k=>by unfold QU;rw [Nat.mul_div_cancel_left _ (by decide),Nat.mul_mod_right];rfl
  have q0:=q 0
  have q1:=q 1
  have q2:=q 2
  have q3:=q 3
  have q4:=q 4
  have q5:=q 5
  have q6:=q 6
  have q7:=q 7
  simp only [Nat.reduceMul]at q0 q1 q2 q3 q4 q5 q6 q7
  refine congrArg Value.bool ?_
  simp only [db2]
  unfold emptyS
  simp only [←q0,←q1,←q2,←q3,←q4,←q5,←q6,←q7,hc,Bool.and_true,Bool.and_false,Bool.true_and,Bool.false_and]
def QsG:List Sg:= []
def QmL:List PX:= []
def QpT:List Rw:= []
def QpR:Cfg:=⟨0,QsG,[],[],[]⟩
def QsE:List Lf:=
 let z0:LX:= .t (.b false)
 let z1:LX:= .t (.b true)
 let z2:LX:= .n .u32 (.i 0)
 let z3:List LX:= [z0,z1,z2,z2,z2,z0,z1,z2,z2,z2,z0,z1,z2,z2,z2,z0,z1,z2,z2,z2,z0,z1,z2,z2,z2,z0,z1,z2,z2,z2,z0,z1,z2,z2,z2,z0,z1,z2,z2,z2]
 [⟨[],.v (.a z3),[⟨0,.cells 37 z3⟩,⟨4,.cells 37 z3⟩]⟩]
def QsF:List Ob:= []
theorem QpS:QP Try.prog QpR 1000 4 19 Try.f19 QmL QpT=some (QsE,QsF):=by kernel_rfl
theorem ltop_any(w:World):Calls Try.prog 19 #[] w (Ret (ZT fun _=>Qy) w):=by
 refine ZK (C:= []) (I:= []) Qr rfl Try.func19 QpS (Kh []) w rfl (fun r hr=>(List.not_mem_nil hr).elim) _ trivial ?_
 refine⟨?_,trivial⟩
 intro e u he hc hs
 rw [show u=_ from hs]
 rfl
theorem Qfn{n:Nat}(h:n≤maxLen):(n:Int) < 2 ^ 63:=by
 have:maxLen < 2 ^ 63:=by decide
 omega
end Go.Proofs.Yteplnamfpodmlaa.T2
namespace Go.Proofs.Yteplnamfpodmlaa
theorem QfK(s:Nat→Qd)(w:World):Calls Try.prog 15 #[ZT s] w (Ret (.bool (T2.emptyS s)) w):=T2.isEmpty_any s w
def Qo4:Con Try.prog:= .mk' ⟨15,[.a stK],.l none,true⟩
 (fun ads=>match ads with| [d1]=>True|_=>False)
 (fun ads=>match ads with| [d1]=>fun _=>0|_=>fun _=>0)
 (fun ads=>match ads with| [d1]=>fun _=>T2.emptyS (stD d1)|_=>fun _=>false)
 ⟨_,Try.func15,by kernel_rfl,by kernel_rfl⟩ (fun ads w hf hp=>by
   obtain⟨d1,_,rfl,f1,hf⟩:=Qf hf
   obtain rfl:=Qn hf
   show Calls _ _ #[d1.val] w _
   rw [Vq f1]
   exact QfK (stD d1) w)
theorem Qo8(w:World):Calls Try.prog 19 #[] w (Ret (ZT fun _=>Qy) w):=T2.ltop_any w
def QuB:Con Try.prog:= .mk' ⟨19,[],.a stK,true⟩
 (fun ads=>match ads with| []=>True|_=>False)
 (fun ads=>match ads with| []=>ZH fun _=>Qy|_=>fun _=>0)
 (fun ads=>match ads with| []=>QU fun _=>Qy|_=>fun _=>false)
 ⟨_,Try.func19,by kernel_rfl,by kernel_rfl⟩ (fun ads w hf hp=>by
   obtain rfl:=Qn hf
   exact Qo8  w)
end Go.Proofs.Yteplnamfpodmlaa
