/-
  Part of the proof.
-/
import Derived.Test.YteplnamfpodmlaaGreatQA6
import Derived.Test.YteplnamfpodmlaaGreatQA4
import Derived.Test.YteplnamfpodmlaaGreatQVsA
import Derived.Test.YteplnamfpodmlaaGreatQVal11
set_option linter.unusedVariables false
set_option linter.unusedSimpArgs false
set_option maxRecDepth 100000
open Go.ChangeShapes Go.WideShapes Go.ChangeAt Go.RowKit
section
namespace Go.Proofs.YteplnamfpodmlaaGreat.T2
def QaK(I:Nat→Ins)(N:Nat):List Int→Bool
 | []=>false
 |a :: _=>hasA I N a
theorem Qic{I:Nat→Ins}{N:Nat}{l:List Int}(hl:l.length≤2):(l.filter (hasA I N)).length=(Jf I N 0 l).length∧∀j x,(l.filter (hasA I N))[j]?=some x→∃t,QG I x N=some t∧(Jf I N 0 l)[j]?=some (t,decide (j=0) && QaK I N l):=by
 match l,hl with
 | [],_=>exact⟨rfl,fun j x h=>by simp at h⟩
 | [a],_=>
   cases ha:QG I a N with
   |none=>exact⟨by simp [Jf,hasA,ha],fun j x h=>by simp [hasA,ha]at h⟩
   |some t=>
    refine⟨by simp [Jf,hasA,ha],fun j x h=>?_⟩
    match j,h with
    |0,h=>
     simp [hasA,ha]at h;subst h;exact⟨t,ha,by simp [Jf,QaK,hasA,ha]⟩
    |j+1,h=>simp [hasA,ha]at h
 | [a,b],_=>
   cases ha:QG I a N with
   |none=>
    cases hb:QG I b N with
    |none=>exact⟨by simp [Jf,hasA,ha,hb],fun j x h=>by simp [hasA,ha,hb]at h⟩
    |some u=>
     refine⟨by simp [Jf,hasA,ha,hb],fun j x h=>?_⟩
     match j,h with
     |0,h=>
      simp [hasA,ha,hb]at h;subst h;exact⟨u,hb,by simp [Jf,QaK,hasA,ha,hb]⟩
     |j+1,h=>simp [hasA,ha,hb]at h
   |some t=>
    cases hb:QG I b N with
    |none=>
     refine⟨by simp [Jf,hasA,ha,hb],fun j x h=>?_⟩
     match j,h with
     |0,h=>
      simp [hasA,ha,hb]at h;subst h;exact⟨t,ha,by simp [Jf,QaK,hasA,ha,hb]⟩
     |j+1,h=>simp [hasA,ha,hb]at h
    |some u=>
     refine⟨by simp [Jf,hasA,ha,hb],fun j x h=>?_⟩
     match j,h with
     |0,h=>
      simp [hasA,ha,hb]at h;subst h;exact⟨t,ha,by simp [Jf,QaK,hasA,ha,hb]⟩
     |1,h=>
      simp [hasA,ha,hb]at h;subst h;exact⟨u,hb,by simp [Jf,QaK,hasA,ha,hb]⟩
     |j+2,h=>simp [hasA,ha,hb]at h
theorem QfP{I:Nat→Ins}{N k:Nat}:(K9 I N k).length=(X4 I N k).length:=by
 unfold K9 X4;split
 ·exact(Qic (VE (I k))).1
 ·rfl
theorem Qli{I:Nat→Ins}{N k j:Nat}{x:Int}(h:(K9 I N k)[j]?=some x):QG I (I k).addr N=some k∧Qv (I k)=true∧∃t,QG I x N=some t∧(X4 I N k)[j]?=some (t,decide (j=0) && QaK I N (Q9 (I k))):=by
 unfold K9 at h;split at h
 ·rename_i hs
  have hv:Qv (I k)=true:=by
   cases hv:Qv (I k)with
   |true=>rfl
   |false=>
    unfold Q9 at h;rw [if_neg (by rw [hv];decide)]at h
    simp at h
  refine⟨hs,hv,?_⟩;unfold X4;rw [if_pos hs];exact(Qic (VE (I k))).2 j x h
 ·simp at h
def gdR(I:Nat→Ins)(N:Nat)(en:Int)(k:Nat):Ins:=match Xh I N N k with| [g]=>if(I k).addr=en then QhD else I g|_=>QhD
def Vs(I:Nat→Ins)(N:Nat)(en:Int)(k:Nat)(s:Nat→Qd)(j:Nat):Nat→Qd:=
 if(I k).op=23∨(I k).op=24 then fun _=>Qp
 else if(I k).op=20∧Vf (gdR I N en k)=true then ZE (I k).cc (gdR I N en k) s (decide (j=0) && hasA I N (I k).imm)
 else Qu (I k) s
theorem QqB{I:Nat→Ins}{N f k:Nat}{en:Int}(hf:QG I en N=some f)(ho:(I k).op=20)(hv:Qv (I k)=true):(Vf (gdR I N en k)=true∧0≤XP I N f k∧gdR I N en k=I (XP I N f k).toNat)∨(Vf (gdR I N en k)=false∧XP I N f k < 0):=by
 have fe:=(JM hf).2;unfold gdR XP;cases hi:Xh I N N k with
 |nil=>exact .inr ⟨rfl,by simp⟩
 |cons g l=>
  cases l with
  |cons g' l=>exact .inr ⟨rfl,by simp⟩
  |nil=>
   simp only;by_cases he:(I k).addr=en
   ·rw [if_pos he,if_neg (by rw [fe];exact fun h=>h.2.2.1 he)]
    exact .inr ⟨rfl,by decide⟩
   ·rw [if_neg he];cases hc:Vf (I g)with
    |false=>
     rw [if_neg (fun h=>absurd h.2.2.2 (by decide))]
     exact .inr ⟨rfl,by decide⟩
    |true=>
     rw [if_pos ⟨ho,hv,by rw [fe];exact he,rfl⟩]
     exact .inl ⟨rfl,by omega,by rw [Int.toNat_natCast]⟩
theorem Qqo{I:Nat→Ins}{N f k j:Nat}{en x:Int}{s:Nat→Qd}(hf:QG I en N=some f)(hx:(K9 I N k)[j]?=some x) :
 ∃t tk,QG I x N=some t∧(X4 I N k)[j]?=some (t,tk)∧Vs I N en k s j=XM I (XP I N f k) k s tk:=by
 obtain⟨hs,hv,t,ht,hp⟩:=Qli hx;refine⟨t,_,ht,hp,?_⟩;unfold Vs XM;split
 ·rfl
 ·by_cases ho:(I k).op=20
  ·have hh:QaK I N (Q9 (I k))=hasA I N (I k).imm:=by
    rw [Qi4 hv,if_pos (Wp.2 (.inl ho))];rfl
   rcases QqB (en:=en) hf ho hv with ⟨g1,g2,g3⟩|⟨g1,g2⟩
   ·rw [if_pos ⟨ho,g1⟩,if_pos ⟨ho,g2⟩,g3,hh]
   ·rw [if_neg (fun h=>by rw [g1]at h;exact absurd h.2 (by decide)),if_neg (fun h=>by omega)]
  ·rw [if_neg (fun h=>ho h.1),if_neg (fun h=>ho h.1)]
def Wo(I:Nat→Ins)(N k j m:Nat):List Nat:=Xh I N j k ++ VP ((X4 I N j).take m) j k
def QaQ(I:Nat→Ins)(l:List Nat):Ins:=match l.getLast? with|some g=>I g|none=>QhD
theorem QkG{es:List (Nat×Bool)}{p:Nat×Bool}{j k:Nat}:VP (es ++ [p]) j k=VP es j k ++ (if p.1=k then [j]else []):=by
 unfold VP;rw [List.filterMap_append];by_cases h:p.1=k
 ·simp [h]
 ·simp [h]
theorem QhB{I:Nat→Ins}{N k j:Nat}:Wo I N k j 0=Xh I N j k:=by unfold Wo;rw [List.take_zero];unfold VP;simp
theorem QhA{I:Nat→Ins}{N k j m:Nat}{x:Int}(hk:QG I (I k).addr N=some k)(hx:(K9 I N j)[m]?=some x):Wo I N k j (m+1)=Wo I N k j m ++ (if x=(I k).addr then [j]else []):=by
 obtain⟨_,_,t,ht,hp⟩:=Qli hx
 have e:(X4 I N j).take (m+1)=(X4 I N j).take m ++ [(t,decide (m=0) && QaK I N (Q9 (I j)))]:=by
  rw [List.take_add_one,hp];rfl
 unfold Wo;rw [e,QkG,←List.append_assoc];congr 1;by_cases h:x=(I k).addr
 ·rw [if_pos h,if_pos];rw [h,hk]at ht;exact(Option.some.inj ht).symm
 ·rw [if_neg h,if_neg];rintro rfl;exact h (JM ht).2.symm
theorem Qsr{I:Nat→Ins}{N k j m:Nat}(hm:(K9 I N j).length≤m):Wo I N k j m=Xh I N (j+1) k:=by
 unfold Wo;rw [List.take_of_length_le (by rw [←QfP];exact hm)]
 rfl
theorem Qo5{I:Nat→Ins}{l:List Nat}{j:Nat}:QaQ I (l ++ [j])=I j:=by unfold QaQ;rw [List.getLast?_append];rfl
theorem QtK{I:Nat→Ins}{N k:Nat}{en:Int}(h:(Xh I N N k).length=1)(he:¬(I k).addr=en):gdR I N en k=QaQ I (Xh I N N k):=by
 unfold gdR QaQ
 match hi:Xh I N N k,h with
 | [g],_=>simp [he]
theorem Quj{I:Nat→Ins}{N k:Nat}{en:Int}(h:¬(Xh I N N k).length=1∨(I k).addr=en):gdR I N en k=QhD:=by
 unfold gdR;split
 ·rename_i g hi;rcases h with h|h
  ·rw [hi]at h;exact absurd rfl h
  ·rw [if_pos h]
 ·rfl
end Go.Proofs.YteplnamfpodmlaaGreat.T2
end
section
namespace Go.Proofs.YteplnamfpodmlaaGreat
def JK(a b:Nat→Qd):Nat→Qd:=fun r=>XF (a r) (b r)
theorem Qir(a b:Qd)(h:a.wf∧b.wf)(w:World):Calls Tryz.prog 50 #[a.val,b.val] w (Ret (XF a b).val w):=Ql1 a b h.1 h.2 w
def Qil:Con Tryz.prog:= .mk' ⟨50,[.a Qb,.a Qb],.a Qb,true⟩
 (fun ads=>match ads with| [d1,d2]=>(QK d1).wf∧(QK d2).wf|_=>False)
 (fun ads=>match ads with| [d1,d2]=>QJ (XF (QK d1) (QK d2))|_=>fun _=>0)
 (fun ads=>match ads with| [d1,d2]=>QO (XF (QK d1) (QK d2))|_=>fun _=>false)
 ⟨_,Tryz.func50,by kernel_rfl,by kernel_rfl⟩ (fun ads w hf hp=>by
   obtain⟨d1,_,rfl,f1,hf⟩:=Qg hf;obtain⟨d2,_,rfl,f2,hf⟩:=Qg hf;obtain rfl:=Qm hf;show Calls _ _ #[d1.val,d2.val] w _;rw [Zg f1,Zg f2];exact Qir (QK d1) (QK d2) hp w)
def QmX:List Sg:= [⟨50,[.a Qb,.a Qb],.a Qb,true⟩]
def Qhb:List PX:= [.a (Qa 0 0 stK),.a (Qa 1 0 stK)]
def QjV:List Rw:= []
def QjT:Cfg:=⟨2,QmX,[]⟩
def QmV:List Lf:= [⟨[.f 143 0 [.a (Qa 0 35 Qb),.a (Qa 1 35 Qb)],.f 125 0 [.a (Qa 0 30 Qb),.a (Qa 1 30 Qb)],.f 107 0 [.a (Qa 0 25 Qb),.a (Qa 1 25 Qb)],.f 89 0 [.a (Qa 0 20 Qb),.a (Qa 1 20 Qb)],.f 71 0 [.a (Qa 0 15 Qb),.a (Qa 1 15 Qb)],.f 53 0 [.a (Qa 0 10 Qb),.a (Qa 1 10 Qb)],.f 35 0 [.a (Qa 0 5 Qb),.a (Qa 1 5 Qb)],.f 17 0 [.a (Qa 0 0 Qb),.a (Qa 1 0 Qb)]],.v (.a (QbD [(17,0),(35,0),(53,0),(71,0),(89,0),(107,0),(125,0),(143,0)]))⟩]
def QmW:List Ob:=
 let z0:List Cd:= [.f 17 0 [.a (Qa 0 0 Qb),.a (Qa 1 0 Qb)]]
 let z1:List Cd:=(.f 35 0 [.a (Qa 0 5 Qb),.a (Qa 1 5 Qb)] :: z0)
 let z2:List Cd:=(.f 53 0 [.a (Qa 0 10 Qb),.a (Qa 1 10 Qb)] :: z1)
 let z3:List Cd:=(.f 71 0 [.a (Qa 0 15 Qb),.a (Qa 1 15 Qb)] :: z2)
 let z4:List Cd:=(.f 89 0 [.a (Qa 0 20 Qb),.a (Qa 1 20 Qb)] :: z3)
 let z5:List Cd:=(.f 107 0 [.a (Qa 0 25 Qb),.a (Qa 1 25 Qb)] :: z4)
 [.pre [] 0 [.a (Qa 0 0 Qb),.a (Qa 1 0 Qb)],.pre z0 0 [.a (Qa 0 5 Qb),.a (Qa 1 5 Qb)],.pre z1 0 [.a (Qa 0 10 Qb),.a (Qa 1 10 Qb)],.pre z2 0 [.a (Qa 0 15 Qb),.a (Qa 1 15 Qb)],.pre z3 0 [.a (Qa 0 20 Qb),.a (Qa 1 20 Qb)],.pre z4 0 [.a (Qa 0 25 Qb),.a (Qa 1 25 Qb)],.pre z5 0 [.a (Qa 0 30 Qb),.a (Qa 1 30 Qb)],.pre (.f 125 0 [.a (Qa 0 30 Qb),.a (Qa 1 30 Qb)] :: z5) 0 [.a (Qa 0 35 Qb),.a (Qa 1 35 Qb)]]
theorem QjU:QS Tryz.prog QjT 2000 Tryz.f24 Qhb QjV=some (QmV,QmW):=by kernel_rfl
set_option maxHeartbeats 1000000 in
theorem Qiq(a b:Nat→Qd)(h:(∀k,(a k).wf)∧∀k,(b k).wf)(w:World):Calls Tryz.prog 24 #[Zm a,Zm b] w (Ret (Zm (JK a b)) w):=by
 refine Q5 (C:= [Qil]) (I:= []) Qo rfl Tryz.func24 QjU (QeG a b) w rfl (fun r hr=>(List.not_mem_nil hr).elim) _ ?_ ?_
 ·have wfs:∀e:Env,Env.agr 2 (QeG a b) e→∀k,(QV e 0 (5 * k)).wf∧(QV e 1 (5 * k)).wf:=fun e he k=>by
   rw [QW (he 0 (by decide)).1 (he 0 (by decide)).2.1,QW (he 1 (by decide)).1 (he 1 (by decide)).2.1];exact⟨h.1 k,h.2 k⟩
  exact⟨fun e he _=>wfs e he 0,fun e he _=>wfs e he 1,fun e he _=>wfs e he 2,fun e he _=>wfs e he 3,fun e he _=>wfs e he 4,fun e he _=>wfs e he 5,fun e he _=>wfs e he 6,fun e he _=>wfs e he 7,trivial⟩
 refine⟨?_,trivial⟩
 all_goals
  intro e u he hc hs;rw [Jh hs];have k0:=QW (he 0 (by decide)).1 (he 0 (by decide)).2.1
  have k1:=QW (he 1 (by decide)).1 (he 1 (by decide)).2.1
  simp only [QC,Cd.holds,List.getElem?_cons_zero,List.getElem?_cons_succ,Option.some.injEq,exists_eq_left',Q1,QH,Qr,Q0,QE,QY,Qy,QF,Qil,List.map_cons,List.map_nil]at hc;obtain⟨c7,c6,c5,c4,c3,c2,c1,c0,_⟩:=hc;rw [Vx];refine QQ fun k hk=>?_
  match k,hk with
  |0,_=>exact(Qk c0.1 c0.2).trans (by rw [JK,←k0 0,←k1 0])
  |1,_=>exact(Qk c1.1 c1.2).trans (by rw [JK,←k0 1,←k1 1])
  |2,_=>exact(Qk c2.1 c2.2).trans (by rw [JK,←k0 2,←k1 2])
  |3,_=>exact(Qk c3.1 c3.2).trans (by rw [JK,←k0 3,←k1 3])
  |4,_=>exact(Qk c4.1 c4.2).trans (by rw [JK,←k0 4,←k1 4])
  |5,_=>exact(Qk c5.1 c5.2).trans (by rw [JK,←k0 5,←k1 5])
  |6,_=>exact(Qk c6.1 c6.2).trans (by rw [JK,←k0 6,←k1 6])
  |7,_=>exact(Qk c7.1 c7.2).trans (by rw [JK,←k0 7,←k1 7])
def Qb9:Con Tryz.prog:= .mk' ⟨24,[.a stK,.a stK],.a stK,true⟩
 (fun ads=>match ads with| [d1,d2]=>(∀k,((stD d1) k).wf)∧∀k,((stD d2) k).wf|_=>False)
 (fun ads=>match ads with| [d1,d2]=>QU (JK (stD d1) (stD d2))|_=>fun _=>0)
 (fun ads=>match ads with| [d1,d2]=>QI (JK (stD d1) (stD d2))|_=>fun _=>false)
 ⟨_,Tryz.func24,by kernel_rfl,by kernel_rfl⟩ (fun ads w hf hp=>by
   obtain⟨d1,_,rfl,f1,hf⟩:=Qg hf;obtain⟨d2,_,rfl,f2,hf⟩:=Qg hf;obtain rfl:=Qm hf;show Calls _ _ #[d1.val,d2.val] w _;rw [Jn f1,Jn f2];exact Qiq (stD d1) (stD d2) hp w)
theorem Qdr(i:Ins)(s:Nat→Qd)(h:i.wf∧∀k,(s k).wf)(w:World):Calls Tryz.prog 49 #[i.val,Zm s] w (Ret (Zm (Qu i s)) w):=Qec i s h w
def W0:Con Tryz.prog:= .mk' ⟨49,[.a Qc,.a stK],.a stK,true⟩
 (fun ads=>match ads with| [d1,d2]=>(QL d1).wf∧∀k,((stD d2) k).wf|_=>False)
 (fun ads=>match ads with| [d1,d2]=>QU (Qu (QL d1) (stD d2))|_=>fun _=>0)
 (fun ads=>match ads with| [d1,d2]=>QI (Qu (QL d1) (stD d2))|_=>fun _=>false)
 ⟨_,Tryz.func49,by kernel_rfl,by kernel_rfl⟩ (fun ads w hf hp=>by
   obtain⟨d1,_,rfl,f1,hf⟩:=Qg hf;obtain⟨d2,_,rfl,f2,hf⟩:=Qg hf;obtain rfl:=Qm hf;show Calls _ _ #[d1.val,d2.val] w _;rw [Zd f1,Jn f2];exact Qdr (QL d1) (stD d2) hp w)
end Go.Proofs.YteplnamfpodmlaaGreat
namespace Go.Proofs.YteplnamfpodmlaaGreat.T2
def Qnw:List Sg:= []
def Qhk:List PX:= [.l (.sl 0 (.v 1 0))]
def Qkm:List Rw:= [⟨0,[none],(.v 1 0)⟩]
def Qkk:Cfg:=⟨2,Qnw,[⟨20,2,0,[.num (.s 3) (some .i64)],3,.inr (.v 1 0),false⟩],[],[]⟩
def Qnu:List Lf:=
 let z0:List Cd:= [.c (.c .geq (.v 1 0) (.i 0)) true,.g 10 0 0]
 [⟨(.c (.r 0 1 0 (.v 10 0)) true :: .c (.c .geq (.v 10 0) (.i 0)) true :: .c (.c .lss (.v 10 0) (.v 1 0)) true :: z0),.v (.l (.n .i64 (.v 10 0))),[]⟩,⟨(.c (.c .lss (.v 10 0) (.v 1 0)) false :: z0),.v (.l (.n .i64 (.i (-1)))),[]⟩]
def Qnv:List Ob:=
 let z0:List Cd:= [.c (.c .lss (.v 10 0) (.v 1 0)) true,.c (.c .geq (.v 1 0) (.i 0)) true,.g 10 0 0]
 let z1:List Cd:=(.c (.r 0 1 0 (.v 10 0)) false :: .c (.c .geq (.v 10 0) (.i 0)) true :: z0)
 let z2:SX:= .o .add .i64 (.v 10 0) (.i 1)
 [.inv [] 0 10 [.n .i64 (.i 0)] [],.cl [.g 10 0 0] (.c .geq (.v 1 0) (.i 0)),.cl z0 (.c .geq (.v 10 0) (.i 0)),.inv z1 0 10 [.n .i64 z2] [],.cl z1 (.c .lss (.v 10 0) z2),.cl z1 (.c .lss (.v 10 0) (.v 1 0))]
theorem Qkl:QS Tryz.prog Qkk 1000 4 20 Tryz.f20 Qhk Qkm=some (Qnu,Qnv):=by kernel_rfl
theorem QkZ(base:Option Addr)(cap:Nat)(int:Nat→Int)(m:Nat→Bool)(n:Nat)(hn:(n:Int) < 2 ^ 63)(w:World)(hr:XW w base n [none] int m) :
 Calls Tryz.prog 20 #[.slice base n cap] w (Ret (.int .i64 (XQ m n true)) w):=by
 refine J9 (C:= []) (I:= [fun d e=>YE m n true (e.int d 0)]) Qo rfl Tryz.func20 Qkl (Yu [nmR base cap int m,nmN n]) w ?_ ?_ _ ?_ ?_
 ·rfl
 ·intro r hr0;rw [List.mem_singleton.1 hr0];exact hr
 ·refine⟨?_,?_,?_,?_,?_,?_,trivial⟩
  all_goals
   intro e he hc;have h0:e.nm 0=nmR base cap int m:=he 0 (by decide)
   have h1:e.nm 1=nmN n:=he 1 (by decide)
   simp only [QC,Ze,Cd.holds,dv1,dv2,di1,db2,dr1,dr2,dq1,dq2,do1,Xc,Xb,ZY,ZX,Xa,ZZ,ZW,ZV,ZU,ZT,Xe,Xd,Jc,Jb,XY,XX,Ja,XZ,List.map_cons,List.map_nil,Nat.mul_one,Nat.add_zero,List.getElem?_cons_zero,List.getElem?_cons_succ,Option.some.injEq,exists_eq_left',and_true,and_assoc,Env.int,Env.bool,Xp,Nat.reduceLeDiff,Nat.reduceAdd,Wf,Jz,h0,h1,nmR,nmN,nmI]at hc ⊢
   first
    |omega
    |(refine⟨by omega,by omega,rfl⟩;done)
    |(have hI:YE m n true ((e.nm 10).int 0):=by(have hpq:=hc;(repeat (first|exact hpq|exact hpq.1|replace hpq:=hpq.2));done)
      have g1:=hI.1
      first
       |omega
       |(rw [Qrb hn (by(have hpq:=hc;(repeat (first|exact hpq|exact hpq.1|replace hpq:=hpq.2));done)) (by(have hpq:=hc;(repeat (first|exact hpq|exact hpq.1|replace hpq:=hpq.2));done))]
         first
          |omega
          |(refine QeR hI (by(have hpq:=hc;(repeat (first|exact hpq|exact hpq.1|replace hpq:=hpq.2));done)) (fun hq=>?_)
            have q:m ((e.nm 10).int 0).toNat=false:=by(have hpq:=hc;(repeat (first|exact hpq|exact hpq.1|replace hpq:=hpq.2));done)
            rw [q]at hq;cases hq)))
    |fail ""
 ·refine⟨?_,?_,trivial⟩
  all_goals
   intro e u he hc hs;have h0:e.nm 0=nmR base cap int m:=he 0 (by decide)
   have h1:e.nm 1=nmN n:=he 1 (by decide)
   simp only [QC,Ze,Cd.holds,dv1,dv2,di1,db2,dr1,dr2,dq1,dq2,do1,Xc,Xb,ZY,ZX,Xa,ZZ,ZW,ZV,ZU,ZT,Xe,Xd,Jc,Jb,XY,XX,Ja,XZ,List.map_cons,List.map_nil,Nat.mul_one,Nat.add_zero,List.getElem?_cons_zero,List.getElem?_cons_succ,Option.some.injEq,exists_eq_left',and_true,and_assoc,Env.int,Env.bool,Xp,Nat.reduceLeDiff,Nat.reduceAdd,Wf,Jz,h0,h1,nmR,nmN,nmI]at hc;rw [show u=_ from hs]
   simp only [PX.den,LX.den,dv1,di1];have hI:YE m n true ((e.nm 10).int 0):=by(have hpq:=hc;(repeat (first|exact hpq|exact hpq.1|replace hpq:=hpq.2));done)
   first
    |(have q:m ((e.nm 10).int 0).toNat=true:=by(have hpq:=hc;(repeat (first|exact hpq|exact hpq.1|replace hpq:=hpq.2));done)
      rw [QeQ hI (by(have hpq:=hc;(repeat (first|exact hpq|exact hpq.1|replace hpq:=hpq.2));done)) q.symm])
    |rw [QhC hI (by(have hpq:=hc;(repeat (first|exact hpq|exact hpq.1|replace hpq:=hpq.2));done))]
def Qb5:Kon Tryz.prog:=Kon.fn 20 [.sl [none]] (.l (some .i64)) false (fun ads=>match ads with| [d1]=>(Xz d1.val:Int) < 2 ^ 63|_=>False)
 (fun ads=>match ads with| [d1]=>fun _=>XQ d1.bool (Xz d1.val) true|_=>fun _=>0) (fun _ _=>false) ⟨_,Tryz.func20,by kernel_rfl,by kernel_rfl⟩ (fun h=>by cases h) (fun ads w hf hp=>by
   obtain⟨d1,_,rfl,f1,hf⟩:=Qg hf;obtain rfl:=Qm hf;obtain⟨g1,g2⟩:=VO f1;show Calls _ _ #[d1.val] w _;rw [g1];exact QkZ _ _ d1.int _ _ hp w g2)
def Qsv(int:Nat→Int):Ins:=⟨int 2,int 3,int 4,int 5,int 6,int 7,int 8,int 9,int 10⟩
structure GI(I:Nat→Ins)(N k:Nat)(l:List Nat)(h:Nm):Prop where
 j0:0≤h.int 0
 n:h.int 1=(l.length:Int)
 o:Qsv h.int=QaQ I l
def QpU:List Sg:= [⟨21,[.sl Qc,.l (some .i64)],.s [some .u32],false,false⟩]
def Qki:List PX:= [.l (.sl 0 (.v 3 0)),.l (.n .i64 (.v 1 0)),.l (.n .u32 (.v 2 0))]
def Qnp:List Rw:= [⟨0,Qc,(.v 3 0)⟩]
def Qnn:Cfg:=⟨6,QpU,[⟨46,4,0,[.num (.s 9) (some .i64),.num (.s 8) (some .i64),.num (.c 7 0) (some .u32),.num (.c 7 1) (some .u32),.num (.c 7 2) (some .i64),.num (.c 7 3) (some .i64),.num (.c 7 4) (some .i64),.num (.c 7 5) (some .i64),.num (.c 7 6) (some .i64),.num (.c 7 7) (some .i64),.num (.c 7 8) (some .i64)],9,.inr (.v 3 0),false⟩,⟨46,8,1,[.num (.s 11) (some .i64),.num (.s 8) (some .i64),.num (.c 7 0) (some .u32),.num (.c 7 1) (some .u32),.num (.c 7 2) (some .i64),.num (.c 7 3) (some .i64),.num (.c 7 4) (some .i64),.num (.c 7 5) (some .i64),.num (.c 7 6) (some .i64),.num (.c 7 7) (some .i64),.num (.c 7 8) (some .i64)],11,.inr (.i 4),true⟩],[],[]⟩
def QpS:List Lf:=
 let z0:SX:= .c .eql (.r 0 9 0 (.v 1 0)) (.v 2 0)
 let z1:List Cd:= [.c (.c .lss (.v 22 0) (.v 3 0)) false,.c (.c .geq (.v 3 0) (.i 0)) true,.g 22 0 0]
 let z2:LX:= .n .i64 (.i 0)
 let z3:List LX:= [.n .u32 (.i 0),.n .u32 (.i 0),z2,z2,z2,z2,z2,z2,z2]
 let z4:List Bk:= [⟨10,.cells 41 (Qa 22 2 Qc)⟩]
 [⟨(.c (.an (.no (.c .neq (.v 22 1) (.i 1))) (.no z0)) false :: z1),.v (.a z3),(⟨6,.cells 41 z3⟩ :: z4)⟩,⟨(.c (.c .neq (.v 22 1) (.i 1)) false :: .c z0 false :: z1),.v (.a (Qa 22 2 Qc)),(⟨6,.cells 41 (Qa 22 2 Qc)⟩ :: z4)⟩]
def QpT:List Ob:=
 let z0:LX:= .n .i64 (.i 0)
 let z1:SX:= .c .lss (.v 22 0) (.v 3 0)
 let z2:Cd:= .c (.c .geq (.v 3 0) (.i 0)) true
 let z3:Cd:= .f 47 0 [(.l (.sl 0 (.v 3 0)),0),(.l (.n .i64 (.v 22 0)),0)]
 let z4:List Cd:= [z3,.c z1 true,z2,.g 22 0 0]
 let z5:Cd:= .c (.c .lss (.v 59 0) (.v 47 0)) true
 let z6:Cd:= .c (.c .geq (.v 47 0) (.i 0)) true
 let z7:Cd:= .c (.c .geq (.v 59 0) (.i 0)) true
 let z8:List Cd:= [.g 59 0 1,z3,.g 22 0 0,z5,z7,z6,.c z1 true,z2]
 let z9:SX:= .c .geq (.v 1 0) (.i 0)
 let z10:SX:= .c .lss (.v 1 0) (.v 3 0)
 let z11:SX:= .c .eql (.r 48 1 0 (.v 59 0)) (.r 0 9 0 (.v 1 0))
 let z12:List Cd:= [.g 59 0 1,z3,.g 22 0 0,z5,z7,z6,.c z1 true,.c z10 true,z2,.c z9 true]
 let z13:List Cd:=(.c (.c .geq (.v 22 0) (.i 0)) true :: .c z11 true :: z12)
 let z14:SX:= .o .add .i64 (.v 59 0) (.i 1)
 let z15:List Cd:=(.c z11 false :: z12)
 let z16:List LX:= [.n .i64 (.v 59 1),.n .u32 (.v 59 2),.n .u32 (.v 59 3),.n .i64 (.v 59 4),.n .i64 (.v 59 5),.n .i64 (.v 59 6),.n .i64 (.v 59 7),.n .i64 (.v 59 8),.n .i64 (.v 59 9),.n .i64 (.v 59 10)]
 let z17:List Cd:=(.c (.c .lss (.v 59 0) (.v 47 0)) false :: z6 :: .g 59 0 1 :: z4)
 let z18:SX:= .o .add .i64 (.v 22 0) (.i 1)
 let z19:List Cd:= [.c (.no (.c .neq (.v 22 1) (.i 1))) true,.c z1 false,z2,.g 22 0 0]
 [.inv [] 0 22 [z0,z0,.n .u32 (.i 0),.n .u32 (.i 0),z0,z0,z0,z0,z0,z0,z0] [],.cl [.g 22 0 0] (.c .geq (.v 3 0) (.i 0)),.pre [.c z1 true,z2,.g 22 0 0] 0 [(.l (.sl 0 (.v 3 0)),0),(.l (.n .i64 (.v 22 0)),0)],.inv z4 1 59 [z0,.n .i64 (.v 22 1),.n .u32 (.v 22 2),.n .u32 (.v 22 3),.n .i64 (.v 22 4),.n .i64 (.v 22 5),.n .i64 (.v 22 6),.n .i64 (.v 22 7),.n .i64 (.v 22 8),.n .i64 (.v 22 9),.n .i64 (.v 22 10)] [],.cl (.g 59 0 1 :: z4) (.c .geq (.v 47 0) (.i 0)),.cl [.g 59 0 1,z3,.g 22 0 0,z5,z6,.c z1 true,z2] (.c .geq (.v 59 0) (.i 0)),.cl z8 z9,.cl z8 z10,.cl (.c z11 true :: z12) (.c .geq (.v 22 0) (.i 0)),.inv z13 1 59 [.n .i64 z14,.n .i64 (.o .add .i64 (.v 59 1) (.i 1)),.n .u32 (.r 0 9 0 (.v 22 0)),.n .u32 (.r 0 9 1 (.v 22 0)),.n .i64 (.r 0 9 2 (.v 22 0)),.n .i64 (.r 0 9 3 (.v 22 0)),.n .i64 (.r 0 9 4 (.v 22 0)),.n .i64 (.r 0 9 5 (.v 22 0)),.n .i64 (.r 0 9 6 (.v 22 0)),.n .i64 (.r 0 9 7 (.v 22 0)),.n .i64 (.r 0 9 8 (.v 22 0))] [],.cl z13 (.c .lss (.v 59 0) z14),.cl z13 (.c .lss (.v 59 0) (.i 4)),.inv z15 1 59 (.n .i64 z14 :: z16) [],.cl z15 (.c .lss (.v 59 0) z14),.cl z15 (.c .lss (.v 59 0) (.i 4)),.inv z17 0 22 (.n .i64 z18 :: z16) [],.cl z17 (.c .lss (.v 22 0) z18),.cl z17 z1,.cl z19 z9,.cl z19 z10]
theorem Qno:QS Tryz.prog Qnn 1000 4 46 Tryz.f46 Qki Qnp=some (QpS,QpT):=by kernel_rfl
theorem QqA{d1 d2:AD}{m m':Nm}:YP.post [d1,d2] m m'↔Ju (K9 (Q4 d1.int) (Xz d1.val) (Q3 d2).toNat) m m':=Iff.rfl
theorem gd0: [YP][0]?=some YP:=rfl
theorem Qss{I:Nat→Ins}{N k j m:Nat}:(Wo I N k j m).length≤2 * j+2:=by
 have h1:=QcO (I:=I) (N:=N) k j
 have h2:(VP ((X4 I N j).take m) j k).length≤2:=by
  refine Nat.le_trans (List.length_filterMap_le ..) (Nat.le_trans (show((X4 I N j).take m).length≤(X4 I N j).length by rw [List.length_take];exact Nat.min_le_right _ _) ?_)
  rw [←QfP];unfold K9;split
  ·exact Nat.le_trans (List.length_filter_le _ _) (VE _)
  ·exact Nat.zero_le _
 unfold Wo;rw [List.length_append];omega
theorem QcZ{l:List Int}{m m':Nm}{j:Int}(h:Ju l m m')(h0:0≤j)(h1:j < m.int 0):l[j.toNat]?=some (m'.int j.toNat):=by
 have hl:j.toNat < l.length:=by have:=h.1;omega
 rw [h.2 _ _ (List.getElem?_eq_getElem hl)];exact List.getElem?_eq_getElem hl
set_option maxHeartbeats 4000000 in
theorem Qon(base:Option Addr)(cap:Nat)(int:Nat→Int)(bool:Nat→Bool)(n k:Nat)(en:Int)(hk:k < n)(hn:n≤4096)(hs:QG (Za int n) (Za int n k).addr n=some k)(w:World)(hr:XW w base n Qc int bool) :
 Calls Tryz.prog 46 #[.slice base n cap,.int .i64 k,.int .u32 en] w (Ret (gdR (Za int n) n en k).val w):=by
 have ka:(Za int n k).addr=int (k * 9):=by rw [KK hk];rfl
 refine J9 (C:= [YP]) (I:= [fun _ e=>(e.nm 22).int 0≤n∧GI (Za int n) n k (Xh (Za int n) n ((e.nm 22).int 0).toNat k) (e.nm 22),fun _ e=>(e.nm 59).int 0≤(e.nm 47).int 0∧GI (Za int n) n k (Wo (Za int n) n k ((e.nm 22).int 0).toNat ((e.nm 59).int 0).toNat) (e.nm 59)]) Qo rfl Tryz.func46 Qno (Yu [nmR base cap int bool,nmN k,nmN en,nmN n]) w rfl ?_ _ ?_ ?_
 ·intro r hr0;rw [List.mem_singleton.1 hr0];exact hr
 ·refine⟨?_,?_,?_,?_,?_,?_,?_,?_,?_,?_,?_,?_,?_,?_,?_,?_,?_,?_,?_,?_,trivial⟩
  all_goals
   intro e he hc;have h0:e.nm 0=nmR base cap int bool:=he 0 (by decide)
   have h1:e.nm 1=nmN k:=he 1 (by decide)
   have h2:e.nm 2=nmN en:=he 2 (by decide)
   have h3:e.nm 3=nmN n:=he 3 (by decide)
   simp only [QC,Ze,Cd.holds,dv1,dv2,di1,db2,dr1,dr2,dq1,dq2,do1,Xc,Xb,ZY,ZX,Xa,ZZ,ZW,ZV,ZU,ZT,Xe,Xd,Jc,Jb,XY,XX,Ja,XZ,List.map_cons,List.map_nil,Nat.mul_one,Nat.add_zero,List.getElem?_cons_zero,List.getElem?_cons_succ,Option.some.injEq,exists_eq_left',and_true,and_assoc,Env.int,Env.bool,Xp,Nat.reduceLeDiff,Nat.reduceAdd,Wf,Jz,gd0,QqA,Jk,h1,h2,h3,nmR,nmN,nmI]at hc
  all_goals
   try (have s0:(e.nm 22).int 0≤n:=by(have hpq:=hc;(repeat (first|exact hpq|exact hpq.1|replace hpq:=hpq.2));done)
        have S2:GI (Za int n) n k (Xh (Za int n) n ((e.nm 22).int 0).toNat k) (e.nm 22):=by(have hpq:=hc;(repeat (first|exact hpq|exact hpq.1|replace hpq:=hpq.2));done)
        have S:=And.intro s0 S2;have s1:=S2.j0)
  all_goals
   try (have j1:(e.nm 22).int 0 < n:=by(have hpq:=hc;(repeat (first|exact hpq|exact hpq.1|replace hpq:=hpq.2));done)
        have E:Ju (K9 (Za int n) n ((e.nm 22).int 0).toNat) (e.nm 47) (e.nm 48):=by
         have q:Ju (K9 (Q4 (e.nm 0).int) ((e.nm 3).int 0).toNat ((e.nm 22).int 0).toNat) (e.nm 47) (e.nm 48):=by(have hpq:=hc;(repeat (first|exact hpq|exact hpq.1|replace hpq:=hpq.2));done)
         rw [h0,h3]at q;have q':Ju (K9 (Q4 int) n ((e.nm 22).int 0).toNat) (e.nm 47) (e.nm 48):=q;rwa [Qib (by omega)]at q'
        have e1:=E.1
        have e2:(K9 (Za int n) n ((e.nm 22).int 0).toNat).length≤2:=by
         unfold K9;split
         ·exact Nat.le_trans (List.length_filter_le _ _) (VE _)
         ·exact Nat.zero_le _)
  all_goals
   try (have t0:(e.nm 59).int 0≤(e.nm 47).int 0:=by(have hpq:=hc;(repeat (first|exact hpq|exact hpq.1|replace hpq:=hpq.2));done)
        have T2:GI (Za int n) n k (Wo (Za int n) n k ((e.nm 22).int 0).toNat ((e.nm 59).int 0).toNat) (e.nm 59):=by(have hpq:=hc;(repeat (first|exact hpq|exact hpq.1|replace hpq:=hpq.2));done)
        have T:=And.intro t0 T2;have t1:=T.2.j0;have t2:=T.2.n;have t3:=Qss (I:=Za int n) (N:=n) (k:=k) (j:=((e.nm 22).int 0).toNat) (m:=((e.nm 59).int 0).toNat))
  all_goals
   first
    |(simp only [QC,Ze,Cd.holds,dv1,dv2,di1,db2,dr1,dr2,dq1,dq2,do1,Xc,Xb,ZY,ZX,Xa,ZZ,ZW,ZV,ZU,ZT,Xe,Xd,Jc,Jb,XY,XX,Ja,XZ,List.map_cons,List.map_nil,Nat.mul_one,Nat.add_zero,List.getElem?_cons_zero,List.getElem?_cons_succ,Option.some.injEq,exists_eq_left',and_true,and_assoc,Env.int,Env.bool,Xp,Nat.reduceLeDiff,Nat.reduceAdd,Wf,Jz,h1,h2,h3,nmR,nmN,nmI];first|omega|(rw [Q7 (by omega) (by omega)];omega)|fail "")
    |(show(0≤(e.nm 22).int 0∧(e.nm 22).int 0 < ((e.nm 3).int 0).toNat)∧(((e.nm 3).int 0).toNat:Int) < 2 ^ 63
      rw [h3];show(0≤(e.nm 22).int 0∧(e.nm 22).int 0 < ((n:Int).toNat:Int))∧((n:Int).toNat:Int) < 2 ^ 63;omega)
    |skip
  ·exact⟨by show(0:Int)≤n;omega,Int.le_refl 0,rfl,rfl⟩
  ·refine⟨by show 0≤(e.nm 47).int 0;omega,Int.le_refl 0,?_,?_⟩
   ·show(e.nm 22).int 1=((Wo (Za int n) n k ((e.nm 22).int 0).toNat 0).length:Int);rw [QhB];exact S.2.n
   ·show Qsv (e.nm 22).int=QaQ (Za int n) (Wo (Za int n) n k ((e.nm 22).int 0).toNat 0);rw [QhB];exact S.2.o
  ·have m1:(e.nm 59).int 0 < (e.nm 47).int 0:=by(have hpq:=hc;(repeat (first|exact hpq|exact hpq.1|replace hpq:=hpq.2));done)
   have hx:=QcZ E t1 m1
   have hq:(e.nm 48).int ((e.nm 59).int 0).toNat=(Za int n k).addr:=by
    have q:(e.nm 48).int ((e.nm 59).int 0).toNat=(e.nm 0).int (((k:Nat):Int).toNat * 9):=by(have hpq:=hc;(repeat (first|exact hpq|exact hpq.1|replace hpq:=hpq.2));done)
    rw [q,h0,ka];rfl
   have st:=QhA hs hx;rw [if_pos hq]at st;have sN:IntKind.i64.wrap ((e.nm 59).int 0+1)=(e.nm 59).int 0+1:=Q7 t1 (by omega)
   have sL:IntKind.i64.wrap ((e.nm 59).int 1+1)=(e.nm 59).int 1+1:=Q7 (by omega) (by omega)
   have eT:(IntKind.i64.wrap ((e.nm 59).int 0+1)).toNat=((e.nm 59).int 0).toNat+1:=by rw [sN];omega
   refine⟨?_,?_,?_,?_⟩
   ·show IntKind.i64.wrap ((e.nm 59).int 0+1)≤(e.nm 47).int 0;omega
   ·show 0≤IntKind.i64.wrap ((e.nm 59).int 0+1);omega
   ·show IntKind.i64.wrap ((e.nm 59).int 1+1)=((Wo (Za int n) n k ((e.nm 22).int 0).toNat (IntKind.i64.wrap ((e.nm 59).int 0+1)).toNat).length:Int);rw [eT,st,List.length_append,sL,t2];rfl
   ·show Q4 (e.nm 0).int ((e.nm 22).int 0).toNat=QaQ (Za int n) (Wo (Za int n) n k ((e.nm 22).int 0).toNat (IntKind.i64.wrap ((e.nm 59).int 0+1)).toNat);rw [eT,st,Qo5,KK (show((e.nm 22).int 0).toNat < n by omega),h0]
    rfl
  ·have m1:(e.nm 59).int 0 < (e.nm 47).int 0:=by(have hpq:=hc;(repeat (first|exact hpq|exact hpq.1|replace hpq:=hpq.2));done)
   have hx:=QcZ E t1 m1
   have hq:¬(e.nm 48).int ((e.nm 59).int 0).toNat=(Za int n k).addr:=by
    have q:¬(e.nm 48).int ((e.nm 59).int 0).toNat=(e.nm 0).int (((k:Nat):Int).toNat * 9):=by(have hpq:=hc;(repeat (first|exact hpq|exact hpq.1|replace hpq:=hpq.2));done)
    rw [h0]at q;rw [ka];exact q
   have st:=QhA hs hx;rw [if_neg hq,List.append_nil]at st;have sN:IntKind.i64.wrap ((e.nm 59).int 0+1)=(e.nm 59).int 0+1:=Q7 t1 (by omega)
   have eT:(IntKind.i64.wrap ((e.nm 59).int 0+1)).toNat=((e.nm 59).int 0).toNat+1:=by rw [sN];omega
   refine⟨?_,?_,?_,?_⟩
   ·show IntKind.i64.wrap ((e.nm 59).int 0+1)≤(e.nm 47).int 0;omega
   ·show 0≤IntKind.i64.wrap ((e.nm 59).int 0+1);omega
   ·show(e.nm 59).int 1=((Wo (Za int n) n k ((e.nm 22).int 0).toNat (IntKind.i64.wrap ((e.nm 59).int 0+1)).toNat).length:Int);rw [eT,st];exact t2
   ·show Qsv (e.nm 59).int=QaQ (Za int n) (Wo (Za int n) n k ((e.nm 22).int 0).toNat (IntKind.i64.wrap ((e.nm 59).int 0+1)).toNat);rw [eT,st];exact T.2.o
  ·have m1:¬(e.nm 59).int 0 < (e.nm 47).int 0:=by(have hpq:=hc;(repeat (first|exact hpq|exact hpq.1|replace hpq:=hpq.2));done)
   have sN:IntKind.i64.wrap ((e.nm 22).int 0+1)=(e.nm 22).int 0+1:=Q7 s1 (by omega)
   have eT:(IntKind.i64.wrap ((e.nm 22).int 0+1)).toNat=((e.nm 22).int 0).toNat+1:=by rw [sN];omega
   have he:=Qsr (I:=Za int n) (N:=n) (k:=k) (j:=((e.nm 22).int 0).toNat) (m:=((e.nm 59).int 0).toNat) (by omega)
   refine⟨?_,?_,?_,?_⟩
   ·show IntKind.i64.wrap ((e.nm 22).int 0+1)≤n;omega
   ·show 0≤IntKind.i64.wrap ((e.nm 22).int 0+1);omega
   ·show(e.nm 59).int 1=((Xh (Za int n) n (IntKind.i64.wrap ((e.nm 22).int 0+1)).toNat k).length:Int);rw [eT,←he];exact t2
   ·show Qsv (e.nm 59).int=QaQ (Za int n) (Xh (Za int n) n (IntKind.i64.wrap ((e.nm 22).int 0+1)).toNat k);rw [eT,←he];exact T.2.o
 ·refine⟨?_,?_,trivial⟩
  all_goals
   intro e u he hc hs0;have h0:e.nm 0=nmR base cap int bool:=he 0 (by decide)
   have h1:e.nm 1=nmN k:=he 1 (by decide)
   have h2:e.nm 2=nmN en:=he 2 (by decide)
   have h3:e.nm 3=nmN n:=he 3 (by decide)
   simp only [QC,Ze,Cd.holds,dv1,dv2,di1,db2,dr1,dr2,dq1,dq2,do1,Xc,Xb,ZY,ZX,Xa,ZZ,ZW,ZV,ZU,ZT,Xe,Xd,Jc,Jb,XY,XX,Ja,XZ,List.map_cons,List.map_nil,Nat.mul_one,Nat.add_zero,List.getElem?_cons_zero,List.getElem?_cons_succ,Option.some.injEq,exists_eq_left',and_true,and_assoc,Env.int,Env.bool,Xp,Nat.reduceLeDiff,Nat.reduceAdd,Wf,Jz,gd0,QqA,Jk,h1,h2,h3,nmR,nmN,nmI]at hc;rw [show u=_ from hs0]
   have s0:(e.nm 22).int 0≤n:=by(have hpq:=hc;(repeat (first|exact hpq|exact hpq.1|replace hpq:=hpq.2));done)
   have S2:GI (Za int n) n k (Xh (Za int n) n ((e.nm 22).int 0).toNat k) (e.nm 22):=by(have hpq:=hc;(repeat (first|exact hpq|exact hpq.1|replace hpq:=hpq.2));done)
   have S:=And.intro s0 S2;have s1:=S.2.j0;have s2:¬(e.nm 22).int 0 < n:=by(have hpq:=hc;(repeat (first|exact hpq|exact hpq.1|replace hpq:=hpq.2));done)
   have jn:((e.nm 22).int 0).toNat=n:=by have:=S.1;omega
   have g1:=S.2.n;have g2:=S.2.o;rw [jn]at g1 g2
  ·have q:=hc.1;rw [h0]at q
   rw [Quj (by
    by_cases hl:(Xh (Za int n) n n k).length=1
    ·refine .inr ?_;rw [ka];refine Classical.byContradiction fun hne=>q ⟨by rw [g1,hl];rfl,hne⟩
    ·exact .inl hl)]
   rfl
  ·have q1:(e.nm 22).int 1=1:=by(have hpq:=hc;(repeat (first|exact hpq|exact hpq.1|replace hpq:=hpq.2));done)
   have q2:¬(e.nm 0).int (((k:Nat):Int).toNat * 9)=en:=by(have hpq:=hc;(repeat (first|exact hpq|exact hpq.1|replace hpq:=hpq.2));done)
   rw [h0]at q2;rw [QtK (by omega) (by rw [ka];exact q2),←g2]
   rfl
def Qdo:Kon Tryz.prog:=Kon.fn 46 [.sl Qc,.l (some .i64),.l (some .u32)] (.a Qc) false
 (fun ads=>match ads with| [d1,d2,d3]=>(0≤Q3 d2∧Q3 d2 < Xz d1.val)∧Xz d1.val≤4096∧QG (Za d1.int (Xz d1.val)) (Za d1.int (Xz d1.val) (Q3 d2).toNat).addr (Xz d1.val)=some (Q3 d2).toNat|_=>False)
 (fun ads=>match ads with| [d1,d2,d3]=>Q2 (gdR (Za d1.int (Xz d1.val)) (Xz d1.val) (Q3 d3) (Q3 d2).toNat)|_=>fun _=>0) (fun _ _=>false) ⟨_,Tryz.func46,by kernel_rfl,by kernel_rfl⟩ (fun h=>by cases h) (fun ads w hf hp=>by
   obtain⟨d1,_,rfl,f1,hf⟩:=Qg hf;obtain⟨d2,_,rfl,f2,hf⟩:=Qg hf;obtain⟨d3,_,rfl,f3,hf⟩:=Qg hf;obtain rfl:=Qm hf;obtain⟨g1,g2⟩:=VO f1;obtain⟨⟨p1,p2⟩,p3,p4⟩:=hp;show Calls _ _ #[d1.val,d2.val,d3.val] w _;rw [g1,QB f2,QB f3,show Value.int .i64 (Q3 d2)=Value.int .i64 (((Q3 d2).toNat:Nat):Int)by rw [Int.toNat_of_nonneg p1]]
   exact Qon _ _ d1.int d1.bool _ _ _ (by omega) p3 p4 w g2)
end Go.Proofs.YteplnamfpodmlaaGreat.T2
end
section
namespace Go.Proofs.YteplnamfpodmlaaGreat.T2
def QpO:List Sg:= [⟨19,[],.b (.a Qb),true,false⟩,⟨17,[.a Qb],.b (.a stK),true,false⟩,⟨46,[.sl Qc,.l (some .i64),.l (some .u32)],.b (.a Qc),true,false⟩,⟨47,[.a Qc],.b (.l none),true,false⟩,⟨16,[.sl Qc,.l (some .u32)],.b (.l (some .i64)),true,false⟩,⟨48,[.l (some .i64),.a Qc,.a stK,.l none],.b (.a stK),true,false⟩,⟨49,[.a Qc,.a stK],.b (.a stK),true,false⟩]
def Qkd:List PX:= [.l (.sl 0 (.v 5 0)),.l (.n .i64 (.v 1 0)),.l (.n .u32 (.v 2 0)),.a (Qa 3 0 stK),.l (.n .i64 (.v 4 0))]
def Qnj:List Rw:= [⟨0,Qc,(.v 5 0)⟩]
def Qnh:Cfg:=⟨10,QpO,[],[],[]⟩
def QpM:List Lf:=
 let z0:SX:= .r 0 9 2 (.v 1 0)
 let z1:Cd:= .c (.c .geq (.v 1 0) (.i 0)) true
 let z2:Cd:= .c (.c .lss (.v 1 0) (.v 5 0)) true
 let z3:Cd:= .c (.c .geq (.v 5 0) (.i 0)) true
 let z4:Cd:= .f 118 3 [(.a (Qa 86 0 Qc),0)]
 let z5:Cd:= .f 86 2 [(.l (.sl 0 (.v 5 0)),0),(.l (.n .i64 (.v 1 0)),0),(.l (.n .u32 (.v 2 0)),0)]
 let z6:Cd:= .c (.c .eql z0 (.i 24)) false
 let z7:Cd:= .c (.c .eql z0 (.i 23)) false
 let z8:List Bk:= [⟨34,.cells 41 ((rxL 0 9 (.v 1 0) 0 Qc))⟩,⟨90,.cells 41 (Qa 86 0 Qc)⟩]
 [⟨[.f 78 1 [(.a (Qa 74 0 Qb),0)],.f 74 0 [],.c (.an (.no (.c .eql z0 (.i 23))) (.no (.c .eql z0 (.i 24)))) false,z1,z2,z3],.v (.a (Qa 78 0 stK)),[⟨10,.cells 38 (Qa 3 0 stK)⟩,⟨14,.cells 38 (Qa 78 0 stK)⟩,⟨34,.cells 41 ((rxL 0 9 (.v 1 0) 0 Qc))⟩]⟩,⟨[.f 178 5 [(.l (.n .i64 (.r 0 9 5 (.v 1 0))),0),(.a (Qa 86 0 Qc),0),(.a (Qa 3 0 stK),0),(.l (.t (.an (.c .eql (.v 4 0) (.i 0)) (.c .geq (.v 166 0) (.i 0)))),0)],.f 166 4 [(.l (.sl 0 (.v 5 0)),0),(.l (.n .u32 (.r 0 9 1 (.v 1 0))),0)],z4,z5,z6,z7,.c (.c .eql z0 (.i 20)) true,z2,z3,.c (.v 118 0) true,z1],.v (.a (Qa 178 0 stK)),(⟨10,.cells 38 (Qa 3 0 stK)⟩ :: ⟨14,.cells 38 (Qa 178 0 stK)⟩ :: z8)⟩,⟨[.f 134 6 [(.a (rxL 0 9 (.v 1 0) 0 Qc),0),(.a (Qa 3 0 stK),0)],.c (.an (.c .eql z0 (.i 20)) (.v 118 0)) false,z4,z5,z7,z6,z1,z2,z3],.v (.a (Qa 134 0 stK)),(⟨10,.cells 38 (Qa 3 0 stK)⟩ :: ⟨14,.cells 38 (Qa 134 0 stK)⟩ :: z8)⟩]
def QpN:List Ob:=
 let z0:SX:= .r 0 9 2 (.v 1 0)
 let z1:Cd:= .c (.c .geq (.v 1 0) (.i 0)) true
 let z2:Cd:= .c (.c .lss (.v 1 0) (.v 5 0)) true
 let z3:Cd:= .c (.c .geq (.v 5 0) (.i 0)) true
 let z4:List Cd:= [.c (.an (.no (.c .eql z0 (.i 23))) (.no (.c .eql z0 (.i 24)))) false,z1,z2,z3]
 let z5:Cd:= .c (.c .eql z0 (.i 23)) false
 let z6:Cd:= .c (.c .eql z0 (.i 24)) false
 let z7:PX:= .l (.sl 0 (.v 5 0))
 let z8:Cd:= .f 86 2 [(z7,0),(.l (.n .i64 (.v 1 0)),0),(.l (.n .u32 (.v 2 0)),0)]
 let z9:PX:= .a (Qa 86 0 Qc)
 let z10:List Cd:= [.f 118 3 [(z9,0)],z8,z6,z5,.c (.c .eql z0 (.i 20)) true,z2,z3,.c (.v 118 0) true,z1]
 let z11:PX:= .l (.n .u32 (.r 0 9 1 (.v 1 0)))
 [.cl [] (.c .geq (.v 1 0) (.i 0)),.cl [] (.c .lss (.v 1 0) (.v 5 0)),.cl [] (.c .geq (.v 5 0) (.i 0)),.pre z4 0 [],.pre (.f 74 0 [] :: z4) 1 [(.a (Qa 74 0 Qb),0)],.pre [z5,z6,z1,z2,z3] 2 [(z7,0),(.l (.n .i64 (.v 1 0)),0),(.l (.n .u32 (.v 2 0)),0)],.pre [.c (.c .eql z0 (.i 20)) true,z8,z5,z6,z1,z2,z3] 3 [(z9,0)],.pre (.c (.c .eql (.v 4 0) (.i 0)) true :: z10) 4 [(z7,0),(z11,0)],.pre (.f 166 4 [(z7,0),(z11,0)] :: z10) 5 [(.l (.n .i64 (.r 0 9 5 (.v 1 0))),0),(z9,0),(.a (Qa 3 0 stK),0),(.l (.t (.an (.c .eql (.v 4 0) (.i 0)) (.c .geq (.v 166 0) (.i 0)))),0)],.pre [.c (.an (.c .eql z0 (.i 20)) (.v 118 0)) false,.f 118 3 [(z9,0)],z8,z5,z6,z1,z2,z3] 6 [(.a (rxL 0 9 (.v 1 0) 0 Qc),0),(.a (Qa 3 0 stK),0)]]
theorem Qni:QS Tryz.prog Qnh 1000 4 23 Tryz.f23 Qkd Qnj=some (QpM,QpN):=by kernel_rfl
def afC:List (Kon Tryz.prog):= [V9.kon,Wy.kon,Qdo,KD.kon,VR,Qb7.kon,W0.kon]
theorem af0:afC[0]?=some V9.kon:=rfl
theorem af1:afC[1]?=some Wy.kon:=rfl
theorem af2:afC[2]?=some Qdo:=rfl
theorem af3:afC[3]?=some KD.kon:=rfl
theorem af4:afC[4]?=some VR:=rfl
theorem af5:afC[5]?=some Qb7.kon:=rfl
theorem af6:afC[6]?=some W0.kon:=rfl
theorem Qft{m m':Nm}:V9.kon.post [] m m'↔m.int=QJ Qp∧m.bool=QO Qp:=Iff.rfl
theorem Qfu{d:AD}{m m':Nm}:Wy.kon.post [d] m m'↔(m.int=QU fun _=>QK d)∧m.bool=QI fun _=>QK d:=Iff.rfl
theorem Qqr{d1 d2 d3:AD}{m m':Nm}:Qdo.post [d1,d2,d3] m m'↔m.int=Q2 (gdR (Za d1.int (Xz d1.val)) (Xz d1.val) (Q3 d3) (Q3 d2).toNat)∧m.bool=fun _=>false:=Iff.rfl
theorem Qqs{d:AD}{m m':Nm}:KD.kon.post [d] m m'↔(m.int=fun _=>0)∧m.bool=fun _=>Vf (QL d):=Iff.rfl
theorem Qfv{d1 d2:AD}{m m':Nm}:VR.post [d1,d2] m m'↔(m.int=fun _=>Zw (Q4 d1.int) (Xz d1.val) (Q3 d2))∧m.bool=fun _=>false:=Iff.rfl
theorem Qqt{d1 d2 d3 d4:AD}{m m':Nm}:Qb7.kon.post [d1,d2,d3,d4] m m'↔m.int=QU (ZE (Q3 d1) (QL d2) (stD d3) (WD d4))∧m.bool=QI (ZE (Q3 d1) (QL d2) (stD d3) (WD d4)):=Iff.rfl
theorem Qqu{d1 d2:AD}{m m':Nm}:W0.kon.post [d1,d2] m m'↔m.int=QU (Qu (QL d1) (stD d2))∧m.bool=QI (Qu (QL d1) (stD d2)):=Iff.rfl
theorem Qbo{e:Env}{d:Nat}{A:Nat→Qd}(hi:e.int d=QU A)(hb:e.bool d=QI A):PX.den e (.a (Qa d 0 stK))=Zm A:=by
 rw [Zy];exact QQ fun k _=>QW e d hi hb k
theorem QtC{s:Nat→Qd}(hz:∀k,8≤k→s k=Zs 0):ZP s=s:=by
 funext k;unfold ZP;split
 ·rfl
 ·exact(hz k (by omega)).symm
theorem Quk{I:Nat→Ins}{N k:Nat}{en:Int}(hI:∀k,(I k).wf):(gdR I N en k).wf:=by
 unfold gdR;split
 ·split
  ·exact QaM
  ·exact hI _
 ·exact QaM
set_option maxHeartbeats 4000000 in
theorem Qod(base:Option Addr)(cap:Nat)(int:Nat→Int)(bool:Nat→Bool)(n k:Nat)(en:Int)(s:Nat→Qd)(j:Nat)(hk:k < n)(hn:n≤4096)(hs:QG (Za int n) (Za int n k).addr n=some k)(hI:∀k,(Za int n k).wf)(hw:∀r,(s r).wf)(hz:∀r,8≤r→s r=Zs 0)(w:World)(hr:XW w base n Qc int bool) :
 Calls Tryz.prog 23 #[.slice base n cap,.int .i64 k,.int .u32 en,Zm s,.int .i64 j] w (Ret (Zm (Vs (Za int n) n en k s j)) w):=by
 have ki:∀c,int (k * 9+c)=int (k * 9+c):=fun _=>rfl
 have io:(Za int n k).op=int (k * 9+2):=by rw [KK hk];rfl
 have ii:(Za int n k).imm=int (k * 9+1):=by rw [KK hk];rfl
 have ic:(Za int n k).cc=int (k * 9+5):=by rw [KK hk];rfl
 have base':∀e:Env,e.nm 0=nmR base cap int bool→e.nm 1=nmN k→e.nm 3=nmB (QU s) (QI s)→QL (PX.dat e 0 (.a (rxL 0 9 (.v 1 0) 0 Qc)))=Za int n k∧stD (PX.dat e 0 (.a (Qa 3 0 stK)))=s:=fun e h0 h1 h3=>by
  refine⟨?_,?_⟩
  ·rw [Qcp,KK hk];show Q4 (e.nm 0).int ((e.nm 1).int 0).toNat=_;rw [h0,h1];rfl
  ·rw [YZ (A:=s) (show(e.nm 3).int=_ by rw [h3];rfl) (show(e.nm 3).bool=_ by rw [h3];rfl),QtC hz]
 refine J9 (C:=afC) (I:= []) Qo rfl Tryz.func23 Qni (Yu [nmR base cap int bool,nmN k,nmN en,nmB (QU s) (QI s),nmN j,nmN n]) w rfl ?_ _ ?_ ?_
 ·intro r hr0;rw [List.mem_singleton.1 hr0];exact hr
 ·refine⟨?_,?_,?_,?_,?_,?_,?_,?_,?_,?_,trivial⟩
  all_goals
   intro e he hc;have h0:e.nm 0=nmR base cap int bool:=he 0 (by decide)
   have h1:e.nm 1=nmN k:=he 1 (by decide)
   have h2:e.nm 2=nmN en:=he 2 (by decide)
   have h3:e.nm 3=nmB (QU s) (QI s):=he 3 (by decide)
   have h4:e.nm 4=nmN j:=he 4 (by decide)
   have h5:e.nm 5=nmN n:=he 5 (by decide)
   obtain⟨hD,hS⟩:=base' e h0 h1 h3
   simp only [QC,Ze,Cd.holds,dv1,dv2,di1,db2,dr1,dr2,dq1,dq2,do1,Xc,Xb,ZY,ZX,Xa,ZZ,ZW,ZV,ZU,ZT,Xe,Xd,Jc,Jb,XY,XX,Ja,XZ,List.map_cons,List.map_nil,Nat.mul_one,Nat.add_zero,List.getElem?_cons_zero,List.getElem?_cons_succ,Option.some.injEq,exists_eq_left',and_true,and_assoc,Env.int,Env.bool,Xp,Nat.reduceLeDiff,Nat.reduceAdd,af0,af1,af2,af3,af4,af5,af6,Qft,Qfu,Qqr,Qqs,Qfv,Qqt,Qqu,Jk,h1,h2,h4,h5,nmN,nmI]at hc
  ·show decide (0≤(e.nm 1).int 0)=true;rw [h1];exact decide_eq_true (Int.natCast_nonneg k)
  ·show decide ((e.nm 1).int 0 < (e.nm 5).int 0)=true;rw [h1,h5];exact decide_eq_true (show(k:Int) < (n:Int)by omega)
  ·show decide (0≤(e.nm 5).int 0)=true;rw [h5];exact decide_eq_true (Int.natCast_nonneg n)
  ·exact True.intro
  ·exact True.intro
  ·show(0≤(e.nm 1).int 0∧(e.nm 1).int 0 < ((e.nm 5).int 0).toNat)∧((e.nm 5).int 0).toNat≤4096∧QG (Za (e.nm 0).int ((e.nm 5).int 0).toNat) (Za (e.nm 0).int ((e.nm 5).int 0).toNat ((e.nm 1).int 0).toNat).addr ((e.nm 5).int 0).toNat=some ((e.nm 1).int 0).toNat;rw [h0,h1,h5];exact⟨⟨Int.natCast_nonneg k,show(k:Int) < ((n:Int).toNat:Int)by omega⟩,hn,hs⟩
  ·exact True.intro
  ·show(((e.nm 5).int 0).toNat:Int) < 2 ^ 63;rw [h5];show((n:Int).toNat:Int) < 2 ^ 63;omega
  ·show KT ((e.nm 0).int (((e.nm 1).int 0).toNat * 9+5))∧(QL (PX.dat e 0 (.a (Qa 86 0 Qc)))).wf∧∀k,(stD (PX.dat e 0 (.a (Qa 3 0 stK))) k).wf;have g86:(e.nm 86).int=Q2 (gdR (Za (e.nm 0).int ((e.nm 5).int 0).toNat) ((e.nm 5).int 0).toNat ((e.nm 2).int 0) ((e.nm 1).int 0).toNat):=by(have hpq:=hc;(repeat (first|exact hpq|exact hpq.1|replace hpq:=hpq.2));done)
   rw [hS,Qr,Zi e 86 g86,h0,h1];refine⟨?_,?_,hw⟩
   ·show KT (int (k * 9+5));rw [←ic];exact(hI k).2.2.2.2.2.1
   ·rw [h5,h2];exact Quk hI
  ·show(QL (PX.dat e 0 (.a (rxL 0 9 (.v 1 0) 0 Qc)))).wf∧∀k,(stD (PX.dat e 0 (.a (Qa 3 0 stK))) k).wf;rw [hD,hS];exact⟨hI k,hw⟩
 ·refine⟨?_,?_,?_,trivial⟩
  all_goals
   intro e u he hc hs0;have h0:e.nm 0=nmR base cap int bool:=he 0 (by decide)
   have h1:e.nm 1=nmN k:=he 1 (by decide)
   have h2:e.nm 2=nmN en:=he 2 (by decide)
   have h3:e.nm 3=nmB (QU s) (QI s):=he 3 (by decide)
   have h4:e.nm 4=nmN j:=he 4 (by decide)
   have h5:e.nm 5=nmN n:=he 5 (by decide)
   obtain⟨hD,hS⟩:=base' e h0 h1 h3
   simp only [QC,Ze,Cd.holds,dv1,dv2,di1,db2,dr1,dr2,dq1,dq2,do1,Xc,Xb,ZY,ZX,Xa,ZZ,ZW,ZV,ZU,ZT,Xe,Xd,Jc,Jb,XY,XX,Ja,XZ,List.map_cons,List.map_nil,Nat.mul_one,Nat.add_zero,List.getElem?_cons_zero,List.getElem?_cons_succ,Option.some.injEq,exists_eq_left',and_true,and_assoc,Env.int,Env.bool,Xp,Nat.reduceLeDiff,Nat.reduceAdd,af0,af1,af2,af3,af4,af5,af6,Qft,Qfu,Qqr,Qqs,Qfv,Qqt,Qqu,Jk]at hc
   rw [show u=_ from hs0]
  ·have f78:(e.nm 78).int=QU fun _=>QK (PX.dat e 0 (.a (Qa 74 0 Qb))):=by(have hpq:=hc;(repeat (first|exact hpq|exact hpq.1|replace hpq:=hpq.2));done)
   have g78:(e.nm 78).bool=QI fun _=>QK (PX.dat e 0 (.a (Qa 74 0 Qb))):=by(have hpq:=hc;(repeat (first|exact hpq|exact hpq.1|replace hpq:=hpq.2));done)
   have f74:(e.nm 74).int=QJ Qp:=by(have hpq:=hc;(repeat (first|exact hpq|exact hpq.1|replace hpq:=hpq.2));done)
   have g74:(e.nm 74).bool=QO Qp:=by(have hpq:=hc;(repeat (first|exact hpq|exact hpq.1|replace hpq:=hpq.2));done)
   have q:=hc.2.2.2.2;have hT:QK (PX.dat e 0 (.a (Qa 74 0 Qb)))=Qp:=by rw [Q0];exact Qk e 74 f74 g74
   rw [hT]at f78 g78
   have ho:int (k * 9+2)=23∨int (k * 9+2)=24:=by
    have q1:¬(¬(e.nm 0).int (((e.nm 1).int 0).toNat * 9+2)=23∧¬(e.nm 0).int (((e.nm 1).int 0).toNat * 9+2)=24):=by(have hpq:=hc;(repeat (first|exact hpq|exact hpq.1|replace hpq:=hpq.2));done)
    rw [h0,h1]at q1;have q2:¬(¬int (k * 9+2)=23∧¬int (k * 9+2)=24):=q1;omega
   unfold Vs;rw [io,if_pos ho];exact Qbo f78 g78
  ·have f178:(e.nm 178).int=QU (ZE ((e.nm 0).int (((e.nm 1).int 0).toNat * 9+5)) (QL (PX.dat e 0 (.a (Qa 86 0 Qc)))) (stD (PX.dat e 0 (.a (Qa 3 0 stK)))) (decide ((e.nm 4).int 0=0) && decide (0≤(e.nm 166).int 0))):=by(have hpq:=hc;(repeat (first|exact hpq|exact hpq.1|replace hpq:=hpq.2));done)
   have g178:(e.nm 178).bool=QI (ZE ((e.nm 0).int (((e.nm 1).int 0).toNat * 9+5)) (QL (PX.dat e 0 (.a (Qa 86 0 Qc)))) (stD (PX.dat e 0 (.a (Qa 3 0 stK)))) (decide ((e.nm 4).int 0=0) && decide (0≤(e.nm 166).int 0))):=by(have hpq:=hc;(repeat (first|exact hpq|exact hpq.1|replace hpq:=hpq.2));done)
   have g86:(e.nm 86).int=Q2 (gdR (Za (e.nm 0).int ((e.nm 5).int 0).toNat) ((e.nm 5).int 0).toNat ((e.nm 2).int 0) ((e.nm 1).int 0).toNat):=by(have hpq:=hc;(repeat (first|exact hpq|exact hpq.1|replace hpq:=hpq.2));done)
   have g118:(e.nm 118).bool=fun _=>Vf (QL (PX.dat e 0 (.a (Qa 86 0 Qc)))):=by(have hpq:=hc;(repeat (first|exact hpq|exact hpq.1|replace hpq:=hpq.2));done)
   have c118:(e.nm 118).bool 0=true:=by(have hpq:=hc;(repeat (first|exact hpq|exact hpq.1|replace hpq:=hpq.2));done)
   have g166:(e.nm 166).int=fun _=>Zw (Q4 (e.nm 0).int) ((e.nm 5).int 0).toNat ((e.nm 0).int (((e.nm 1).int 0).toNat * 9+1)):=by(have hpq:=hc;(repeat (first|exact hpq|exact hpq.1|replace hpq:=hpq.2));done)
   have c20:(e.nm 0).int (((e.nm 1).int 0).toNat * 9+2)=20:=by(have hpq:=hc;(repeat (first|exact hpq|exact hpq.1|replace hpq:=hpq.2));done)
   rw [h0,h1]at c20;have o20:(Za int n k).op=20:=by rw [io];exact c20
   have e86:QL (PX.dat e 0 (.a (Qa 86 0 Qc)))=gdR (Za int n) n en k:=by
    rw [Qr,Zi e 86 g86,h0,h1,h2,h5];rfl
   have e166:(e.nm 166).int 0=Zw (Q4 int) n (Za int n k).imm:=by
    rw [g166,h0,h1,h5,ii];rfl
   have fl:(decide ((e.nm 4).int 0=0) && decide (0≤(e.nm 166).int 0))=(decide (j=0) && hasA (Za int n) n (Za int n k).imm):=by
    rw [e166,h4];congr 1
    ·show decide ((j:Int)=0)=decide (j=0);by_cases hj:j=0
     ·subst hj;rfl
     ·rw [decide_eq_false hj,decide_eq_false (by omega)]
    ·unfold hasA;rw [←J4];cases hf:QG (Q4 int) (Za int n k).imm n with
     |none=>rw [QkA hf];rfl
     |some t=>rw [V0 hf];exact decide_eq_true (Int.natCast_nonneg t)
   rw [e86]at g118 f178 g178;rw [g118]at c118;have ecc:(e.nm 0).int (((e.nm 1).int 0).toNat * 9+5)=(Za int n k).cc:=by rw [h0,h1,ic];rfl
   rw [fl,hS,ecc]at f178 g178;unfold Vs;rw [if_neg (by omega),if_pos ⟨o20,c118⟩]
   exact Qbo f178 g178
  ·have f134:(e.nm 134).int=QU (Qu (QL (PX.dat e 0 (.a (rxL 0 9 (.v 1 0) 0 Qc)))) (stD (PX.dat e 0 (.a (Qa 3 0 stK))))):=by(have hpq:=hc;(repeat (first|exact hpq|exact hpq.1|replace hpq:=hpq.2));done)
   have g134:(e.nm 134).bool=QI (Qu (QL (PX.dat e 0 (.a (rxL 0 9 (.v 1 0) 0 Qc)))) (stD (PX.dat e 0 (.a (Qa 3 0 stK))))):=by(have hpq:=hc;(repeat (first|exact hpq|exact hpq.1|replace hpq:=hpq.2));done)
   have g86:(e.nm 86).int=Q2 (gdR (Za (e.nm 0).int ((e.nm 5).int 0).toNat) ((e.nm 5).int 0).toNat ((e.nm 2).int 0) ((e.nm 1).int 0).toNat):=by(have hpq:=hc;(repeat (first|exact hpq|exact hpq.1|replace hpq:=hpq.2));done)
   have g118:(e.nm 118).bool=fun _=>Vf (QL (PX.dat e 0 (.a (Qa 86 0 Qc)))):=by(have hpq:=hc;(repeat (first|exact hpq|exact hpq.1|replace hpq:=hpq.2));done)
   have cn:¬((e.nm 0).int (((e.nm 1).int 0).toNat * 9+2)=20∧(e.nm 118).bool 0=true):=by(have hpq:=hc;(repeat (first|exact hpq|exact hpq.1|replace hpq:=hpq.2));done)
   have c23:¬(e.nm 0).int (((e.nm 1).int 0).toNat * 9+2)=23:=by(have hpq:=hc;(repeat (first|exact hpq|exact hpq.1|replace hpq:=hpq.2));done)
   have c24:¬(e.nm 0).int (((e.nm 1).int 0).toNat * 9+2)=24:=by(have hpq:=hc;(repeat (first|exact hpq|exact hpq.1|replace hpq:=hpq.2));done)
   rw [h0,h1]at cn c23 c24
   have e86:QL (PX.dat e 0 (.a (Qa 86 0 Qc)))=gdR (Za int n) n en k:=by
    rw [Qr,Zi e 86 g86,h0,h1,h2,h5];rfl
   have o23:¬(Za int n k).op=23:=by rw [io];exact c23
   have o24:¬(Za int n k).op=24:=by rw [io];exact c24
   rw [e86]at g118;rw [hD,hS]at f134 g134;unfold Vs;rw [if_neg (by omega),if_neg (fun h=>cn ⟨by have:=h.1;rw [io]at this;exact this,by rw [g118];exact h.2⟩)]
   exact Qbo f134 g134
theorem Qol{w:World}{d:AD}(h:(SH.a stK).fits w d):∀r,8≤r→stD d r=Zs 0:=fun r hr=>by
 have h2:=Jn h
 have hq:∀j,40≤j→X3 d.val j=undef:=fun j hj=>by
  rw [h2];unfold Zm;simp [X3,ZL,stK,Qb,hj]
 unfold stD;rw [hq _ (by omega),hq _ (by omega),hq _ (by omega),hq _ (by omega),hq _ (by omega)]
 rfl
def Qdn:Kon Tryz.prog:=Kon.fn 23 [.sl Qc,.l (some .i64),.l (some .u32),.a stK,.l (some .i64)] (.a stK) false
 (fun ads=>match ads with
   | [d1,d2,d3,d4,d5]=>(0≤Q3 d2∧Q3 d2 < Xz d1.val)∧Xz d1.val≤4096∧QG (Za d1.int (Xz d1.val)) (Za d1.int (Xz d1.val) (Q3 d2).toNat).addr (Xz d1.val)=some (Q3 d2).toNat∧(∀k,(Za d1.int (Xz d1.val) k).wf)∧(∀r,(stD d4 r).wf)∧0≤Q3 d5
   |_=>False)
 (fun ads=>match ads with| [d1,d2,d3,d4,d5]=>QU (Vs (Za d1.int (Xz d1.val)) (Xz d1.val) (Q3 d3) (Q3 d2).toNat (stD d4) (Q3 d5).toNat)|_=>fun _=>0)
 (fun ads=>match ads with| [d1,d2,d3,d4,d5]=>QI (Vs (Za d1.int (Xz d1.val)) (Xz d1.val) (Q3 d3) (Q3 d2).toNat (stD d4) (Q3 d5).toNat)|_=>fun _=>false)
 ⟨_,Tryz.func23,by kernel_rfl,by kernel_rfl⟩ (fun h=>by cases h) (fun ads w hf hp=>by
   obtain⟨d1,_,rfl,f1,hf⟩:=Qg hf;obtain⟨d2,_,rfl,f2,hf⟩:=Qg hf;obtain⟨d3,_,rfl,f3,hf⟩:=Qg hf;obtain⟨d4,_,rfl,f4,hf⟩:=Qg hf;obtain⟨d5,_,rfl,f5,hf⟩:=Qg hf;obtain rfl:=Qm hf;obtain⟨g1,g2⟩:=VO f1;obtain⟨⟨p1,p2⟩,p3,p4,p5,p6,p7⟩:=hp;show Calls _ _ #[d1.val,d2.val,d3.val,d4.val,d5.val] w _
   have c:=Qod (Qqy d1.val) (Qud d1.val) d1.int d1.bool (Xz d1.val) (Q3 d2).toNat (Q3 d3) (stD d4) (Q3 d5).toNat (by omega) p3 p4 p5 p6 (Qol f4) w g2
   rw [Int.toNat_of_nonneg p1,Int.toNat_of_nonneg p7,←QB f2,←QB f3,←QB f5,←Jn f4,←g1]at c;exact c)
end Go.Proofs.YteplnamfpodmlaaGreat.T2
end
section
namespace Go.Proofs.YteplnamfpodmlaaGreat.T2
def QsZ:List Sg:= [⟨21,[.sl Qc,.l (some .i64)],.s [some .u32],false,false⟩,⟨20,[.sl [none]],.b (.l (some .i64)),true,false⟩,⟨16,[.sl Qc,.l (some .u32)],.b (.l (some .i64)),true,false⟩,⟨18,[],.b (.a Qb),true,false⟩,⟨19,[],.b (.a Qb),true,false⟩,⟨17,[.a Qb],.b (.a stK),true,false⟩,⟨23,[.sl Qc,.l (some .i64),.l (some .u32),.a stK,.l (some .i64)],.b (.a stK),true,false⟩,⟨22,[.a stK,.a stK],.b (.a stK),true,false⟩,⟨24,[.a stK,.a stK],.b (.a stK),true,false⟩]
def Qqb:List PX:= [.l (.sl 0 (.v 3 0)),.l (.n .u32 (.v 1 0)),.l (.n .i64 (.v 2 0))]
def QrX:List Rw:= [⟨0,Qc,(.v 3 0)⟩]
def QrV:Cfg:=⟨6,QsZ,[⟨7,8,0,[.num (.s 10) (some .i64),.row (.s 9) stK],10,.inr (.v 3 0),true⟩,⟨7,15,1,[.num (.s 13) (some .i64),.ct (.s 9),.ct (.s 11),.ct (.s 12)],13,.inr (.v 2 0),true⟩,⟨7,24,2,[.num (.s 16) (some .i64),.ct (.s 9),.ct (.s 11)],16,.inr (.i 4),true⟩],[],[]⟩
def QsX:List Lf:=
 let z0:List Cd:= [.c (.c .geq (.v 3 0) (.i 0)) true]
 let z1:Cd:= .f 34 2 [(.l (.sl 0 (.v 3 0)),0),(.l (.n .u32 (.v 1 0)),0)]
 let z2:List Cd:=(.c (.c .gtr (.v 3 0) (.i 4096)) false :: z0)
 let z3:List Cd:=(.f 160 1 [(.l (.sl 84 (.v 3 0)),154)] :: .g 152 3 1 :: .u 144 (some 84) (.v 34 0) 1 0 [.t (.b true)] :: .c (.c .lss (.v 34 0) (.v 3 0)) true :: .u 128 (some 59) (.v 34 0) 40 0 (Qa 120 0 stK) :: .c (.c .lss (.v 34 0) (.v 58 1)) true :: .c (.c .geq (.v 58 1) (.i 0)) true :: .f 120 5 [(.a (Qa 116 0 Qb),0)] :: .f 116 4 [] :: .z 96 :: .z 84 :: .g 58 1 0 :: z1 :: .c (.c .lss (.v 58 0) (.v 3 0)) false :: .c (.c .lss (.v 34 0) (.i 0)) false :: z2)
 let z4:List Bk:= [⟨59,.row stK (.v 58 1) 153⟩,⟨84,.row [none] (.v 3 0) 154⟩,⟨96,.row [some .i64] (.v 3 0) 155⟩]
 [⟨(.c (.c .gtr (.v 3 0) (.i 4096)) true :: z0),.tp [.l (.ns),.l (.n .i64 (.i 6))],[]⟩,⟨(.c (.c .lss (.v 34 0) (.i 0)) true :: z1 :: z2),.tp [.l (.ns),.l (.n .i64 (.i 9))],[]⟩,⟨(.c (.c .geq (.v 152 0) (.v 2 0)) true :: .c (.c .geq (.v 160 0) (.i 0)) true :: z3),.tp [.l (.ns),.l (.n .i64 (.i 15))],z4⟩,⟨(.c (.c .geq (.v 160 0) (.i 0)) false :: z3),.tp [.l (.sl 59 (.v 58 1)),.l (.n .i64 (.i 0))],z4⟩]
def QsY:List Ob:=
 let z0:List Cd:= [.c (.c .gtr (.v 3 0) (.i 4096)) false,.c (.c .geq (.v 3 0) (.i 0)) true]
 let z1:PX:= .l (.sl 0 (.v 3 0))
 let z2:PX:= .l (.n .u32 (.v 1 0))
 let z3:Cd:= .c (.c .lss (.v 34 0) (.i 0)) false
 let z4:Cd:= .f 34 2 [(z1,0),(z2,0)]
 let z5:List LX:= [.n .i64 (.i 0)]
 let z6:SX:= .c .lss (.v 58 0) (.v 3 0)
 let z7:Cd:= .g 58 1 0
 let z8:List Cd:=(.c z6 true :: z7 :: z3 :: z4 :: z0)
 let z9:List Cd:=(.f 84 5 [(.a (Qa 80 0 Qb),0)] :: .f 80 3 [] :: z8)
 let z10:SX:= .c .geq (.v 58 1) (.i 0)
 let z11:SX:= .c .leq (.v 58 1) (.i 1000000)
 let z12:List Cd:=(.u 92 (some 59) (.v 58 1) 40 0 (Qa 84 0 stK) :: .c z10 true :: .c z11 true :: z9)
 let z13:SX:= .o .add .i64 (.v 58 0) (.i 1)
 let z14:List Cd:=(.z 96 :: .z 84 :: z7 :: z4 :: .c z6 false :: z3 :: z0)
 let z15:Cd:= .f 116 4 []
 let z16:Cd:= .f 120 5 [(.a (Qa 116 0 Qb),0)]
 let z17:List Cd:=(z16 :: z15 :: z14)
 let z18:Cd:= .u 128 (some 59) (.v 34 0) 40 0 (Qa 120 0 stK)
 let z19:Cd:= .c (.c .lss (.v 34 0) (.v 58 1)) true
 let z20:List Cd:=(z18 :: z19 :: .c z10 true :: z17)
 let z21:Cd:= .u 144 (some 84) (.v 34 0) 1 0 [.t (.b true)]
 let z22:Cd:= .c (.c .lss (.v 34 0) (.v 3 0)) true
 let z23:Cd:= .g 152 3 1
 let z24:PX:= .l (.sl 84 (.v 3 0))
 let z25:Cd:= .c (.c .geq (.v 152 0) (.v 2 0)) false
 let z26:Cd:= .c (.c .geq (.v 160 0) (.i 0)) true
 let z27:Cd:= .f 160 1 [(z24,154)]
 let z28:List Cd:=(z25 :: z26 :: z27 :: z23 :: z21 :: z22 :: z20)
 let z29:Cd:= .u 232 (some 155) (.v 160 0) 1 0 [.n .i64 (.o .add .i64 (.r 155 1 0 (.v 160 0)) (.i 1))]
 let z30:Cd:= .u 204 (some 154) (.v 160 0) 1 0 [.t (.b false)]
 let z31:Cd:= .c (.c .lss (.v 160 0) (.v 3 0)) true
 let z32:PX:= .l (.n .i64 (.v 160 0))
 let z33:Cd:= .f 244 0 [(z1,0),(z32,0)]
 let z34:List Cd:=(z33 :: z29 :: z30 :: z31 :: z28)
 let z35:Cd:= .g 256 2 2
 let z36:SX:= .c .lss (.v 256 0) (.v 244 0)
 let z37:Cd:= .c z36 true
 let z38:Cd:= .c (.c .geq (.v 244 0) (.i 0)) true
 let z39:Cd:= .c (.c .geq (.v 256 0) (.i 0)) true
 let z40:PX:= .l (.n .u32 (.r 245 1 0 (.v 256 0)))
 let z41:Cd:= .f 295 2 [(z1,0),(z40,0)]
 let z42:List Cd:=(z26 :: z25 :: z19 :: .c z6 false :: .c z10 true :: z22 :: z3 :: z0)
 let z43:List Cd:=(z41 :: z35 :: z33 :: z29 :: z30 :: z27 :: z23 :: z21 :: z18 :: z16 :: z15 :: .z 96 :: .z 84 :: z7 :: z4 :: z37 :: z39 :: z38 :: z31 :: z42)
 let z44:Cd:= .c (.c .lss (.v 295 0) (.v 58 1)) true
 let z45:Cd:= .c (.c .geq (.v 295 0) (.i 0)) true
 let z46:Cd:= .c (.c .lss (.v 160 0) (.v 58 1)) true
 let z47:List Cd:=(z41 :: z35 :: z33 :: z29 :: z30 :: z27 :: z23 :: z21 :: z18 :: z16 :: z15 :: .z 96 :: .z 84 :: z7 :: z4 :: z37 :: z44 :: z45 :: z39 :: z38 :: z46 :: z31 :: z42)
 let z48:PX:= .a (rxL 257 40 (.v 160 0) 0 stK)
 let z49:Cd:= .f 351 6 [(z1,0),(z32,0),(z2,0),(z48,0),(.l (.n .i64 (.v 256 0)),0)]
 let z50:PX:= .a (rxL 257 40 (.v 295 0) 0 stK)
 let z51:Cd:= .f 355 7 [(z50,0),(.a (Qa 351 0 stK),0)]
 let z52:Cd:= .c (.c .lss (.v 295 0) (.v 3 0)) true
 let z53:SX:= .c .geq (.r 232 1 0 (.v 295 0)) (.i 4)
 let z54:List Cd:=(z51 :: z49 :: z41 :: z35 :: z33 :: z29 :: z30 :: z27 :: z23 :: z21 :: z18 :: z16 :: z15 :: .z 96 :: .z 84 :: z7 :: z4 :: z37 :: z44 :: z52 :: z45 :: z39 :: z38 :: z46 :: z31 :: .c z53 true :: z42)
 let z55:SX:= .eq (.v 407 0) (.r 257 40 0 (.v 295 0))
 let z56:SX:= .eq (.v 407 1) (.r 257 40 1 (.v 295 0))
 let z57:SX:= .c .eql (.v 407 2) (.r 257 40 2 (.v 295 0))
 let z58:SX:= .c .eql (.v 407 3) (.r 257 40 3 (.v 295 0))
 let z59:SX:= .c .eql (.v 407 4) (.r 257 40 4 (.v 295 0))
 let z60:SX:= .eq (.v 407 5) (.r 257 40 5 (.v 295 0))
 let z61:SX:= .eq (.v 407 6) (.r 257 40 6 (.v 295 0))
 let z62:SX:= .c .eql (.v 407 7) (.r 257 40 7 (.v 295 0))
 let z63:SX:= .c .eql (.v 407 8) (.r 257 40 8 (.v 295 0))
 let z64:SX:= .c .eql (.v 407 9) (.r 257 40 9 (.v 295 0))
 let z65:SX:= .eq (.v 407 10) (.r 257 40 10 (.v 295 0))
 let z66:SX:= .eq (.v 407 11) (.r 257 40 11 (.v 295 0))
 let z67:SX:= .c .eql (.v 407 12) (.r 257 40 12 (.v 295 0))
 let z68:SX:= .c .eql (.v 407 13) (.r 257 40 13 (.v 295 0))
 let z69:SX:= .c .eql (.v 407 14) (.r 257 40 14 (.v 295 0))
 let z70:SX:= .eq (.v 407 15) (.r 257 40 15 (.v 295 0))
 let z71:SX:= .eq (.v 407 16) (.r 257 40 16 (.v 295 0))
 let z72:SX:= .c .eql (.v 407 17) (.r 257 40 17 (.v 295 0))
 let z73:SX:= .c .eql (.v 407 18) (.r 257 40 18 (.v 295 0))
 let z74:SX:= .c .eql (.v 407 19) (.r 257 40 19 (.v 295 0))
 let z75:SX:= .eq (.v 407 20) (.r 257 40 20 (.v 295 0))
 let z76:SX:= .eq (.v 407 21) (.r 257 40 21 (.v 295 0))
 let z77:SX:= .c .eql (.v 407 22) (.r 257 40 22 (.v 295 0))
 let z78:SX:= .c .eql (.v 407 23) (.r 257 40 23 (.v 295 0))
 let z79:SX:= .c .eql (.v 407 24) (.r 257 40 24 (.v 295 0))
 let z80:SX:= .eq (.v 407 25) (.r 257 40 25 (.v 295 0))
 let z81:SX:= .eq (.v 407 26) (.r 257 40 26 (.v 295 0))
 let z82:SX:= .c .eql (.v 407 27) (.r 257 40 27 (.v 295 0))
 let z83:SX:= .c .eql (.v 407 28) (.r 257 40 28 (.v 295 0))
 let z84:SX:= .c .eql (.v 407 29) (.r 257 40 29 (.v 295 0))
 let z85:SX:= .eq (.v 407 30) (.r 257 40 30 (.v 295 0))
 let z86:SX:= .eq (.v 407 31) (.r 257 40 31 (.v 295 0))
 let z87:SX:= .c .eql (.v 407 32) (.r 257 40 32 (.v 295 0))
 let z88:SX:= .c .eql (.v 407 33) (.r 257 40 33 (.v 295 0))
 let z89:SX:= .c .eql (.v 407 34) (.r 257 40 34 (.v 295 0))
 let z90:SX:= .eq (.v 407 35) (.r 257 40 35 (.v 295 0))
 let z91:SX:= .eq (.v 407 36) (.r 257 40 36 (.v 295 0))
 let z92:SX:= .c .eql (.v 407 37) (.r 257 40 37 (.v 295 0))
 let z93:SX:= .c .eql (.v 407 38) (.r 257 40 38 (.v 295 0))
 let z94:SX:= .c .eql (.v 407 39) (.r 257 40 39 (.v 295 0))
 let z95:List Cd:=(.f 407 8 [(z50,0),(.a (Qa 355 0 stK),0)] :: z54)
 let z96:List Cd:=(.u 471 (some 258) (.v 295 0) 1 0 [.t (.b true)] :: .u 455 (some 257) (.v 295 0) 40 0 (Qa 407 0 stK) :: .c (.an (.an z55 (.an z56 (.an z57 (.an z58 z59)))) (.an (.an z60 (.an z61 (.an z62 (.an z63 z64)))) (.an (.an z65 (.an z66 (.an z67 (.an z68 z69)))) (.an (.an z70 (.an z71 (.an z72 (.an z73 z74)))) (.an (.an z75 (.an z76 (.an z77 (.an z78 z79)))) (.an (.an z80 (.an z81 (.an z82 (.an z83 z84)))) (.an (.an z85 (.an z86 (.an z87 (.an z88 z89)))) (.an z90 (.an z91 (.an z92 (.an z93 z94))))))))))) false :: z95)
 let z97:SX:= .o .add .i64 (.v 256 0) (.i 1)
 let z98:List LX:= [.n .i64 z97]
 let z99:SX:= .c .lss (.v 256 0) z97
 let z100:SX:= .c .lss (.v 256 0) (.i 4)
 let z101:List Cd:=(.c z55 true :: .c z56 true :: .c z57 true :: .c z58 true :: .c z59 true :: .c z60 true :: .c z61 true :: .c z62 true :: .c z63 true :: .c z64 true :: .c z65 true :: .c z66 true :: .c z67 true :: .c z68 true :: .c z69 true :: .c z70 true :: .c z71 true :: .c z72 true :: .c z73 true :: .c z74 true :: .c z75 true :: .c z76 true :: .c z77 true :: .c z78 true :: .c z79 true :: .c z80 true :: .c z81 true :: .c z82 true :: .c z83 true :: .c z84 true :: .c z85 true :: .c z86 true :: .c z87 true :: .c z88 true :: .c z89 true :: .c z90 true :: .c z91 true :: .c z92 true :: .c z93 true :: .c z94 true :: z95)
 let z102:SX:= .eq (.v 355 0) (.r 257 40 0 (.v 295 0))
 let z103:SX:= .eq (.v 355 1) (.r 257 40 1 (.v 295 0))
 let z104:SX:= .c .eql (.v 355 2) (.r 257 40 2 (.v 295 0))
 let z105:SX:= .c .eql (.v 355 3) (.r 257 40 3 (.v 295 0))
 let z106:SX:= .c .eql (.v 355 4) (.r 257 40 4 (.v 295 0))
 let z107:SX:= .eq (.v 355 5) (.r 257 40 5 (.v 295 0))
 let z108:SX:= .eq (.v 355 6) (.r 257 40 6 (.v 295 0))
 let z109:SX:= .c .eql (.v 355 7) (.r 257 40 7 (.v 295 0))
 let z110:SX:= .c .eql (.v 355 8) (.r 257 40 8 (.v 295 0))
 let z111:SX:= .c .eql (.v 355 9) (.r 257 40 9 (.v 295 0))
 let z112:SX:= .eq (.v 355 10) (.r 257 40 10 (.v 295 0))
 let z113:SX:= .eq (.v 355 11) (.r 257 40 11 (.v 295 0))
 let z114:SX:= .c .eql (.v 355 12) (.r 257 40 12 (.v 295 0))
 let z115:SX:= .c .eql (.v 355 13) (.r 257 40 13 (.v 295 0))
 let z116:SX:= .c .eql (.v 355 14) (.r 257 40 14 (.v 295 0))
 let z117:SX:= .eq (.v 355 15) (.r 257 40 15 (.v 295 0))
 let z118:SX:= .eq (.v 355 16) (.r 257 40 16 (.v 295 0))
 let z119:SX:= .c .eql (.v 355 17) (.r 257 40 17 (.v 295 0))
 let z120:SX:= .c .eql (.v 355 18) (.r 257 40 18 (.v 295 0))
 let z121:SX:= .c .eql (.v 355 19) (.r 257 40 19 (.v 295 0))
 let z122:SX:= .eq (.v 355 20) (.r 257 40 20 (.v 295 0))
 let z123:SX:= .eq (.v 355 21) (.r 257 40 21 (.v 295 0))
 let z124:SX:= .c .eql (.v 355 22) (.r 257 40 22 (.v 295 0))
 let z125:SX:= .c .eql (.v 355 23) (.r 257 40 23 (.v 295 0))
 let z126:SX:= .c .eql (.v 355 24) (.r 257 40 24 (.v 295 0))
 let z127:SX:= .eq (.v 355 25) (.r 257 40 25 (.v 295 0))
 let z128:SX:= .eq (.v 355 26) (.r 257 40 26 (.v 295 0))
 let z129:SX:= .c .eql (.v 355 27) (.r 257 40 27 (.v 295 0))
 let z130:SX:= .c .eql (.v 355 28) (.r 257 40 28 (.v 295 0))
 let z131:SX:= .c .eql (.v 355 29) (.r 257 40 29 (.v 295 0))
 let z132:SX:= .eq (.v 355 30) (.r 257 40 30 (.v 295 0))
 let z133:SX:= .eq (.v 355 31) (.r 257 40 31 (.v 295 0))
 let z134:SX:= .c .eql (.v 355 32) (.r 257 40 32 (.v 295 0))
 let z135:SX:= .c .eql (.v 355 33) (.r 257 40 33 (.v 295 0))
 let z136:SX:= .c .eql (.v 355 34) (.r 257 40 34 (.v 295 0))
 let z137:SX:= .eq (.v 355 35) (.r 257 40 35 (.v 295 0))
 let z138:SX:= .eq (.v 355 36) (.r 257 40 36 (.v 295 0))
 let z139:SX:= .c .eql (.v 355 37) (.r 257 40 37 (.v 295 0))
 let z140:SX:= .c .eql (.v 355 38) (.r 257 40 38 (.v 295 0))
 let z141:SX:= .c .eql (.v 355 39) (.r 257 40 39 (.v 295 0))
 let z142:List Cd:=(z51 :: z49 :: z41 :: z35 :: z33 :: z29 :: z30 :: z27 :: z23 :: z21 :: z18 :: z16 :: z15 :: .z 96 :: .z 84 :: z7 :: z4 :: z37 :: z44 :: z52 :: z45 :: z39 :: z38 :: z46 :: z31 :: .c z53 false :: z42)
 let z143:List Cd:=(.u 443 (some 258) (.v 295 0) 1 0 [.t (.b true)] :: .u 427 (some 257) (.v 295 0) 40 0 (Qa 355 0 stK) :: .c (.an (.an z102 (.an z103 (.an z104 (.an z105 z106)))) (.an (.an z107 (.an z108 (.an z109 (.an z110 z111)))) (.an (.an z112 (.an z113 (.an z114 (.an z115 z116)))) (.an (.an z117 (.an z118 (.an z119 (.an z120 z121)))) (.an (.an z122 (.an z123 (.an z124 (.an z125 z126)))) (.an (.an z127 (.an z128 (.an z129 (.an z130 z131)))) (.an (.an z132 (.an z133 (.an z134 (.an z135 z136)))) (.an z137 (.an z138 (.an z139 (.an z140 z141))))))))))) false :: z142)
 let z144:List Cd:=(.c z102 true :: .c z103 true :: .c z104 true :: .c z105 true :: .c z106 true :: .c z107 true :: .c z108 true :: .c z109 true :: .c z110 true :: .c z111 true :: .c z112 true :: .c z113 true :: .c z114 true :: .c z115 true :: .c z116 true :: .c z117 true :: .c z118 true :: .c z119 true :: .c z120 true :: .c z121 true :: .c z122 true :: .c z123 true :: .c z124 true :: .c z125 true :: .c z126 true :: .c z127 true :: .c z128 true :: .c z129 true :: .c z130 true :: .c z131 true :: .c z132 true :: .c z133 true :: .c z134 true :: .c z135 true :: .c z136 true :: .c z137 true :: .c z138 true :: .c z139 true :: .c z140 true :: .c z141 true :: z142)
 let z145:List Cd:=(.c z36 false :: z38 :: z35 :: z34)
 let z146:SX:= .o .add .i64 (.v 152 0) (.i 1)
 [.cl [] (.c .geq (.v 3 0) (.i 0)),.pre z0 2 [(z1,0),(z2,0)],.inv (z3 :: z4 :: z0) 0 58 (.n .i64 (.i 0) :: z5) [none],.pre z8 3 [],.pre (.f 80 3 [] :: z8) 5 [(.a (Qa 80 0 Qb),0)],.cl z9 z10,.cl z9 z11,.inv z12 0 58 [.n .i64 z13,.n .i64 (.o .add .i64 (.v 58 1) (.i 1))] [some (92,92)],.cl z12 (.c .lss (.v 58 0) z13),.cl z12 z6,.pre z14 4 [],.pre (z15 :: z14) 5 [(.a (Qa 116 0 Qb),0)],.cl z17 (.c .lss (.v 34 0) (.v 58 1)),.cl z17 z10,.cl z20 (.c .lss (.v 34 0) (.v 3 0)),.inv (z21 :: z22 :: z20) 1 152 z5 [some (128,128),some (144,144),some (96,96)],.pre (z23 :: z21 :: z22 :: z20) 1 [(z24,154)],.pre z28 1 [(z24,154)],.cl z28 (.c .lss (.v 160 0) (.v 3 0)),.pre (z29 :: z30 :: z31 :: z28) 0 [(z1,0),(z32,0)],.inv z34 2 256 z5 [some (153,153),some (204,204)],.cl (z35 :: z34) (.c .geq (.v 244 0) (.i 0)),.cl (z37 :: z38 :: z35 :: z34) (.c .geq (.v 256 0) (.i 0)),.pre (z39 :: z37 :: z38 :: z35 :: z34) 2 [(z1,0),(z40,0)],.cl z43 (.c .geq (.v 295 0) (.i 0)),.cl z43 (.c .lss (.v 295 0) (.v 58 1)),.cl (z41 :: z35 :: z33 :: z29 :: z30 :: z27 :: z23 :: z21 :: z18 :: z16 :: z15 :: .z 96 :: .z 84 :: z7 :: z4 :: z37 :: z44 :: z45 :: z39 :: z38 :: z31 :: z42) (.c .lss (.v 160 0) (.v 58 1)),.pre z47 6 [(z1,0),(z32,0),(z2,0),(z48,0),(.l (.n .i64 (.v 256 0)),0)],.pre (z49 :: z47) 7 [(z50,0),(.a (Qa 351 0 stK),0)],.cl (z51 :: z49 :: z47) (.c .lss (.v 295 0) (.v 3 0)),.pre z54 8 [(z50,0),(.a (Qa 355 0 stK),0)],.inv z96 2 256 z98 [some (455,455),some (471,471)],.cl z96 z99,.cl z96 z100,.inv z101 2 256 z98 [some (257,257),some (258,258)],.cl z101 z99,.cl z101 z100,.inv z143 2 256 z98 [some (427,427),some (443,443)],.cl z143 z99,.cl z143 z100,.inv z144 2 256 z98 [some (257,257),some (258,258)],.cl z144 z99,.cl z144 z100,.inv z145 1 152 [.n .i64 z146] [some (257,257),some (258,258),some (232,232)],.cl z145 (.c .lss (.v 152 0) z146),.cl z145 (.c .lss (.v 152 0) (.v 2 0))]
theorem QrW:QS Tryz.prog QrV 1000 4 7 Tryz.f7 Qqb QrX=some (QsX,QsY):=by kernel_rfl
def raC:List (Kon Tryz.prog):= [YP,Qb5,VR,Ky.kon,V9.kon,Wy.kon,Qdn,Qdp.kon,Qb9.kon]
theorem ra0:raC[0]?=some YP:=rfl
theorem ra1:raC[1]?=some Qb5:=rfl
theorem ra2:raC[2]?=some VR:=rfl
theorem ra3:raC[3]?=some Ky.kon:=rfl
theorem ra4:raC[4]?=some V9.kon:=rfl
theorem ra5:raC[5]?=some Wy.kon:=rfl
theorem ra6:raC[6]?=some Qdn:=rfl
theorem ra7:raC[7]?=some Qdp.kon:=rfl
theorem ra8:raC[8]?=some Qb9.kon:=rfl
theorem Qsc{d1 d2:AD}{m m':Nm}:YP.post [d1,d2] m m'↔Ju (K9 (Q4 d1.int) (Xz d1.val) (Q3 d2).toNat) m m':=Iff.rfl
theorem Qsd{d:AD}{m m':Nm}:Qb5.post [d] m m'↔(m.int=fun _=>XQ d.bool (Xz d.val) true)∧m.bool=fun _=>false:=Iff.rfl
theorem Qse{m m':Nm}:Ky.kon.post [] m m'↔m.int=QJ Qt∧m.bool=QO Qt:=Iff.rfl
theorem Qsf{d1 d2 d3 d4 d5:AD}{m m':Nm}:Qdn.post [d1,d2,d3,d4,d5] m m'↔m.int=QU (Vs (Za d1.int (Xz d1.val)) (Xz d1.val) (Q3 d3) (Q3 d2).toNat (stD d4) (Q3 d5).toNat)∧m.bool=QI (Vs (Za d1.int (Xz d1.val)) (Xz d1.val) (Q3 d3) (Q3 d2).toNat (stD d4) (Q3 d5).toNat):=Iff.rfl
theorem Qsg{d1 d2:AD}{m m':Nm}:Qdp.kon.post [d1,d2] m m'↔m.int=QU (Xs (stD d1) (stD d2))∧m.bool=QI (Xs (stD d1) (stD d2)):=Iff.rfl
theorem Qsh{d1 d2:AD}{m m':Nm}:Qb9.kon.post [d1,d2] m m'↔m.int=QU (JK (stD d1) (stD d2))∧m.bool=QI (JK (stD d1) (stD d2)):=Iff.rfl
def gE(c:Cx):Nm:={Nm.zero with int:=fun j=>((c.E j).length:Int),i2:=fun j q=>(((c.E j)[q / 2]?).map fun p=>(p.1:Int)).getD 0,b2:=fun j q=>(((c.E j)[q / 2]?).map fun p=>p.2).getD false}
def gG(c:Cx):Nm:={Nm.zero with int:=fun j=>c.G j}
theorem Quf(c:Cx):EG c (gE c) (gG c) where
 ed:=fun j _=>⟨rfl,fun n p hp=>by
  have e1:n * 2 / 2=n:=by omega
  have e2:(n * 2+1) / 2=n:=by omega
  show(((c.E j)[n * 2 / 2]?).map fun p=>(p.1:Int)).getD 0=_∧(((c.E j)[(n * 2+1) / 2]?).map fun p=>p.2).getD false=_
  rw [e1,e2,hp];exact⟨rfl,rfl⟩⟩
 gd:=fun j _=>rfl
structure Z0(N:Nat)(h bf:Nm):Prop where
 k0:0≤h.int 0
 kN:h.int 0≤N
 k1:h.int 1=h.int 0
 bf:BIs bf (h.int 0).toNat fun _ _=>Qt
theorem Qta{c:Cx}{n59 n84 n96 h nb nm:Nm}{e:Env}{d:Nat}(hN:BIs n59 c.N fun _ _=>Qt)(h0:h.int 0=0)(z84:n84.bool=fun _=>false)(z96:n96.int=fun _=>0)
 (b1:nb.int=QA n59.int (c.f * 40+0) ((Qa d 0 stK).map (QZ e))) (b2:nb.bool=QA n59.bool (c.f * 40+0) ((Qa d 0 stK).map (Z4 e))) (hx:∀r,r < 8→QV e d (5 * r)=Qp)
 (hm:nm.bool=QA n84.bool c.f [true]):Qah c (gE c) (gG c) h nb n96 nm where
 eg:=Quf c
 n0:=by omega
 nR:= .inl h0
 st:=by
  refine⟨Vb c.f,⟨?_,?_,?_,Qd7 _,QbF _⟩,fun j=>?_,?_⟩
  ·intro k hk r hr;have:=Qf0 (x:=fun _=>Qp) hN b1 b2 hx k hk r hr
   rw [this];show _=XU (fun _=>ZP fun _=>Qt) c.f (ZP fun _=>Qp) k r
   unfold XU;split <;> simp [ZP,hr]
  ·intro k hk;show n96.int k=0;rw [z96]
  ·refine Qcr (v:=fun _=>false) (fun k hk=>?_) hm
   rw [z84]
  ·rw [h0];exact⟨Int.le_refl _,Int.le_refl _⟩
  ·rw [h0,Int.sub_zero];rfl
theorem QsP{s:VS}{t:Nat}{x X:Nat→Qd}(h4:4≤s.v t)(hX:∀r,r < 8→X r=x r):∀r,r < 8→JK (s.b t) X r=JE s t x r:=fun r hr=>by
 unfold JE;rw [if_pos h4];unfold ZP;rw [if_pos hr];unfold JK;rw [hX r hr]
theorem Qr8{s:VS}{t:Nat}{x:Nat→Qd}(h4:¬4≤s.v t):JE s t x=x:=by
 unfold JE;rw [if_neg h4]
end Go.Proofs.YteplnamfpodmlaaGreat.T2
end
section
namespace Go.Proofs.YteplnamfpodmlaaGreat.T2
def raI(c:Cx):List (Nat→Env→Prop):= [
 fun _ e=>Z0 c.N (e.nm 58) (e.nm 59),
 fun _ e=>Qah c (gE c) (gG c) (e.nm 152) (e.nm 153) (e.nm 155) (e.nm 154),
 fun _ e=>∃s,Mid c (gE c) (gG c) (e.nm 152) (e.nm 160) (e.nm 256) (e.nm 257) (e.nm 232) (e.nm 258) s]
def aR(e:Env):Nat→Qd:=Vs (Za (e.nm 0).int ((e.nm 3).int 0).toNat) ((e.nm 3).int 0).toNat ((e.nm 1).int 0) ((e.nm 160).int 0).toNat (stD (PX.dat e 0 (.a (rxL 257 40 (.v 160 0) 0 stK)))) ((e.nm 256).int 0).toNat
def jR(e:Env):Nat→Qd:=Xs (stD (PX.dat e 0 (.a (rxL 257 40 (.v 295 0) 0 stK)))) (stD (PX.dat e 0 (.a (Qa 351 0 stK))))
def wR(e:Env):Nat→Qd:=JK (stD (PX.dat e 0 (.a (rxL 257 40 (.v 295 0) 0 stK)))) (stD (PX.dat e 0 (.a (Qa 355 0 stK))))
abbrev kOf(e:Env):Nat:=((e.nm 160).int 0).toNat
abbrev Qtx(c:Cx)(e:Env)(s:VS):Prop:=Mid c (gE c) (gG c) (e.nm 152) (e.nm 160) (e.nm 256) (e.nm 257) (e.nm 232) (e.nm 258) s
structure RC(c:Cx)(int:Nat→Int)(e:Env):Prop where
 hc:c.ok
 hI:c.I=Za int c.N
 h0:(e.nm 0).int=int
 h1:(e.nm 1).int 0=c.en
 h3:(e.nm 3).int 0=c.N
 f34:(e.nm 34).int=fun _=>Zw (Q4 (e.nm 0).int) ((e.nm 3).int 0).toNat ((e.nm 1).int 0)
 c34:¬(e.nm 34).int 0 < 0
 M:∃s,Qtx c e s
 E:Ju (K9 (Q4 (e.nm 0).int) ((e.nm 3).int 0).toNat (kOf e)) (e.nm 244) (e.nm 245)
theorem RC.mid{c:Cx}{int:Nat→Int}{e:Env}(C:RC c int e):∃s,Qtx c e s∧kOf e < c.N∧Ju (K9 c.I c.N (kOf e)) (e.nm 244) (e.nm 245)∧(e.nm 244).int 0=((c.E (kOf e)).length:Int)∧(c.E (kOf e)).length≤2∧(e.nm 256).int 0≤((c.E (kOf e)).length:Int)∧0≤(e.nm 256).int 0∧0≤(e.nm 160).int 0∧0≤(e.nm 152).int 0∧(e.nm 152).int 0 < c.R:=by
 obtain⟨s,H⟩:=C.M;have k0:=H.k0;have kN:=H.kN;have kT:kOf e < c.N:=by unfold kOf;omega
 have Ed:Ju (K9 c.I c.N (kOf e)) (e.nm 244) (e.nm 245):=by
  have q:=C.E;rw [C.h0,C.h3,Int.toNat_natCast,Qib kT,←C.hI]at q;exact q
 exact⟨s,H,kT,Ed,by rw [Ed.1,QfP];rfl,Ys,H.mL,H.m0,k0,H.n0,H.nR⟩
structure RD(c:Cx)(e:Env)(f:Nat)(s:VS)(t:Nat)(tk:Bool):Prop where
 hc:c.ok
 cf:c.f=f
 H:Qtx c e s
 kT:kOf e < c.N
 t0:(e.nm 295).int 0=(t:Int)
 tT:((e.nm 295).int 0).toNat=t
 tN:t < c.N
 hs:QG c.I (c.I (kOf e)).addr c.N=some (kOf e)
 hp:(X4 c.I c.N (kOf e))[((e.nm 256).int 0).toNat]?=some (t,tk)
 aE:aR e=XM c.I (XP c.I c.N f (kOf e)) (kOf e) (s.b (kOf e)) tk
 rk:stD (PX.dat e 0 (.a (rxL 257 40 (.v 160 0) 0 stK)))=s.b (kOf e)
 rt:stD (PX.dat e 0 (.a (rxL 257 40 (.v 295 0) 0 stK)))=s.b t
theorem RC.edge{c:Cx}{int:Nat→Int}{e:Env}(C:RC c int e)(m1:(e.nm 256).int 0 < (e.nm 244).int 0)(f295:(e.nm 295).int=fun _=>Zw (Q4 (e.nm 0).int) ((e.nm 3).int 0).toNat ((e.nm 245).int (((e.nm 256).int 0).toNat * 1+0))):∃f s t tk,RD c e f s t tk:=by
 obtain⟨s,H,kT,Ed, -, -, -,m0, -⟩:=C.mid;have g34:(e.nm 34).int 0=Zw (Q4 int) c.N c.en:=by rw [C.f34,C.h0,C.h1,C.h3,Int.toNat_natCast]
 have c34:=C.c34;obtain⟨f,ff,fe,fN⟩:=Yv (I:=Q4 int) (N:=c.N) (a:=c.en) (by rw [←g34];omega)
 have fF:QG c.I c.en c.N=some f:=by rw [C.hI,←J4];exact ff
 have hx:=QcZ Ed m0 m1;obtain⟨t,tk,ht,hp,hA⟩:=Qqo (s:=s.b (kOf e)) fF hx;have tN:=(JM ht).1
 have t0:(e.nm 295).int 0=(t:Int):=by
  rw [f295,C.h0,C.h3,Nat.mul_one,Nat.add_zero,Int.toNat_natCast];rw [C.hI,←J4]at ht;exact V0 ht
 have tT:((e.nm 295).int 0).toNat=t:=by omega
 have rk:stD (PX.dat e 0 (.a (rxL 257 40 (.v 160 0) 0 stK)))=s.b (kOf e):=by
  rw [Qgl];exact H.st.row kT
 refine⟨f,s,t,tk,C.hc,by unfold Cx.f;rw [fF];rfl,H,kT,t0,tT,tN,(Qli hx).1,hp,?_,rk,?_⟩
 ·unfold aR;rw [rk,C.h0,C.h1,C.h3,Int.toNat_natCast,←C.hI];exact hA
 ·rw [Qgl];show ZP (K1 (e.nm 257).int (e.nm 257).bool ((e.nm 295).int 0).toNat)=_;rw [tT];exact H.st.row tN
section
variable{c:Cx}{e:Env}{f:Nat}{s:VS}{t:Nat}{tk:Bool}
theorem RD.wk(D:RD c e f s t tk)(k r:Nat):(s.b k r).wf:=(D.H.st.ok _ r).1
theorem RD.af(D:RD c e f s t tk)(h1:(e.nm 351).int=QU (aR e))(h2:(e.nm 351).bool=QI (aR e)):stD (PX.dat e 0 (.a (Qa 351 0 stK)))=ZP (XM c.I (XP c.I c.N f (kOf e)) (kOf e) (s.b (kOf e)) tk)∧∀k,(stD (PX.dat e 0 (.a (Qa 351 0 stK))) k).wf:=by
 rw [D.aE]at h1 h2;have h:=YZ (e:=e) (d:=351) (c:=0) h1 h2;exact⟨h,by rw [h];exact QaH (QaA D.hc.wf (D.wk _))⟩
theorem RD.jo(D:RD c e f s t tk)(h1:(e.nm 351).int=QU (aR e))(h2:(e.nm 351).bool=QI (aR e))(h3:(e.nm 355).int=QU (jR e))(h4:(e.nm 355).bool=QI (jR e)) :
 (∀r,r < 8→QV e 355 (5 * r)=Xl c.I c.G (kOf e) s (t,tk) r)∧(∀r,r < 8→stD (PX.dat e 0 (.a (Qa 355 0 stK))) r=Xl c.I c.G (kOf e) s (t,tk) r)∧∀k,(stD (PX.dat e 0 (.a (Qa 355 0 stK))) k).wf:=by
 obtain⟨a1,a2⟩:=D.af h1 h2
 have w:∀k,(jR e k).wf:=fun k=>by
  unfold jR;rw [D.rt];exact(QcS (D.wk _ k) (a2 k)).1
 have h:=YZ (e:=e) (d:=355) (c:=0) h3 h4
 have n:∀r,r < 8→QV e 355 (5 * r)=Xl c.I c.G (kOf e) s (t,tk) r:=by
  unfold jR at h3 h4;rw [D.rt,a1]at h3 h4;exact QnR (e:=e) (d:=355) (p:=(t,tk)) h3 h4 (by unfold Cx.G;rw [D.cf])
 refine⟨n,fun r hr=>?_,by rw [h];exact QaH w⟩
 rw [h,←n r hr,QW e 355 h3 h4 r];unfold ZP;exact if_pos hr
theorem RD.wi(D:RD c e f s t tk)(n2:∀r,r < 8→stD (PX.dat e 0 (.a (Qa 355 0 stK))) r=Xl c.I c.G (kOf e) s (t,tk) r)(c4:4≤(e.nm 232).int ((e.nm 295).int 0).toNat)(h1:(e.nm 407).int=QU (wR e))(h2:(e.nm 407).bool=QI (wR e)) :
 Qfq c (gE c) (gG c) (e.nm 152) (e.nm 160) (e.nm 256) (e.nm 257) (e.nm 232) (e.nm 258) (e.nm 407) s (t,tk):=⟨D.H,D.hp,fun r h8=>by
 show QV e 407 (5 * r)=_;rw [QW e 407 h1 h2 r];unfold wR;rw [D.tT,D.H.st.v t D.tN]at c4;rw [D.rt];exact QsP c4 n2 r h8⟩
theorem RD.no(D:RD c e f s t tk)(n1:∀r,r < 8→QV e 355 (5 * r)=Xl c.I c.G (kOf e) s (t,tk) r)(c4:¬4≤(e.nm 232).int ((e.nm 295).int 0).toNat) :
 Qfq c (gE c) (gG c) (e.nm 152) (e.nm 160) (e.nm 256) (e.nm 257) (e.nm 232) (e.nm 258) (e.nm 355) s (t,tk):=⟨D.H,D.hp,fun r h8=>by
 show QV e 355 (5 * r)=_;rw [D.tT,D.H.st.v t D.tN]at c4;rw [Qr8 c4];exact n1 r h8⟩
theorem RD.up(D:RD c e f s t tk):IntKind.i64.wrap ((e.nm 256).int 0+1)=(e.nm 256).int 0+1:=Q7 D.H.m0 (by
 have h1:(e.nm 256).int 0≤((c.E (kOf e)).length:Int):=D.H.mL;have h2:(c.E (kOf e)).length≤2:=Ys;omega)
def Que(e:Env)(d:Nat):Prop:=∀r,r < 8→QV e d (5 * r)=K1 (e.nm 257).int (e.nm 257).bool ((e.nm 295).int 0).toNat r
theorem RD.put{d:Nat}{h' nb' nm':Nm}(D:RD c e f s t tk)(M7:Qfq c (gE c) (gG c) (e.nm 152) (e.nm 160) (e.nm 256) (e.nm 257) (e.nm 232) (e.nm 258) (e.nm d) s (t,tk))(h0:h'.int 0=IntKind.i64.wrap ((e.nm 256).int 0+1))(b1:nb'.int=QA (e.nm 257).int (((e.nm 295).int 0).toNat * 40) ((Qa d 0 stK).map (QZ e)))
 (b2:nb'.bool=QA (e.nm 257).bool (((e.nm 295).int 0).toNat * 40) ((Qa d 0 stK).map (Z4 e))) (b3:nm'.bool=QA (e.nm 258).bool ((e.nm 295).int 0).toNat [Z4 e (LX.t (SX.b true))]) (hne:¬Que e d):∃s,Mid c (gE c) (gG c) (e.nm 152) (e.nm 160) h' nb' (e.nm 232) nm' s:=by
 rw [D.tT]at b1 b2 b3;refine QnQ (e:=e) D.hc M7 (h0.trans D.up) b1 b2 (fun r _=>rfl) b3 fun hall=>hne fun r hr=>?_
 rw [D.tT];exact hall r hr
theorem RD.same{d:Nat}{h':Nm}(D:RD c e f s t tk)(M7:Qfq c (gE c) (gG c) (e.nm 152) (e.nm 160) (e.nm 256) (e.nm 257) (e.nm 232) (e.nm 258) (e.nm d) s (t,tk))(h0:h'.int 0=IntKind.i64.wrap ((e.nm 256).int 0+1))(he:Que e d):∃s,Mid c (gE c) (gG c) (e.nm 152) (e.nm 160) h' (e.nm 257) (e.nm 232) (e.nm 258) s:=by
 refine QhV D.hc M7 (h0.trans D.up) fun r hr=>?_
 have:=he r hr;rw [D.tT]at this;exact this
end
set_option maxHeartbeats 8000000 in
theorem QfS(c:Cx)(hc:c.ok)(base:Option Addr)(cap:Nat)(int:Nat→Int)(bool:Nat→Bool)(hcI:c.I=Za int c.N)(n63:(c.N:Int) < 2 ^ 63)(w:World)(hr:XW w base c.N Qc int bool) :
 Calls Tryz.prog 7 #[.slice base c.N cap,.int .u32 c.en,.int .i64 c.R] w fun en w'=>∃m m',en= .returned ((RZ.se stK (some .i64)).val m m')∧Below w.heap.size w w'∧ZH c m m'∧(RZ.se stK (some .i64)).mem w.heap.size w' m m':=by
 refine WR (C:=raC) (I:=raI c) Qo rfl Tryz.func7 QrW (Yu [nmR base cap int bool,nmN c.en,nmN c.R,nmN c.N]) w rfl ?_ (.se stK (some .i64)) (ZH c) ?_ ?_
 ·intro r hr0;rw [List.mem_singleton.1 hr0];exact hr
 ·refine⟨?_,?_,?_,?_,?_,?_,?_,?_,?_,?_,?_,?_,?_,?_,?_,?_,?_,?_,?_,?_,?_,?_,?_,?_,?_,?_,?_,?_,?_,?_,?_,?_,?_,?_,?_,?_,?_,?_,?_,?_,?_,?_,?_,?_,?_,?_,trivial⟩
  all_goals
   intro e he hcd;have h0:e.nm 0=nmR base cap int bool:=he 0 (by decide)
   have h1:e.nm 1=nmN c.en:=he 1 (by decide)
   have h2:e.nm 2=nmN c.R:=he 2 (by decide)
   have h3:e.nm 3=nmN c.N:=he 3 (by decide)
   try (simp only [QC,Ze,Cd.holds,dv1,dv2,di1,db2,dr1,dr2,dq1,dq2,do1,Xc,Xb,ZY,ZX,Xa,ZZ,ZW,ZV,ZU,ZT,Xe,Xd,Jc,Jb,XY,XX,Ja,XZ,List.map_cons,List.map_nil,Nat.mul_one,Nat.add_zero,List.getElem?_cons_zero,List.getElem?_cons_succ,Option.some.injEq,exists_eq_left',and_true,and_assoc,Env.int,Env.bool,Xp,Nat.reduceLeDiff,Nat.reduceAdd,Wf,ra0,ra1,ra2,ra3,ra4,ra5,ra6,ra7,ra8,Qsc,Qsd,Qse,Qsf,Qsg,Qsh,Qft,Qfu,Qfv,Jk,raI,h1,h2,h3,nmN,nmI]at hcd)
  all_goals
   try (have z0:Z0 c.N (e.nm 58) (e.nm 59):=by(have q:=hcd;repeat first|exact q|exact q.1|replace q:=q.2)
        have zk:=z0.k0;have zN:=z0.kN;have z1:=z0.k1)
  all_goals
   try (have c4096:¬4096 < (c.N:Int):=by(have q:=hcd;repeat first|exact q|exact q.1|replace q:=q.2))
  all_goals
   try (have l58:(e.nm 58).int 1=c.N:=by
         have q:¬(e.nm 58).int 0 < (c.N:Int):=by(have q:=hcd;repeat first|exact q|exact q.1|replace q:=q.2)
         omega)
  all_goals
   try (have g160:(e.nm 160).int 0=XQ (e.nm 154).bool c.N true:=by
         have q:(e.nm 160).int=fun _=>XQ (e.nm 154).bool ((e.nm 3).int 0).toNat true:=by(have q:=hcd;repeat first|exact q|exact q.1|replace q:=q.2)
         rw [h3]at q;exact congrFun q 0
        have il:=Qf9 (m:=(e.nm 154).bool) (v:=true) (n:=c.N))
  all_goals
   try (have V:Qah c (gE c) (gG c) (e.nm 152) (e.nm 153) (e.nm 155) (e.nm 154):=by(have q:=hcd;repeat first|exact q|exact q.1|replace q:=q.2)
        have vn:=V.n0;have vR:=V.nR;have hR1:=hc.R1)
  all_goals
   first
    |exact True.intro
    |(simp only [QC,Ze,Cd.holds,dv1,dv2,di1,db2,dr1,dr2,dq1,dq2,do1,Xc,Xb,ZY,ZX,Xa,ZZ,ZW,ZV,ZU,ZT,Xe,Xd,Jc,Jb,XY,XX,Ja,XZ,List.map_cons,List.map_nil,Nat.mul_one,Nat.add_zero,List.getElem?_cons_zero,List.getElem?_cons_succ,Option.some.injEq,exists_eq_left',and_true,and_assoc,Env.int,Env.bool,Xp,Nat.reduceLeDiff,Nat.reduceAdd,Wf,h1,h2,h3,nmN,nmI];first
       |omega
       |(rw [Q7 (by omega) (by omega)];omega)
       |(rw [IntKind.wrap_i64];omega)
       |(
         have f34:(e.nm 34).int=fun _=>Zw (Q4 (e.nm 0).int) ((e.nm 3).int 0).toNat ((e.nm 1).int 0):=by(have q:=hcd;repeat first|exact q|exact q.1|replace q:=q.2)
         have c34:¬(e.nm 34).int 0 < 0:=by(have q:=hcd;repeat first|exact q|exact q.1|replace q:=q.2)
         have g34:(e.nm 34).int 0=Zw (Q4 int) c.N c.en:=by rw [f34,h0,h1,h3];rfl
         obtain⟨f,ff,fe,fN⟩:=Yv (I:=Q4 int) (N:=c.N) (a:=c.en) (by rw [←g34];omega)
         have fF:QG c.I c.en c.N=some f:=by rw [hcI,←J4];exact ff
         have cf:c.f=f:=by unfold Cx.f;rw [fF];rfl
         have eF:(e.nm 34).int 0=(f:Int):=by rw [g34];exact fe
         omega)
       |(
         have C:RC c int e:=⟨hc,hcI,by rw [h0];rfl,by rw [h1];rfl,by rw [h3];rfl,by(have q:=hcd;repeat first|exact q|exact q.1|replace q:=q.2),by(have q:=hcd;repeat first|exact q|exact q.1|replace q:=q.2),by(have q:=hcd;repeat first|exact q|exact q.1|replace q:=q.2),by(have q:=hcd;repeat first|exact q|exact q.1|replace q:=q.2)⟩
         obtain⟨s,H,kT,Ed,e1,e2,e3,m0,k0,n0,nR⟩:=C.mid
         first|omega|(rw [Q7 (by omega) (by omega)];omega)|fail "")
       |(
         have C:RC c int e:=⟨hc,hcI,by rw [h0];rfl,by rw [h1];rfl,by rw [h3];rfl,by(have q:=hcd;repeat first|exact q|exact q.1|replace q:=q.2),by(have q:=hcd;repeat first|exact q|exact q.1|replace q:=q.2),by(have q:=hcd;repeat first|exact q|exact q.1|replace q:=q.2),by(have q:=hcd;repeat first|exact q|exact q.1|replace q:=q.2)⟩
         obtain⟨f,s,t,tk,D⟩:=C.edge (by(have q:=hcd;repeat first|exact q|exact q.1|replace q:=q.2)) (by(have q:=hcd;repeat first|exact q|exact q.1|replace q:=q.2))
         have t0:=D.t0;have tN:=D.tN;omega)
       |fail "")
    |(show(((e.nm 3).int 0).toNat:Int) < 2 ^ 63
      rw [h3];show((c.N:Int).toNat:Int) < 2 ^ 63;omega)
    |skip
  ·exact⟨Int.le_refl 0,(show(0:Int)≤c.N by omega),rfl,fun k hk=>absurd hk (show ¬k < 0 by omega)⟩
  ·have kl:(e.nm 58).int 0 < (c.N:Int):=by(have q:=hcd;repeat first|exact q|exact q.1|replace q:=q.2)
   have u1:(e.nm 92).int=QA (e.nm 59).int (((e.nm 58).int 1).toNat * 40) ((Qa 84 0 stK).map (QZ e)):=by(have q:=hcd;repeat first|exact q|exact q.1|replace q:=q.2)
   have u2:(e.nm 92).bool=QA (e.nm 59).bool (((e.nm 58).int 1).toNat * 40) ((Qa 84 0 stK).map (Z4 e)):=by(have q:=hcd;repeat first|exact q|exact q.1|replace q:=q.2)
   have f84:(e.nm 84).int=QU fun _=>QK (PX.dat e 0 (.a (Qa 80 0 Qb))):=by(have q:=hcd;repeat first|exact q|exact q.1|replace q:=q.2)
   have g84:(e.nm 84).bool=QI fun _=>QK (PX.dat e 0 (.a (Qa 80 0 Qb))):=by(have q:=hcd;repeat first|exact q|exact q.1|replace q:=q.2)
   have f80:(e.nm 80).int=QJ Qt:=by(have q:=hcd;repeat first|exact q|exact q.1|replace q:=q.2)
   have g80:(e.nm 80).bool=QO Qt:=by(have q:=hcd;repeat first|exact q|exact q.1|replace q:=q.2)
   have hT:QK (PX.dat e 0 (.a (Qa 80 0 Qb)))=Qt:=by rw [Q0];exact Qk e 80 f80 g80
   rw [hT]at f84 g84;rw [z1]at u1 u2;have s0:IntKind.i64.wrap ((e.nm 58).int 0+1)=(e.nm 58).int 0+1:=Q7 zk (by omega)
   have s1:IntKind.i64.wrap ((e.nm 58).int 1+1)=(e.nm 58).int 1+1:=Q7 (by omega) (by omega)
   have B:=Qfz (e:=e) (d:=84) z0.bf u1 u2 (fun r _=>QW e 84 f84 g84 r)
   refine⟨?_,?_,?_,?_⟩
   ·show 0≤IntKind.i64.wrap ((e.nm 58).int 0+1);omega
   ·show IntKind.i64.wrap ((e.nm 58).int 0+1)≤(c.N:Int);omega
   ·show IntKind.i64.wrap ((e.nm 58).int 1+1)=IntKind.i64.wrap ((e.nm 58).int 0+1);omega
   ·show BIs _ (IntKind.i64.wrap ((e.nm 58).int 0+1)).toNat _;rw [show(IntKind.i64.wrap ((e.nm 58).int 0+1)).toNat=((e.nm 58).int 0).toNat+1 by omega]
    exact B
  ·
   have f34:(e.nm 34).int=fun _=>Zw (Q4 (e.nm 0).int) ((e.nm 3).int 0).toNat ((e.nm 1).int 0):=by(have q:=hcd;repeat first|exact q|exact q.1|replace q:=q.2)
   have c34:¬(e.nm 34).int 0 < 0:=by(have q:=hcd;repeat first|exact q|exact q.1|replace q:=q.2)
   have g34:(e.nm 34).int 0=Zw (Q4 int) c.N c.en:=by rw [f34,h0,h1,h3];rfl
   obtain⟨f,ff,fe,fN⟩:=Yv (I:=Q4 int) (N:=c.N) (a:=c.en) (by rw [←g34];omega)
   have fF:QG c.I c.en c.N=some f:=by rw [hcI,←J4];exact ff
   have cf:c.f=f:=by unfold Cx.f;rw [fF];rfl
   have eF:(e.nm 34).int 0=(f:Int):=by rw [g34];exact fe
   have u1:(e.nm 128).int=QA (e.nm 59).int (((e.nm 34).int 0).toNat * 40) ((Qa 120 0 stK).map (QZ e)):=by(have q:=hcd;repeat first|exact q|exact q.1|replace q:=q.2)
   have u2:(e.nm 128).bool=QA (e.nm 59).bool (((e.nm 34).int 0).toNat * 40) ((Qa 120 0 stK).map (Z4 e)):=by(have q:=hcd;repeat first|exact q|exact q.1|replace q:=q.2)
   have u3:(e.nm 144).bool=QA (e.nm 84).bool ((e.nm 34).int 0).toNat [Z4 e (LX.t (SX.b true))]:=by(have q:=hcd;repeat first|exact q|exact q.1|replace q:=q.2)
   have f120:(e.nm 120).int=QU fun _=>QK (PX.dat e 0 (.a (Qa 116 0 Qb))):=by(have q:=hcd;repeat first|exact q|exact q.1|replace q:=q.2)
   have g120:(e.nm 120).bool=QI fun _=>QK (PX.dat e 0 (.a (Qa 116 0 Qb))):=by(have q:=hcd;repeat first|exact q|exact q.1|replace q:=q.2)
   have f116:(e.nm 116).int=QJ Qp:=by(have q:=hcd;repeat first|exact q|exact q.1|replace q:=q.2)
   have g116:(e.nm 116).bool=QO Qp:=by(have q:=hcd;repeat first|exact q|exact q.1|replace q:=q.2)
   have z84:(e.nm 84).bool=fun _=>false:=by(have q:=hcd;repeat first|exact q|exact q.1|replace q:=q.2)
   have z96:(e.nm 96).int=fun _=>0:=by(have q:=hcd;repeat first|exact q|exact q.1|replace q:=q.2)
   have hT:QK (PX.dat e 0 (.a (Qa 116 0 Qb)))=Qp:=by rw [Q0];exact Qk e 116 f116 g116
   rw [hT]at f120 g120;have tf:((e.nm 34).int 0).toNat=c.f:=by rw [cf];omega
   rw [tf]at u1 u2 u3
   have B:BIs (e.nm 59) c.N fun _ _=>Qt:=by
    have:=z0.bf;rwa [show((e.nm 58).int 0).toNat=c.N by omega]at this
   exact Qta (e:=e) (d:=120) B rfl z84 z96 u1 u2 (fun r _=>QW e 120 f120 g120 r) u3
  ·have k0:0≤(e.nm 160).int 0:=by(have q:=hcd;repeat first|exact q|exact q.1|replace q:=q.2)
   show(0≤(e.nm 160).int 0∧(e.nm 160).int 0 < ((e.nm 3).int 0).toNat)∧(((e.nm 3).int 0).toNat:Int) < 2 ^ 63;rw [h3];show(0≤(e.nm 160).int 0∧(e.nm 160).int 0 < ((c.N:Int).toNat:Int))∧((c.N:Int).toNat:Int) < 2 ^ 63;omega
  ·have k0:0≤(e.nm 160).int 0:=by(have q:=hcd;repeat first|exact q|exact q.1|replace q:=q.2)
   have v1:(e.nm 232).int=QA (e.nm 155).int ((e.nm 160).int 0).toNat [QZ e (LX.n IntKind.i64 (SX.o BinOp.add IntKind.i64 (SX.r 155 1 0 (SX.v 160 0)) (SX.i 1)))]:=by(have q:=hcd;repeat first|exact q|exact q.1|replace q:=q.2)
   have m2:(e.nm 204).bool=QA (e.nm 154).bool ((e.nm 160).int 0).toNat [Z4 e (LX.t (SX.b false))]:=by(have q:=hcd;repeat first|exact q|exact q.1|replace q:=q.2)
   have hR:¬c.R≤(e.nm 152).int 0:=by(have q:=hcd;repeat first|exact q|exact q.1|replace q:=q.2)
   have hkN:((e.nm 160).int 0).toNat < c.N:=by omega
   have hb:0≤(e.nm 155).int ((e.nm 160).int 0).toNat∧(e.nm 155).int ((e.nm 160).int 0).toNat≤(e.nm 152).int 0:=by
    obtain⟨s,hs,hv, -⟩:=V.st;rw [hs.v _ hkN];exact hv _
   have hx:QZ e (LX.n IntKind.i64 (SX.o BinOp.add IntKind.i64 (SX.r 155 1 0 (SX.v 160 0)) (SX.i 1)))=(e.nm 155).int ((e.nm 160).int 0).toNat+1:=by
    simp only [li,do1,dr1,dv1,di1,Nat.mul_one,Nat.add_zero];rw [IntKind.wrap_i64];omega
   have hR':(e.nm 152).int 0 < c.R:=by omega
   have hi':¬(e.nm 160).int 0 < 0:=by omega
   exact Qfc V hR' g160 hi' rfl v1 hx m2
  ·show(0≤(e.nm 160).int 0∧(e.nm 160).int 0 < ((e.nm 3).int 0).toNat)∧((e.nm 3).int 0).toNat≤4096∧QG (Za (e.nm 0).int ((e.nm 3).int 0).toNat) (Za (e.nm 0).int ((e.nm 3).int 0).toNat ((e.nm 160).int 0).toNat).addr ((e.nm 3).int 0).toNat=some ((e.nm 160).int 0).toNat∧(∀k,(Za (e.nm 0).int ((e.nm 3).int 0).toNat k).wf)∧(∀r,(stD (PX.dat e 257 (.a (rxL 257 40 (.v 160 0) 0 stK))) r).wf)∧0≤(e.nm 256).int 0
   have C:RC c int e:=⟨hc,hcI,by rw [h0];rfl,by rw [h1];rfl,by rw [h3];rfl,by(have q:=hcd;repeat first|exact q|exact q.1|replace q:=q.2),by(have q:=hcd;repeat first|exact q|exact q.1|replace q:=q.2),by(have q:=hcd;repeat first|exact q|exact q.1|replace q:=q.2),by(have q:=hcd;repeat first|exact q|exact q.1|replace q:=q.2)⟩
   obtain⟨f,s,t,tk,D⟩:=C.edge (by(have q:=hcd;repeat first|exact q|exact q.1|replace q:=q.2)) (by(have q:=hcd;repeat first|exact q|exact q.1|replace q:=q.2))
   have k0:=D.H.k0;have kT:=D.kT;have rk':stD (PX.dat e 257 (.a (rxL 257 40 (.v 160 0) 0 stK)))=s.b (kOf e):=D.rk;rw [rk',h0,h3];have hs':=D.hs;have hw:=hc.wf;rw [hcI]at hs' hw;exact⟨⟨k0,show(e.nm 160).int 0 < ((c.N:Int).toNat:Int)by omega⟩,by show((c.N:Int)).toNat≤4096;omega,hs',hw,D.wk _,D.H.m0⟩
  ·show(∀k,(stD (PX.dat e 0 (.a (rxL 257 40 (.v 295 0) 0 stK))) k).wf)∧∀k,(stD (PX.dat e 0 (.a (Qa 351 0 stK))) k).wf
   have C:RC c int e:=⟨hc,hcI,by rw [h0];rfl,by rw [h1];rfl,by rw [h3];rfl,by(have q:=hcd;repeat first|exact q|exact q.1|replace q:=q.2),by(have q:=hcd;repeat first|exact q|exact q.1|replace q:=q.2),by(have q:=hcd;repeat first|exact q|exact q.1|replace q:=q.2),by(have q:=hcd;repeat first|exact q|exact q.1|replace q:=q.2)⟩
   obtain⟨f,s,t,tk,D⟩:=C.edge (by(have q:=hcd;repeat first|exact q|exact q.1|replace q:=q.2)) (by(have q:=hcd;repeat first|exact q|exact q.1|replace q:=q.2))
   have f1:(e.nm 351).int=QU (aR e):=by(have q:=hcd;repeat first|exact q|exact q.1|replace q:=q.2)
   have f2:(e.nm 351).bool=QI (aR e):=by(have q:=hcd;repeat first|exact q|exact q.1|replace q:=q.2)
   rw [D.rt];exact⟨D.wk _,(D.af f1 f2).2⟩
  ·show(∀k,(stD (PX.dat e 0 (.a (rxL 257 40 (.v 295 0) 0 stK))) k).wf)∧∀k,(stD (PX.dat e 0 (.a (Qa 355 0 stK))) k).wf
   have C:RC c int e:=⟨hc,hcI,by rw [h0];rfl,by rw [h1];rfl,by rw [h3];rfl,by(have q:=hcd;repeat first|exact q|exact q.1|replace q:=q.2),by(have q:=hcd;repeat first|exact q|exact q.1|replace q:=q.2),by(have q:=hcd;repeat first|exact q|exact q.1|replace q:=q.2),by(have q:=hcd;repeat first|exact q|exact q.1|replace q:=q.2)⟩
   obtain⟨f,s,t,tk,D⟩:=C.edge (by(have q:=hcd;repeat first|exact q|exact q.1|replace q:=q.2)) (by(have q:=hcd;repeat first|exact q|exact q.1|replace q:=q.2))
   have f1:(e.nm 351).int=QU (aR e):=by(have q:=hcd;repeat first|exact q|exact q.1|replace q:=q.2)
   have f2:(e.nm 351).bool=QI (aR e):=by(have q:=hcd;repeat first|exact q|exact q.1|replace q:=q.2)
   have f3:(e.nm 355).int=QU (jR e):=by(have q:=hcd;repeat first|exact q|exact q.1|replace q:=q.2)
   have f4:(e.nm 355).bool=QI (jR e):=by(have q:=hcd;repeat first|exact q|exact q.1|replace q:=q.2)
   obtain⟨n1,n2,n3⟩:=D.jo f1 f2 f3 f4;rw [D.rt];exact⟨D.wk _,n3⟩
  ·
   have C:RC c int e:=⟨hc,hcI,by rw [h0];rfl,by rw [h1];rfl,by rw [h3];rfl,by(have q:=hcd;repeat first|exact q|exact q.1|replace q:=q.2),by(have q:=hcd;repeat first|exact q|exact q.1|replace q:=q.2),by(have q:=hcd;repeat first|exact q|exact q.1|replace q:=q.2),by(have q:=hcd;repeat first|exact q|exact q.1|replace q:=q.2)⟩
   obtain⟨f,s,t,tk,D⟩:=C.edge (by(have q:=hcd;repeat first|exact q|exact q.1|replace q:=q.2)) (by(have q:=hcd;repeat first|exact q|exact q.1|replace q:=q.2))
   have f1:(e.nm 351).int=QU (aR e):=by(have q:=hcd;repeat first|exact q|exact q.1|replace q:=q.2)
   have f2:(e.nm 351).bool=QI (aR e):=by(have q:=hcd;repeat first|exact q|exact q.1|replace q:=q.2)
   have f3:(e.nm 355).int=QU (jR e):=by(have q:=hcd;repeat first|exact q|exact q.1|replace q:=q.2)
   have f4:(e.nm 355).bool=QI (jR e):=by(have q:=hcd;repeat first|exact q|exact q.1|replace q:=q.2)
   obtain⟨n1,n2,n3⟩:=D.jo f1 f2 f3 f4;have w1:(e.nm 407).int=QU (wR e):=by(have q:=hcd;repeat first|exact q|exact q.1|replace q:=q.2)
   have w2:(e.nm 407).bool=QI (wR e):=by(have q:=hcd;repeat first|exact q|exact q.1|replace q:=q.2)
   refine D.put (D.wi n2 (by(have q:=hcd;repeat first|exact q|exact q.1|replace q:=q.2)) w1 w2) rfl (by(have q:=hcd;repeat first|exact q|exact q.1|replace q:=q.2)) (by(have q:=hcd;repeat first|exact q|exact q.1|replace q:=q.2)) (by(have q:=hcd;repeat first|exact q|exact q.1|replace q:=q.2)) fun hall=>?_
   have hne:¬_:=hcd.2.2.2.2.1
   refine hne ⟨congrArg Qd.e (hall 0 (by omega)),congrArg Qd.t (hall 0 (by omega)),congrArg Qd.lo (hall 0 (by omega)),congrArg Qd.hi (hall 0 (by omega)),congrArg Qd.st (hall 0 (by omega)),congrArg Qd.e (hall 1 (by omega)),congrArg Qd.t (hall 1 (by omega)),congrArg Qd.lo (hall 1 (by omega)),congrArg Qd.hi (hall 1 (by omega)),congrArg Qd.st (hall 1 (by omega)),congrArg Qd.e (hall 2 (by omega)),congrArg Qd.t (hall 2 (by omega)),congrArg Qd.lo (hall 2 (by omega)),congrArg Qd.hi (hall 2 (by omega)),congrArg Qd.st (hall 2 (by omega)),congrArg Qd.e (hall 3 (by omega)),congrArg Qd.t (hall 3 (by omega)),congrArg Qd.lo (hall 3 (by omega)),congrArg Qd.hi (hall 3 (by omega)),congrArg Qd.st (hall 3 (by omega)),congrArg Qd.e (hall 4 (by omega)),congrArg Qd.t (hall 4 (by omega)),congrArg Qd.lo (hall 4 (by omega)),congrArg Qd.hi (hall 4 (by omega)),congrArg Qd.st (hall 4 (by omega)),congrArg Qd.e (hall 5 (by omega)),congrArg Qd.t (hall 5 (by omega)),congrArg Qd.lo (hall 5 (by omega)),congrArg Qd.hi (hall 5 (by omega)),congrArg Qd.st (hall 5 (by omega)),congrArg Qd.e (hall 6 (by omega)),congrArg Qd.t (hall 6 (by omega)),congrArg Qd.lo (hall 6 (by omega)),congrArg Qd.hi (hall 6 (by omega)),congrArg Qd.st (hall 6 (by omega)),congrArg Qd.e (hall 7 (by omega)),congrArg Qd.t (hall 7 (by omega)),congrArg Qd.lo (hall 7 (by omega)),congrArg Qd.hi (hall 7 (by omega)),congrArg Qd.st (hall 7 (by omega))⟩
  ·
   have C:RC c int e:=⟨hc,hcI,by rw [h0];rfl,by rw [h1];rfl,by rw [h3];rfl,by(have q:=hcd;repeat first|exact q|exact q.1|replace q:=q.2),by(have q:=hcd;repeat first|exact q|exact q.1|replace q:=q.2),by(have q:=hcd;repeat first|exact q|exact q.1|replace q:=q.2),by(have q:=hcd;repeat first|exact q|exact q.1|replace q:=q.2)⟩
   obtain⟨f,s,t,tk,D⟩:=C.edge (by(have q:=hcd;repeat first|exact q|exact q.1|replace q:=q.2)) (by(have q:=hcd;repeat first|exact q|exact q.1|replace q:=q.2))
   have f1:(e.nm 351).int=QU (aR e):=by(have q:=hcd;repeat first|exact q|exact q.1|replace q:=q.2)
   have f2:(e.nm 351).bool=QI (aR e):=by(have q:=hcd;repeat first|exact q|exact q.1|replace q:=q.2)
   have f3:(e.nm 355).int=QU (jR e):=by(have q:=hcd;repeat first|exact q|exact q.1|replace q:=q.2)
   have f4:(e.nm 355).bool=QI (jR e):=by(have q:=hcd;repeat first|exact q|exact q.1|replace q:=q.2)
   obtain⟨n1,n2,n3⟩:=D.jo f1 f2 f3 f4;have w1:(e.nm 407).int=QU (wR e):=by(have q:=hcd;repeat first|exact q|exact q.1|replace q:=q.2)
   have w2:(e.nm 407).bool=QI (wR e):=by(have q:=hcd;repeat first|exact q|exact q.1|replace q:=q.2)
   refine D.same (D.wi n2 (by(have q:=hcd;repeat first|exact q|exact q.1|replace q:=q.2)) w1 w2) rfl ?_
   obtain⟨a0,a1,a2,a3,a4,a5,a6,a7,a8,a9,a10,a11,a12,a13,a14,a15,a16,a17,a18,a19,a20,a21,a22,a23,a24,a25,a26,a27,a28,a29,a30,a31,a32,a33,a34,a35,a36,a37,a38,a39,_⟩:=hcd
   exact fun r hr=>match r,hr with
    |0,_=>mk5 a0 a1 a2 a3 a4
    |1,_=>mk5 a5 a6 a7 a8 a9
    |2,_=>mk5 a10 a11 a12 a13 a14
    |3,_=>mk5 a15 a16 a17 a18 a19
    |4,_=>mk5 a20 a21 a22 a23 a24
    |5,_=>mk5 a25 a26 a27 a28 a29
    |6,_=>mk5 a30 a31 a32 a33 a34
    |7,_=>mk5 a35 a36 a37 a38 a39
  ·
   have C:RC c int e:=⟨hc,hcI,by rw [h0];rfl,by rw [h1];rfl,by rw [h3];rfl,by(have q:=hcd;repeat first|exact q|exact q.1|replace q:=q.2),by(have q:=hcd;repeat first|exact q|exact q.1|replace q:=q.2),by(have q:=hcd;repeat first|exact q|exact q.1|replace q:=q.2),by(have q:=hcd;repeat first|exact q|exact q.1|replace q:=q.2)⟩
   obtain⟨f,s,t,tk,D⟩:=C.edge (by(have q:=hcd;repeat first|exact q|exact q.1|replace q:=q.2)) (by(have q:=hcd;repeat first|exact q|exact q.1|replace q:=q.2))
   have f1:(e.nm 351).int=QU (aR e):=by(have q:=hcd;repeat first|exact q|exact q.1|replace q:=q.2)
   have f2:(e.nm 351).bool=QI (aR e):=by(have q:=hcd;repeat first|exact q|exact q.1|replace q:=q.2)
   have f3:(e.nm 355).int=QU (jR e):=by(have q:=hcd;repeat first|exact q|exact q.1|replace q:=q.2)
   have f4:(e.nm 355).bool=QI (jR e):=by(have q:=hcd;repeat first|exact q|exact q.1|replace q:=q.2)
   obtain⟨n1,n2,n3⟩:=D.jo f1 f2 f3 f4;refine D.put (D.no n1 (by(have q:=hcd;repeat first|exact q|exact q.1|replace q:=q.2))) rfl (by(have q:=hcd;repeat first|exact q|exact q.1|replace q:=q.2)) (by(have q:=hcd;repeat first|exact q|exact q.1|replace q:=q.2)) (by(have q:=hcd;repeat first|exact q|exact q.1|replace q:=q.2)) fun hall=>?_
   have hne:¬_:=hcd.2.2.2.2.1
   refine hne ⟨congrArg Qd.e (hall 0 (by omega)),congrArg Qd.t (hall 0 (by omega)),congrArg Qd.lo (hall 0 (by omega)),congrArg Qd.hi (hall 0 (by omega)),congrArg Qd.st (hall 0 (by omega)),congrArg Qd.e (hall 1 (by omega)),congrArg Qd.t (hall 1 (by omega)),congrArg Qd.lo (hall 1 (by omega)),congrArg Qd.hi (hall 1 (by omega)),congrArg Qd.st (hall 1 (by omega)),congrArg Qd.e (hall 2 (by omega)),congrArg Qd.t (hall 2 (by omega)),congrArg Qd.lo (hall 2 (by omega)),congrArg Qd.hi (hall 2 (by omega)),congrArg Qd.st (hall 2 (by omega)),congrArg Qd.e (hall 3 (by omega)),congrArg Qd.t (hall 3 (by omega)),congrArg Qd.lo (hall 3 (by omega)),congrArg Qd.hi (hall 3 (by omega)),congrArg Qd.st (hall 3 (by omega)),congrArg Qd.e (hall 4 (by omega)),congrArg Qd.t (hall 4 (by omega)),congrArg Qd.lo (hall 4 (by omega)),congrArg Qd.hi (hall 4 (by omega)),congrArg Qd.st (hall 4 (by omega)),congrArg Qd.e (hall 5 (by omega)),congrArg Qd.t (hall 5 (by omega)),congrArg Qd.lo (hall 5 (by omega)),congrArg Qd.hi (hall 5 (by omega)),congrArg Qd.st (hall 5 (by omega)),congrArg Qd.e (hall 6 (by omega)),congrArg Qd.t (hall 6 (by omega)),congrArg Qd.lo (hall 6 (by omega)),congrArg Qd.hi (hall 6 (by omega)),congrArg Qd.st (hall 6 (by omega)),congrArg Qd.e (hall 7 (by omega)),congrArg Qd.t (hall 7 (by omega)),congrArg Qd.lo (hall 7 (by omega)),congrArg Qd.hi (hall 7 (by omega)),congrArg Qd.st (hall 7 (by omega))⟩
  ·
   have C:RC c int e:=⟨hc,hcI,by rw [h0];rfl,by rw [h1];rfl,by rw [h3];rfl,by(have q:=hcd;repeat first|exact q|exact q.1|replace q:=q.2),by(have q:=hcd;repeat first|exact q|exact q.1|replace q:=q.2),by(have q:=hcd;repeat first|exact q|exact q.1|replace q:=q.2),by(have q:=hcd;repeat first|exact q|exact q.1|replace q:=q.2)⟩
   obtain⟨f,s,t,tk,D⟩:=C.edge (by(have q:=hcd;repeat first|exact q|exact q.1|replace q:=q.2)) (by(have q:=hcd;repeat first|exact q|exact q.1|replace q:=q.2))
   have f1:(e.nm 351).int=QU (aR e):=by(have q:=hcd;repeat first|exact q|exact q.1|replace q:=q.2)
   have f2:(e.nm 351).bool=QI (aR e):=by(have q:=hcd;repeat first|exact q|exact q.1|replace q:=q.2)
   have f3:(e.nm 355).int=QU (jR e):=by(have q:=hcd;repeat first|exact q|exact q.1|replace q:=q.2)
   have f4:(e.nm 355).bool=QI (jR e):=by(have q:=hcd;repeat first|exact q|exact q.1|replace q:=q.2)
   obtain⟨n1,n2,n3⟩:=D.jo f1 f2 f3 f4;refine D.same (D.no n1 (by(have q:=hcd;repeat first|exact q|exact q.1|replace q:=q.2))) rfl ?_
   obtain⟨a0,a1,a2,a3,a4,a5,a6,a7,a8,a9,a10,a11,a12,a13,a14,a15,a16,a17,a18,a19,a20,a21,a22,a23,a24,a25,a26,a27,a28,a29,a30,a31,a32,a33,a34,a35,a36,a37,a38,a39,_⟩:=hcd
   exact fun r hr=>match r,hr with
    |0,_=>mk5 a0 a1 a2 a3 a4
    |1,_=>mk5 a5 a6 a7 a8 a9
    |2,_=>mk5 a10 a11 a12 a13 a14
    |3,_=>mk5 a15 a16 a17 a18 a19
    |4,_=>mk5 a20 a21 a22 a23 a24
    |5,_=>mk5 a25 a26 a27 a28 a29
    |6,_=>mk5 a30 a31 a32 a33 a34
    |7,_=>mk5 a35 a36 a37 a38 a39
  ·
   have C:RC c int e:=⟨hc,hcI,by rw [h0];rfl,by rw [h1];rfl,by rw [h3];rfl,by(have q:=hcd;repeat first|exact q|exact q.1|replace q:=q.2),by(have q:=hcd;repeat first|exact q|exact q.1|replace q:=q.2),by(have q:=hcd;repeat first|exact q|exact q.1|replace q:=q.2),by(have q:=hcd;repeat first|exact q|exact q.1|replace q:=q.2)⟩
   obtain⟨s,H,kT,Ed,e1,e2,e3,m0,k0,n0,nR⟩:=C.mid;have m1:¬(e.nm 256).int 0 < (e.nm 244).int 0:=by(have q:=hcd;repeat first|exact q|exact q.1|replace q:=q.2)
   have s0:IntKind.i64.wrap ((e.nm 152).int 0+1)=(e.nm 152).int 0+1:=by rw [IntKind.wrap_i64];omega
   refine QeU H ?_ s0;show ¬(e.nm 256).int 0 < ((c.E (kOf e)).length:Int);omega
 ·refine⟨?_,?_,?_,?_,trivial⟩
  all_goals
   intro e u w' he hcd hs hb;have h0:e.nm 0=nmR base cap int bool:=he 0 (by decide)
   have h1:e.nm 1=nmN c.en:=he 1 (by decide)
   have h2:e.nm 2=nmN c.R:=he 2 (by decide)
   have h3:e.nm 3=nmN c.N:=he 3 (by decide)
   simp only [QC,Ze,Cd.holds,dv1,dv2,di1,db2,dr1,dr2,dq1,dq2,do1,Xc,Xb,ZY,ZX,Xa,ZZ,ZW,ZV,ZU,ZT,Xe,Xd,Jc,Jb,XY,XX,Ja,XZ,List.map_cons,List.map_nil,Nat.mul_one,Nat.add_zero,List.getElem?_cons_zero,List.getElem?_cons_succ,Option.some.injEq,exists_eq_left',and_true,and_assoc,Env.int,Env.bool,Xp,Nat.reduceLeDiff,Nat.reduceAdd,Wf,ra0,ra1,ra2,ra3,ra4,ra5,ra6,ra7,ra8,Qsc,Qsd,Qse,Qsf,Qsg,Qsh,Qft,Qfu,Qfv,Jk,raI,h1,h2,h3,nmN,nmI]at hcd
   rw [show u=_ from hs]
  ·refine⟨nmI fun j=>if j=1 then 6 else 0,Nm.zero,rfl,?_,Nat.le_refl _,.inl ⟨rfl,rfl⟩⟩
   have q:4096 < (c.N:Int):=by(have q:=hcd;repeat first|exact q|exact q.1|replace q:=q.2)
   unfold ZH Zz;rw [if_pos (by omega)]
   exact⟨rfl,rfl⟩
  ·have f34:(e.nm 34).int=fun _=>Zw (Q4 (e.nm 0).int) ((e.nm 3).int 0).toNat ((e.nm 1).int 0):=by(have q:=hcd;repeat first|exact q|exact q.1|replace q:=q.2)
   have c34:(e.nm 34).int 0 < 0:=by(have q:=hcd;repeat first|exact q|exact q.1|replace q:=q.2)
   have g34:(e.nm 34).int 0=Zw (Q4 int) c.N c.en:=by rw [f34,h0,h1,h3];rfl
   have q:¬4096 < (c.N:Int):=by(have q:=hcd;repeat first|exact q|exact q.1|replace q:=q.2)
   refine⟨nmI fun j=>if j=1 then 9 else 0,Nm.zero,rfl,?_,Nat.le_refl _,.inl ⟨rfl,rfl⟩⟩
   unfold ZH Zz;rw [if_neg (by omega)]
   cases hf:QG c.I c.en c.N with
   |none=>exact⟨rfl,rfl⟩
   |some t=>
    rw [hcI,←J4]at hf;rw [g34,V0 hf]at c34;omega
  all_goals
   have V:Qah c (gE c) (gG c) (e.nm 152) (e.nm 153) (e.nm 155) (e.nm 154):=by(have q:=hcd;repeat first|exact q|exact q.1|replace q:=q.2)
   have q:¬4096 < (c.N:Int):=by(have q:=hcd;repeat first|exact q|exact q.1|replace q:=q.2)
   have z0:Z0 c.N (e.nm 58) (e.nm 59):=by(have q:=hcd;repeat first|exact q|exact q.1|replace q:=q.2)
   have zk:=z0.k0;have zN:=z0.kN;have z1:=z0.k1;have zl:¬(e.nm 58).int 0 < (c.N:Int):=by(have q:=hcd;repeat first|exact q|exact q.1|replace q:=q.2)
   have g160:(e.nm 160).int 0=XQ (e.nm 154).bool c.N true:=by
    have q:(e.nm 160).int=fun _=>XQ (e.nm 154).bool ((e.nm 3).int 0).toNat true:=by(have q:=hcd;repeat first|exact q|exact q.1|replace q:=q.2)
    rw [h3]at q;exact congrFun q 0
   have f34:(e.nm 34).int=fun _=>Zw (Q4 (e.nm 0).int) ((e.nm 3).int 0).toNat ((e.nm 1).int 0):=by(have q:=hcd;repeat first|exact q|exact q.1|replace q:=q.2)
   have c34:¬(e.nm 34).int 0 < 0:=by(have q:=hcd;repeat first|exact q|exact q.1|replace q:=q.2)
   have g34:(e.nm 34).int 0=Zw (Q4 int) c.N c.en:=by rw [f34,h0,h1,h3];rfl
   obtain⟨f,ff,fe,fN⟩:=Yv (I:=Q4 int) (N:=c.N) (a:=c.en) (by rw [←g34];omega)
   have fF:QG c.I c.en c.N=some f:=by rw [hcI,←J4];exact ff
   have cf:c.f=f:=by unfold Cx.f;rw [fF];rfl
   have eF:(e.nm 34).int 0=(f:Int):=by rw [g34];exact fe
  ·have hi:0≤(e.nm 160).int 0:=by(have q:=hcd;repeat first|exact q|exact q.1|replace q:=q.2)
   have hR:c.R≤(e.nm 152).int 0:=by(have q:=hcd;repeat first|exact q|exact q.1|replace q:=q.2)
   have hres:=QeV V (by rw [←g160];omega) hR
   refine⟨nmI fun j=>if j=1 then 15 else 0,Nm.zero,rfl,?_,Nat.le_refl _,.inl ⟨rfl,rfl⟩⟩
   have hA:Zz c.I c.N c.en c.R= .error 15:=by
    unfold Zz;rw [if_neg (by omega),fF,←cf]
    dsimp only
    rw [show W2 c.I (X4 c.I c.N) (XP c.I c.N c.f) c.N c.R.toNat (Vb c.f)=none from hres]
   unfold ZH;rw [hA];exact⟨rfl,rfl⟩
  ·have hi:¬0≤(e.nm 160).int 0:=by(have q:=hcd;repeat first|exact q|exact q.1|replace q:=q.2)
   obtain⟨b,hres,hbis⟩:=QhF V (by rw [←g160];omega)
   refine⟨nmI fun j=>if j=1 then 0 else(e.nm 58).int 1,{e.nm 153 with base:=e.base 59,cap:=e.cap 59},rfl,?_,hb.1⟩
   have hA:Zz c.I c.N c.en c.R= .ok b:=by
    unfold Zz;rw [if_neg (by omega),fF,←cf]
    dsimp only
    rw [show W2 c.I (X4 c.I c.N) (XP c.I c.N c.f) c.N c.R.toNat (Vb c.f)=some b from hres]
   unfold ZH;rw [hA];exact⟨show(e.nm 58).int 1=(c.N:Int)by omega,rfl,hbis⟩
def Qaw:Kon Tryz.prog where
 sg:=⟨7,[.sl Qc,.l (some .u32),.l (some .i64)],.se stK (some .i64),false,false⟩
 pre ads:=match ads with| [d1,d2,d3]=>((∀k,k < Xz d1.val→(Q4 d1.int k).wf)∧0≤Q3 d2∧Q3 d3≤9223372036854775807)∧(Xz d1.val:Int) < 2 ^ 63|_=>False
 post ads m m':=match ads with| [d1,d2,d3]=>ZH (cxD d1 d2 d3) m m'|_=>True
 body:=⟨_,Tryz.func7,by kernel_rfl,by kernel_rfl⟩
 free h:=by cases h
 flat h:=by cases h
 total h:=by cases h
 same h:=by cases h
 sound ads w hf hp:=by
  obtain⟨d1,_,rfl,f1,hf⟩:=Qg hf;obtain⟨d2,_,rfl,f2,hf⟩:=Qg hf;obtain⟨d3,_,rfl,f3,hf⟩:=Qg hf;obtain rfl:=Qm hf;obtain⟨g1,g2⟩:=VO f1;obtain⟨⟨p1,p2,p3⟩,p4⟩:=hp;show Calls _ _ #[d1.val,d2.val,d3.val] w _;rw [g1,QB f2,QB f3];refine QfS (cxD d1 d2 d3) ⟨fun k=>?_,p3,p2⟩ _ _ d1.int d1.bool rfl p4 w g2
  show(Za _ _ k).wf;unfold Za;split
  ·exact p1 k (by assumption)
  ·exact QaM
end Go.Proofs.YteplnamfpodmlaaGreat.T2
end
