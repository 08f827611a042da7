/-
  Part of the proof.
-/
import Derived.Test.YteplnamfpodmlaaRB
import Derived.Test.YteplnamfpodmlaaRBits3
set_option linter.unusedVariables false
set_option linter.unusedSimpArgs false
set_option maxRecDepth 100000
open Go.ChangeShapes Go.WideShapes Go.ChangeAt Go.RowKit
section
namespace Go.Proofs.Yteplnamfpodmlaa.T2
theorem QbF{a b:Qd}(wa:a.wf)(wb:b.wf):ZF a (Va a b)=true∧ZF b (Va a b)=true:=by
 unfold ZF
 rw [Zm (Qh9 wa wb).2]
 exact Qc7 (QJ wa) (QJ wb) (Q2 a) (Q2 b)
theorem QbG{a:Qd}(wa:a.wf):ZF a a=true:=Qiz (QJ wa) (Q2 a)
theorem Qe8{a b c:Qd}(wa:a.wf)(wb:b.wf)(wc:c.wf)(h1:ZF a b=true)(h2:ZF b c=true):ZF a c=true:=
 Wv (QJ wa) (QJ wb) (QJ wc) (Q2 a) (Q2 b) (Q2 c) h1 h2
def Xi(a b:Nat→Qd):Prop:=∀r,r < 8→ZF (a r) (b r)=true
theorem Qiw{a b:Nat→Qd}:Vy a b=true↔Xi a b:=by
 unfold Vy Xi
 simp only [Bool.and_eq_true]
 constructor
 ·intro h r hr
  obtain⟨⟨⟨⟨⟨⟨⟨h0,h1⟩,h2⟩,h3⟩,h4⟩,h5⟩,h6⟩,h7⟩:=h
  match r,hr with
  |0,_=>exact h0
  |1,_=>exact h1
  |2,_=>exact h2
  |3,_=>exact h3
  |4,_=>exact h4
  |5,_=>exact h5
  |6,_=>exact h6
  |7,_=>exact h7
 ·intro h
  exact⟨⟨⟨⟨⟨⟨⟨h 0 (by decide),h 1 (by decide)⟩,h 2 (by decide)⟩,h 3 (by decide)⟩,h 4 (by decide)⟩,h 5 (by decide)⟩,h 6 (by decide)⟩,h 7 (by decide)⟩
theorem Xi.trans{a b c:Nat→Qd}(wa:∀k,(a k).wf)(wb:∀k,(b k).wf)(wc:∀k,(c k).wf)(h1:Xi a b)(h2:Xi b c):Xi a c:=fun r hr=>Qe8 (wa r) (wb r) (wc r) (h1 r hr) (h2 r hr)
theorem Xi.refl{a:Nat→Qd}(wa:∀k,(a k).wf):Xi a a:=fun r _=>QbG (wa r)
end Go.Proofs.Yteplnamfpodmlaa.T2
end
section
namespace Go.Proofs.Yteplnamfpodmlaa
end Go.Proofs.Yteplnamfpodmlaa
namespace Go.Proofs.Yteplnamfpodmlaa.T2
def X5(int:Nat→Int)(o:Nat):Nat→Int:=fun k=>if k < 8 then int (o+k)else 0
def Qu9(int:Nat→Int)(o:Nat):Ins:=⟨int o,int (o+1),int (o+2),int (o+3),int (o+4),int (o+5),int (o+6),int (o+7),int (o+8)⟩
def stO(int:Nat→Int)(bool:Nat→Bool)(o:Nat):Nat→Qd:=fun k=>if k < 8 then⟨bool (o+5 * k),bool (o+(5 * k+1)),int (o+(5 * k+2)),int (o+(5 * k+3)),int (o+(5 * k+4))⟩else X2 0
section
variable(e:Env)(d c:Nat)
theorem Yy(o:Nat):Q0 (PX.dat e c (.a (Qa d o Qb)))=Qu9 (e.int d) o:=rfl
theorem Qb8(o:Nat):stD (PX.dat e c (.a (Qa d o stK)))=stO (e.int d) (e.bool d) o:=by
 funext k
 unfold stO
 split
 ·rename_i h
  match k,h with
  |0,_|1,_|2,_|3,_|4,_|5,_|6,_|7,_=>rfl
 ·exact Qb9 rfl (by omega)
end
theorem QdR{int:Nat→Int}{o:Nat}(h:∀k,k < 8→Q5 (int (o+k))):∀k,Q5 (X5 int o k):=fun k=>by
 unfold X5
 split
 ·exact h k (by assumption)
 ·exact K9
end Go.Proofs.Yteplnamfpodmlaa.T2
end
section
namespace Go.Proofs.Yteplnamfpodmlaa.T2
theorem Wh{P:Program}{C:List (Kon P)}{I:List (Nat→Env→Prop)}{e:Env}{d k:Nat}{args:List (PX×Nat)}{c:Kon P}(h:Cd.holds C I e (.f d k args))(hk:C[k]?=some c):c.post (args.map (Ji e)) (e.nm d) (e.nm (d+1)):=by
 obtain⟨c',h1,h2⟩:=h
 cases hk.symm.trans h1
 exact h2
end Go.Proofs.Yteplnamfpodmlaa.T2
namespace Go.Proofs.Yteplnamfpodmlaa
open Go.ChangeShapes Go.WideShapes Go.ChangeAt Go.RowKit T2
end Go.Proofs.Yteplnamfpodmlaa
namespace Go.Proofs.Yteplnamfpodmlaa.T2
end Go.Proofs.Yteplnamfpodmlaa.T2
namespace Go.Proofs.Yteplnamfpodmlaa
open Go.ChangeShapes Go.WideShapes Go.ChangeAt Go.RowKit T2
end Go.Proofs.Yteplnamfpodmlaa
end
