/-
  Part of the proof.
-/
import Derived.Test.YteplnamfpodmlaaGreatQVal15
set_option linter.unusedVariables false
set_option linter.unusedSimpArgs false
set_option maxRecDepth 100000
open Go.ChangeShapes Go.WideShapes Go.ChangeAt Go.RowKit
namespace Go.Proofs.YteplnamfpodmlaaGreat
theorem QqX(a b:Qd)(ha:a.wf)(hb:b.wf)(w:World):Calls Tryz.prog 28 #[a.val,b.val] w (Ret (VV a b).val w):=by
 have na:=Q8 ha;have nb:=Q8 hb;have va:=Qz a;have vb:=Qz b
 have k:∀s:Qd,s.wf→Qx s=true→∀w,Calls Tryz.prog 53 #[s.val] w (Ret (.int .i64 (Q6 s)) w):=fun s ws vs w=>by
  have:=Qbm s ws w;unfold JF at this;rwa [Zl vs]at this
 have e:∀s:Qd,s.wf→Qx s=true→Q6 s≤64→∀w,Calls Tryz.prog 54 #[s.val] w (KI (XI s) (fun v=> .tuple #[v,.int .i64 0]) w):=fun s ws vs hc w=>by
  have:=Qf2 s ws (by unfold JF;rw [Zl vs];exact hc) w
  rwa [Zl vs]at this
 have e':∀s:Qd,s.wf→Qx s=true→¬Q6 s≤64→∀w,Calls Tryz.prog 54 #[s.val] w (Ret (.tuple #[.slice none 0 0,.int .i64 6]) w):=fun s ws vs hc w=>
  QdT s ws (by unfold JF;rw [Zl vs];exact hc) w
 exact QoC a b (Zb a) (Zb b) na nb (Qq va) (Qq vb) _ (Qq rfl) (k _ na va) (Qq (e _ na va)) (Qq (e _ nb vb)) (Qq (e' _ nb vb)) (ZS a ha) (ZS b hb) w
end Go.Proofs.YteplnamfpodmlaaGreat
