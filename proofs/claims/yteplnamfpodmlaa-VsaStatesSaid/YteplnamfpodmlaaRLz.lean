/-
  Part of the proof.
-/
import Derived.Test.YteplnamfpodmlaaRA7
import Derived.Test.YteplnamfpodmlaaRLw
import Derived.Test.YteplnamfpodmlaaRFr
set_option linter.unusedVariables false
set_option linter.unusedSimpArgs false
set_option maxRecDepth 100000
open Go.ChangeShapes Go.WideShapes Go.ChangeAt Go.RowKit
namespace Go.Proofs.Yteplnamfpodmlaa
theorem KV:laidOutB Try.prog=true:=by kernel_rfl
theorem QfF(w:World):Calls Try.prog 12 #[] w (Ret (.bool true) w):=T2.example_any w
def Qvv:Con Try.prog:= .mk' ⟨12,[],.l none,true⟩
 (fun ads=>match ads with| []=>True|_=>False)
 (fun ads=>match ads with| []=>fun _=>0|_=>fun _=>0)
 (fun ads=>match ads with| []=>fun _=>true|_=>fun _=>false)
 ⟨_,Try.func12,by kernel_rfl,by kernel_rfl⟩ (fun ads w hf hp=>by
   obtain rfl:=Qn hf
   exact QfF  w)
end Go.Proofs.Yteplnamfpodmlaa
namespace Go.Proofs.Yteplnamfpodmlaa.T2
def kEx:Kon Try.prog:=Qe2 Qvv fun ads w hf=>by
 obtain rfl:=Qn hf
 trivial
theorem InR.part{A B C:List (Option IntKind)}{int:Nat→Int}{o:Nat}(h:InR (A ++ (B ++ C)) int o):InR B int (o+A.length):=fun j k hj=>by
 have hl:j < B.length:=by
  rcases Nat.lt_or_ge j B.length with h0|h0
  ·exact h0
  ·rw [List.getElem?_eq_none h0]at hj;cases hj
 have h1:=h (A.length+j) k (by rw [List.getElem?_append_right (by omega),Nat.add_sub_cancel_left,List.getElem?_append_left hl,hj])
 rw [Nat.add_assoc]
 exact h1
structure Qul(ci:Nat→Int):Prop where
 cc:Yx (ci 0)
 ins:(Qu9 ci 1).wf
 s:InR stK ci 10
 t:InR stK ci 50
 x:∀k,Q5 (X5 ci 90 k)
 n:Q5 (ci 98)
theorem Qsj{int:Nat→Int}{bool:Nat→Bool}{o:Nat}(h:InR stK int o):∀k,(stO int bool o k).wf:=Qsk h
theorem Qtk:JJ= [some .i64] ++ (Qb ++ (stK ++ stK ++ Qu ++ [some .u32,none])):=rfl
theorem Qtl:JJ= [some .i64] ++ Qb ++ (stK ++ (stK ++ Qu ++ [some .u32,none])):=rfl
theorem Qtm:JJ= [some .i64] ++ Qb ++ stK ++ (stK ++ (Qu ++ [some .u32,none])):=rfl
theorem Qtn:JJ= [some .i64] ++ Qb ++ stK ++ stK ++ (Qu ++ [some .u32,none]):=rfl
theorem Qns{ci:Nat→Int}(h:InR JJ ci 0):Qul ci where
 cc:=WX (h 0 _ rfl)
 ins:=Qrc (InR.part (A:= [some .i64]) (B:=Qb) (C:=stK ++ stK ++ Qu ++ [some .u32,none]) (Qtk ▸ h))
 s:=InR.part (A:= [some .i64] ++ Qb) (B:=stK) (C:=stK ++ Qu ++ [some .u32,none]) (Qtl ▸ h)
 t:=InR.part (A:= [some .i64] ++ Qb ++ stK) (B:=stK) (C:=Qu ++ [some .u32,none]) (Qtm ▸ h)
 x:=QdR fun k hk=>by
  have h1:=InR.part (A:= [some .i64] ++ Qb ++ stK ++ stK) (B:=Qu) (C:= [some .u32,none]) (Qtn ▸ h)
  have e:Qu[k]?=some (some .u32):=by
   match k,hk with
   |0,_|1,_|2,_|3,_|4,_|5,_|6,_|7,_=>rfl
  exact VW (h1 k _ e)
 n:=VW (h 98 _ rfl)
end Go.Proofs.Yteplnamfpodmlaa.T2
