/-
  Part of the proof.
-/
import Derived.Test.YteplnamfpodmlaaRMem
import Derived.Test.YteplnamfpodmlaaRSx
set_option linter.unusedVariables false
set_option linter.unusedSimpArgs false
set_option maxRecDepth 100000
open Go.ChangeShapes Go.WideShapes Go.ChangeAt Go.RowKit
namespace Go.Proofs.Yteplnamfpodmlaa
open Go.ChangeShapes Go.WideShapes Go.ChangeAt Go.RowKit Go.Deep
theorem Qbg{int int':Nat→Int}{bool bool':Nat→Bool}:∀{K:List (Option IntKind)} {j:Nat},(∀q,j≤q→int q=int' q∧bool q=bool' q)→ZB int bool j K=ZB int' bool' j K
 | [],_,_=>rfl
 |k :: K,j,h=>by
  unfold ZB
  rw [(h j (Nat.le_refl _)).1,(h j (Nat.le_refl _)).2,Qbg (K:=K) (j:=j+1) fun q hq=>h q (by omega)]
theorem Vs:∀{K:List (Option IntKind)} {cs:List Value} (j0:Nat),Zi K cs→∃(int:Nat→Int) (bool:Nat→Bool),cs=ZB int bool j0 K∧∀(j:Nat) (k:IntKind),K[j]?=some (some k)→(Lit.int k (int (j0+j))).wf=true
 | [],[],j0,_=>⟨fun _=>0,fun _=>false,rfl,fun j k h=>by simp at h⟩
 | [],_ :: _,_,h=>h.elim
 |_ :: _,[],_,h=>h.elim
 |k :: K,v :: cs,j0,h=>by
  obtain⟨h1,h2⟩:=h
  obtain⟨int,bool,rfl,hw⟩:=Vs (j0+1) h2
  have key:∀(n:Int) (b:Bool),v=XC k n b→(∀k',k=some k'→(Lit.int k' n).wf=true)→∃(int':Nat→Int) (bool':Nat→Bool),v :: ZB int bool (j0+1) K=ZB int' bool' j0 (k :: K)∧∀(j:Nat) (k':IntKind),(k :: K)[j]?=some (some k')→(Lit.int k' (int' (j0+j))).wf=true:=fun n b hv hk=>by
   refine⟨fun q=>if q=j0 then n else int q,fun q=>if q=j0 then b else bool q,?_,fun j k' hj=>?_⟩
   ·have hc:ZB int bool (j0+1) K=ZB (fun q=>if q=j0 then n else int q) (fun q=>if q=j0 then b else bool q) (j0+1) K:=Qbg fun q hq=>⟨(if_neg (by omega)).symm,(if_neg (by omega)).symm⟩
    show v :: ZB int bool (j0+1) K=XC k (if j0=j0 then n else int j0) (if j0=j0 then b else bool j0) :: ZB (fun q=>if q=j0 then n else int q) (fun q=>if q=j0 then b else bool q) (j0+1) K
    rw [←hc,if_pos rfl,if_pos rfl,hv]
   ·cases j with
    |zero=>
     simp only [List.getElem?_cons_zero,Option.some.injEq]at hj
     show(Lit.int k' (if j0+0=j0 then n else int (j0+0))).wf=true
     rw [if_pos (by omega)]
     exact hk k' hj
    |succ j=>
     simp only [List.getElem?_cons_succ]at hj
     show(Lit.int k' (if j0+(j+1)=j0 then n else int (j0+(j+1)))).wf=true
     rw [if_neg (by omega),show j0+(j+1)=j0+1+j by omega]
     exact hw j k' hj
  cases k with
  |none=>
   obtain⟨b,rfl⟩:=h1
   exact key 0 b rfl fun k' hk=>by cases hk
  |some k=>
   obtain⟨n,rfl,hn⟩:=h1
   exact key n false rfl fun k' hk=>by cases hk;exact hn
def InR(K:List (Option IntKind))(int:Nat→Int)(o:Nat):Prop:=∀(j:Nat) (k:IntKind),K[j]?=some (some k)→(Lit.int k (int (o+j))).wf=true
section
variable{H:Type}{enc:TypeId×Value→H}{P:Program}{w:World}{base:Nat}{spare:Nat→Bool}{held:Bool}
theorem Qcn{K:List (Option IntKind)}{A:Option Addr}{len:Nat}(hK:0 < K.length)
 (h:∀i,i < len→∃ad cs,A=some ad∧Zi K cs∧∀j u,cs[j]?=some u→w.cell? (ad.add (i * K.length+j))=some u) :
 ∃(int:Nat→Int) (bool:Nat→Bool),Xn w A len K int bool∧∀i,i < len→InR K int (i * K.length):=by
 have h1:∀i,i < len→∃p:(Nat→Int)×(Nat→Bool),∃ad,A=some ad∧(∀j u,(ZB p.1 p.2 0 K)[j]?=some u→w.cell? (ad.add (i * K.length+j))=some u)∧InR K p.1 0:=fun i hi=>by
  obtain⟨ad,cs,e,hl,hc⟩:=h i hi
  obtain⟨int,bool,rfl,hw⟩:=Vs 0 hl
  exact⟨(int,bool),ad,e,hc,hw⟩
 have:Inhabited ((Nat→Int)×(Nat→Bool)):=⟨(fun _=>0,fun _=>false)⟩
 obtain⟨F,hF⟩:=choose_lt h1
 have dv:∀i j,j < K.length→(i * K.length+j) / K.length=i∧(i * K.length+j) % K.length=j:=fun i j hj=>by
  rw [Nat.mul_comm,Nat.mul_add_div hK,Nat.mul_add_mod,Nat.div_eq_of_lt hj,Nat.mod_eq_of_lt hj]
  exact⟨rfl,rfl⟩
 have cl:∀(K:List (Option IntKind)) (j0 j:Nat) (k:Option IntKind) (int:Nat→Int) (bool:Nat→Bool),K[j]?=some k→(ZB int bool j0 K)[j]?=some (XC k (int (j0+j)) (bool (j0+j))):=by
  intro K
  induction K with
  |nil=>intro j0 j k int bool h;simp at h
  |cons k0 K ih=>
   intro j0 j k int bool h
   cases j with
   |zero=>simp only [List.getElem?_cons_zero,Option.some.injEq]at h;subst h;rfl
   |succ j=>
    simp only [List.getElem?_cons_succ]at h
    unfold ZB
    rw [List.getElem?_cons_succ,ih (j0+1) j k int bool h,show j0+1+j=j0+(j+1)by omega]
 have lt:∀(j:Nat) (k:Option IntKind),K[j]?=some k→j < K.length:=fun j k hj=>by
  rcases Nat.lt_or_ge j K.length with h0|h0
  ·exact h0
  ·rw [List.getElem?_eq_none h0]at hj;cases hj
 refine⟨fun q=>(F (q / K.length)).1 (q % K.length),fun q=>(F (q / K.length)).2 (q % K.length),fun i hi=>?_,fun i hi j k hj=>?_⟩
 ·obtain⟨ad,e,hc,hw⟩:=hF i hi
  refine⟨ad,e,?_,fun j k hj=>?_⟩
  ·obtain⟨k0,hk0⟩:∃k,K[0]?=some k:=⟨_,List.getElem?_eq_getElem hK⟩
   have h0:=World.block_lt_of_cell? w _ (hc 0 _ (cl K 0 0 k0 _ _ hk0))
   rwa [Jc]at h0
  ·have:=hc j _ (cl K 0 j k _ _ hj)
   rw [this,Nat.zero_add]
   dsimp only
   rw [(dv i j (lt j _ hj)).1,(dv i j (lt j _ hj)).2]
 ·obtain⟨ad,e,hc,hw⟩:=hF i hi
  have:=hw j k hj
  rw [Nat.zero_add]at this
  dsimp only
  rw [(dv i j (lt j _ hj)).1,(dv i j (lt j _ hj)).2]
  exact this
theorem QdO{r:Reach}{b0:Nat}{t e:TypeId}{fs:Array Field}{g:Field}{v:Value}{d:DataW H}{p:List MemPlace}(K Ke:List (Option IntKind))(n:Nat)(hs:P.underlying t=some (.struct fs))(hgl:fs.toList.getLast?=some g)
 (hK:Yv P (flat P n) 0 fs.toList.dropLast=some K) (ho:g.offset=K.length) (hg:P.underlying g.type=some (.slice e)) (hgc:P.cellsOf g.type=1) (hC:P.cellsOf t=K.length+1) (hKe:flat P n e=some Ke) (hCe:P.cellsOf e=Ke.length)
 (hv:Value.okWide P w r b0 t v) (h:DataW.Trod enc P w base spare held t v d p) :
 ∃cs A len cap,v= .agg (cs ++ [.slice A len cap]).toArray∧Zi K cs∧len≤maxLen∧∀i,i < len→∃ad cs,A=some ad∧Zi Ke cs∧∀j u,cs[j]?=some u→w.cell? (ad.add (i * Ke.length+j))=some u:=by
 obtain⟨gs,hgs⟩:∃gs,gs=fs.toList.dropLast:=⟨_,rfl⟩
 have hfs:fs.toList=gs ++ [g]:=by
  rw [hgs]
  obtain⟨ys,hy⟩:=List.getLast?_eq_some_iff.1 hgl
  rw [hy,List.dropLast_concat]
 rw [←hgs]at hK
 obtain⟨cs,rfl,hsz⟩:=okWide_struct hs hv
 obtain⟨fuel,hf⟩:=h
 have hl:cs.toList.length=K.length+1:=by rw [←hC,←hsz];simp
 obtain⟨xs,m,_,_,hlen,hxl,hf⟩:=DataW.trod_struct hs hf
 have at_:∀(i:Nat) (f:Field),fs.toList[i]?=some f→∃y,DataW.trod enc P w base spare held m f.type ((cs.toList.drop f.offset).take (P.cellsOf f.type))=some y:=fun i f hi=>by
  have hi':fs[i]?=some f:=by simpa using hi
  have hil:i < fs.size:=by
   rcases Nat.lt_or_ge i fs.size with h0|h0
   ·exact h0
   ·rw [Array.getElem?_eq_none h0]at hi';cases hi'
  have h1:=hf i f hi'
  rw [List.getElem?_eq_getElem (by omega)]at h1
  exact⟨_,h1⟩
 have hm:=QbS (cs:=cs.toList) gs 0 K hK (fun f hfm k hk=>by
  obtain⟨i,hi⟩:=List.mem_iff_getElem?.1 hfm
  have hil:i < gs.length:=by
   rcases Nat.lt_or_ge i gs.length with h0|h0
   ·exact h0
   ·rw [List.getElem?_eq_none h0]at hi;cases hi
  obtain⟨y,hy⟩:=at_ i f (by rw [hfs,List.getElem?_append_left hil];exact hi)
  have hcl:((cs.toList.drop f.offset).take (P.cellsOf f.type)).length=k.length:=by
   have hb:=QbR gs 0 K hK f hfm k hk
   rw [List.length_take,List.length_drop,hb.1];omega
  exact Qbr n f.type k m _ _ hk hcl hy)
 rw [List.drop_zero]at hm
 obtain⟨y,hy⟩:=at_ gs.length g (by rw [hfs,List.getElem?_append_right (Nat.le_refl _),Nat.sub_self];rfl)
 rw [ho,hgc]at hy
 have split:cs.toList=cs.toList.take K.length ++ (cs.toList.drop K.length).take 1:=by
  rw [List.take_of_length_le (l:=cs.toList.drop K.length) (by rw [List.length_drop];omega),List.take_append_drop]
 rcases open_slice hg hy with ⟨hcs,_⟩|⟨a,l,c,m',n',D,Pl,hcs,hb,hll,hmm,hm',hx,hi⟩
 ·refine⟨cs.toList.take K.length,none,0,0,?_,hm,Nat.zero_le _,fun i hi=>absurd hi (by omega)⟩
  rw [←hcs,←split]
 ·refine⟨cs.toList.take K.length,some a,l,c,?_,hm,Nat.le_trans hll hmm,fun i hil=>?_⟩
  ·rw [←hcs,←split]
  ·obtain⟨cs',hc,ht'⟩:=hi i (by rw [hm'];split <;> omega)
   obtain⟨_,hcl,hat⟩:=World.cells?_some hc
   rw [hCe]at hcl
   refine⟨a,cs',rfl,Qbr n e Ke n' cs' _ hKe hcl ht',fun j u hu=>?_⟩
   have hj:j < Ke.length:=by
    rcases Nat.lt_or_ge j cs'.length with h1|h1
    ·omega
    ·rw [List.getElem?_eq_none h1]at hu;cases hu
   have h1:=hat j (by rw [hCe];exact hj)
   rw [hCe,Qa2]at h1
   exact h1.trans hu
end
def JJ:List (Option IntKind):= [some .i64] ++ Qb ++ stK ++ stK ++ Qu ++ [some .u32,none]
theorem Qrc{int:Nat→Int}{o:Nat}(h:InR Qb int o):(⟨int o,int (o+1),int (o+2),int (o+3),int (o+4),int (o+5),int (o+6),int (o+7),int (o+8)⟩:Ins).wf:=
 ⟨VW (h 0 _ rfl),VW (h 1 _ rfl),WX (h 2 _ rfl),WX (h 3 _ rfl),WX (h 4 _ rfl),WX (h 5 _ rfl),WX (h 6 _ rfl),WX (h 7 _ rfl),WX (h 8 _ rfl)⟩
theorem Qx7{cs:List Value}(h:Zi Qb cs):∃i:Ins,i.wf∧cs=ZB (Q9 i) (fun _=>false) 0 Qb:=by
 obtain⟨int,bool,rfl,hw⟩:=Vs 0 h
 exact⟨⟨int 0,int 1,int 2,int 3,int 4,int 5,int 6,int 7,int 8⟩,Qrc hw,rfl⟩
def Qui(int:Nat→Int)(bool:Nat→Bool)(o:Nat):Nat→Qd:=fun k=>if k < 8 then⟨bool (o+5 * k),bool (o+(5 * k+1)),int (o+(5 * k+2)),int (o+(5 * k+3)),int (o+(5 * k+4))⟩else X2 0
theorem Qsk{int:Nat→Int}{bool:Nat→Bool}{o:Nat}(h:InR stK int o):∀k,(Qui int bool o k).wf:=fun k=>by
 unfold Qui
 split
 ·rename_i hk
  have w2:∀k,k < 8→stK[5 * k+2]?=some (some .u32)∧stK[5 * k+3]?=some (some .u32)∧stK[5 * k+4]?=some (some .u32):=by decide
  obtain⟨a,b,c⟩:=w2 k hk
  have ha:=VW (h _ _ a)
  have hb:=VW (h _ _ b)
  have hc:=VW (h _ _ c)
  exact⟨ha.1,ha.2,hb.1,hb.2,hc.1,hc.2⟩
 ·unfold Qd.wf X2;decide
theorem QxZ{cs:List Value}(h:Zi stK cs):∃s:Nat→Qd,(∀k,(s k).wf)∧(∀k,8≤k→s k=X2 0)∧cs=ZB (ZH s) (QU s) 0 stK:=by
 obtain⟨int,bool,rfl,hw⟩:=Vs 0 h
 refine⟨Qui int bool 0,Qsk hw,fun k hk=>by unfold Qui;rw [if_neg (by omega)],?_⟩
 rfl
end Go.Proofs.Yteplnamfpodmlaa
