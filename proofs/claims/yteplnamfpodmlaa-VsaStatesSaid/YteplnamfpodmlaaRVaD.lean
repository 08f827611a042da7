/-
  Part of the proof.
-/
import Derived.Test.YteplnamfpodmlaaRVaC
import Derived.Deep.DeepCutAuto
set_option linter.unusedVariables false
set_option linter.unusedSimpArgs false
set_option maxRecDepth 100000
open Go.ChangeShapes Go.WideShapes Go.ChangeAt Go.RowKit
section
namespace Go.Proofs.Yteplnamfpodmlaa
def QL(a b:Qd):Bool:=
 if a.e || b.t then true else if a.t || b.e then false
 else Qm b a.lo && (Qm b a.hi && (a.st==0 || (decide (0 < b.st) && (a.st % b.st==0))))
def ZF(a b:Qd):Bool:=QL (ZO a) (ZO b)
theorem Qbm{n:Qd}(h:Qq n=true)(k:Int):Qz n k=Qm n k:=by unfold Qz;rw [Zm h]
set_option maxHeartbeats 2000000 in
theorem Qiy(a b n m:Qd)(hn:n.wf)(hm:m.wf)(hm2:Qq m=true)
 (x:∀w,Calls Try.prog 87 #[a.val] w (Ret n.val w)) (y:∀w,Calls Try.prog 87 #[b.val] w (Ret m.val w)) (w:World) :
 Calls Try.prog 47 #[a.val,b.val] w (Ret (.bool (QL n m)) w):=by
 have z1:∀w,Calls Try.prog 68 #[m.val,.int .u32 n.lo] w (Ret (.bool (Qm m n.lo)) w):=fun w=>by
  have:=Kt m hm n.lo hn.1 hn.2.1 w
  rwa [Qbm hm2]at this
 have z2:∀w,Calls Try.prog 68 #[m.val,.int .u32 n.hi] w (Ret (.bool (Qm m n.hi)) w):=fun w=>by
  have:=Kt m hm n.hi hn.2.2.1 hn.2.2.2.1 w
  rwa [Qbm hm2]at this
 go_enter Try.func47,Try.ntmps47
 go_upto_region 1 with fail
 go_cut [4] (fun s4 wx=>s4= .bool false∧Blk wx w.heap.size 34 n.cs∧Blk wx (w.heap.size+1) 34 m.cs∧Below w.heap.size w wx)
 case first=>
  go_region_with (first|(go_at_call 87;(with_reducible refine(x _).mono ?_);rintro e w1 ⟨rfl,hb1⟩;(have hA:=((Blk.new _ _ _).alloc _).drew.call hb1);(have hB:=((Blk.new _ _ _).drew).call hb1);simp only [World.size_alloc]at hB;obtain⟨hc,hf⟩:=hA.walk;obtain⟨hc2,hf2⟩:=hB.walk;(have hg:=after (w:=w) (by go_grown) hb1);(have hs1:=hg.size))|(go_at_call 87;(with_reducible refine(y _).mono ?_);rintro e w2 ⟨rfl,hb2⟩;(have hA2:=hA.call hb2);(have hB2:=hB.call hb2);obtain⟨hc3,hf3⟩:=hA2.walk;obtain⟨hc4,hf4⟩:=hB2.walk;(have hg2:=after hg hb2);(have hs2:=hg2.size)))
  all_goals (go_wp2_with fail;go_meet;exact⟨rfl,(Blk.put (a:=a) hA2 n).put_far (by omega) m,(Blk.put_far hB2 (by omega) n).put (a:=b) m,Qh (Qh hg2 (by omega) _) (by omega) _⟩)
 case rest=>
  obtain⟨rfl,hA,hB,hg⟩:=hcut
  obtain⟨hc,hf⟩:=hA.walk
  obtain⟨hc2,hf2⟩:=hB.walk
  have hs:=hg.size
  clear x y
  obtain⟨n0,n1,n2,n3,n4,n5⟩:=hn
  obtain⟨m0,m1,m2,m3,m4,m5⟩:=hm
  cases he1:n.e
  ·cases ht2:m.t
   ·cases ht1:n.t
    ·cases he2:m.e
     ·have E:QL n m=(Qm m n.lo && (Qm m n.hi && (n.st==0 || (decide (0 < m.st) && (n.st % m.st==0))))):=by
       unfold QL;simp only [he1,ht2,ht1,he2,Bool.or_self,Bool.false_eq_true,if_false]
      simp only [Qd.val,he2,ht2]at z1 z2
      cases c1:Qm m n.lo
      ·have H:=QF (E.trans (by rw [c1];rfl:_=false))
       clear E
       rw [c1]at z1
       go_wp2_with (first|(go_at_call 68;(with_reducible refine(z1 _).mono ?_);rintro e w1 ⟨rfl,hb1⟩;(have hA1:=hA.call hb1);(have hB1:=hB.call hb1);obtain⟨hc3,hf3⟩:=hA1.walk;obtain⟨hc4,hf4⟩:=hB1.walk;(have hg1:=after hg hb1))|(go_at_call 68;(with_reducible refine(z2 _).mono ?_);rintro e w2 ⟨rfl,hb2⟩;(have hA2:=hA1.call hb2);(have hB2:=hB1.call hb2);obtain⟨hc5,hf5⟩:=hA2.walk;obtain⟨hc6,hf6⟩:=hB2.walk;(have hg2:=after hg1 hb2)))
       go_returns
       exact⟨K5 H.out.symm,hg1⟩
      ·cases c2:Qm m n.hi
       ·have H:=QF (E.trans (by rw [c1,c2];rfl:_=false))
        clear E
        rw [c1]at z1
        rw [c2]at z2
        go_wp2_with (first|(go_at_call 68;(with_reducible refine(z1 _).mono ?_);rintro e w1 ⟨rfl,hb1⟩;(have hA1:=hA.call hb1);(have hB1:=hB.call hb1);obtain⟨hc3,hf3⟩:=hA1.walk;obtain⟨hc4,hf4⟩:=hB1.walk;(have hg1:=after hg hb1))|(go_at_call 68;(with_reducible refine(z2 _).mono ?_);rintro e w2 ⟨rfl,hb2⟩;(have hA2:=hA1.call hb2);(have hB2:=hB1.call hb2);obtain⟨hc5,hf5⟩:=hA2.walk;obtain⟨hc6,hf6⟩:=hB2.walk;(have hg2:=after hg1 hb2)))
        go_returns
        exact⟨K5 H.out.symm,hg2⟩
       ·rw [c1]at z1
        rw [c2]at z2
        cases c3:(n.st==0)
        ·by_cases c4:0 < m.st
         ·have c5:¬m.st=0:=by omega
          have H:=QF (E.trans (by rw [c1,c2,c3,decide_eq_true c4];rfl:_=(n.st % m.st==0)))
          clear E
          go_wp2_with (first|(go_at_call 68;(with_reducible refine(z1 _).mono ?_);rintro e w1 ⟨rfl,hb1⟩;(have hA1:=hA.call hb1);(have hB1:=hB.call hb1);obtain⟨hc3,hf3⟩:=hA1.walk;obtain⟨hc4,hf4⟩:=hB1.walk;(have hg1:=after hg hb1))|(go_at_call 68;(with_reducible refine(z2 _).mono ?_);rintro e w2 ⟨rfl,hb2⟩;(have hA2:=hA1.call hb2);(have hB2:=hB1.call hb2);obtain⟨hc5,hf5⟩:=hA2.walk;obtain⟨hc6,hf6⟩:=hB2.walk;(have hg2:=after hg1 hb2)))
          go_returns
          exact⟨K5 H.out.symm,hg2⟩
         ·have H:=QF (E.trans (by rw [c1,c2,c3,decide_eq_false c4];rfl:_=false))
          clear E
          go_wp2_with (first|(go_at_call 68;(with_reducible refine(z1 _).mono ?_);rintro e w1 ⟨rfl,hb1⟩;(have hA1:=hA.call hb1);(have hB1:=hB.call hb1);obtain⟨hc3,hf3⟩:=hA1.walk;obtain⟨hc4,hf4⟩:=hB1.walk;(have hg1:=after hg hb1))|(go_at_call 68;(with_reducible refine(z2 _).mono ?_);rintro e w2 ⟨rfl,hb2⟩;(have hA2:=hA1.call hb2);(have hB2:=hB1.call hb2);obtain⟨hc5,hf5⟩:=hA2.walk;obtain⟨hc6,hf6⟩:=hB2.walk;(have hg2:=after hg1 hb2)))
          go_returns
          exact⟨K5 H.out.symm,hg2⟩
        ·have H:=QF (E.trans (by rw [c1,c2,c3];rfl:_=true))
         clear E
         go_wp2_with (first|(go_at_call 68;(with_reducible refine(z1 _).mono ?_);rintro e w1 ⟨rfl,hb1⟩;(have hA1:=hA.call hb1);(have hB1:=hB.call hb1);obtain⟨hc3,hf3⟩:=hA1.walk;obtain⟨hc4,hf4⟩:=hB1.walk;(have hg1:=after hg hb1))|(go_at_call 68;(with_reducible refine(z2 _).mono ?_);rintro e w2 ⟨rfl,hb2⟩;(have hA2:=hA1.call hb2);(have hB2:=hB1.call hb2);obtain⟨hc5,hf5⟩:=hA2.walk;obtain⟨hc6,hf6⟩:=hB2.walk;(have hg2:=after hg1 hb2)))
         go_returns
         exact⟨K5 H.out.symm,hg2⟩
     ·have H:Hid (QL n m=false):=QF (by unfold QL;simp only [he1,ht2,he2,Bool.or_self,Bool.false_eq_true,if_false,Bool.or_true,if_true])
      go_wp2
      go_returns
      exact⟨K5 H.out.symm,hg⟩
    ·have H:Hid (QL n m=false):=QF (by unfold QL;simp only [he1,ht2,ht1,Bool.or_self,Bool.false_eq_true,if_false,Bool.true_or,if_true])
     go_wp2
     go_returns
     exact⟨K5 H.out.symm,hg⟩
   ·have H:Hid (QL n m=true):=QF (by unfold QL;simp only [ht2,Bool.or_true,if_true])
    go_wp2
    go_returns
    exact⟨K5 H.out.symm,hg⟩
  ·have H:Hid (QL n m=true):=QF (by unfold QL;simp only [he1,Bool.true_or,if_true])
   go_wp2
   go_returns
   exact⟨K5 H.out.symm,hg⟩
theorem Qeo(a b:Qd)(ha:a.wf)(hb:b.wf)(w:World):Calls Try.prog 47 #[a.val,b.val] w (Ret (.bool (ZF a b)) w):=
 Qiy a b _ _ (QJ ha) (QJ hb) (Q2 b) (Xu a ha) (Xu b hb) w
end Go.Proofs.Yteplnamfpodmlaa
end
section
namespace Go.Proofs.Yteplnamfpodmlaa
theorem Qo{B:Nat}{a w:World}(h:Below B a w)(n:Nat):Below B a (w.drewN n):=⟨h.os,h.tape,h.output,h.size,h.block⟩
theorem J3{w:World}{g:Nat}{t:TypeId}{cs:Array Value}(h:Blk w g t cs)(n:Nat):Blk (w.drewN n) g t cs:=h
theorem QbT(a b:Int)(a0:0≤a)(a1:a < 4294967296)(b0:0≤b)(b1:b < 4294967296)(w:World) :
 Calls Try.prog 91 #[.int .u32 a,.int .u32 b] w fun e w'=>e= .returned (.int .u32 (Xg a b))∧∃n,w'=w.drewN n:=by
 have HS:=QF Qoe
 have HZ:=QF Qof
 go_enter Try.func91,Try.ntmps91
 go_wp2
 go_loopw [0,1] (fun x y wr=>∃p q:Int,x= .int .u32 p∧y= .int .u32 q∧0≤p∧p < 4294967296∧0≤q∧q < 4294967296∧Hid (Xg p q=Xg a b)∧Hid (∃n,wr=w.drewN n)) (fun _ y _=>(intOf y).toNat)
 case atStart=>exact⟨a,b,rfl,rfl,a0,a1,b0,b1,QF rfl,QF ⟨0,rfl⟩⟩
 case round=>
  obtain⟨p,q,rfl,rfl,p0,p1,q0,q1,hg,hb⟩:=hrel
  by_cases hq:q=0
  ·subst hq
   go_wp2
   go_returns
   have e:=hg.out
   rw [HZ.out p p0]at e
   subst e
   exact⟨rfl,hb.out⟩
  ·have c1:(q==0)=false:=by rw [beq_eq_false_iff_ne];exact hq
   have c2:(q != 0)=true:=by simp [hq]
   have m1:0≤p % q:=Int.emod_nonneg _ hq
   have m2:p % q < q:=Int.emod_lt_of_pos p (by omega)
   have HR:=QF ((HS.out p q p0 (by omega)).trans hg.out)
   clear hq
   go_wp2
   go_quiet (fail)
   go_wp2
   go_roundw
   case rel=>exact⟨q,p % q,rfl,rfl,q0,q1,m1,by omega,HR,by obtain⟨k,hk⟩:=hb.out;subst hk;exact QF ⟨k+nq,by rw [World.drewN_drewN]⟩⟩
   case measure=>simp [intOf];omega
def Za(a b:Qd):Qd:=
 if a.t || b.t then Qy else if a.e then b else if b.e then a
 else Qs (if b.lo < a.lo then b.lo else a.lo) (if a.hi < b.hi then b.hi else a.hi) (Xg (Xg a.st b.st) ((if a.lo < b.lo then b.lo else a.lo) - if b.lo < a.lo then b.lo else a.lo))
def Va(a b:Qd):Qd:=Za (ZO a) (ZO b)
set_option maxHeartbeats 2000000 in
theorem Qo3(a b n m:Qd)(hn:n.wf)(hm:m.wf)
 (x:∀w,Calls Try.prog 87 #[a.val] w (Ret n.val w)) (y:∀w,Calls Try.prog 87 #[b.val] w (Ret m.val w)) (w:World) :
 Calls Try.prog 55 #[a.val,b.val] w (Ret (Za n m).val w):=by
 obtain⟨n0,n1,n2,n3,n4,n5⟩:=hn
 obtain⟨m0,m1,m2,m3,m4,m5⟩:=hm
 go_enter Try.func55,Try.ntmps55
 go_upto_region 1 with fail
 go_cut [4] (fun s4 wx=>s4= .pointer (some ⟨w.heap.size+1+1,0,none⟩)∧Blk wx w.heap.size 34 n.cs∧Blk wx (w.heap.size+1) 34 m.cs∧Blk wx (w.heap.size+1+1) 34 (⟨false,false,0,0,0⟩:Qd).cs∧Below w.heap.size w wx)
 case first=>
  go_region_with (first|(go_at_call 87;(with_reducible refine(x _).mono ?_);rintro e w1 ⟨rfl,hb1⟩;(have hA:=(((Blk.new _ _ _).alloc _).alloc _).drew.call hb1);(have hB:=((Blk.new _ _ _).alloc _).drew.call hb1);(have hC:=(Blk.new _ _ _).drew.call hb1);simp only [World.size_alloc]at hB hC;obtain⟨hc,hf⟩:=hA.walk;obtain⟨hc2,hf2⟩:=hB.walk;(have hg:=after (w:=w) (by go_grown) hb1);(have hs1:=hg.size))|(go_at_call 87;(with_reducible refine(y _).mono ?_);rintro e w2 ⟨rfl,hb2⟩;(have hA2:=hA.call hb2);(have hB2:=hB.call hb2);(have hC2:=hC.call hb2);obtain⟨hc3,hf3⟩:=hA2.walk;obtain⟨hc4,hf4⟩:=hB2.walk;(have hg2:=after hg hb2);(have hs2:=hg2.size)))
  all_goals (go_wp2_with fail;go_meet;exact⟨rfl,(Blk.put (a:=a) hA2 n).put_far (by omega) m,(Blk.put_far hB2 (by omega) n).put (a:=b) m,(Blk.put_far hC2 (by omega) n).put_far (by omega) m,Qh (Qh hg2 (by omega) _) (by omega) _⟩)
 case rest=>
  obtain⟨rfl,hA,hB,hC,hg⟩:=hcut
  obtain⟨hc,hf⟩:=hA.walk
  obtain⟨hc2,hf2⟩:=hB.walk
  obtain⟨hc3,hf3⟩:=hC.walk
  have hs:=hg.size
  clear x y
  obtain⟨ne,nt,nlo,nhi,nst⟩:=n
  obtain⟨me,mt,mlo,mhi,mst⟩:=m
  dsimp only at n0 n1 n2 n3 n4 n5 m0 m1 m2 m3 m4 m5
  simp only [Qd.cs]at hc hc2 hc3
  cases nt
  ·cases mt
   ·cases ne
    ·cases me
     ·have g0:=Zd nst mst
      have g1:=Vr nst mst 4294967295 n4 m4 (by omega) (by omega)
      have g2:=Zd (Xg nst mst) ((if nlo < mlo then mlo else nlo) - if mlo < nlo then mlo else nlo)
      have g3:=Vr (Xg nst mst) ((if nlo < mlo then mlo else nlo) - if mlo < nlo then mlo else nlo) 4294967295 g0 (by omega) g1 (by omega)
      go_wp2_with fail
      go_quiet ((go_at_call 91;exact Calls.quiet_of (QbT _ _ (by omega) (by omega) (by omega) (by omega) _)))
      obtain⟨J,hJ⟩:∃J,J=(Qs (if mlo < nlo then mlo else nlo) (if nhi < mhi then mhi else nhi) (Xg (Xg nst mst) ((if nlo < mlo then mlo else nlo) - if mlo < nlo then mlo else nlo))):=⟨_,rfl⟩
      have H:Hid (Za ⟨false,false,nlo,nhi,nst⟩ ⟨false,false,mlo,mhi,mst⟩=J):=QF (by rw [hJ];rfl)
      have B:=ZI (if mlo < nlo then mlo else nlo) (if nhi < mhi then mhi else nhi) (Xg (Xg nst mst) ((if nlo < mlo then mlo else nlo) - if mlo < nlo then mlo else nlo)) (by omega) (by omega) (by omega) (by omega) g2 (by omega)
      rw [←hJ]at B
      clear hJ
      have B2:∀(x y:Int) (w:World),x=(if mlo < nlo then mlo else nlo)→y=(if nhi < mhi then mhi else nhi)→Calls Try.prog 51 #[.int .u32 x,.int .u32 y,.int .u32 (Xg (Xg nst mst) ((if nlo < mlo then mlo else nlo) - if mlo < nlo then mlo else nlo))] w (Ret J.val w):=fun x y w hx hy=>by subst hx hy;exact B w
      clear B
      generalize Xg (Xg nst mst) ((if nlo < mlo then mlo else nlo) - if mlo < nlo then mlo else nlo)=G at B2 g2 g3 ⊢
      have hA1:=J3 hA nq
      have hB1:=J3 hB nq
      have hC1:=J3 hC nq
      have hg1:=Qo hg nq
      clear hA hB hC hg
      go_wp2_with (go_at_call 51;(with_reducible refine(B2 _ _ _ (by omega) (by omega)).mono ?_);rintro e w1 ⟨rfl,hb1⟩;(have hC2:=hC1.call hb1);obtain⟨hc5,hf5⟩:=hC2.walk;(have hg2:=after hg1 hb1))
      all_goals rw [H.out]
      all_goals exact bodyPost_ret (v:=J.val) (Qt rfl rfl (hC2.put (a:=⟨false,false,0,0,0⟩) J)) rfl ⟨rfl,Qh hg2 (by omega) J⟩
     ·have H:Hid (Za ⟨false,false,nlo,nhi,nst⟩ ⟨true,false,mlo,mhi,mst⟩=⟨false,false,nlo,nhi,nst⟩):=QF rfl
      go_wp2
      rw [H.out]
      exact bodyPost_ret (v:=Qd.val ⟨false,false,nlo,nhi,nst⟩) (Qt rfl rfl (hC.put (a:=⟨false,false,0,0,0⟩) ⟨false,false,nlo,nhi,nst⟩)) rfl ⟨rfl,Qh hg (by omega) ⟨false,false,nlo,nhi,nst⟩⟩
    ·have H:Hid (Za ⟨true,false,nlo,nhi,nst⟩ ⟨me,false,mlo,mhi,mst⟩=⟨me,false,mlo,mhi,mst⟩):=QF rfl
     go_wp2
     rw [H.out]
     exact bodyPost_ret (v:=Qd.val ⟨me,false,mlo,mhi,mst⟩) (Qt rfl rfl (hC.put (a:=⟨false,false,0,0,0⟩) ⟨me,false,mlo,mhi,mst⟩)) rfl ⟨rfl,Qh hg (by omega) ⟨me,false,mlo,mhi,mst⟩⟩
   ·have H:Hid (Za ⟨ne,false,nlo,nhi,nst⟩ ⟨me,true,mlo,mhi,mst⟩=Qy):=QF rfl
    go_wp2_with (go_at_call 52;(with_reducible refine(XG _).mono ?_);rintro e w1 ⟨rfl,hb1⟩;(have hC1:=hC.call hb1);obtain⟨hc4,hf4⟩:=hC1.walk;(have hg1:=after hg hb1))
    rw [H.out]
    exact bodyPost_ret (v:=Qy.val) (Qt rfl rfl (hC1.put (a:=⟨false,false,0,0,0⟩) Qy)) rfl ⟨rfl,Qh hg1 (by omega) Qy⟩
  ·have H:Hid (Za ⟨ne,true,nlo,nhi,nst⟩ ⟨me,mt,mlo,mhi,mst⟩=Qy):=QF rfl
   go_wp2_with (go_at_call 52;(with_reducible refine(XG _).mono ?_);rintro e w1 ⟨rfl,hb1⟩;(have hC1:=hC.call hb1);obtain⟨hc4,hf4⟩:=hC1.walk;(have hg1:=after hg hb1))
   rw [H.out]
   exact bodyPost_ret (v:=Qy.val) (Qt rfl rfl (hC1.put (a:=⟨false,false,0,0,0⟩) Qy)) rfl ⟨rfl,Qh hg1 (by omega) Qy⟩
theorem Qbx(a b:Qd)(ha:a.wf)(hb:b.wf)(w:World):Calls Try.prog 55 #[a.val,b.val] w (Ret (Va a b).val w):=
 Qo3 a b _ _ (QJ ha) (QJ hb) (Xu a ha) (Xu b hb) w
end Go.Proofs.Yteplnamfpodmlaa
end
section
namespace Go.Proofs.Yteplnamfpodmlaa
theorem QhQ{e t:Bool}{lo hi st:Int}(l0:0≤lo)(l1:lo < 4294967296)(h0:0≤hi)(h1:hi < 4294967296)(s0:0≤st)(s1:st < 4294967296):(⟨e,t,lo,hi,st⟩:Qd).wf:=⟨l0,l1,h0,h1,s0,s1⟩
theorem Z5:Qy.wf:=QhQ (by decide) (by decide) (by decide) (by decide) (by decide) (by decide)
theorem XW:Q4.wf:=QhQ (by decide) (by decide) (by decide) (by decide) (by decide) (by decide)
theorem Jt(lo hi st:Int):(hi < lo∧Qs lo hi st=Q4)∨(lo≤hi∧(st=0∨hi - lo < st)∧Qs lo hi st=X2 lo)∨
 (lo≤hi∧st≠0∧st≤hi - lo∧((lo=0∧hi=4294967295∧st=1∧Qs lo hi st=Qy)∨(¬(lo=0∧hi=4294967295∧st=1)∧Qs lo hi st=⟨false,false,lo,hi - (hi - lo) % st,st⟩))):=by
 unfold Qs
 by_cases c1:hi < lo
 ·exact .inl ⟨c1,if_pos c1⟩
 by_cases c2:st=0
 ·exact .inr (.inl ⟨by omega,.inl c2,by rw [if_neg c1,if_pos c2]⟩)
 by_cases c3:hi - lo < st
 ·exact .inr (.inl ⟨by omega,.inr c3,by rw [if_neg c1,if_neg c2,if_pos c3]⟩)
 by_cases c4:lo=0∧hi=4294967295∧st=1
 ·exact .inr (.inr ⟨by omega,c2,by omega,.inl ⟨c4.1,c4.2.1,c4.2.2,by rw [if_neg c1,if_neg c2,if_neg c3,if_pos c4]⟩⟩)
 ·exact .inr (.inr ⟨by omega,c2,by omega,.inr ⟨c4,by rw [if_neg c1,if_neg c2,if_neg c3,if_neg c4]⟩⟩)
theorem ZW(lo hi st:Int)(l0:0≤lo)(l1:lo < 4294967296)(h0:0≤hi)(h1:hi < 4294967296)(s0:0≤st)(s1:st < 4294967296):(Qs lo hi st).wf:=by
 rcases Jt lo hi st with ⟨_,e⟩|⟨_,_,e⟩|⟨c1,c2,c3,⟨_,_,_,e⟩|⟨_,e⟩⟩ <;> rw [e]
 ·exact XW
 ·exact QhQ l0 l1 l0 l1 (by omega) (by omega)
 ·exact Z5
 ·have:=Int.emod_nonneg (hi - lo) c2
  have:=Int.emod_lt_of_pos (hi - lo) (by omega:0 < st)
  exact QhQ l0 l1 (by omega) (by omega) s0 s1
theorem Zo(lo hi st:Int)(l0:0≤lo)(h1:hi < 4294967296)(s0:0≤st):Qq (Qs lo hi st)=true:=by
 rcases Jt lo hi st with ⟨_,e⟩|⟨_,_,e⟩|⟨c1,c2,c3,⟨_,_,_,e⟩|⟨c4,e⟩⟩ <;> rw [e]
 ·rfl
 ·show Qq ⟨false,false,lo,lo,0⟩=true
  rw [QbD,beq_self_eq_true]
 ·rfl
 ·have m1:=Int.emod_nonneg (hi - lo) c2
  have m2:=Int.emod_lt_of_pos (hi - lo) (by omega:0 < st)
  have m3:(hi - (hi - lo) % st - lo) % st=0:=by
   have:hi - (hi - lo) % st - lo=(hi - lo) - (hi - lo) % st:=by omega
   rw [this]
   exact Int.emod_eq_zero_of_dvd (Int.dvd_self_sub_emod)
  rw [QbC _ _ _ c2,m3]
  simp only [Bool.and_eq_true,Bool.or_eq_true,decide_eq_true_eq,beq_self_eq_true,and_true]
  refine⟨by omega,?_⟩
  by_cases a1:0 < lo
  ·exact .inl (.inl a1)
  by_cases a2:hi - (hi - lo) % st < 4294967295
  ·exact .inl (.inr a2)
  ·exact .inr (by omega)
theorem Jw{a b:Qd}(ha:a.wf)(hb:b.wf):(Za a b).wf:=by
 obtain⟨a0,a1,a2,a3,a4,a5⟩:=ha
 obtain⟨b0,b1,b2,b3,b4,b5⟩:=hb
 unfold Za
 cases a.t || b.t
 ·cases a.e
  ·cases b.e
   ·have g0:=Zd a.st b.st
    have g1:=Vr a.st b.st 4294967295 a4 b4 (by omega) (by omega)
    have g2:=Zd (Xg a.st b.st) ((if a.lo < b.lo then b.lo else a.lo) - if b.lo < a.lo then b.lo else a.lo)
    have g3:=Vr (Xg a.st b.st) ((if a.lo < b.lo then b.lo else a.lo) - if b.lo < a.lo then b.lo else a.lo) 4294967295 g0 (by omega) g1 (by omega)
    exact ZW _ _ _ (by omega) (by omega) (by omega) (by omega) g2 (by omega)
   ·exact⟨a0,a1,a2,a3,a4,a5⟩
  ·exact⟨b0,b1,b2,b3,b4,b5⟩
 ·exact Z5
theorem XN{a b:Qd}(ha:a.wf)(hb:b.wf)(va:Qq a=true)(vb:Qq b=true):Qq (Za a b)=true:=by
 obtain⟨a0,a1,a2,a3,a4,a5⟩:=ha
 obtain⟨b0,b1,b2,b3,b4,b5⟩:=hb
 unfold Za
 cases a.t || b.t
 ·cases a.e
  ·cases b.e
   ·exact Zo _ _ _ (by omega) (by omega) (Zd _ _)
   ·exact va
  ·exact vb
 ·rfl
theorem XY(a b:Int)(hb:0≤b):Xg a b∣b:=by
 obtain⟨B,rfl⟩:=Int.eq_ofNat_of_zero_le hb
 unfold Xg
 rw [Int.toNat_natCast]
 exact Int.natCast_dvd_natCast.2 (Nat.gcd_dvd_right _ _)
theorem KP(a b:Int)(ha:0≤a):Xg a b∣a:=by
 obtain⟨A,rfl⟩:=Int.eq_ofNat_of_zero_le ha
 unfold Xg
 rw [Int.toNat_natCast]
 exact Int.natCast_dvd_natCast.2 (Nat.gcd_dvd_left _ _)
theorem Qdy(a b:Int)(hb:0 < b):0 < Xg a b:=by
 have h0:=Zd a b
 have h1:=XY a b (by omega)
 rcases Int.lt_or_eq_of_le h0 with h|h
 ·exact h
 ·rw [←h,Int.zero_dvd]at h1;omega
theorem YV{s:Qd}(hv:Qq s=true)(h1:s.t=false)(h2:s.e=false):s.lo≤s.hi:=by
 obtain⟨e,t,lo,hi,st⟩:=s
 dsimp only at h1 h2 ⊢
 subst h1 h2
 rcases Yo lo hi st hv with ⟨_,h⟩|⟨_,h,_⟩ <;> omega
theorem Qrg{a b:Qd}(va:Qq a=true)(vb:Qq b=true)(h1:a.t=false)(h2:a.e=false)(h3:b.t=false)(h4:b.e=false)(ht:(Za a b).t=false)(hlt:(Za a b).lo < a.lo):(Za a b).st≠0:=by
 have la:=YV va h1 h2
 have lb:=YV vb h3 h4
 have e:Za a b=Qs (if b.lo < a.lo then b.lo else a.lo) (if a.hi < b.hi then b.hi else a.hi) (Xg (Xg a.st b.st) ((if a.lo < b.lo then b.lo else a.lo) - if b.lo < a.lo then b.lo else a.lo)):=by
  unfold Za;simp only [h1,h2,h3,h4,Bool.or_self,Bool.false_eq_true,if_false]
 rw [e]at ht hlt ⊢
 by_cases c:b.lo < a.lo
 ·have d:((if a.lo < b.lo then b.lo else a.lo) - if b.lo < a.lo then b.lo else a.lo)=a.lo - b.lo:=by omega
  rw [d]at ht hlt ⊢
  have g1:=Qdy (Xg a.st b.st) (a.lo - b.lo) (by omega)
  have g2:=Int.le_of_dvd (by omega) (XY (Xg a.st b.st) (a.lo - b.lo) (by omega))
  rcases Jt (if b.lo < a.lo then b.lo else a.lo) (if a.hi < b.hi then b.hi else a.hi) (Xg (Xg a.st b.st) (a.lo - b.lo))with ⟨k,_⟩|⟨k,k2,_⟩|⟨k1,k2,k3,⟨_,_,_,k4⟩|⟨_,k4⟩⟩
  ·omega
  ·omega
  ·rw [k4]at ht;cases ht
  ·rw [k4];exact k2
 ·rcases Jt (if b.lo < a.lo then b.lo else a.lo) (if a.hi < b.hi then b.hi else a.hi) (Xg (Xg a.st b.st) ((if a.lo < b.lo then b.lo else a.lo) - if b.lo < a.lo then b.lo else a.lo))with ⟨k,_⟩|⟨k,k2,k3⟩|⟨k1,k2,k3,⟨_,_,_,k4⟩|⟨_,k4⟩⟩
  ·omega
  ·rw [k3]at hlt;have:(X2 (if b.lo < a.lo then b.lo else a.lo)).lo=(if b.lo < a.lo then b.lo else a.lo):=rfl;omega
  ·rw [k4]at ht;cases ht
  ·rw [k4]at hlt;dsimp only at hlt;omega
end Go.Proofs.Yteplnamfpodmlaa
end
