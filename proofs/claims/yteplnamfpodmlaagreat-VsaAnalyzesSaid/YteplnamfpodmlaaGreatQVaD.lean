/-
  Part of the proof.
-/
import Derived.Test.YteplnamfpodmlaaGreatQVaC
import Derived.Deep.DeepCutAuto
set_option linter.unusedVariables false
set_option linter.unusedSimpArgs false
set_option maxRecDepth 100000
open Go.ChangeShapes Go.WideShapes Go.ChangeAt Go.RowKit
section
namespace Go.Proofs.YteplnamfpodmlaaGreat
def QD(a b:Qd):Bool:=
 if a.e || b.t then true else if a.t || b.e then false
 else Qw b a.lo && (Qw b a.hi && (a.st==0 || (decide (0 < b.st) && (a.st % b.st==0))))
def XG(a b:Qd):Bool:=QD (Zb a) (Zb b)
theorem Vg{n:Qd}(h:Qx n=true)(k:Int):K4 n k=Qw n k:=by unfold K4;rw [Zl h]
set_option maxHeartbeats 2000000 in
theorem Qi9(a b n m:Qd)(hn:n.wf)(hm:m.wf)(hm2:Qx m=true)
 (x:∀w,Calls Tryz.prog 52 #[a.val] w (Ret n.val w)) (y:∀w,Calls Tryz.prog 52 #[b.val] w (Ret m.val w)) (w:World) :
 Calls Tryz.prog 68 #[a.val,b.val] w (Ret (.bool (QD n m)) w):=by
 have z1:∀w,Calls Tryz.prog 55 #[m.val,.int .u32 n.lo] w (Ret (.bool (Qw m n.lo)) w):=fun w=>by
  have:=Vh m hm n.lo hn.1 hn.2.1 w;rwa [Vg hm2]at this
 have z2:∀w,Calls Tryz.prog 55 #[m.val,.int .u32 n.hi] w (Ret (.bool (Qw m n.hi)) w):=fun w=>by
  have:=Vh m hm n.hi hn.2.2.1 hn.2.2.2.1 w;rwa [Vg hm2]at this
 go_enter Tryz.func68,Tryz.ntmps68
 go_upto_region 1 with fail
 go_cut [4] (fun s4 wx=>s4= .bool false∧Blk wx w.heap.size 34 n.cs∧Blk wx (w.heap.size+1) 34 m.cs∧Below w.heap.size w wx)
 case first=>
  go_region_with (first|(go_at_call 52;(with_reducible refine(x _).mono ?_);rintro e w1 ⟨rfl,hb1⟩;(have hA:=((Blk.new _ _ _).alloc _).drew.call hb1);(have hB:=((Blk.new _ _ _).drew).call hb1);simp only [World.size_alloc]at hB;obtain⟨hc,hf⟩:=hA.walk;obtain⟨hc2,hf2⟩:=hB.walk;(have hg:=after (w:=w) (by go_grown) hb1);(have hs1:=hg.size))|(go_at_call 52;(with_reducible refine(y _).mono ?_);rintro e w2 ⟨rfl,hb2⟩;(have hA2:=hA.call hb2);(have hB2:=hB.call hb2);obtain⟨hc3,hf3⟩:=hA2.walk;obtain⟨hc4,hf4⟩:=hB2.walk;(have hg2:=after hg hb2);(have hs2:=hg2.size)))
  all_goals (go_wp2_with fail;go_meet;exact⟨rfl,(Blk.put (a:=a) hA2 n).put_far (by omega) m,(Blk.put_far hB2 (by omega) n).put (a:=b) m,Qe (Qe hg2 (by omega) _) (by omega) _⟩)
 case rest=>
  obtain⟨rfl,hA,hB,hg⟩:=hcut;obtain⟨hc,hf⟩:=hA.walk;obtain⟨hc2,hf2⟩:=hB.walk;have hs:=hg.size;clear x y;obtain⟨n0,n1,n2,n3,n4,n5⟩:=hn;obtain⟨m0,m1,m2,m3,m4,m5⟩:=hm;cases he1:n.e
  ·cases ht2:m.t
   ·cases ht1:n.t
    ·cases he2:m.e
     ·have E:QD n m=(Qw m n.lo && (Qw m n.hi && (n.st==0 || (decide (0 < m.st) && (n.st % m.st==0))))):=by
       unfold QD;simp only [he1,ht2,ht1,he2,Bool.or_self,Bool.false_eq_true,if_false]
      simp only [Qd.val,he2,ht2]at z1 z2;cases c1:Qw m n.lo
      ·have H:=Qq (E.trans (by rw [c1];rfl:_=false))
       clear E;rw [c1]at z1
       go_wp2_with (first|(go_at_call 55;(with_reducible refine(z1 _).mono ?_);rintro e w1 ⟨rfl,hb1⟩;(have hA1:=hA.call hb1);(have hB1:=hB.call hb1);obtain⟨hc3,hf3⟩:=hA1.walk;obtain⟨hc4,hf4⟩:=hB1.walk;(have hg1:=after hg hb1))|(go_at_call 55;(with_reducible refine(z2 _).mono ?_);rintro e w2 ⟨rfl,hb2⟩;(have hA2:=hA1.call hb2);(have hB2:=hB1.call hb2);obtain⟨hc5,hf5⟩:=hA2.walk;obtain⟨hc6,hf6⟩:=hB2.walk;(have hg2:=after hg1 hb2)))
       go_returns
       exact⟨ZK H.out.symm,hg1⟩
      ·cases c2:Qw m n.hi
       ·have H:=Qq (E.trans (by rw [c1,c2];rfl:_=false))
        clear E;rw [c1]at z1;rw [c2]at z2
        go_wp2_with (first|(go_at_call 55;(with_reducible refine(z1 _).mono ?_);rintro e w1 ⟨rfl,hb1⟩;(have hA1:=hA.call hb1);(have hB1:=hB.call hb1);obtain⟨hc3,hf3⟩:=hA1.walk;obtain⟨hc4,hf4⟩:=hB1.walk;(have hg1:=after hg hb1))|(go_at_call 55;(with_reducible refine(z2 _).mono ?_);rintro e w2 ⟨rfl,hb2⟩;(have hA2:=hA1.call hb2);(have hB2:=hB1.call hb2);obtain⟨hc5,hf5⟩:=hA2.walk;obtain⟨hc6,hf6⟩:=hB2.walk;(have hg2:=after hg1 hb2)))
        go_returns
        exact⟨ZK H.out.symm,hg2⟩
       ·rw [c1]at z1;rw [c2]at z2;cases c3:(n.st==0)
        ·by_cases c4:0 < m.st
         ·have c5:¬m.st=0:=by omega
          have H:=Qq (E.trans (by rw [c1,c2,c3,decide_eq_true c4];rfl:_=(n.st % m.st==0)))
          clear E
          go_wp2_with (first|(go_at_call 55;(with_reducible refine(z1 _).mono ?_);rintro e w1 ⟨rfl,hb1⟩;(have hA1:=hA.call hb1);(have hB1:=hB.call hb1);obtain⟨hc3,hf3⟩:=hA1.walk;obtain⟨hc4,hf4⟩:=hB1.walk;(have hg1:=after hg hb1))|(go_at_call 55;(with_reducible refine(z2 _).mono ?_);rintro e w2 ⟨rfl,hb2⟩;(have hA2:=hA1.call hb2);(have hB2:=hB1.call hb2);obtain⟨hc5,hf5⟩:=hA2.walk;obtain⟨hc6,hf6⟩:=hB2.walk;(have hg2:=after hg1 hb2)))
          go_returns
          exact⟨ZK H.out.symm,hg2⟩
         ·have H:=Qq (E.trans (by rw [c1,c2,c3,decide_eq_false c4];rfl:_=false))
          clear E
          go_wp2_with (first|(go_at_call 55;(with_reducible refine(z1 _).mono ?_);rintro e w1 ⟨rfl,hb1⟩;(have hA1:=hA.call hb1);(have hB1:=hB.call hb1);obtain⟨hc3,hf3⟩:=hA1.walk;obtain⟨hc4,hf4⟩:=hB1.walk;(have hg1:=after hg hb1))|(go_at_call 55;(with_reducible refine(z2 _).mono ?_);rintro e w2 ⟨rfl,hb2⟩;(have hA2:=hA1.call hb2);(have hB2:=hB1.call hb2);obtain⟨hc5,hf5⟩:=hA2.walk;obtain⟨hc6,hf6⟩:=hB2.walk;(have hg2:=after hg1 hb2)))
          go_returns
          exact⟨ZK H.out.symm,hg2⟩
        ·have H:=Qq (E.trans (by rw [c1,c2,c3];rfl:_=true))
         clear E
         go_wp2_with (first|(go_at_call 55;(with_reducible refine(z1 _).mono ?_);rintro e w1 ⟨rfl,hb1⟩;(have hA1:=hA.call hb1);(have hB1:=hB.call hb1);obtain⟨hc3,hf3⟩:=hA1.walk;obtain⟨hc4,hf4⟩:=hB1.walk;(have hg1:=after hg hb1))|(go_at_call 55;(with_reducible refine(z2 _).mono ?_);rintro e w2 ⟨rfl,hb2⟩;(have hA2:=hA1.call hb2);(have hB2:=hB1.call hb2);obtain⟨hc5,hf5⟩:=hA2.walk;obtain⟨hc6,hf6⟩:=hB2.walk;(have hg2:=after hg1 hb2)))
         go_returns
         exact⟨ZK H.out.symm,hg2⟩
     ·have H:Hid (QD n m=false):=Qq (by unfold QD;simp only [he1,ht2,he2,Bool.or_self,Bool.false_eq_true,if_false,Bool.or_true,if_true])
      go_wp2
      go_returns
      exact⟨ZK H.out.symm,hg⟩
    ·have H:Hid (QD n m=false):=Qq (by unfold QD;simp only [he1,ht2,ht1,Bool.or_self,Bool.false_eq_true,if_false,Bool.true_or,if_true])
     go_wp2
     go_returns
     exact⟨ZK H.out.symm,hg⟩
   ·have H:Hid (QD n m=true):=Qq (by unfold QD;simp only [ht2,Bool.or_true,if_true])
    go_wp2
    go_returns
    exact⟨ZK H.out.symm,hg⟩
  ·have H:Hid (QD n m=true):=Qq (by unfold QD;simp only [he1,Bool.true_or,if_true])
   go_wp2
   go_returns
   exact⟨ZK H.out.symm,hg⟩
theorem QlI(a b:Qd)(ha:a.wf)(hb:b.wf)(w:World):Calls Tryz.prog 68 #[a.val,b.val] w (Ret (.bool (XG a b)) w):=
 Qi9 a b _ _ (Q8 ha) (Q8 hb) (Qz b) (ZS a ha) (ZS b hb) w
end Go.Proofs.YteplnamfpodmlaaGreat
end
section
namespace Go.Proofs.YteplnamfpodmlaaGreat
theorem Qn{B:Nat}{a w:World}(h:Below B a w)(n:Nat):Below B a (w.drewN n):=⟨h.os,h.tape,h.output,h.size,h.block⟩
theorem Xm{w:World}{g:Nat}{t:TypeId}{cs:Array Value}(h:Blk w g t cs)(n:Nat):Blk (w.drewN n) g t cs:=h
theorem Qbq(a b:Int)(a0:0≤a)(a1:a < 4294967296)(b0:0≤b)(b1:b < 4294967296)(w:World) :
 Calls Tryz.prog 60 #[.int .u32 a,.int .u32 b] w fun e w'=>e= .returned (.int .u32 (Zr a b))∧∃n,w'=w.drewN n:=by
 have HS:=Qq QeK;have HZ:=Qq Ka
 go_enter Tryz.func60,Tryz.ntmps60
 go_wp2
 go_loopw [0,1] (fun x y wr=>∃p q:Int,x= .int .u32 p∧y= .int .u32 q∧0≤p∧p < 4294967296∧0≤q∧q < 4294967296∧Hid (Zr p q=Zr a b)∧Hid (∃n,wr=w.drewN n)) (fun _ y _=>(intOf y).toNat)
 case atStart=>exact⟨a,b,rfl,rfl,a0,a1,b0,b1,Qq rfl,Qq ⟨0,rfl⟩⟩
 case round=>
  obtain⟨p,q,rfl,rfl,p0,p1,q0,q1,hg,hb⟩:=hrel;by_cases hq:q=0
  ·subst hq
   go_wp2
   go_returns
   have e:=hg.out;rw [HZ.out p p0]at e;subst e;exact⟨rfl,hb.out⟩
  ·have c1:(q==0)=false:=by rw [beq_eq_false_iff_ne];exact hq
   have c2:(q != 0)=true:=by simp [hq]
   have m1:0≤p % q:=Int.emod_nonneg _ hq;have m2:p % q < q:=Int.emod_lt_of_pos p (by omega)
   have HR:=Qq ((HS.out p q p0 (by omega)).trans hg.out)
   clear hq
   go_wp2
   go_quiet (fail)
   go_wp2
   go_roundw
   case rel=>exact⟨q,p % q,rfl,rfl,q0,q1,m1,by omega,HR,by obtain⟨k,hk⟩:=hb.out;subst hk;exact Qq ⟨k+nq,by rw [World.drewN_drewN]⟩⟩
   case measure=>simp [intOf];omega
def QX(a b:Qd):Qd:=
 if a.t || b.t then Qp else if a.e then b else if b.e then a
 else Qj (if b.lo < a.lo then b.lo else a.lo) (if a.hi < b.hi then b.hi else a.hi) (Zr (Zr a.st b.st) ((if a.lo < b.lo then b.lo else a.lo) - if b.lo < a.lo then b.lo else a.lo))
def Jp(a b:Qd):Qd:=QX (Zb a) (Zb b)
set_option maxHeartbeats 2000000 in
theorem Qo4(a b n m:Qd)(hn:n.wf)(hm:m.wf)
 (x:∀w,Calls Tryz.prog 52 #[a.val] w (Ret n.val w)) (y:∀w,Calls Tryz.prog 52 #[b.val] w (Ret m.val w)) (w:World) :
 Calls Tryz.prog 56 #[a.val,b.val] w (Ret (QX n m).val w):=by
 obtain⟨n0,n1,n2,n3,n4,n5⟩:=hn;obtain⟨m0,m1,m2,m3,m4,m5⟩:=hm
 go_enter Tryz.func56,Tryz.ntmps56
 go_upto_region 1 with fail
 go_cut [4] (fun s4 wx=>s4= .pointer (some ⟨w.heap.size+1+1,0,none⟩)∧Blk wx w.heap.size 34 n.cs∧Blk wx (w.heap.size+1) 34 m.cs∧Blk wx (w.heap.size+1+1) 34 (⟨false,false,0,0,0⟩:Qd).cs∧Below w.heap.size w wx)
 case first=>
  go_region_with (first|(go_at_call 52;(with_reducible refine(x _).mono ?_);rintro e w1 ⟨rfl,hb1⟩;(have hA:=(((Blk.new _ _ _).alloc _).alloc _).drew.call hb1);(have hB:=((Blk.new _ _ _).alloc _).drew.call hb1);(have hC:=(Blk.new _ _ _).drew.call hb1);simp only [World.size_alloc]at hB hC;obtain⟨hc,hf⟩:=hA.walk;obtain⟨hc2,hf2⟩:=hB.walk;(have hg:=after (w:=w) (by go_grown) hb1);(have hs1:=hg.size))|(go_at_call 52;(with_reducible refine(y _).mono ?_);rintro e w2 ⟨rfl,hb2⟩;(have hA2:=hA.call hb2);(have hB2:=hB.call hb2);(have hC2:=hC.call hb2);obtain⟨hc3,hf3⟩:=hA2.walk;obtain⟨hc4,hf4⟩:=hB2.walk;(have hg2:=after hg hb2);(have hs2:=hg2.size)))
  all_goals (go_wp2_with fail;go_meet;exact⟨rfl,(Blk.put (a:=a) hA2 n).put_far (by omega) m,(Blk.put_far hB2 (by omega) n).put (a:=b) m,(Blk.put_far hC2 (by omega) n).put_far (by omega) m,Qe (Qe hg2 (by omega) _) (by omega) _⟩)
 case rest=>
  obtain⟨rfl,hA,hB,hC,hg⟩:=hcut;obtain⟨hc,hf⟩:=hA.walk;obtain⟨hc2,hf2⟩:=hB.walk;obtain⟨hc3,hf3⟩:=hC.walk;have hs:=hg.size;clear x y;obtain⟨ne,nt,nlo,nhi,nst⟩:=n;obtain⟨me,mt,mlo,mhi,mst⟩:=m
  dsimp only at n0 n1 n2 n3 n4 n5 m0 m1 m2 m3 m4 m5
  simp only [Qd.cs]at hc hc2 hc3;cases nt
  ·cases mt
   ·cases ne
    ·cases me
     ·have g0:=QT nst mst;have g1:=Jo nst mst 4294967295 n4 m4 (by omega) (by omega)
      have g2:=QT (Zr nst mst) ((if nlo < mlo then mlo else nlo) - if mlo < nlo then mlo else nlo)
      have g3:=Jo (Zr nst mst) ((if nlo < mlo then mlo else nlo) - if mlo < nlo then mlo else nlo) 4294967295 g0 (by omega) g1 (by omega)
      go_wp2_with fail
      go_quiet ((go_at_call 60;exact Calls.quiet_of (Qbq _ _ (by omega) (by omega) (by omega) (by omega) _)))
      obtain⟨J,hJ⟩:∃J,J=(Qj (if mlo < nlo then mlo else nlo) (if nhi < mhi then mhi else nhi) (Zr (Zr nst mst) ((if nlo < mlo then mlo else nlo) - if mlo < nlo then mlo else nlo))):=⟨_,rfl⟩
      have H:Hid (QX ⟨false,false,nlo,nhi,nst⟩ ⟨false,false,mlo,mhi,mst⟩=J):=Qq (by rw [hJ];rfl)
      have B:=Z8 (if mlo < nlo then mlo else nlo) (if nhi < mhi then mhi else nhi) (Zr (Zr nst mst) ((if nlo < mlo then mlo else nlo) - if mlo < nlo then mlo else nlo)) (by omega) (by omega) (by omega) (by omega) g2 (by omega)
      rw [←hJ]at B;clear hJ;have B2:∀(x y:Int) (w:World),x=(if mlo < nlo then mlo else nlo)→y=(if nhi < mhi then mhi else nhi)→Calls Tryz.prog 31 #[.int .u32 x,.int .u32 y,.int .u32 (Zr (Zr nst mst) ((if nlo < mlo then mlo else nlo) - if mlo < nlo then mlo else nlo))] w (Ret J.val w):=fun x y w hx hy=>by subst hx hy;exact B w
      clear B;generalize Zr (Zr nst mst) ((if nlo < mlo then mlo else nlo) - if mlo < nlo then mlo else nlo)=G at B2 g2 g3 ⊢
      have hA1:=Xm hA nq;have hB1:=Xm hB nq;have hC1:=Xm hC nq;have hg1:=Qn hg nq;clear hA hB hC hg
      go_wp2_with (go_at_call 31;(with_reducible refine(B2 _ _ _ (by omega) (by omega)).mono ?_);rintro e w1 ⟨rfl,hb1⟩;(have hC2:=hC1.call hb1);obtain⟨hc5,hf5⟩:=hC2.walk;(have hg2:=after hg1 hb1))
      all_goals rw [H.out]
      all_goals exact bodyPost_ret (v:=J.val) (Qf rfl rfl (hC2.put (a:=⟨false,false,0,0,0⟩) J)) rfl ⟨rfl,Qe hg2 (by omega) J⟩
     ·have H:Hid (QX ⟨false,false,nlo,nhi,nst⟩ ⟨true,false,mlo,mhi,mst⟩=⟨false,false,nlo,nhi,nst⟩):=Qq rfl
      go_wp2
      rw [H.out];exact bodyPost_ret (v:=Qd.val ⟨false,false,nlo,nhi,nst⟩) (Qf rfl rfl (hC.put (a:=⟨false,false,0,0,0⟩) ⟨false,false,nlo,nhi,nst⟩)) rfl ⟨rfl,Qe hg (by omega) ⟨false,false,nlo,nhi,nst⟩⟩
    ·have H:Hid (QX ⟨true,false,nlo,nhi,nst⟩ ⟨me,false,mlo,mhi,mst⟩=⟨me,false,mlo,mhi,mst⟩):=Qq rfl
     go_wp2
     rw [H.out];exact bodyPost_ret (v:=Qd.val ⟨me,false,mlo,mhi,mst⟩) (Qf rfl rfl (hC.put (a:=⟨false,false,0,0,0⟩) ⟨me,false,mlo,mhi,mst⟩)) rfl ⟨rfl,Qe hg (by omega) ⟨me,false,mlo,mhi,mst⟩⟩
   ·have H:Hid (QX ⟨ne,false,nlo,nhi,nst⟩ ⟨me,true,mlo,mhi,mst⟩=Qp):=Qq rfl
    go_wp2_with (go_at_call 36;(with_reducible refine(Xy _).mono ?_);rintro e w1 ⟨rfl,hb1⟩;(have hC1:=hC.call hb1);obtain⟨hc4,hf4⟩:=hC1.walk;(have hg1:=after hg hb1))
    rw [H.out];exact bodyPost_ret (v:=Qp.val) (Qf rfl rfl (hC1.put (a:=⟨false,false,0,0,0⟩) Qp)) rfl ⟨rfl,Qe hg1 (by omega) Qp⟩
  ·have H:Hid (QX ⟨ne,true,nlo,nhi,nst⟩ ⟨me,mt,mlo,mhi,mst⟩=Qp):=Qq rfl
   go_wp2_with (go_at_call 36;(with_reducible refine(Xy _).mono ?_);rintro e w1 ⟨rfl,hb1⟩;(have hC1:=hC.call hb1);obtain⟨hc4,hf4⟩:=hC1.walk;(have hg1:=after hg hb1))
   rw [H.out];exact bodyPost_ret (v:=Qp.val) (Qf rfl rfl (hC1.put (a:=⟨false,false,0,0,0⟩) Qp)) rfl ⟨rfl,Qe hg1 (by omega) Qp⟩
theorem QaP(a b:Qd)(ha:a.wf)(hb:b.wf)(w:World):Calls Tryz.prog 56 #[a.val,b.val] w (Ret (Jp a b).val w):=
 Qo4 a b _ _ (Q8 ha) (Q8 hb) (ZS a ha) (ZS b hb) w
end Go.Proofs.YteplnamfpodmlaaGreat
end
section
namespace Go.Proofs.YteplnamfpodmlaaGreat
theorem QhW{e t:Bool}{lo hi st:Int}(l0:0≤lo)(l1:lo < 4294967296)(h0:0≤hi)(h1:hi < 4294967296)(s0:0≤st)(s1:st < 4294967296):(⟨e,t,lo,hi,st⟩:Qd).wf:=⟨l0,l1,h0,h1,s0,s1⟩
theorem Z5:Qp.wf:=QhW (by decide) (by decide) (by decide) (by decide) (by decide) (by decide)
theorem Ji:Qt.wf:=QhW (by decide) (by decide) (by decide) (by decide) (by decide) (by decide)
theorem Jt(lo hi st:Int):(hi < lo∧Qj lo hi st=Qt)∨(lo≤hi∧(st=0∨hi - lo < st)∧Qj lo hi st=Zs lo)∨
 (lo≤hi∧st≠0∧st≤hi - lo∧((lo=0∧hi=4294967295∧st=1∧Qj lo hi st=Qp)∨(¬(lo=0∧hi=4294967295∧st=1)∧Qj lo hi st=⟨false,false,lo,hi - (hi - lo) % st,st⟩))):=by
 unfold Qj;by_cases c1:hi < lo
 ·exact .inl ⟨c1,if_pos c1⟩
 by_cases c2:st=0
 ·exact .inr (.inl ⟨by omega,.inl c2,by rw [if_neg c1,if_pos c2]⟩)
 by_cases c3:hi - lo < st
 ·exact .inr (.inl ⟨by omega,.inr c3,by rw [if_neg c1,if_neg c2,if_pos c3]⟩)
 by_cases c4:lo=0∧hi=4294967295∧st=1
 ·exact .inr (.inr ⟨by omega,c2,by omega,.inl ⟨c4.1,c4.2.1,c4.2.2,by rw [if_neg c1,if_neg c2,if_neg c3,if_pos c4]⟩⟩)
 ·exact .inr (.inr ⟨by omega,c2,by omega,.inr ⟨c4,by rw [if_neg c1,if_neg c2,if_neg c3,if_neg c4]⟩⟩)
theorem Z7(lo hi st:Int)(l0:0≤lo)(l1:lo < 4294967296)(h0:0≤hi)(h1:hi < 4294967296)(s0:0≤st)(s1:st < 4294967296):(Qj lo hi st).wf:=by
 rcases Jt lo hi st with ⟨_,e⟩|⟨_,_,e⟩|⟨c1,c2,c3,⟨_,_,_,e⟩|⟨_,e⟩⟩ <;> rw [e]
 ·exact Ji
 ·exact QhW l0 l1 l0 l1 (by omega) (by omega)
 ·exact Z5
 ·have:=Int.emod_nonneg (hi - lo) c2;have:=Int.emod_lt_of_pos (hi - lo) (by omega:0 < st)
  exact QhW l0 l1 (by omega) (by omega) s0 s1
theorem Z6(lo hi st:Int)(l0:0≤lo)(h1:hi < 4294967296)(s0:0≤st):Qx (Qj lo hi st)=true:=by
 rcases Jt lo hi st with ⟨_,e⟩|⟨_,_,e⟩|⟨c1,c2,c3,⟨_,_,_,e⟩|⟨c4,e⟩⟩ <;> rw [e]
 ·rfl
 ·show Qx ⟨false,false,lo,lo,0⟩=true;rw [Qbd,beq_self_eq_true]
 ·rfl
 ·have m1:=Int.emod_nonneg (hi - lo) c2;have m2:=Int.emod_lt_of_pos (hi - lo) (by omega:0 < st)
  have m3:(hi - (hi - lo) % st - lo) % st=0:=by
   have:hi - (hi - lo) % st - lo=(hi - lo) - (hi - lo) % st:=by omega
   rw [this];exact Int.emod_eq_zero_of_dvd (Int.dvd_self_sub_emod)
  rw [Qbc _ _ _ c2,m3];simp only [Bool.and_eq_true,Bool.or_eq_true,decide_eq_true_eq,beq_self_eq_true,and_true];refine⟨by omega,?_⟩
  by_cases a1:0 < lo
  ·exact .inl (.inl a1)
  by_cases a2:hi - (hi - lo) % st < 4294967295
  ·exact .inl (.inr a2)
  ·exact .inr (by omega)
theorem Jd{a b:Qd}(ha:a.wf)(hb:b.wf):(QX a b).wf:=by
 obtain⟨a0,a1,a2,a3,a4,a5⟩:=ha;obtain⟨b0,b1,b2,b3,b4,b5⟩:=hb;unfold QX;cases a.t || b.t
 ·cases a.e
  ·cases b.e
   ·have g0:=QT a.st b.st;have g1:=Jo a.st b.st 4294967295 a4 b4 (by omega) (by omega)
    have g2:=QT (Zr a.st b.st) ((if a.lo < b.lo then b.lo else a.lo) - if b.lo < a.lo then b.lo else a.lo)
    have g3:=Jo (Zr a.st b.st) ((if a.lo < b.lo then b.lo else a.lo) - if b.lo < a.lo then b.lo else a.lo) 4294967295 g0 (by omega) g1 (by omega)
    exact Z7 _ _ _ (by omega) (by omega) (by omega) (by omega) g2 (by omega)
   ·exact⟨a0,a1,a2,a3,a4,a5⟩
  ·exact⟨b0,b1,b2,b3,b4,b5⟩
 ·exact Z5
theorem X6{a b:Qd}(ha:a.wf)(hb:b.wf)(va:Qx a=true)(vb:Qx b=true):Qx (QX a b)=true:=by
 obtain⟨a0,a1,a2,a3,a4,a5⟩:=ha;obtain⟨b0,b1,b2,b3,b4,b5⟩:=hb;unfold QX;cases a.t || b.t
 ·cases a.e
  ·cases b.e
   ·exact Z6 _ _ _ (by omega) (by omega) (QT _ _)
   ·exact va
  ·exact vb
 ·rfl
theorem Kr(a b:Int)(hb:0≤b):Zr a b∣b:=by
 obtain⟨B,rfl⟩:=Int.eq_ofNat_of_zero_le hb;unfold Zr;rw [Int.toNat_natCast];exact Int.natCast_dvd_natCast.2 (Nat.gcd_dvd_right _ _)
theorem Qab(a b:Int)(ha:0≤a):Zr a b∣a:=by
 obtain⟨A,rfl⟩:=Int.eq_ofNat_of_zero_le ha;unfold Zr;rw [Int.toNat_natCast];exact Int.natCast_dvd_natCast.2 (Nat.gcd_dvd_left _ _)
theorem QcL(a b:Int)(hb:0 < b):0 < Zr a b:=by
 have h0:=QT a b;have h1:=Kr a b (by omega)
 rcases Int.lt_or_eq_of_le h0 with h|h
 ·exact h
 ·rw [←h,Int.zero_dvd]at h1;omega
theorem YB{s:Qd}(hv:Qx s=true)(h1:s.t=false)(h2:s.e=false):s.lo≤s.hi:=by
 obtain⟨e,t,lo,hi,st⟩:=s
 dsimp only at h1 h2 ⊢
 subst h1 h2;rcases Ki lo hi st hv with ⟨_,h⟩|⟨_,h,_⟩ <;> omega
theorem QhH{a b:Qd}(va:Qx a=true)(vb:Qx b=true)(h1:a.t=false)(h2:a.e=false)(h3:b.t=false)(h4:b.e=false)(ht:(QX a b).t=false)(hlt:(QX a b).lo < a.lo):(QX a b).st≠0:=by
 have la:=YB va h1 h2;have lb:=YB vb h3 h4
 have e:QX a b=Qj (if b.lo < a.lo then b.lo else a.lo) (if a.hi < b.hi then b.hi else a.hi) (Zr (Zr a.st b.st) ((if a.lo < b.lo then b.lo else a.lo) - if b.lo < a.lo then b.lo else a.lo)):=by
  unfold QX;simp only [h1,h2,h3,h4,Bool.or_self,Bool.false_eq_true,if_false]
 rw [e]at ht hlt ⊢;by_cases c:b.lo < a.lo
 ·have d:((if a.lo < b.lo then b.lo else a.lo) - if b.lo < a.lo then b.lo else a.lo)=a.lo - b.lo:=by omega
  rw [d]at ht hlt ⊢;have g1:=QcL (Zr a.st b.st) (a.lo - b.lo) (by omega)
  have g2:=Int.le_of_dvd (by omega) (Kr (Zr a.st b.st) (a.lo - b.lo) (by omega))
  rcases Jt (if b.lo < a.lo then b.lo else a.lo) (if a.hi < b.hi then b.hi else a.hi) (Zr (Zr a.st b.st) (a.lo - b.lo))with ⟨k,_⟩|⟨k,k2,_⟩|⟨k1,k2,k3,⟨_,_,_,k4⟩|⟨_,k4⟩⟩
  ·omega
  ·omega
  ·rw [k4]at ht;cases ht
  ·rw [k4];exact k2
 ·rcases Jt (if b.lo < a.lo then b.lo else a.lo) (if a.hi < b.hi then b.hi else a.hi) (Zr (Zr a.st b.st) ((if a.lo < b.lo then b.lo else a.lo) - if b.lo < a.lo then b.lo else a.lo))with ⟨k,_⟩|⟨k,k2,k3⟩|⟨k1,k2,k3,⟨_,_,_,k4⟩|⟨_,k4⟩⟩
  ·omega
  ·rw [k3]at hlt;have:(Zs (if b.lo < a.lo then b.lo else a.lo)).lo=(if b.lo < a.lo then b.lo else a.lo):=rfl;omega
  ·rw [k4]at ht;cases ht
  ·rw [k4]at hlt;dsimp only at hlt;omega
end Go.Proofs.YteplnamfpodmlaaGreat
end
