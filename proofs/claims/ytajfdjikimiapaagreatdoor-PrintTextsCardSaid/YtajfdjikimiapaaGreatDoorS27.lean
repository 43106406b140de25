/-
  A part of the proof.
-/
import Derived.Lib.SlBytesRow
import Derived.Test.YtajfdjikimiapaaGreatDoorS16
import Derived.Test.YtajfdjikimiapaaGreatDoorS26
set_option linter.all false
set_option maxRecDepth 100000
set_option maxHeartbeats 4000000
namespace Go.Proofs.YtajfdjikimiapaaGreatDoor
section
open Go.RowKit Mist
theorem rZ (k:Nat)(w:World):Calls Tryz.prog 40 #[.int .u8 k] w fun e l=>e=.returned (.bool (jF k))∧l=w:=by
 go_in
 by_cases h1:1≤k
 ·have b:decide ((1:Int)≤(k:Int))=true:=aiG (by omega);by_cases h2:k≤26
  ·have g:decide ((k:Int)≤26)=true:=aiG (by omega);by_cases h3:k=25
   ·have h:((k:Int) != 25)=false:=by rw [h3];rfl
    have a:=O (show jF k=false by subst h3;rfl);clear h3;go_wp2;go_ret;exact⟨(by rw [a.o];rfl),rfl⟩
   ·have h:((k:Int) != 25)=true:=by simp [bne];omega
    have a:=O (show jF k=true by simp [jF];omega);clear h3;go_wp2;go_ret;exact⟨(by rw [a.o];rfl),rfl⟩
  ·have g:decide ((k:Int)≤26)=false:=aiH (by omega);have a:=O (show jF k=false by simp [jF];omega);go_wp2;go_ret;exact⟨(by rw [a.o];rfl),rfl⟩
 ·have b:decide ((1:Int)≤(k:Int))=false:=aiH (by omega);have a:=O (show jF k=false by simp [jF];omega);go_wp2;go_ret;exact⟨(by rw [a.o];rfl),rfl⟩
theorem F9 (k:Nat)(w:World):Calls Tryz.prog 91 #[.int .u8 k] w fun e H=>e=.returned (.tuple #[.int .i64 (lH k).1,.int .i64 (lH k).2])∧Below w.heap.size w H:=by
 by_cases h19:k=19
 ·subst h19;go_in
  go_wp2;go_ret2
  exact⟨rfl,Below.refl _ _⟩
 by_cases h20:k=20
 ·subst h20;go_in
  go_wp2;go_ret2
  exact⟨rfl,Below.refl _ _⟩
 by_cases h18:k=18
 ·subst h18;go_in
  go_wp2;go_ret2
  exact⟨rfl,Below.refl _ _⟩
 by_cases h17:k=17
 ·subst h17;go_in
  go_wp2;go_ret2
  exact⟨rfl,Below.refl _ _⟩
 by_cases h5:k=5
 ·subst h5;go_in
  go_wp2;go_ret2
  exact⟨rfl,Below.refl _ _⟩
 by_cases h11:k=11
 ·subst h11;go_in
  go_wp2;go_ret2
  exact⟨rfl,Below.refl _ _⟩
 by_cases h12:k=12
 ·subst h12;go_in
  go_wp2;go_ret2
  exact⟨rfl,Below.refl _ _⟩
 by_cases h13:k=13
 ·subst h13;go_in
  go_wp2;go_ret2
  exact⟨rfl,Below.refl _ _⟩
 by_cases h14:k=14
 ·subst h14;go_in
  go_wp2;go_ret2
  exact⟨rfl,Below.refl _ _⟩
 by_cases h15:k=15
 ·subst h15;go_in
  go_wp2;go_ret2
  exact⟨rfl,Below.refl _ _⟩
 by_cases h16:k=16
 ·subst h16;go_in
  go_wp2;go_ret2
  exact⟨rfl,Below.refl _ _⟩
 by_cases h6:k=6
 ·subst h6;go_in
  go_wp2;go_ret2
  exact⟨rfl,Below.refl _ _⟩
 by_cases h7:k=7
 ·subst h7;go_in
  go_wp2;go_ret2
  exact⟨rfl,Below.refl _ _⟩
 by_cases h8:k=8
 ·subst h8;go_in
  go_wp2;go_ret2
  exact⟨rfl,Below.refl _ _⟩
 by_cases h9:k=9
 ·subst h9;go_in
  go_wp2;go_ret2
  exact⟨rfl,Below.refl _ _⟩
 by_cases h10:k=10
 ·subst h10;go_in
  go_wp2;go_ret2
  exact⟨rfl,Below.refl _ _⟩
 by_cases h4:k=4
 ·subst h4;go_in
  go_wp2;go_ret2
  exact⟨rfl,Below.refl _ _⟩
 have g:=O (show qm k=0 by simp [qm,h19,h20,h18,h17,h5,h11,h12,h13,h14,h15,h16,h6,h7,h8,h9,h10,h4]);have F:((k:Int) == 19)=false:=by simp;omega
 have G:((k:Int) == 20)=false:=by simp;omega
 have D:((k:Int) == 18)=false:=by simp;omega
 have C:((k:Int) == 17)=false:=by simp;omega
 have J:((k:Int) == 5)=false:=by simp;omega
 have l:((k:Int) == 11)=false:=by simp;omega
 have q:((k:Int) == 12)=false:=by simp;omega
 have r:((k:Int) == 13)=false:=by simp;omega
 have t:((k:Int) == 14)=false:=by simp;omega
 have u:((k:Int) == 15)=false:=by simp;omega
 have y:((k:Int) == 16)=false:=by simp;omega
 have L:((k:Int) == 6)=false:=by simp;omega
 have M:((k:Int) == 7)=false:=by simp;omega
 have N:((k:Int) == 8)=false:=by simp;omega
 have R:((k:Int) == 9)=false:=by simp;omega
 have h:((k:Int) == 10)=false:=by simp;omega
 have I:((k:Int) == 4)=false:=by simp;omega
 clear h19 h20 h18 h17 h5 h11 h12 h13 h14 h15 h16 h6 h7 h8 h9 h10 h4;go_in
 go_wp2_with fail;refine (rZ k w).mono ?_;rintro e w1⟨rfl,rfl⟩;rcases a:jF k with _ | _
 ·have b:=O (F5 a);clear a;go_wp2;go_ret2
  exact⟨by rw [b.o];rfl,Below.refl _ _⟩
 ·have b:=O (AQ a g.o);clear a;go_wp2;go_ret2
  exact⟨by rw [b.o];rfl,Below.refl _ _⟩
end
set_option linter.all false
section
open Go.RowKit Mist
attribute [local go_sem] au aN aV aM aG
theorem Jv {W:World}{cs:Array Value}{T:TypeId}{k:Nat}(a:W.heap.size=k):aZ (W.alloc (.cells cs T)) k T cs:=by subst a;exact aZ.new W T cs
theorem Qy {a b:Bool}(h:a=true↔b=true):Ending.returned (Value.bool a)=Ending.returned (Value.bool b):=by rw [aiu.2 h]
def sQ (own j r1 r2:Nat):Bool :=
 if own=4∨own=5∨own=22 then decide (r1≤r2)
 else if own=23 then decide (0 < j) || decide (r1≤r2)
 else if 6≤own∧own≤10∨own=17∨own=18 then decide (r1 < r2) || (decide (r2=r1) && decide (j=0))
 else if 11≤own∧own≤16 then decide (r1 < r2)
 else true
def Dj (own j kid:Nat):Bool:=if (lH kid).2 ≠ 0 then false else !n_ own j kid
theorem acY {A Bi:Option Addr}{c n m d i j q:Nat}{xs:List NV}{its:List Int}{x y:NV}{W:World}(hT:lJ W A Bi xs its)(hn:xs.length=n)(I:xs[i]? = some x)(hj:x.1.kids[j]? = some (q:Int))(hy:xs[q]? = some y)(g:j < 2∨¬ (6≤x.1.kind∧x.1.kind≤10∨x.1.kind=17∨x.1.kind=18)) :
  Calls Tryz.prog 45 #[.agg #[.slice A n c,.slice Bi m d],.int .i64 i,.int .i64 j] W fun e W'=>e=.returned (.bool (Dj x.1.kind j y.1.kind))∧Below W.heap.size W W':=by
 have hi:i < n:=by rw [← hn];exact (aiq.1 I).1
 have hql:q < n:=by rw [← hn];exact (aiq.1 hy).1
 have hjl:j < x.1.kids.length:=(aiq.1 hj).1;obtain⟨b,o,hA,C⟩:=hT.nodes (by omega);subst hA;have k0:=C.c0 i x I;have k1:=C.c1 i x I;have k2:=C.c2 i x I;have k3:=C.c3 i x I;have k4:=C.c4 i x I;have l0:=C.c0 q y hy;have N:=C.lt;obtain⟨Ka,kc,hxe,hkl,hki⟩:=C.kid I;obtain⟨kb,J,hKa,U,hkc⟩:=hki.ex (by omega);have kq:=hkc j _ hj;rw [hxe] at k3
 subst hKa;have Jd:=O kq;have gN:=O l0;obtain⟨r1,G⟩:∃ r,r=l9 x.1.kind:=⟨_,rfl⟩;obtain⟨r2,H⟩:∃ r,r=l9 y.1.kind:=⟨_,rfl⟩;obtain⟨e2,F⟩:∃ r,r=(lH y.1.kind).2:=⟨_,rfl⟩;have Ez:=O fun (w:World)=>by have h:=F9 x.1.kind w;rw [D8,← G] at h;exact h
 have M:=O fun (w:World)=>by have h:=F9 y.1.kind w;rw [D8,← H,← F] at h;exact h
 obtain⟨nk,X⟩:∃ m,m=x.1.kids.length:=⟨_,rfl⟩;rw [← X] at k3 hjl
 obtain⟨yk,hyk⟩:∃ m,m=y.1.kind:=⟨_,rfl⟩;rw [← hyk] at l0 gN M H F ⊢
 obtain⟨⟨kd,tx,nn,ks,at_⟩,xv⟩:=x;simp only at k0 k1 k2 k3 k4 G X Ez g
 have L:=O G;have HR2:=O H;have HE2:=O F;clear G H F;have y0:(0:Int)≤(i:Int):=by omega
 have y1:(i:Int) < (n:Int):=by omega
 have y2:(0:Int)≤(j:Int):=by omega
 have y3:(j:Int) < (nk:Int):=by omega
 have y4:(0:Int)≤(q:Int):=by omega
 have y5:(q:Int) < (n:Int):=by omega
 clear hT I hj hy C hn hxe hkl hki hkc X hyk;go_in
 go_upto_region 2 with (fail)
 have Jf:=O (Jv (W:=W.alloc (.cells #[.slice (some ⟨b,o,none⟩) n c,.slice Bi m d] 25)) (T:=39) (cs:=#[.int .u8 (kd:Int),.string (aU tx),.int .i64 nn,.slice (some ⟨kb,J,none⟩) nk kc,.int .i64 at_]) (k:=W.heap.size+1) (by simp));have Jl:=O ((aZ.new W 25 #[.slice (some ⟨b,o,none⟩) n c,.slice Bi m d]).alloc (.cells #[.int .u8 (kd:Int),.string (aU tx),.int .i64 nn,.slice (some ⟨kb,J,none⟩) nk kc,.int .i64 at_] 39));have rA:=O (((Below.refl W.heap.size W).alloc (aiv _) (.cells #[.slice (some ⟨b,o,none⟩) n c,.slice Bi m d] 25)).alloc (by simp) (.cells #[.int .u8 (kd:Int),.string (aU tx),.int .i64 nn,.slice (some ⟨kb,J,none⟩) nk kc,.int .i64 at_] 39))
 generalize (W.alloc (.cells #[.slice (some ⟨b,o,none⟩) n c,.slice Bi m d] 25)).alloc (.cells #[.int .u8 (kd:Int),.string (aU tx),.int .i64 nn,.slice (some ⟨kb,J,none⟩) nk kc,.int .i64 at_] 39)=w1 at Jf Jl rA ⊢
 have n0:=Jf.o.cell 0;clear k0 k1 k2 k3 k4 kq l0;go_wp2_with fail;refine (Ez.o _).mono ?_;rintro e w2⟨rfl,D⟩;have a:=O (rA.o.trans (D.mono rA.o.size));have uU:=O (Jf.o.below D Jf.o.lt);have u:=O (Jl.o.below D Jl.o.lt);clear D rA Jf Jl n0 Ez;have t0:=u.o.cell 0;have n3:=uU.o.cell 3;have Y:w2.cell? ⟨kb,J+j,none⟩=some (.int .i64 (q:Int)):=(a.o.cell (p:=⟨kb,_,none⟩) U).trans Jd.o;have Z:w2.cell? ⟨b,o+q * 5,none⟩=some (.int .u8 (yk:Int)):=(a.o.cell (p:=⟨b,_,none⟩) N).trans gN.o;go_wp2_with fail
 go_region_held3 (fun w'=>w'.cell? ⟨W.heap.size,0,none⟩=some (.slice (some ⟨b,o,none⟩) n c)∧w'.cell? ⟨W.heap.size+1,3,none⟩=some (.slice (some ⟨kb,J,none⟩) nk kc)∧w'.cell? ⟨kb,J+j,none⟩=some (.int .i64 (q:Int))∧w'.cell? ⟨b,o+q * 5,none⟩=some (.int .u8 (yk:Int)))
  (first | go_keep|(go_split_ands;refine⟨?_,?_,?_,?_⟩ <;> assumption))
  ((go_at_call 91
    refine (M.o _).mono ?_;rintro e w3⟨rfl,hb⟩;have t:=O (show Below w2.heap.size w2 w3 from Below.trans (by (repeat (first|(with_reducible exact Below.refl _ _)|(with_reducible refine Below.drew ?_)));done) hb);have kE:=O (a.o.trans (t.o.mono a.o.size));have Q0:=O (uU.o.below t.o uU.o.lt);have HT3:=O (u.o.below t.o u.o.lt);clear hb t0 n3 Y Z;have t0:=HT3.o.cell 0;have n3:=Q0.o.cell 3;have Y:w3.cell? ⟨kb,J+j,none⟩=some (.int .i64 (q:Int)):=(kE.o.cell (p:=⟨kb,_,none⟩) U).trans Jd.o;have Z:w3.cell? ⟨b,o+q * 5,none⟩=some (.int .u8 (yk:Int)):=(kE.o.cell (p:=⟨b,_,none⟩) N).trans gN.o))
 all_goals
  have n0:=Q0.o.cell 0;clear t0 n3 Y Z;have l:=O (show Dj kd j yk=if e2 ≠ 0 then false else !sQ kd j r1 r2 from by rw [HE2.o,L.o,HR2.o];rfl);have HL:=O kE.o;have HR:=O L.o;clear M gN L HR2 HE2 a uU u t kE Q0 HT3 Jd U N y0 y1 y3 y4 y5 hi hql hjl;by_cases he:e2=0
  ·subst he;have l:=O (show Dj kd j yk=!sQ kd j r1 r2 from by rw [l.o,if_neg (by simp)]);have V:(kd=5∨kd=4∨kd=22∨11≤kd∧kd≤16)∨kd=23∨(kd=6∨kd=7∨kd=8∨kd=9∨kd=10∨kd=17∨kd=18)∨(kd ≠ 5∧kd ≠ 4∧kd ≠ 22∧kd ≠ 23∧¬ (6≤kd∧kd≤18)):=by omega
   rcases V with S | S | S | S
   ·have hk2:kd=5∨kd=4∨kd=22∨kd=11∨kd=12∨kd=13∨kd=14∨kd=15∨kd=16:=by omega
    clear S g;rcases hk2 with rfl | rfl | rfl | rfl | rfl | rfl | rfl | rfl | rfl
    all_goals
     go_wp2_with fail;go_ret
     refine⟨?_,HL.o⟩
     have hr:=HR.o;simp [l9] at hr
     subst hr;rw [l.o];exact Qy (by simp [sQ];first | done | omega)
   ·subst S;clear g;rcases Nat.eq_zero_or_pos j with R | R
    ·subst R;go_wp2_with fail;go_ret
     refine⟨?_,HL.o⟩
     have hr:=HR.o;simp [l9] at hr
     subst hr;rw [l.o];exact Qy (by simp [sQ];first | done | omega)
    ·have z:((j:Int) == 0)=false:=by simp;omega
     go_wp2_with fail;go_ret
     refine⟨?_,HL.o⟩
     rw [l.o];exact Qy (by simp [sQ,R];first | done | omega)
   ·have hj3:j=0∨j=1:=by omega
    clear g;rcases S with rfl | rfl | rfl | rfl | rfl | rfl | rfl
    all_goals
     rcases hj3 with rfl | rfl
     all_goals
      go_wp2_with fail
      all_goals
       go_ret
       refine⟨?_,HL.o⟩
       rw [l.o];exact Qy (by simp [sQ];first | done | omega)
   ·obtain⟨h5,h4,h22,h23,h6⟩:=S;have z4:((kd:Int) == 4)=false:=by simp;omega
    have z5:((kd:Int) == 5)=false:=by simp;omega
    have z22:((kd:Int) == 22)=false:=by simp;omega
    have z23:((kd:Int) == 23)=false:=by simp;omega
    have z6:((kd:Int) == 6)=false:=by simp;omega
    have z7:((kd:Int) == 7)=false:=by simp;omega
    have z8:((kd:Int) == 8)=false:=by simp;omega
    have z9:((kd:Int) == 9)=false:=by simp;omega
    have z10:((kd:Int) == 10)=false:=by simp;omega
    have z11:((kd:Int) == 11)=false:=by simp;omega
    have z12:((kd:Int) == 12)=false:=by simp;omega
    have z13:((kd:Int) == 13)=false:=by simp;omega
    have z14:((kd:Int) == 14)=false:=by simp;omega
    have z15:((kd:Int) == 15)=false:=by simp;omega
    have z16:((kd:Int) == 16)=false:=by simp;omega
    have z17:((kd:Int) == 17)=false:=by simp;omega
    have z18:((kd:Int) == 18)=false:=by simp;omega
    have HB:=O (show sQ kd j r1 r2=true by unfold sQ;rw [if_neg (by omega),if_neg (by omega),if_neg (by omega),if_neg (by omega)]);clear h5 h4 h22 h23 h6 g;go_wp2_with fail;go_ret
    refine⟨?_,HL.o⟩
    rw [l.o,HB.o];rfl
  ·have l:=O (show Dj kd j yk=false from by rw [l.o,if_pos he]);have z:((e2:Int) != 0)=true:=by simp;omega
   clear he;go_wp2_with fail;go_ret
   refine⟨?_,HL.o⟩
   rw [l.o];rfl
end
set_option linter.all false
end Go.Proofs.YtajfdjikimiapaaGreatDoor
namespace Mist
def Ti (l:List Pz):Prop:=aH false l=l∧l ≠ []
theorem aeI {e:Type}{P:e→Prop}{c:Prop}[Decidable c]{a b:e}(h1:c→P a)(h2:¬ c→P b):P (if c then a else b):=by
 split
 ·exact h1 ‹_›
 ·exact h2 ‹_›
theorem Fh {l:List Pz}(h:aH false l=l∧l ≠ [])(r:List Pz):aH false (l ++ r)=l ++ r∧l ++ r ≠ []:=by
 obtain⟨h1,h2⟩:=h
 cases l with
 | nil=>exact absurd rfl h2
 | cons p l=>simp only [aH] at h1;simp only [List.cons_append,aH];injection h1 with h1 h3;exact⟨by rw [h1],by simp⟩
theorem FL {T:Tr}{B:Nat→List Pz}{i j:Nat}(h:aH false (B ((nd T i).kids.getD j 0).toNat)=B ((nd T i).kids.getD j 0).toNat∧B ((nd T i).kids.getD j 0).toNat ≠ []):aH false (bM T B i j)=bM T B i j∧bM T B i j ≠ []:=by
 unfold bM;simp only
 split
 ·exact h
 ·exact⟨rfl,by simp⟩
theorem Od {T:Tr}{B:Nat→List Pz}{i:Nat}:∀ k,(∀ j,j < k→aH false (bM T B i j)=bM T B i j∧bM T B i j ≠ [])→aH false (dD T B i k)=dD T B i k∧(0 < k→dD T B i k ≠ []):=by
 intro k;unfold dD
 induction k with
 | zero=>intro _;exact⟨rfl,by omega⟩
 | succ k a =>
  intro h;have h1:=a fun j b=>h j (by omega)
  unfold dZ;split
  ·have:=h 0 (by omega)
   exact⟨this.1,fun _=>this.2⟩
  ·have:=Fh ⟨h1.1,h1.2 (by omega)⟩ (tz [44] (-1) :: aH true (bM T B i k))
   exact⟨this.1,fun _=>this.2⟩
theorem C8 {T:Tr}(a:GD T):∀ f i,i < f→i < T.nodes.length→aH false (ah T f i)=ah T f i∧ah T f i ≠ []:=by
 intro f
 induction f with
 | zero=>intro i h;omega
 | succ f y =>
  intro i hi u;have b:=U5 (a.right i u)
  suffices H:∀ P:List Pz→Prop,(∀ l,Ti l→P l)→P (aW T (ah T f) i) from H Ti fun _ h=>h
  intro P t
  have K:∀ j,j < (nd T i).kids.length→aH false (bM T (ah T f) i j)=bM T (ah T f) i j∧bM T (ah T f) i j ≠ []:=fun j D=>by
   obtain⟨q,C,G⟩:=a.kid u D;refine FL ?_;rw [ait,C];exact y q (by omega) (by omega)
  have g:=b.many
  have r:(nd T i).kind=22∨(nd T i).kind=23∨6≤(nd T i).kind∧(nd T i).kind≤18→0 < (nd T i).kids.length:=by
   intro h;by_cases e:(nd T i).kind=22
   ·have:=many1 (by decide) _ e g;omega
   ·have:=qd (by omega) _ rfl g;omega
  have F:=b.kind;simp [eZ,gF,dB] at F
  clear b g y;unfold aW gI;simp only
  generalize (nd T i).kind=k at *
  repeat' (first|(refine aeI (P:=P) (fun _=>?_) (fun _=>?_))|(exact t _ ⟨rfl,List.cons_ne_nil _ _⟩)|(exact t _ (Fh (K 0 (r (by omega))) _)))
theorem Kl {T:Tr}(a:GD T){f i:Nat}(hi:i < T.nodes.length)(g:i≤f):mJ (ah T f) (nd T i).kids≤12 * i∧(nd T i).kids.length≤i:=by
 obtain⟨n,m,e,_,b⟩:=a.fo.each i (aix _) hi;rw [jX e];have h1:=Fp a.right b f g;have h2:=b.len;omega
theorem UG (B:Nat→List Pz)(l:List Int)(k:Nat):mJ B (l.take k)≤mJ B l:=by
 have:=yJ B (l.take k) (l.drop k)
 rw [List.take_append_drop] at this
 omega
end Mist
namespace Go.Proofs.YtajfdjikimiapaaGreatDoor
section
open Mist
theorem aaA {own j k:Nat}(h:(own=4∨own=5∨own=22∨own=23∨6≤own∧own≤18)→eZ k=true):Dj own j k=!n_ own j k:=by
 unfold Dj;by_cases e:own=4∨own=5∨own=22∨own=23∨6≤own∧own≤18
 ·have h1:=h e;rw [if_neg];unfold lH
  have:jF k=true:=h1
  rw [if_pos this];split <;> simp
 ·have:n_ own j k=true:=by
   unfold n_;rw [if_neg (by omega),if_neg (by omega),if_neg (by omega),if_neg (by omega)]
  rw [this];simp
end
set_option linter.all false
section
open Go.RowKit Mist
attribute [local go_sem] au aN aV aM aG
section
variable {P:Program} {w0:World} {Q:Exit→Act→World→Prop} {E:Operand→SV} {o:Oper}
theorem abY {t:TypeId}{x y:Operand}{p q u:Value}(h:o.op=.indexAddr t x y)(e:E x=.v p)(g:E y=.v q)(k:∀ w,(Instr.indexAt t p q).run P w=.ok u w):iP P w0 Q E o (.v u):=mF fun a w b l=>by
 have h1:a.eval x=p:=by have:=b x (by rw [h];simp [Op.operands]);rw [e] at this;exact this
 have h2:a.eval y=q:=by have:=b y (by rw [h];simp [Op.operands]);rw [g] at this;exact this
 refine⟨u,?_,rfl⟩
 unfold execOp;simp only [h,h1,h2,Sem.run_bind,k w,Result.andThen_ok,Sem.run_pure]
end
theorem Y0:(Tryz.prog.info? 9).map (fun i=>(i.zero,i.size))=some (some (.string ByteArray.empty),1):=by kernel_rfl
theorem Ro:(Tryz.prog.info? 65).map (fun i=>(i.zero,i.size))=some (some (.slice none 0 0),1):=by kernel_rfl
theorem Ke {P:Program}{t:TypeId}{z:Option Value}{s:Nat}(h:(P.info? t).map (fun i=>(i.zero,i.size))=some (z,s)):∃ i,P.info? t=some i∧i.zero=z∧i.size=s:=by
 rcases hi:P.info? t with _ | i
 ·rw [hi] at h;cases h
 ·rw [hi] at h
  simp only [Option.map_some,Option.some.injEq,Prod.mk.injEq] at h
  exact⟨i,rfl,h.1,h.2⟩
section
variable {w0:World} {Q:Exit→Act→World→Prop} {E:Operand→SV} {o:Oper}
theorem ss (b:List Bs){n:Nat}{a:Array (Nat × Operand)}(h:o.op=.buildSlice 100 n a)(g:partsOf n a)(q:n≤1000)(hv:(a.toList.map fun p=>E p.2)=b.map fun t=>.v (.string (aU t))):iP Tryz.prog w0 Q E o (.strs b):=by
 obtain⟨i,h1,h2,h3⟩:=Ke Y0
 have e:(a.toList.map fun p=>strOf (E p.2))=b:=by
  have:=congrArg (List.map strOf) hv
  rw [List.map_map,List.map_map] at this
  have k:(strOf ∘ fun t=>SV.v (.string (aU t)))=id:=rfl;rw [k,List.map_id] at this
  exact this
 rw [← e];refine abg h Tryz.underlying100 h1 h2 h3 rfl q g fun x u=>?_
 obtain⟨p,g,rfl⟩:=List.mem_map.1 u;have l:E p.2 ∈ b.map fun t=>SV.v (.string (aU t)):=by rw [← hv];exact List.mem_map.2 ⟨p,g,rfl⟩
 obtain⟨t,_,r⟩:=List.mem_map.1 l;rw [← r];rfl
theorem sr (ls:List (List Pz)){n:Nat}{a:Array (Nat × Operand)}(h:o.op=.buildSlice 152 n a)(b:partsOf n a)(l:n≤1000)(hv:(a.toList.map fun p=>E p.2)=ls.map .bits):iP Tryz.prog w0 Q E o (.rows ls):=by
 obtain⟨i,h1,h2,h3⟩:=Ke Ro
 have e:(a.toList.map fun p=>rowOf (E p.2))=ls:=by
  have:=congrArg (List.map rowOf) hv
  rw [List.map_map,List.map_map] at this
  have g:(rowOf ∘ SV.bits)=id:=rfl;rw [g,List.map_id] at this
  exact this
 rw [← e];refine abf h Tryz.underlying152 h1 h2 h3 rfl l b fun x r=>?_
 obtain⟨p,b,rfl⟩:=List.mem_map.1 r;have k:E p.2 ∈ ls.map SV.bits:=by rw [← hv];exact List.mem_map.2 ⟨p,b,rfl⟩
 obtain⟨t,_,q⟩:=List.mem_map.1 k;rw [← q];rfl
theorem stt {x:Operand}{k:Array TypeId}{l:List Bs}(h:o.op=.call { callee:=.value (.func 84),args:=#[x],argTypes:=k })(e:E x=.strs l)(b:Nat.ble l.length 1000=true):iP Tryz.prog w0 Q E o (.bits (l.map dK)) :=
 nE h (fun args w=>by kernel_rfl) fun a w g q=>by
  have:=g x (by simp)
  rw [e] at this
  rw [show (#[x].map a)=#[a x] by simp];exact Iy (Nat.le_of_ble_eq_true b) this
theorem sF {x:Operand}{k:Array TypeId}{l:List Pz}(h:o.op=.call { callee:=.value (.func 86),args:=#[x],argTypes:=k })(e:E x=.bits l)(b:l.length≤10000000):iP Tryz.prog w0 Q E o (.bits (aH true l)) :=
 nE h (fun args w=>by kernel_rfl) fun a w g q=>by
  have:=g x (by simp)
  rw [e] at this
  rw [show (#[x].map a)=#[a x] by simp];exact Qm b this
theorem yI {x:Operand}{k:Array TypeId}{ls:List (List Pz)}(h:o.op=.call { callee:=.value (.func 87),args:=#[x],argTypes:=k })(e:E x=.rows ls)(b:Nat.ble ls.length 1000=true)(q:ls.flatten.length≤10000000):iP Tryz.prog w0 Q E o (.bits ls.flatten) :=
 nE h (fun args w=>by kernel_rfl) fun a w g l=>by
  have:=g x (by simp)
  rw [e] at this
  rw [show (#[x].map a)=#[a x] by simp];refine adZ (Nat.le_of_ble_eq_true b) (fun j=>?_) this
  have h2:(ls.take j).flatten.length≤ls.flatten.length:=by
   conv=>rhs;rw [← List.take_append_drop j ls,List.flatten_append,aiA]
   omega
  omega
end
end
set_option linter.all false
section
open Go.RowKit Mist
attribute [local go_sem] au aN aV aM aG
theorem Oy (w:World)(x:Nat)(b:x < 256):(convert 47 9 (.slice (some ⟨w.heap.size,0,none⟩) 1 1)).run Tryz.prog (w.alloc (.cells #[.int .u8 (x:Nat)] 5))=.ok (.string (aU [UInt8.ofNat x])) (w.alloc (.cells #[.int .u8 (x:Nat)] 5)):=by
 refine Lib.run_convert_whole _ 47 5 9 Tryz.underlying47 (by kernel_rfl) (by kernel_rfl) w.heap.size 0 (aU [UInt8.ofNat x]) (fun i hi=>?_) 1;have a:i=0:=by have:i < 1:=hi;omega
 subst a;rw [show (⟨w.heap.size,0+0,none⟩:Addr)=⟨w.heap.size,0,none⟩ from rfl,(aZ.new w 5 #[.int .u8 (x:Nat)]).cell 0]
 show some (Value.int .u8 (x:Nat))=some (.int .u8 ((UInt8.ofNat x).toNat:Nat))
 rw [UInt8.toNat_ofNat',Nat.mod_eq_of_lt b]
theorem aak:∀ (n:Nat),n < 9223372036854775808→(Go.Lib.decDigits n).length≤n+1:=by
 intro n
 induction n using Nat.strongRecOn with
 | _ n a =>
  intro h;rw [Go.Lib.decDigits];split
  ·simp
  ·have:=a (n / 10) (by omega) (by omega)
   rw [aiA];simp;omega
theorem abV:∀ (n:Nat),n < 9223372036854775808→∀ w:World,Calls Tryz.prog 130 #[.int .i64 (n:Nat)] w fun e H=>e=.returned (.string (aU (Go.Lib.decDigits n)))∧Below w.heap.size w H:=by
 intro n
 induction n using Nat.strongRecOn with
 | _ n G =>
  intro J w;have I:(Int.tmod (n:Int) 10)=((n % 10:Nat):Int):=by rw [Int.tmod_eq_emod_of_nonneg (by omega)];rfl
  have hd:(Int.tdiv (n:Int) 10)=((n / 10:Nat):Int):=by rw [Int.tdiv_eq_ediv_of_nonneg (by omega)];rfl
  have l:=Oy w (48+n % 10) (by omega);obtain⟨u,a⟩:∃ d,d=UInt8.ofNat (48+n % 10):=⟨_,rfl⟩;rw [← a] at l
  have q:wrap64 (48+((n % 10:Nat):Int))=((48+n % 10:Nat):Int):=by unfold wrap64;omega
  have r:IntKind.u8.wrap ((48+n % 10:Nat):Int)=((48+n % 10:Nat):Int):=by simp [IntKind.wrap,IntKind.signed,IntKind.bits];omega
  have g:=O ((Below.refl w.heap.size w).alloc (aiv _) (.cells #[.int .u8 ((48+n % 10:Nat):Int)] 5));have t:=O a;clear a;have y:((48+n % 10:Nat):Int)=48+(n:Int) % 10:=by omega
  rw [y] at l g
  clear q r y;by_cases h10:10≤n
  ·have F:decide (10≤(n:Int))=true:=aiG (by omega);have h:=O (G (n / 10) (by omega) (by omega));rw [show ((n / 10:Nat):Int)=(n:Int) / 10 by omega] at h
   go_in
   go_wp2_with fail;refine (h.o _).mono ?_;rintro e L⟨rfl,b⟩;have k:=O (show Go.Lib.decDigits n=Go.Lib.decDigits (n / 10) ++ [u] by rw [Go.Lib.decDigits,dif_neg (by omega),t.o]);have C:=O (g.o.trans (b.mono (by simp)))
   have D:¬ 9223372036854775807 < (Go.Lib.decDigits (n / 10)).length+1:=by
    have:=aak (n / 10) (by omega)
    omega
   clear b g h l;go_wp2_with fail;go_ret;exact⟨by rw [k.o];rfl,C.o⟩
  ·have F:decide (10≤(n:Int))=false:=aiH (by omega);go_in
   go_wp2_with fail;have k:=O (show Go.Lib.decDigits n=[u] by rw [Go.Lib.decDigits,dif_pos (by omega),t.o,Nat.mod_eq_of_lt (by omega)]);go_ret;exact⟨by rw [k.o];rfl,g.o⟩
theorem Ee (w:World)(a:List Bs)(e:TypeId)(n:Nat)(h:n=a.length)(cs:Array Value)(b:cs=(a.map fun t=>Value.string (aU t)).toArray):kJ (.strs a) (.slice (some ⟨w.heap.size,0,none⟩) n n) (w.alloc (.cells cs e)):=by
 subst h b
 refine⟨w.heap.size,rfl,by simp,fun j t g=>vI ?_⟩
 simp [List.getElem?_map,g]
theorem aeH (n:Int)(h1:-9223372036854775807≤n)(h2:n≤9223372036854775807)(w:World):Calls Tryz.prog 83 #[.int .i64 n] w (BR (gI n (-1)) w):=by
 by_cases h0:n < 0
 ·have r:decide (n < 0)=true:=aiG h0;have b:=O (abV (-n).toNat (by omega));rw [show (((-n).toNat:Nat):Int)=-n by omega] at b
  have u:wrap64 (-n)=-n:=by unfold wrap64;omega
  have k:=O (show (gI n (-1))=[[45],Go.Lib.decDigits (-n).toNat].map dK by unfold gI;rw [if_pos h0];unfold Go.Lib.itoa;rw [if_neg (by omega)];rfl)
  generalize Go.Lib.decDigits (-n).toNat=ds at b k
  go_in
  go_wp2_with fail;refine (b.o _).mono ?_;rintro e q⟨rfl,a⟩;have l:=O (Iy (by simp) (Ee q [[45],ds] 9 2 rfl _ rfl));have h:=O (a.alloc a.size (.cells #[.string (aU [45]),.string (aU ds)] 9));clear a b;go_wp2_with fail;refine l.o.mono ?_;rintro e t⟨v,rfl,hv,g⟩;go_wp2_with fail;go_ret;rw [k.o];exact⟨v,rfl,hv,h.o.trans (g.mono h.o.size)⟩
 ·have r:decide (n < 0)=false:=aiH h0;have b:=O (abV n.toNat (by omega));rw [show ((n.toNat:Nat):Int)=n by omega] at b
  have k:=O (show (gI n (-1))=[Go.Lib.decDigits n.toNat].map dK by unfold gI;rw [if_neg h0];unfold Go.Lib.itoa;rw [if_neg (by omega)];rfl)
  generalize Go.Lib.decDigits n.toNat=ds at b k
  go_in
  go_wp2_with fail;refine (b.o _).mono ?_;rintro e q⟨rfl,a⟩;have l:=O (Iy (by simp) (Ee q [ds] 9 1 rfl _ rfl));have h:=O (a.alloc a.size (.cells #[.string (aU ds)] 9));clear a b;go_wp2_with fail;refine l.o.mono ?_;rintro e t⟨v,rfl,hv,g⟩;go_wp2_with fail;go_ret;rw [k.o];exact⟨v,rfl,hv,h.o.trans (g.mono h.o.size)⟩
theorem adt (k:Nat)(h1:6≤k)(h2:k≤18)(w:World):Calls Tryz.prog 90 #[.int .u8 (k:Nat)] w fun e b=>e=.returned (.string (aU (mQ k)))∧Below w.heap.size w b:=by
 have a:=O fun (o:Obj)=>(Below.refl w.heap.size w).alloc (aiv _) o
 rcases (by omega:k=6∨k=7∨k=8∨k=9∨k=10∨k=11∨k=12∨k=13∨k=14∨k=15∨k=16∨k=17∨k=18) with rfl | rfl | rfl | rfl | rfl | rfl | rfl | rfl | rfl | rfl | rfl | rfl | rfl
 all_goals
  go_in
  go_wp2_with fail;go_ret;exact⟨rfl,a.o _⟩
end
set_option linter.all false
section
open Go.RowKit Mist
attribute [local go_sem] au aN aV aM aG
def BC (W0:World)(tv:Value)(T:Tr)(f i:Nat):Prop:=∀ w,Below W0.heap.size W0 w→Calls Tryz.prog 42 #[tv,.int .i64 (i:Nat)] w (BR (ah T f i) w)
def KC (W0:World)(tv:Value)(T:Tr)(B:Nat→List Pz)(i j:Nat):Prop:=∀ w,Below W0.heap.size W0 w→Calls Tryz.prog 85 #[tv,.int .i64 (i:Nat),.int .i64 (j:Nat)] w (BR (bM T B i j) w)
section
variable {w0 W0:World} {Q:Exit→Act→World→Prop} {E:Operand→SV} {o:Oper} {tv:Value} {T:Tr} {f i j:Nat} {B:Nat→List Pz}
theorem stb {x y:Operand}{r:Array TypeId}(h:o.op=.call { callee:=.value (.func 42),args:=#[x,y],argTypes:=r })(g:E x=.v tv)(k:E y=.v (.int .i64 (i:Nat)))(l:BC W0 tv T f i)(b:Below W0.heap.size W0 w0):iP Tryz.prog w0 Q E o (.bits (ah T f i)) :=
 nE h (fun args w=>by kernel_rfl) fun a w e q=>by
  have h1:=e x (by simp);have h2:=e y (by simp);rw [g] at h1
  rw [k] at h2
  rw [show (#[x,y].map a)=#[a x,a y] by simp,show a x=tv from h1,show a y=.int .i64 (i:Nat) from h2];exact l w (b.trans (q.mono b.size))
theorem stk {x y z:Operand}{t:Array TypeId}(h:o.op=.call { callee:=.value (.func 85),args:=#[x,y,z],argTypes:=t })(g:E x=.v tv)(k:E y=.v (.int .i64 (i:Nat)))(l:E z=.v (.int .i64 (j:Nat)))(q:KC W0 tv T B i j)(e:Below W0.heap.size W0 w0):iP Tryz.prog w0 Q E o (.bits (bM T B i j)) :=
 nE h (fun args w=>by kernel_rfl) fun a w b r=>by
  have h1:=b x (by simp);have h2:=b y (by simp);have h3:=b z (by simp);rw [g] at h1
  rw [k] at h2
  rw [l] at h3
  rw [show (#[x,y,z].map a)=#[a x,a y,a z] by simp,show a x=tv from h1,show a y=.int .i64 (i:Nat) from h2,show a z=.int .i64 (j:Nat) from h3];exact q w (e.trans (r.mono e.size))
end
theorem aeL {A Bi:Option Addr}{c n m d i j q f:Nat}{xs:List NV}{a:List Int}{x y:NV}{W0:World}(hT:lJ W0 A Bi xs a)(hn:xs.length=n)(H:xs[i]? = some x)(X:x.1.kids[j]? = some (q:Int))(hy:xs[q]? = some y)(Y:j < 2∨¬ (6≤x.1.kind∧x.1.kind≤10∨x.1.kind=17∨x.1.kind=18))
  (G:Dj x.1.kind j y.1.kind=!n_ x.1.kind j y.1.kind) (hC:BC W0 (.agg #[.slice A n c,.slice Bi m d]) ⟨aj xs,a⟩ f q) (hl:(ah ⟨aj xs,a⟩ f q).length≤1000000) (ht:aH false (ah ⟨aj xs,a⟩ f q)=ah ⟨aj xs,a⟩ f q):KC W0 (.agg #[.slice A n c,.slice Bi m d]) ⟨aj xs,a⟩ (ah ⟨aj xs,a⟩ f) i j:=by
 intro w hw;have hi:i < n:=by rw [← hn];exact (aiq.1 H).1
 have Z:j < x.1.kids.length:=(aiq.1 X).1;have S:=hT.below hw;have HH:=O fun (g:World) (l:Below W0.heap.size W0 g)=>by have h:=acY (c:=c) (m:=m) (d:=d) (hT.below l) hn H X hy Y;rw [G] at h;exact h
 obtain⟨b,o,hA,hN⟩:=S.nodes (by omega);have k3:=hN.c3 i x H;obtain⟨Ka,kc,hxe,hkl,hki⟩:=hN.kid H;obtain⟨kb,I,hKa,hkb,hkc⟩:=hki.ex (by omega);have kq:=hkc j _ X;have V:=hN.lt;rw [hxe] at k3
 subst hKa hA;obtain⟨nk,hnk⟩:∃ m,m=x.1.kids.length:=⟨_,rfl⟩;rw [← hnk] at k3 Z
 have e1:((nd (⟨aj xs,a⟩:Tr) i).kids.getD j 0).toNat=q:=by rw [aY a H,ait,X];rfl
 have HK:=O (show bM ⟨aj xs,a⟩ (ah ⟨aj xs,a⟩ f) i j=if n_ x.1.kind j y.1.kind then ah ⟨aj xs,a⟩ f q else tz [40] (-1) :: (aH false (ah ⟨aj xs,a⟩ f q) ++ [tz [41] (-1)]) by
  unfold bM;simp only
  rw [e1,aY a H,aY a hy])
 generalize n_ x.1.kind j y.1.kind=br at HH HK
 have HC:=O hC;have HL:=O hl;have HTI:=O ht;have J:=O hw;have y0:(0:Int)≤(i:Int):=by omega
 have y1:(i:Int) < (n:Int):=by omega
 have y2:(0:Int)≤(j:Int):=by omega
 have y3:(j:Int) < (nk:Int):=by omega
 have k:=O ((Below.refl w.heap.size w).alloc (aiv _) (.cells #[.slice (some ⟨b,o,none⟩) n c,.slice Bi m d] 25));have HT:=O (aZ.new w 25 #[.slice (some ⟨b,o,none⟩) n c,.slice Bi m d]);clear hC hl ht hT S hn H X hy Y G hN hxe hkl hki hkc e1 hnk hi Z hw;go_enter Tryz.func85,Tryz.ntmps85
 go_wp2_with fail
 generalize w.alloc (.cells #[.slice (some ⟨b,o,none⟩) n c,.slice Bi m d] 25)=w1 at k HT ⊢
 have t:=HT.o;have k3':w1.cell? ⟨b,o+i * 5+3,none⟩=some (.slice (some ⟨kb,I,none⟩) nk kc):=(k.o.cell (p:=⟨b,_,none⟩) V).trans k3;have kq':w1.cell? ⟨kb,I+j,none⟩=some (.int .i64 (q:Int)):=(k.o.cell (p:=⟨kb,_,none⟩) hkb).trans kq;have b1:b < w1.heap.size:=aiI V k.o.size;have b2:kb < w1.heap.size:=aiI hkb k.o.size
 have fL:∀ g,Below w1.drew.heap.size w1.drew g→(Instr.loadAt 25 (.pointer (some ⟨w.heap.size,0,none⟩))).run Tryz.prog g=.ok (.agg #[.slice (some ⟨b,o,none⟩) n c,.slice Bi m d]) g:=by
  intro g l;have G:=t.drew.below l t.lt;have c0:=G.cell 0;have c1:=G.cell 1;go_simp
 have fN:∀ g,Below w1.drew.heap.size w1.drew g→(Instr.loadAt 22 (.pointer (some ⟨w.heap.size,0,none⟩))).run Tryz.prog g=.ok (.slice (some ⟨b,o,none⟩) n c) g:=by
  intro g l;have G:=t.drew.below l t.lt;have c0:=G.cell 0;go_simp
 have fK:∀ g,Below w1.drew.heap.size w1.drew g→(Instr.loadAt 23 (.pointer (some ⟨b,o+i * 5+3,none⟩))).run Tryz.prog g=.ok (.slice (some ⟨kb,I,none⟩) nk kc) g:=by
  intro g l;have c0:=(l.cell (p:=⟨b,_,none⟩) b1).trans k3';go_simp
 have fQ:∀ g,Below w1.drew.heap.size w1.drew g→(Instr.loadAt 3 (.pointer (some ⟨kb,I+j,none⟩))).run Tryz.prog g=.ok (.int .i64 (q:Int)) g:=by
  intro g l;have c0:=(l.cell (p:=⟨kb,_,none⟩) b2).trans kq';go_simp
 have fA:∀ g,(Instr.fieldAt 25 (.pointer (some ⟨w.heap.size,0,none⟩)) 0).run Tryz.prog g=.ok (.pointer (some ⟨w.heap.size,0,none⟩)) g:=fun g=>by go_simp
 have fI:∀ g,(Instr.indexAt 22 (.slice (some ⟨b,o,none⟩) n c) (.int .i64 (i:Nat))).run Tryz.prog g=.ok (.pointer (some ⟨b,o+i * 5,none⟩)) g:=fun g=>by go_simp
 have fB:∀ g,(Instr.fieldAt 39 (.pointer (some ⟨b,o+i * 5,none⟩)) 3).run Tryz.prog g=.ok (.pointer (some ⟨b,o+i * 5+3,none⟩)) g:=fun g=>by go_simp
 have fJ:∀ g,(Instr.indexAt 23 (.slice (some ⟨kb,I,none⟩) nk kc) (.int .i64 (j:Nat))).run Tryz.prog g=.ok (.pointer (some ⟨kb,I+j,none⟩)) g:=fun g=>by go_simp
 have L:=O (show Below W0.heap.size W0 w1.drew from (J.o.trans (k.o.mono J.o.size)).drew);refine dx 31 (by kernel_rfl) rfl (by kernel_rfl) (out:=?out) ?runs ?fin
 case runs =>
  refine .cons (d_ rfl rfl fL) ?_;refine .cons (lN rfl rfl fA) ?_;refine .cons (d_ rfl rfl fN) ?_;refine .cons (fM (.inl rfl)) ?_;refine .cons (abY rfl rfl rfl fI) ?_;refine .cons (lN rfl rfl fB) ?_;refine .cons (d_ rfl rfl fK) ?_;refine .cons (fM (.inl rfl)) ?_;refine .cons (abY rfl rfl rfl fJ) ?_;refine .cons (d_ rfl rfl fQ) ?_;refine .cons (stb rfl rfl rfl HC.o L.o) ?_;refine .cons (fM (.inr rfl)) ?_;exact .nil
 case fin =>
  intro fv w2 W r;obtain⟨A2,c2,e2,N⟩:kJ (.bits (ah ⟨aj xs,a⟩ f q)) (fv 11) w2:=W 11 (by decide);simp only [List.map_cons,List.map_nil,jC,Act.put,ail,ain,aio,e2];have M:=O (show Below W0.heap.size W0 w2 from (J.o.trans (k.o.mono J.o.size)).trans (r.mono (Nat.le_trans J.o.size k.o.size)));have u:=O (show Below w.heap.size w w2 from k.o.trans (r.mono k.o.size));have D:=O (t.below r t.lt);have HX:=O (show kJ (.bits (ah ⟨aj xs,a⟩ f q)) (.slice A2 (ah ⟨aj xs,a⟩ f q).length c2) w2 from ⟨A2,c2,rfl,N⟩);clear W r N e2 fL fN fK fQ fA fI fB fJ L k3' kq' b1 b2 t HT k k3 kq;have t:=D.o.cell 0;have t1:=D.o.cell 1;go_wp2_with fail;refine (HH.o _ M.o).mono ?_;rintro e w3⟨rfl,F⟩;have yX:=O (HX.o.below F);have C:=O (u.o.trans (F.mono u.o.size));clear F HX u M D HH t t1;cases br
  ·simp only [Bool.not_false];go_upto_region 3 with (fail)
   obtain⟨A3,c3,e3,hB3⟩:=yX.o;injection e3 with e3 _ e4
   subst e3 e4
   have hlen:([[dK [40]],ah ⟨aj xs,a⟩ f q,[dK [41]]].flatten).length≤10000000:=by
    have:=HL.o
    simp
    omega
   refine eU 31 rfl (by kernel_rfl) (out:=?aii) ?ae6 ?GU
   case ae6 =>
    refine .cons (ss [[40]] rfl ⟨rfl,rfl⟩ (by decide) rfl) ?_;refine .cons (stt rfl rfl rfl) ?_;refine .cons (nN (.inl rfl) rfl rfl hB3) ?_;refine .cons (ss [[41]] rfl ⟨rfl,rfl⟩ (by decide) rfl) ?_;refine .cons (stt rfl rfl rfl) ?_;refine .cons (sr [[dK [40]],ah ⟨aj xs,a⟩ f q,[dK [41]]] rfl ⟨rfl,rfl⟩ (by decide) rfl) ?_;refine .cons (yI rfl rfl rfl hlen) ?_;refine .cons (fM (.inr rfl)) ?_;exact .nil
   case GU =>
    intro fv w4 W U;obtain⟨A4,c4,e4,R⟩:kJ (.bits ([[dK [40]],ah ⟨aj xs,a⟩ f q,[dK [41]]].flatten)) (fv 7) w4:=W 7 (by decide);have HE:=O (show kJ (.bits (bM ⟨aj xs,a⟩ (ah ⟨aj xs,a⟩ f) i j)) (fv 7) w4 from by rw [HK.o,if_neg (by simp),HTI.o];exact⟨A4,c4,e4,R⟩);have mh:=O (C.o.trans (U.mono C.o.size));simp only [List.map_cons,List.map_nil,jC,Act.put,ail,ain,aio];clear W U R e4;go_wp2_with fail;go_ret;exact⟨_,rfl,HE.o,mh.o⟩
  ·simp only [Bool.not_true];go_wp2_with fail;go_ret;exact⟨_,rfl,by have h9:=HK.o;simp only [if_true] at h9;rw [h9];exact yX.o,C.o⟩
def KsC (W0:World)(tv:Value)(T:Tr)(B:Nat→List Pz)(i m:Nat):Prop:=∀ w,Below W0.heap.size W0 w→Calls Tryz.prog 88 #[tv,.int .i64 (i:Nat),.int .i64 0,.int .i64 (m:Nat)] w (BR (dD T B i m) w)
theorem ac' {A Bi:Option Addr}{c n m d i k:Nat}{T:Tr}{B:Nat→List Pz}{W0:World}(hk:∀ j,j < k→KC W0 (.agg #[.slice A n c,.slice Bi m d]) T B i j)(hk1:k≤1000000)(hl:∀ j,j≤k→(dZ (bM T B i) j).length≤1000000)(D:∀ j,j < k→(bM T B i j).length≤1000000):KsC W0 (.agg #[.slice A n c,.slice Bi m d]) T B i k:=by
 intro w hw;have U:=O hw;clear hw;have S:=O hk;clear hk;have HL:=O hl;clear hl;have HM:=O D;clear D;have r:=O (((Below.refl w.heap.size w).alloc (aiv _) (.cells #[.slice A n c,.slice Bi m d] 25)).alloc (by simp) (.cells #[] 69));have t:=O ((aZ.new w 25 #[.slice A n c,.slice Bi m d]).alloc (.cells #[] 69));have y:=O (show kJ (.bits []) (.slice (some ⟨w.heap.size+1,0,none⟩) 0 0) ((w.alloc (.cells #[.slice A n c,.slice Bi m d] 25)).alloc (.cells #[] 69)) from ⟨_,_,rfl,⟨fun h=>by simp at h⟩⟩);go_enter Tryz.func88,Tryz.ntmps88
 go_wp2_with fail;go_loopw [9,10] (fun v iv wr=>∃ j:Nat,j≤k∧iv=.int .i64 j∧Hid (kJ (.bits (dZ (bM T B i) j)) v wr)∧Hid (aZ wr w.heap.size 25 #[.slice A n c,.slice Bi m d])∧Hid (Below w.heap.size w wr)) (fun _ iv _=>k - (intOf iv).toNat)
 case atStart=>exact⟨0,aix _,rfl,y,t,r⟩
 case round =>
  clear r t y;obtain⟨j,hj,rfl,H,b,q⟩:=hrel;have u:=O (show Below W0.heap.size W0 wr from U.o.trans (q.o.mono U.o.size));have t0:=b.o.cell 0;have t1:=b.o.cell 1;by_cases a:j < k
  ·have i3:decide (j < k)=true:=aiG a;rcases Nat.eq_zero_or_pos j with h0 | h0
   ·subst h0;have HC:=O (S.o 0 a wr u.o);obtain⟨R,W,C,_⟩:=H.o;subst C;go_wp2_with fail;refine HC.o.mono ?_;rintro e w2⟨v2,rfl,G,g⟩;have Fe:=O (show kJ (.bits (dZ (bM T B i) 1)) v2 w2 from G);have L:=O (b.o.below g b.o.lt);have J:=O (q.o.trans (g.mono q.o.size));clear G g;go_wp2_with fail;exact⟨⟨1,by omega,by go_num,Fe,L,J⟩,by simp [intOf];omega⟩
   ·have z:((j:Int) == 0)=false:=by simp;omega
    obtain⟨R,W,C,V⟩:=H.o;subst C;go_upto_region 7 with (fail)
    have fL:∀ I,Below wr.drew.heap.size wr.drew I→(Instr.loadAt 25 (.pointer (some ⟨w.heap.size,0,none⟩))).run Tryz.prog I=.ok (.agg #[.slice A n c,.slice Bi m d]) I:=by
     intro I hb;have Z:=b.o.drew.below hb b.o.lt;have c0:=Z.cell 0;have c1:=Z.cell 1;go_simp
    have M:=O (show Below W0.heap.size W0 wr.drew from u.o.drew);have hlm:=HM.o j a;have hlj:=HL.o j hj
    have F:([dZ (bM T B i) j,[dK [44]],aH true (bM T B i j)].flatten).length≤10000000:=by
     simp [ak]
     omega
    refine dx 36 (by kernel_rfl) rfl (by kernel_rfl) (out:=?out) ?runs ?fin
    case runs =>
     refine .cons (nN (.inl rfl) rfl rfl (V.below (Below.refl _ _).drew)) ?_;refine .cons (ss [[44]] rfl ⟨rfl,rfl⟩ (by decide) rfl) ?_;refine .cons (stt rfl rfl rfl) ?_;refine .cons (d_ rfl rfl fL) ?_;refine .cons (fM (.inl rfl)) ?_;refine .cons (fM (.inl rfl)) ?_;refine .cons (stk rfl rfl rfl rfl (S.o j a) M.o) ?_;refine .cons (sF rfl rfl (by omega)) ?_;refine .cons (sr [dZ (bM T B i) j,[dK [44]],aH true (bM T B i j)] rfl ⟨rfl,rfl⟩ (by decide) rfl) ?_;refine .cons (yI rfl rfl rfl F) ?_;refine .cons (fM (.inr rfl)) ?_;exact .nil
    case fin =>
     intro fv w4 Y l
     have X:dZ (bM T B i) (j+1)=[dZ (bM T B i) j,[dK [44]],aH true (bM T B i j)].flatten:=by
      rw [dZ,if_neg (by omega)];simp;rfl
     have HE:=O (show kJ (.bits (dZ (bM T B i) (j+1))) (fv 10) w4 from by rw [X];exact Y 10 (by decide));have mh:=O (q.o.trans (l.mono q.o.size));have VK:=O (b.o.below l b.o.lt);simp only [List.map_cons,List.map_nil,jC,Act.put,ail,ain,aio];clear Y l X;go_wp2_with fail;exact⟨⟨j+1,by omega,by go_num,HE,VK,mh⟩,by simp [intOf];omega⟩
  ·have i3:decide (j < k)=false:=aiH a;have N:j=k:=by omega
   subst N;obtain⟨R,W,C,V⟩:=H.o;subst C;go_wp2_with fail;go_ret;exact⟨_,rfl,H.o,q.o⟩
end
set_option linter.all false
section
open Go.RowKit Mist
attribute [local go_sem] au aN aV aM aG
section
variable {w0 W0:World} {Q:Exit→Act→World→Prop} {E:Operand→SV} {o:Oper} {tv:Value} {T:Tr} {f i j m:Nat} {B:Nat→List Pz}
theorem O_ {x y z u:Operand}{C:Array TypeId}(h:o.op=.call { callee:=.value (.func 88),args:=#[x,y,z,u],argTypes:=C })(g:E x=.v tv)(k:E y=.v (.int .i64 (i:Nat)))(l:E z=.v (.int .i64 0))(q:E u=.v (.int .i64 (m:Nat)))(r:KsC W0 tv T B i m)(e:Below W0.heap.size W0 w0):iP Tryz.prog w0 Q E o (.bits (dD T B i m)) :=
 nE h (fun args w=>by kernel_rfl) fun a w b t=>by
  have h1:=b x (by simp);have h2:=b y (by simp);have h3:=b z (by simp);have h4:=b u (by simp);rw [g] at h1
  rw [k] at h2
  rw [l] at h3
  rw [q] at h4
  rw [show (#[x,y,z,u].map a)=#[a x,a y,a z,a u] by simp,show a x=tv from h1,show a y=.int .i64 (i:Nat) from h2,show a z=.int .i64 0 from h3,show a u=.int .i64 (m:Nat) from h4];exact r w (e.trans (t.mono e.size))
theorem dL {P:Program}{x:Operand}(s:SV)(h:o.op=.move x∨o.op=.assign x)(e:E x=s):iP P w0 Q E o s:=by
 have:=fM (P:=P) (w0:=w0) (Q:=Q) (E:=E) h
 rwa [e] at this
theorem o7 {x y z:Operand}{r:Array TypeId}{a:Int}(h:o.op=.call { callee:=.value (.func 85),args:=#[x,y,z],argTypes:=r })(b:E x=.v tv)(e:E y=.v (.int .i64 (i:Nat)))(g:E z=.v (.int .i64 a))(q:0≤a)(k:KC W0 tv T B i a.toNat)(l:Below W0.heap.size W0 w0):iP Tryz.prog w0 Q E o (.bits (bM T B i a.toNat)) :=
 stk h b e (by rw [g,Int.toNat_of_nonneg q]) k l
theorem kJ.re {l k:List Pz}{y:Value}{w:World}(h:kJ (.bits l) y w)(e:l.map bt=k.map bt):kJ (.bits k) y w:=by
 obtain⟨A,c,a,b⟩:=h;exact⟨A,c,by rw [a];have:=congrArg List.length e;simp at this;rw [this],b.re e⟩
theorem sti {x:Operand}{g:Array TypeId}{n:Int}(h:o.op=.call { callee:=.value (.func 83),args:=#[x],argTypes:=g })(e:E x=.v (.int .i64 n))(l:-9999≤n∧n≤9999):iP Tryz.prog w0 Q E o (.bits (gI n (-1))) :=
 nE h (fun args w=>by kernel_rfl) fun a w b k=>by
  have h1:=b x (by simp);rw [e] at h1
  rw [show (#[x].map a)=#[a x] by simp,show a x=.int .i64 n from h1];exact aeH n (by omega) (by omega) w
theorem agS {x:Operand}{r:Array TypeId}{k:Nat}(h:o.op=.call { callee:=.value (.func 90),args:=#[x],argTypes:=r })(e:E x=.v (.int .u8 (k:Nat)))(g:6≤k∧k≤18):iP Tryz.prog w0 Q E o (.v (.string (aU (mQ k)))) :=
 nE h (fun args w=>by kernel_rfl) fun a w q b=>by
  have h1:=q x (by simp);rw [e] at h1
  rw [show (#[x].map a)=#[a x] by simp,show a x=.int .u8 (k:Nat) from h1];exact (adt k g.1 g.2 w).mono fun e t ⟨l,b⟩=>⟨_,l,rfl,b⟩
end
structure BX (W0:World) (A Bi:Option Addr) (n c m d i:Nat) (T:Tr) (B:Nat→List Pz) (x:Nd):Prop where
 kids:∀ j,j < x.kids.length→KC W0 (.agg #[.slice A n c,.slice Bi m d]) T B i j
 many:∀ k,k≤x.kids.length→KsC W0 (.agg #[.slice A n c,.slice Bi m d]) T B i k
 len:∀ j,j < x.kids.length→(bM T B i j).length≤1000000
 lens:∀ k,k≤x.kids.length→(dD T B i k).length≤1000000
 ne:∀ j,j < x.kids.length→bM T B i j ≠ []
 tight:∀ j,j < x.kids.length→aH false (bM T B i j)=bM T B i j
 Ei:∀ k,k≤x.kids.length→aH false (dD T B i k)=dD T B i k
structure BW (w:World) (W0 w1:World) (tv:Array Value) (A:Option Addr) (nk kc:Nat) (x:Nd):Prop where
 b:Below w.heap.size w w1
 b0:Below W0.heap.size W0 w1
 t:aZ w1 w.heap.size 25 tv
 n:aZ w1 (w.heap.size+1) 39 #[.int .u8 (x.kind:Int),.string (aU x.text),.int .i64 x.n,.slice A nk kc,.int .i64 x.at_]
theorem BW.below {w W0 w1 e:World}{tv:Array Value}{A:Option Addr}{nk kc:Nat}{x:Nd}(h:BW w W0 w1 tv A nk kc x)(a:Below w1.heap.size w1 e):BW w W0 e tv A nk kc x :=
 ⟨h.b.trans (a.mono h.b.size),h.b0.trans (a.mono h.b0.size),h.t.below a h.t.lt,h.n.below a h.n.lt⟩
section
variable {w W0 w1:World} {A Bi K:Option Addr} {n c m d nk kc:Nat} {x:Nd}
theorem BW.lT (h:BW w W0 w1 #[.slice A n c,.slice Bi m d] K nk kc x):∀ a,Below w1.heap.size w1 a→(Instr.loadAt 25 (.pointer (some ⟨w.heap.size,0,none⟩))).run Tryz.prog a=.ok (.agg #[.slice A n c,.slice Bi m d]) a:=by
 intro a e;have b:=h.t.below e h.t.lt;have g:=b.cell 0;have c1:=b.cell 1;go_simp
theorem BW.l1 {tv:Array Value}(h:BW w W0 w1 tv K nk kc x):∀ a,Below w1.heap.size w1 a→(Instr.loadAt 9 (.pointer (some ⟨w.heap.size+1,1,none⟩))).run Tryz.prog a=.ok (.string (aU x.text)) a:=by
 intro a b;have e:=(h.n.below b h.n.lt).cell 1;go_simp
theorem BW.l2 {tv:Array Value}(h:BW w W0 w1 tv K nk kc x):∀ a,Below w1.heap.size w1 a→(Instr.loadAt 3 (.pointer (some ⟨w.heap.size+1,2,none⟩))).run Tryz.prog a=.ok (.int .i64 x.n) a:=by
 intro a b;have e:=(h.n.below b h.n.lt).cell 2;go_simp
theorem BW.l0 {tv:Array Value}(h:BW w W0 w1 tv K nk kc x):∀ a,Below w1.heap.size w1 a→(Instr.loadAt 5 (.pointer (some ⟨w.heap.size+1,0,none⟩))).run Tryz.prog a=.ok (.int .u8 (x.kind:Int)) a:=by
 intro a b;have e:=(h.n.below b h.n.lt).cell 0;go_simp
end
theorem rF (h k:Nat)(b:k < 5):∀ a:World,(Instr.fieldAt 39 (.pointer (some ⟨h,0,none⟩)) k).run Tryz.prog a=.ok (.pointer (some ⟨h,k,none⟩)) a:=by
 intro a;rcases (by omega:k=0∨k=1∨k=2∨k=3∨k=4) with rfl | rfl | rfl | rfl | rfl
 all_goals go_simp
end
