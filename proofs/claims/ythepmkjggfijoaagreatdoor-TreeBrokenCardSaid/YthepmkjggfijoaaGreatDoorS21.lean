/-
  A part of the proof.
-/
import Derived.Test.YthepmkjggfijoaaGreatDoorSA
import Derived.Deep.OwnRows
import Derived.StillTailTactics
import Derived.Test.YthepmkjggfijoaaGreatDoorS20
set_option linter.all false
set_option maxRecDepth 100000
set_option maxHeartbeats 4000000
namespace Go.Proofs.YthepmkjggfijoaaGreatDoor
open Go.RowKit Mist
attribute [local go_sem] aj aH aS aB ak
def iZ (D:List Int):Array Value:=(D.map (Value.int .i64)).toArray
theorem yt (D:List Int)(j:Nat)(v:Int):(iZ D).setIfInBounds j (.int .i64 v)=iZ (D.set j v):=by
 unfold iZ;rw [aaA,List.map_set]
theorem nE (D:List Int)(j:Nat)(h:j < D.length):(iZ D)[j]? = some (.int .i64 (D.getD j 0)):=by
 unfold iZ;rw [List.getElem?_toArray,List.getElem?_map,aaD h];simp [aaH,aaD h]
theorem Ab (n:Nat):madeCells #[.int .i64 0] n=iZ (List.replicate n 0):=by
 unfold madeCells iZ;apply Array.ext
 ·simp
 ·intro i h1 h2;simp [Nat.mod_one]
theorem lU (D:List Int)(i j:Nat)(v:Int):(D.set i v).getD j 0=if i=j∧j < D.length then v else D.getD j 0:=by
 simp only [aaH,List.getElem?_set];by_cases h:i=j
 ·subst h;by_cases h2:i < D.length
  ·simp [h2]
  ·simp [h2]
 ·simp [h]
def um (i:Int):List Int→List Int→List Int
 | [],P=>P
 | k :: r,P=>um i r (P.set k.toNat i)
def KJ (ns:List Nd)(i:Nat)(P:List Int):List Int:=um (i:Int) ((ns[i]?.map Nd.kids).getD []) (P.set i (-1))
def wH (ns:List Nd):Nat→List Int
 | 0=>List.replicate ns.length 0
 | i+1=>KJ ns i (wH ns i)
def cZ (ns:List Nd):List Int:=wH ns ns.length
theorem Am (i:Int):∀ (ks:List Int) (k:Int) (P:List Int),um i (ks ++ [k]) P=(um i ks P).set k.toNat i
 | [],_,_=>rfl
 | a :: r,k,P=>by rw [List.cons_append,um,Am i r k];rfl
theorem y8 (i:Int):∀ (ks P:List Int),(um i ks P).length=P.length
 | [],_=>rfl
 | k :: r,P=>by rw [um,y8 i r,List.length_set]
theorem qI (ns:List Nd):∀ i,(wH ns i).length=ns.length
 | 0=>by simp [wH]
 | i+1=>by rw [wH,KJ,y8,List.length_set,qI ns i]
structure qW (w:World) (wb:Nat) (tv iv:Value) (n:Nat) (S P:List Int):Prop where
 ex:∃ sb pb,aC w wb 74 #[tv,iv,.slice (some ⟨sb,0,none⟩) n n,.slice (some ⟨pb,0,none⟩) n n]∧aC w sb 3 (iZ S)∧aC w pb 3 (iZ P)∧sb ≠ pb
theorem qW.below {w b:World}{c:Nat}{tv iv:Value}{n:Nat}{S P:List Int}(h:qW w c tv iv n S P)(a:Below w.heap.size w b):qW b c tv iv n S P:=by
 obtain⟨e,d,h1,h2,h3,h4⟩:=h;exact⟨e,d,h1.below a h1.lt,h2.below a h2.lt,h3.below a h3.lt,h4⟩
structure SzIs (ns:List Nd) (sz:Nat→Nat):Prop where
 eq:∀ (i:Nat) x,ns[i]? = some x→sz i=1+(x.kids.map fun k=>sz k.toNat).sum
 le:∀ i,sz i≤1000000
theorem dL {W:World}{cs:Array Value}{T:TypeId}{k:Nat}(a:W.heap.size=k):aC (W.alloc (.cells cs T)) k T cs:=by subst a;exact aC.new W T cs
theorem EU (A B:Option Addr)(c m d:Nat)(xs:List NV)(its:List Int)(y:Nat→Nat)(w:World)(hT:mq w A B xs its)(hn:xs.length≤100000)(hW:Wf (aA xs))(hS:SzIs (aA xs) y) :
  Calls Tryz.prog 66 #[.agg #[.slice A xs.length c,.slice B m d]] w fun e w'=>Below w.heap.size w w'∧∃ wb S,e=.returned (.pointer (some ⟨wb,0,none⟩))∧qW w' wb (.slice A xs.length c) (.slice B m d) xs.length S (cZ (aA xs))∧w.heap.size≤wb∧S.length=xs.length∧∀ i,i < xs.length→S.getD i 0=(y i:Int):=by
 obtain⟨n,hnn⟩:∃ n,n=xs.length:=⟨_,rfl⟩;rw [← hnn] at hn ⊢
 have Y:=O hnn;clear hnn;have HT:=O hT;clear hT;have HW:=O hW;clear hW;have HS:=O hS;clear hS;have hmk:=fun W=>run_make_row' (P:=Tryz.prog) 24 3 (.int .i64 0) 8 Tryz.underlying24 gN rfl .i64 .i64 n (by omega) (by omega) W
 rw [Ab] at hmk
 go_in
 go_wp2_with fail;go_region
 ·go_wp2_with fail;have HT3:=O (show aC (((((w.alloc (.cells #[.slice A n c,.slice B m d] 26)).alloc (.cells (iZ (List.replicate n 0)) 3)).alloc (.cells (iZ (List.replicate n 0)) 3)).alloc (.cells #[.slice A n c,.slice B m d,.slice (some ⟨w.heap.size+1,0,none⟩) n n,.slice (some ⟨w.heap.size+1+1,0,none⟩) n n] 74)).drew) w.heap.size 26 #[.slice A n c,.slice B m d] from by repeat (first|(with_reducible exact aC.new _ _ _)|((with_reducible refine dL ?_) <;> (first | rfl|(· simp)))|(with_reducible refine aC.alloc ?_ _)|(with_reducible refine aC.drew ?_)));have HW3:=O (show aC (((((w.alloc (.cells #[.slice A n c,.slice B m d] 26)).alloc (.cells (iZ (List.replicate n 0)) 3)).alloc (.cells (iZ (List.replicate n 0)) 3)).alloc (.cells #[.slice A n c,.slice B m d,.slice (some ⟨w.heap.size+1,0,none⟩) n n,.slice (some ⟨w.heap.size+1+1,0,none⟩) n n] 74)).drew) (w.heap.size+1+1+1) 74 #[.slice A n c,.slice B m d,.slice (some ⟨w.heap.size+1,0,none⟩) n n,.slice (some ⟨w.heap.size+1+1,0,none⟩) n n] from by repeat (first|(with_reducible exact aC.new _ _ _)|((with_reducible refine dL ?_) <;> (first | rfl|(· simp)))|(with_reducible refine aC.alloc ?_ _)|(with_reducible refine aC.drew ?_)));have U6:=O (show aC (((((w.alloc (.cells #[.slice A n c,.slice B m d] 26)).alloc (.cells (iZ (List.replicate n 0)) 3)).alloc (.cells (iZ (List.replicate n 0)) 3)).alloc (.cells #[.slice A n c,.slice B m d,.slice (some ⟨w.heap.size+1,0,none⟩) n n,.slice (some ⟨w.heap.size+1+1,0,none⟩) n n] 74)).drew) (w.heap.size+1) 3 (iZ (List.replicate n 0)) from by repeat (first|(with_reducible exact aC.new _ _ _)|((with_reducible refine dL ?_) <;> (first | rfl|(· simp)))|(with_reducible refine aC.alloc ?_ _)|(with_reducible refine aC.drew ?_)));have HP3:=O (show aC (((((w.alloc (.cells #[.slice A n c,.slice B m d] 26)).alloc (.cells (iZ (List.replicate n 0)) 3)).alloc (.cells (iZ (List.replicate n 0)) 3)).alloc (.cells #[.slice A n c,.slice B m d,.slice (some ⟨w.heap.size+1,0,none⟩) n n,.slice (some ⟨w.heap.size+1+1,0,none⟩) n n] 74)).drew) (w.heap.size+1+1) 3 (iZ (List.replicate n 0)) from by repeat (first|(with_reducible exact aC.new _ _ _)|((with_reducible refine dL ?_) <;> (first | rfl|(· simp)))|(with_reducible refine aC.alloc ?_ _)|(with_reducible refine aC.drew ?_)));have lS:=O (show Below w.heap.size w (((((w.alloc (.cells #[.slice A n c,.slice B m d] 26)).alloc (.cells (iZ (List.replicate n 0)) 3)).alloc (.cells (iZ (List.replicate n 0)) 3)).alloc (.cells #[.slice A n c,.slice B m d,.slice (some ⟨w.heap.size+1,0,none⟩) n n,.slice (some ⟨w.heap.size+1+1,0,none⟩) n n] 74)).drew) from by repeat (first|(with_reducible exact Below.refl _ _)|(with_reducible refine ah ?_ ?_)|(with_reducible refine Below.drew ?_) | omega|(· simp)|(· (simp;omega))));clear hmk;go_loopw [22] (fun i wr=>∃ (k:Nat) (S P:List Int),k≤n∧i=.int .i64 k∧Hid (Below w.heap.size w wr)∧Hid (aC wr w.heap.size 26 #[.slice A n c,.slice B m d])∧Hid (aC wr (w.heap.size+1+1+1) 74 #[.slice A n c,.slice B m d,.slice (some ⟨w.heap.size+1,0,none⟩) n n,.slice (some ⟨w.heap.size+1+1,0,none⟩) n n])∧Hid (aC wr (w.heap.size+1) 3 (iZ S))∧Hid (aC wr (w.heap.size+1+1) 3 (iZ P))∧Hid (S.length=n)∧Hid (P=wH (aA xs) k)∧Hid (∀ j,j < k→S.getD j 0=(y j:Int))) (fun i _=>n - (intOf i).toNat)
  case atStart=>exact⟨0,List.replicate n 0,List.replicate n 0,aaL _,rfl,lS,HT3,HW3,U6,HP3,O (by simp),O (by rw [wH,aD,← Y.o]),O (fun j h=>by omega)⟩
  case round =>
   clear lS HT3 HW3 U6 HP3;obtain⟨V,rfl⟩:∃ V:World,V=wr:=⟨_,rfl⟩;obtain⟨k,S,P,hk,rfl,L,rE,M,Ng,X,D,YD,Jh⟩:=hrel;have t0:=rE.o.cell 0;have t1:=rE.o.cell 1;have g0:=M.o.cell 0;have g1:=M.o.cell 1;have g2:=M.o.cell 2;have g3:=M.o.cell 3;have htl:=rE.o.lt;have hwl:=M.o.lt;have hsl:=Ng.o.lt;have hpl:=X.o.lt;by_cases l:k < n
   ·obtain⟨b,o,rfl,t⟩:=HT.o.nodes (by rw [← Y.o];omega);obtain⟨x,J⟩:∃ x,xs[k]? = some x:=jD (by rw [← Y.o];exact l);have c0:=(L.o.cell (p:=⟨b,o+k * 5,none⟩) t.lt).trans (t.c0 k x J);have c1:=(L.o.cell (p:=⟨b,o+k * 5+1,none⟩) t.lt).trans (t.c1 k x J);have c2:=(L.o.cell (p:=⟨b,o+k * 5+2,none⟩) t.lt).trans (t.c2 k x J);have c3:=(L.o.cell (p:=⟨b,o+k * 5+3,none⟩) t.lt).trans (t.c3 k x J);have c4:=(L.o.cell (p:=⟨b,o+k * 5+4,none⟩) t.lt).trans (t.c4 k x J);obtain⟨K,N,hxe,hxl,hxk⟩:=t.kid J;rw [hxe] at c3
    have tK:=O hxk;have HX:=O J;clear t J hxe hxk;obtain⟨r,R⟩:∃ r,r=x.1.kids.length:=⟨_,rfl⟩;rw [← R] at c3 hxl
    have nu:=O R;clear R;have i1:(0:Int)≤(k:Int):=by omega
    have i2:(k:Int) < (n:Int):=by omega
    have i3:decide (k < n)=true:=aaU l;have s0:V.cell? ⟨w.heap.size+1,k,none⟩=some (.int .i64 (S.getD k 0)):=by rw [Ng.o.cell k];exact nE S k (by rw [D.o];exact l)
    have p0:V.cell? ⟨w.heap.size+1+1,k,none⟩=some (.int .i64 (P.getD k 0)):=by rw [X.o.cell k];exact nE P k (by rw [YD.o,qI,aD,← Y.o];exact l)
    have sf:=Ng.o.frozen k;have pf:=X.o.frozen k;obtain⟨sv,hsv⟩:∃ v,v=S.getD k 0:=⟨_,rfl⟩;obtain⟨pv,hpv⟩:∃ v,v=P.getD k 0:=⟨_,rfl⟩;rw [← hsv] at s0
    rw [← hpv] at p0
    clear hsv hpv;go_wp2_with fail;go_region
    go_wp2_with fail;have H:(w.heap.size+1) ≠ (w.heap.size+1+1):=by omega
    have hne2:(w.heap.size+1+1+1) ≠ (w.heap.size+1):=by omega
    have hne3:(w.heap.size+1+1+1) ≠ (w.heap.size+1+1):=by omega
    have Ji:=O ((((rE.o.far (p:=⟨w.heap.size+1,k,none⟩) (show w.heap.size ≠ w.heap.size+1 by omega) (.int .i64 1)).far (p:=⟨w.heap.size+1+1,k,none⟩) (show w.heap.size ≠ w.heap.size+1+1 by omega) (.int .i64 (-1))).alloc (.cells #[.int .u8 x.1.kind,.string (aM x.1.text),.int .i64 x.1.n,.slice K r N,.int .i64 x.1.at_] 50)).drew);have Xt:=O ((((M.o.far (p:=⟨w.heap.size+1,k,none⟩) hne2 (.int .i64 1)).far (p:=⟨w.heap.size+1+1,k,none⟩) hne3 (.int .i64 (-1))).alloc (.cells #[.int .u8 x.1.kind,.string (aM x.1.text),.int .i64 x.1.n,.slice K r N,.int .i64 x.1.at_] 50)).drew);have C:=O ((((Ng.o.d_ k (.int .i64 1)).far (p:=⟨w.heap.size+1+1,k,none⟩) H (.int .i64 (-1))).alloc (.cells #[.int .u8 x.1.kind,.string (aM x.1.text),.int .i64 x.1.n,.slice K r N,.int .i64 x.1.at_] 50)).drew);have YC:=O ((((X.o.far (p:=⟨w.heap.size+1,k,none⟩) (Ne.symm H) (.int .i64 1)).d_ k (.int .i64 (-1))).alloc (.cells #[.int .u8 x.1.kind,.string (aM x.1.text),.int .i64 x.1.n,.slice K r N,.int .i64 x.1.at_] 50)).drew);rw [yt] at C YC
    have E8:=O (((dL (W:=(V.setCell ⟨w.heap.size+1,k,none⟩ (.int .i64 1)).setCell ⟨w.heap.size+1+1,k,none⟩ (.int .i64 (-1))) (T:=50) (cs:=#[.int .u8 x.1.kind,.string (aM x.1.text),.int .i64 x.1.n,.slice K r N,.int .i64 x.1.at_]) (k:=V.heap.size) (by simp))).drew);have qx:=O (Below.drew (ah (dx (dx L.o (show w.heap.size≤w.heap.size+1 by omega) (i:=k) (u:=.int .i64 1)) (show w.heap.size≤w.heap.size+1+1 by omega) (i:=k) (u:=.int .i64 (-1))) (by simp;omega) (o:=.cells #[.int .u8 x.1.kind,.string (aM x.1.text),.int .i64 x.1.n,.slice K r N,.int .i64 x.1.at_] 50)));have HKS:=O (HS.o.eq k x.1 (gP HX.o));have Yu:=O (show ∀ q ∈ x.1.kids,0≤q∧q < (k:Int) from HW.o k x.1 (gP HX.o));have hzk:=HS.o.le k
    generalize (((V.setCell ⟨w.heap.size+1,k,none⟩ (.int .i64 1)).setCell ⟨w.heap.size+1+1,k,none⟩ (.int .i64 (-1))).alloc (.cells #[.int .u8 x.1.kind,.string (aM x.1.text),.int .i64 x.1.n,.slice K r N,.int .i64 x.1.at_] 50)).drew=w4 at Ji Xt C YC E8 qx ⊢
    have n3:=E8.o.cell 3;go_wp2_with fail;go_loopw [42] (fun i wr=>∃ (f:Nat) (F E:List Int),f≤r∧i=.int .i64 f∧Hid (Below w.heap.size w wr)∧Hid (aC wr w.heap.size 26 #[.slice (some ⟨b,o,none⟩) n c,.slice B m d])∧Hid (aC wr (w.heap.size+1+1+1) 74 #[.slice (some ⟨b,o,none⟩) n c,.slice B m d,.slice (some ⟨w.heap.size+1,0,none⟩) n n,.slice (some ⟨w.heap.size+1+1,0,none⟩) n n])∧Hid (aC wr (w.heap.size+1) 3 (iZ F))∧Hid (aC wr (w.heap.size+1+1) 3 (iZ E))∧Hid (F.length=n)∧Hid (E=um (k:Int) (x.1.kids.take f) (P.set k (-1)))∧Hid (∀ j,j < k→F.getD j 0=(y j:Int))∧Hid (F.getD k 0=((1+((x.1.kids.take f).map fun q=>y q.toNat).sum:Nat):Int))) (fun i _=>r - (intOf i).toNat)
    case atStart=>exact⟨0,S.set k 1,P.set k (-1),aaL _,rfl,qx,Ji,Xt,C,YC,O (by rw [List.length_set];exact D.o),O rfl,O (fun j hj=>by rw [lU,if_neg (by omega)];exact Jh.o j hj),O (by rw [lU,if_pos ⟨rfl,by rw [D.o];exact l⟩];simp)⟩
    case round =>
     clear Ji Xt C YC E8 qx;obtain⟨wq,rfl⟩:∃ wq:World,wq=wr:=⟨_,rfl⟩;obtain⟨f,F,E,hj,rfl,jO,zO,TS,vS,iU,Z,QY,Q8,YF⟩:=hrel;have g0:=TS.o.cell 0;have g2:=TS.o.cell 2;have g3:=TS.o.cell 3;by_cases Q:f < r
     ·obtain⟨kq,G⟩:∃ kq,x.1.kids[f]? = some kq:=⟨_,aaD (by rw [← nu.o];exact Q)⟩;have hqb:=Yu.o kq (aaM G);obtain⟨a,rfl⟩:∃ a:Nat,kq=(a:Int):=⟨kq.toNat,by omega⟩;obtain⟨bk,ok,rfl,hbk,hck⟩:=tK.o.ex (by rw [← nu.o];omega);have cj:=(jO.o.cell (p:=⟨bk,ok+f,none⟩) hbk).trans (hck f a G);have uM:=O (show x.1.kids.take (f+1)=x.1.kids.take f ++ [(a:Int)] by rw [List.take_add_one,G];rfl);clear hck G;have j0:(0:Int)≤(f:Int):=by omega
      have j1:(f:Int) < (r:Int):=by omega
      have j2:decide (f < r)=true:=aaU Q;have q0:(0:Int)≤(a:Int):=by omega
      have q1:(a:Int) < (n:Int):=by omega
      obtain⟨part,g⟩:∃ p:Nat,p=1+((x.1.kids.take f).map fun q=>y q.toNat).sum:=⟨_,rfl⟩
      have hsum:part+y a≤y k:=by
       have h9:=HKS.o;have h8:x.1.kids=x.1.kids.take (f+1) ++ x.1.kids.drop (f+1):=(List.take_append_drop _ _).symm;rw [h8,List.map_append,List.sum_append,uM.o,List.map_append,List.sum_append] at h9
       simp at h9
       simp at g
       omega
      have s0:wq.cell? ⟨w.heap.size+1,k,none⟩=some (.int .i64 (part:Int)):=by rw [vS.o.cell k,nE F k (by rw [Z.o];exact l),YF.o,g]
      have s1:wq.cell? ⟨w.heap.size+1,a,none⟩=some (.int .i64 (y a:Int)):=by rw [vS.o.cell a,nE F a (by rw [Z.o];omega),Q8.o a (by omega)]
      have sf:=vS.o.frozen k;have pl:E.length=n:=by rw [QY.o,y8,List.length_set,YD.o,qI,aD,← Y.o]
      have p0:wq.cell? ⟨w.heap.size+1+1,a,none⟩=some (.int .i64 (E.getD a 0)):=by rw [iU.o.cell a,nE E a (by rw [pl];omega)]
      have pf:=iU.o.frozen a;have HPT:=O g;clear g;obtain⟨pv2,I⟩:∃ v,v=E.getD a 0:=⟨_,rfl⟩;rw [← I] at p0
      clear I pl;have hp1:part≤1000000:=by omega
      have hz1:y a≤1000000:=by omega
      obtain⟨zq,U⟩:∃ z,z=y a:=⟨_,rfl⟩;rw [← U] at s1 hsum hz1
      have HZQ:=O U;clear U;go_wp2_with fail;go_region
      go_wp2_with fail
      refine⟨⟨f+1,F.set k ((part:Int)+(zq:Int)),E.set a (k:Int),by omega,by go_num,O ?_,O ?_,O ?_,O ?_,O ?_,O ?_,O ?_,O ?_,O ?_⟩,by simp [intOf];omega⟩
      ·repeat (first|(with_reducible exact jO.o)|(with_reducible refine dx ?_ ?_)|(with_reducible refine Below.drew ?_) | omega)
      ·repeat (first|(with_reducible exact zO.o)|(with_reducible refine aC.far ?_ ?_ _)|(with_reducible refine aC.drew ?_)|(· simp)|(· (simp;omega)))
      ·repeat (first|(with_reducible exact TS.o)|(with_reducible refine aC.far ?_ ?_ _)|(with_reducible refine aC.drew ?_)|(· simp)|(· (simp;omega)))
      ·rw [← yt]
       repeat (first|(with_reducible exact vS.o.d_ k _)|(with_reducible refine aC.drew ?_)|(with_reducible refine aC.far ?_ ?_ _)|(· simp)|(· (simp;omega)))
      ·rw [← yt]
       repeat (first|(with_reducible refine aC.drew ?_)|(with_reducible refine aC.d_ ?_ a _)|(with_reducible exact iU.o)|(with_reducible refine aC.far ?_ ?_ _)|(· simp)|(· (simp;omega)))
      ·rw [List.length_set];exact Z.o
      ·rw [uM.o,Am,QY.o,aaQ]
      ·intro j hj;rw [lU,if_neg (by omega)];exact Q8.o j hj
      ·rw [lU,if_pos ⟨rfl,by rw [Z.o];exact l⟩,uM.o,List.map_append,List.sum_append,HZQ.o,HPT.o];simp;omega
     ·have j2:decide (f < r)=false:=aaV Q;have HJ:=O (show x.1.kids.take f=x.1.kids from aaN (by rw [← nu.o];omega));go_wp2_with fail
      refine⟨⟨k+1,F,E,by omega,by go_num,jO,zO,TS,vS,iU,Z,O ?_,O ?_⟩,by simp [intOf];omega⟩
      ·rw [QY.o,HJ.o,YD.o,wH,KJ,yE HX.o]
      ·intro j hj;rcases Nat.lt_or_ge j k with h9 | h9
       ·exact Q8.o j h9
       ·have:j=k:=by omega
        subst this;rw [YF.o,HJ.o,HKS.o]
   ·obtain rfl:k=n:=by omega
    have i3:decide (k < k)=false:=aaV l;go_wp2_with fail;go_ret;exact⟨L.o,w.heap.size+1+1+1,S,rfl,⟨w.heap.size+1,w.heap.size+1+1,M.o,Ng.o,by rw [YD.o] at X;rw [cZ,aD,← Y.o];exact X.o,by omega⟩,by omega,D.o,Jh.o⟩
 ·go_wp2_with fail;have HT3:=O (show aC (((((w.alloc (.cells #[.slice A n c,.slice B m d] 26)).alloc (.cells (iZ (List.replicate n 0)) 3)).alloc (.cells (iZ (List.replicate n 0)) 3)).alloc (.cells #[.slice A n c,.slice B m d,.slice (some ⟨w.heap.size+1+1,0,none⟩) n n,.slice (some ⟨w.heap.size+1,0,none⟩) n n] 74)).drew) w.heap.size 26 #[.slice A n c,.slice B m d] from by repeat (first|(with_reducible exact aC.new _ _ _)|((with_reducible refine dL ?_) <;> (first | rfl|(· simp)))|(with_reducible refine aC.alloc ?_ _)|(with_reducible refine aC.drew ?_)));have HW3:=O (show aC (((((w.alloc (.cells #[.slice A n c,.slice B m d] 26)).alloc (.cells (iZ (List.replicate n 0)) 3)).alloc (.cells (iZ (List.replicate n 0)) 3)).alloc (.cells #[.slice A n c,.slice B m d,.slice (some ⟨w.heap.size+1+1,0,none⟩) n n,.slice (some ⟨w.heap.size+1,0,none⟩) n n] 74)).drew) (w.heap.size+1+1+1) 74 #[.slice A n c,.slice B m d,.slice (some ⟨w.heap.size+1+1,0,none⟩) n n,.slice (some ⟨w.heap.size+1,0,none⟩) n n] from by repeat (first|(with_reducible exact aC.new _ _ _)|((with_reducible refine dL ?_) <;> (first | rfl|(· simp)))|(with_reducible refine aC.alloc ?_ _)|(with_reducible refine aC.drew ?_)));have U6:=O (show aC (((((w.alloc (.cells #[.slice A n c,.slice B m d] 26)).alloc (.cells (iZ (List.replicate n 0)) 3)).alloc (.cells (iZ (List.replicate n 0)) 3)).alloc (.cells #[.slice A n c,.slice B m d,.slice (some ⟨w.heap.size+1+1,0,none⟩) n n,.slice (some ⟨w.heap.size+1,0,none⟩) n n] 74)).drew) (w.heap.size+1+1) 3 (iZ (List.replicate n 0)) from by repeat (first|(with_reducible exact aC.new _ _ _)|((with_reducible refine dL ?_) <;> (first | rfl|(· simp)))|(with_reducible refine aC.alloc ?_ _)|(with_reducible refine aC.drew ?_)));have HP3:=O (show aC (((((w.alloc (.cells #[.slice A n c,.slice B m d] 26)).alloc (.cells (iZ (List.replicate n 0)) 3)).alloc (.cells (iZ (List.replicate n 0)) 3)).alloc (.cells #[.slice A n c,.slice B m d,.slice (some ⟨w.heap.size+1+1,0,none⟩) n n,.slice (some ⟨w.heap.size+1,0,none⟩) n n] 74)).drew) (w.heap.size+1) 3 (iZ (List.replicate n 0)) from by repeat (first|(with_reducible exact aC.new _ _ _)|((with_reducible refine dL ?_) <;> (first | rfl|(· simp)))|(with_reducible refine aC.alloc ?_ _)|(with_reducible refine aC.drew ?_)));have lS:=O (show Below w.heap.size w (((((w.alloc (.cells #[.slice A n c,.slice B m d] 26)).alloc (.cells (iZ (List.replicate n 0)) 3)).alloc (.cells (iZ (List.replicate n 0)) 3)).alloc (.cells #[.slice A n c,.slice B m d,.slice (some ⟨w.heap.size+1+1,0,none⟩) n n,.slice (some ⟨w.heap.size+1,0,none⟩) n n] 74)).drew) from by repeat (first|(with_reducible exact Below.refl _ _)|(with_reducible refine ah ?_ ?_)|(with_reducible refine Below.drew ?_) | omega|(· simp)|(· (simp;omega))));clear hmk;go_loopw [22] (fun i wr=>∃ (k:Nat) (S P:List Int),k≤n∧i=.int .i64 k∧Hid (Below w.heap.size w wr)∧Hid (aC wr w.heap.size 26 #[.slice A n c,.slice B m d])∧Hid (aC wr (w.heap.size+1+1+1) 74 #[.slice A n c,.slice B m d,.slice (some ⟨w.heap.size+1+1,0,none⟩) n n,.slice (some ⟨w.heap.size+1,0,none⟩) n n])∧Hid (aC wr (w.heap.size+1+1) 3 (iZ S))∧Hid (aC wr (w.heap.size+1) 3 (iZ P))∧Hid (S.length=n)∧Hid (P=wH (aA xs) k)∧Hid (∀ j,j < k→S.getD j 0=(y j:Int))) (fun i _=>n - (intOf i).toNat)
  case atStart=>exact⟨0,List.replicate n 0,List.replicate n 0,aaL _,rfl,lS,HT3,HW3,U6,HP3,O (by simp),O (by rw [wH,aD,← Y.o]),O (fun j h=>by omega)⟩
  case round =>
   clear lS HT3 HW3 U6 HP3;obtain⟨V,rfl⟩:∃ V:World,V=wr:=⟨_,rfl⟩;obtain⟨k,S,P,hk,rfl,L,rE,M,Ng,X,D,YD,Jh⟩:=hrel;have t0:=rE.o.cell 0;have t1:=rE.o.cell 1;have g0:=M.o.cell 0;have g1:=M.o.cell 1;have g2:=M.o.cell 2;have g3:=M.o.cell 3;have htl:=rE.o.lt;have hwl:=M.o.lt;have hsl:=Ng.o.lt;have hpl:=X.o.lt;by_cases l:k < n
   ·obtain⟨b,o,rfl,t⟩:=HT.o.nodes (by rw [← Y.o];omega);obtain⟨x,J⟩:∃ x,xs[k]? = some x:=jD (by rw [← Y.o];exact l);have c0:=(L.o.cell (p:=⟨b,o+k * 5,none⟩) t.lt).trans (t.c0 k x J);have c1:=(L.o.cell (p:=⟨b,o+k * 5+1,none⟩) t.lt).trans (t.c1 k x J);have c2:=(L.o.cell (p:=⟨b,o+k * 5+2,none⟩) t.lt).trans (t.c2 k x J);have c3:=(L.o.cell (p:=⟨b,o+k * 5+3,none⟩) t.lt).trans (t.c3 k x J);have c4:=(L.o.cell (p:=⟨b,o+k * 5+4,none⟩) t.lt).trans (t.c4 k x J);obtain⟨K,N,hxe,hxl,hxk⟩:=t.kid J;rw [hxe] at c3
    have tK:=O hxk;have HX:=O J;clear t J hxe hxk;obtain⟨r,R⟩:∃ r,r=x.1.kids.length:=⟨_,rfl⟩;rw [← R] at c3 hxl
    have nu:=O R;clear R;have i1:(0:Int)≤(k:Int):=by omega
    have i2:(k:Int) < (n:Int):=by omega
    have i3:decide (k < n)=true:=aaU l;have s0:V.cell? ⟨w.heap.size+1+1,k,none⟩=some (.int .i64 (S.getD k 0)):=by rw [Ng.o.cell k];exact nE S k (by rw [D.o];exact l)
    have p0:V.cell? ⟨w.heap.size+1,k,none⟩=some (.int .i64 (P.getD k 0)):=by rw [X.o.cell k];exact nE P k (by rw [YD.o,qI,aD,← Y.o];exact l)
    have sf:=Ng.o.frozen k;have pf:=X.o.frozen k;obtain⟨sv,hsv⟩:∃ v,v=S.getD k 0:=⟨_,rfl⟩;obtain⟨pv,hpv⟩:∃ v,v=P.getD k 0:=⟨_,rfl⟩;rw [← hsv] at s0
    rw [← hpv] at p0
    clear hsv hpv;go_wp2_with fail;go_region
    go_wp2_with fail;have H:(w.heap.size+1+1) ≠ (w.heap.size+1):=by omega
    have hne2:(w.heap.size+1+1+1) ≠ (w.heap.size+1+1):=by omega
    have hne3:(w.heap.size+1+1+1) ≠ (w.heap.size+1):=by omega
    have Ji:=O ((((rE.o.far (p:=⟨w.heap.size+1+1,k,none⟩) (show w.heap.size ≠ w.heap.size+1+1 by omega) (.int .i64 1)).far (p:=⟨w.heap.size+1,k,none⟩) (show w.heap.size ≠ w.heap.size+1 by omega) (.int .i64 (-1))).alloc (.cells #[.int .u8 x.1.kind,.string (aM x.1.text),.int .i64 x.1.n,.slice K r N,.int .i64 x.1.at_] 50)).drew);have Xt:=O ((((M.o.far (p:=⟨w.heap.size+1+1,k,none⟩) hne2 (.int .i64 1)).far (p:=⟨w.heap.size+1,k,none⟩) hne3 (.int .i64 (-1))).alloc (.cells #[.int .u8 x.1.kind,.string (aM x.1.text),.int .i64 x.1.n,.slice K r N,.int .i64 x.1.at_] 50)).drew);have C:=O ((((Ng.o.d_ k (.int .i64 1)).far (p:=⟨w.heap.size+1,k,none⟩) H (.int .i64 (-1))).alloc (.cells #[.int .u8 x.1.kind,.string (aM x.1.text),.int .i64 x.1.n,.slice K r N,.int .i64 x.1.at_] 50)).drew);have YC:=O ((((X.o.far (p:=⟨w.heap.size+1+1,k,none⟩) (Ne.symm H) (.int .i64 1)).d_ k (.int .i64 (-1))).alloc (.cells #[.int .u8 x.1.kind,.string (aM x.1.text),.int .i64 x.1.n,.slice K r N,.int .i64 x.1.at_] 50)).drew);rw [yt] at C YC
    have E8:=O (((dL (W:=(V.setCell ⟨w.heap.size+1+1,k,none⟩ (.int .i64 1)).setCell ⟨w.heap.size+1,k,none⟩ (.int .i64 (-1))) (T:=50) (cs:=#[.int .u8 x.1.kind,.string (aM x.1.text),.int .i64 x.1.n,.slice K r N,.int .i64 x.1.at_]) (k:=V.heap.size) (by simp))).drew);have qx:=O (Below.drew (ah (dx (dx L.o (show w.heap.size≤w.heap.size+1+1 by omega) (i:=k) (u:=.int .i64 1)) (show w.heap.size≤w.heap.size+1 by omega) (i:=k) (u:=.int .i64 (-1))) (by simp;omega) (o:=.cells #[.int .u8 x.1.kind,.string (aM x.1.text),.int .i64 x.1.n,.slice K r N,.int .i64 x.1.at_] 50)));have HKS:=O (HS.o.eq k x.1 (gP HX.o));have Yu:=O (show ∀ q ∈ x.1.kids,0≤q∧q < (k:Int) from HW.o k x.1 (gP HX.o));have hzk:=HS.o.le k
    generalize (((V.setCell ⟨w.heap.size+1+1,k,none⟩ (.int .i64 1)).setCell ⟨w.heap.size+1,k,none⟩ (.int .i64 (-1))).alloc (.cells #[.int .u8 x.1.kind,.string (aM x.1.text),.int .i64 x.1.n,.slice K r N,.int .i64 x.1.at_] 50)).drew=w4 at Ji Xt C YC E8 qx ⊢
    have n3:=E8.o.cell 3;go_wp2_with fail;go_loopw [42] (fun i wr=>∃ (f:Nat) (F E:List Int),f≤r∧i=.int .i64 f∧Hid (Below w.heap.size w wr)∧Hid (aC wr w.heap.size 26 #[.slice (some ⟨b,o,none⟩) n c,.slice B m d])∧Hid (aC wr (w.heap.size+1+1+1) 74 #[.slice (some ⟨b,o,none⟩) n c,.slice B m d,.slice (some ⟨w.heap.size+1+1,0,none⟩) n n,.slice (some ⟨w.heap.size+1,0,none⟩) n n])∧Hid (aC wr (w.heap.size+1+1) 3 (iZ F))∧Hid (aC wr (w.heap.size+1) 3 (iZ E))∧Hid (F.length=n)∧Hid (E=um (k:Int) (x.1.kids.take f) (P.set k (-1)))∧Hid (∀ j,j < k→F.getD j 0=(y j:Int))∧Hid (F.getD k 0=((1+((x.1.kids.take f).map fun q=>y q.toNat).sum:Nat):Int))) (fun i _=>r - (intOf i).toNat)
    case atStart=>exact⟨0,S.set k 1,P.set k (-1),aaL _,rfl,qx,Ji,Xt,C,YC,O (by rw [List.length_set];exact D.o),O rfl,O (fun j hj=>by rw [lU,if_neg (by omega)];exact Jh.o j hj),O (by rw [lU,if_pos ⟨rfl,by rw [D.o];exact l⟩];simp)⟩
    case round =>
     clear Ji Xt C YC E8 qx;obtain⟨wq,rfl⟩:∃ wq:World,wq=wr:=⟨_,rfl⟩;obtain⟨f,F,E,hj,rfl,jO,zO,TS,vS,iU,Z,QY,Q8,YF⟩:=hrel;have g0:=TS.o.cell 0;have g2:=TS.o.cell 2;have g3:=TS.o.cell 3;by_cases Q:f < r
     ·obtain⟨kq,G⟩:∃ kq,x.1.kids[f]? = some kq:=⟨_,aaD (by rw [← nu.o];exact Q)⟩;have hqb:=Yu.o kq (aaM G);obtain⟨a,rfl⟩:∃ a:Nat,kq=(a:Int):=⟨kq.toNat,by omega⟩;obtain⟨bk,ok,rfl,hbk,hck⟩:=tK.o.ex (by rw [← nu.o];omega);have cj:=(jO.o.cell (p:=⟨bk,ok+f,none⟩) hbk).trans (hck f a G);have uM:=O (show x.1.kids.take (f+1)=x.1.kids.take f ++ [(a:Int)] by rw [List.take_add_one,G];rfl);clear hck G;have j0:(0:Int)≤(f:Int):=by omega
      have j1:(f:Int) < (r:Int):=by omega
      have j2:decide (f < r)=true:=aaU Q;have q0:(0:Int)≤(a:Int):=by omega
      have q1:(a:Int) < (n:Int):=by omega
      obtain⟨part,g⟩:∃ p:Nat,p=1+((x.1.kids.take f).map fun q=>y q.toNat).sum:=⟨_,rfl⟩
      have hsum:part+y a≤y k:=by
       have h9:=HKS.o;have h8:x.1.kids=x.1.kids.take (f+1) ++ x.1.kids.drop (f+1):=(List.take_append_drop _ _).symm;rw [h8,List.map_append,List.sum_append,uM.o,List.map_append,List.sum_append] at h9
       simp at h9
       simp at g
       omega
      have s0:wq.cell? ⟨w.heap.size+1+1,k,none⟩=some (.int .i64 (part:Int)):=by rw [vS.o.cell k,nE F k (by rw [Z.o];exact l),YF.o,g]
      have s1:wq.cell? ⟨w.heap.size+1+1,a,none⟩=some (.int .i64 (y a:Int)):=by rw [vS.o.cell a,nE F a (by rw [Z.o];omega),Q8.o a (by omega)]
      have sf:=vS.o.frozen k;have pl:E.length=n:=by rw [QY.o,y8,List.length_set,YD.o,qI,aD,← Y.o]
      have p0:wq.cell? ⟨w.heap.size+1,a,none⟩=some (.int .i64 (E.getD a 0)):=by rw [iU.o.cell a,nE E a (by rw [pl];omega)]
      have pf:=iU.o.frozen a;have HPT:=O g;clear g;obtain⟨pv2,I⟩:∃ v,v=E.getD a 0:=⟨_,rfl⟩;rw [← I] at p0
      clear I pl;have hp1:part≤1000000:=by omega
      have hz1:y a≤1000000:=by omega
      obtain⟨zq,U⟩:∃ z,z=y a:=⟨_,rfl⟩;rw [← U] at s1 hsum hz1
      have HZQ:=O U;clear U;go_wp2_with fail;go_region
      go_wp2_with fail
      refine⟨⟨f+1,F.set k ((part:Int)+(zq:Int)),E.set a (k:Int),by omega,by go_num,O ?_,O ?_,O ?_,O ?_,O ?_,O ?_,O ?_,O ?_,O ?_⟩,by simp [intOf];omega⟩
      ·repeat (first|(with_reducible exact jO.o)|(with_reducible refine dx ?_ ?_)|(with_reducible refine Below.drew ?_) | omega)
      ·repeat (first|(with_reducible exact zO.o)|(with_reducible refine aC.far ?_ ?_ _)|(with_reducible refine aC.drew ?_)|(· simp)|(· (simp;omega)))
      ·repeat (first|(with_reducible exact TS.o)|(with_reducible refine aC.far ?_ ?_ _)|(with_reducible refine aC.drew ?_)|(· simp)|(· (simp;omega)))
      ·rw [← yt]
       repeat (first|(with_reducible exact vS.o.d_ k _)|(with_reducible refine aC.drew ?_)|(with_reducible refine aC.far ?_ ?_ _)|(· simp)|(· (simp;omega)))
      ·rw [← yt]
       repeat (first|(with_reducible refine aC.drew ?_)|(with_reducible refine aC.d_ ?_ a _)|(with_reducible exact iU.o)|(with_reducible refine aC.far ?_ ?_ _)|(· simp)|(· (simp;omega)))
      ·rw [List.length_set];exact Z.o
      ·rw [uM.o,Am,QY.o,aaQ]
      ·intro j hj;rw [lU,if_neg (by omega)];exact Q8.o j hj
      ·rw [lU,if_pos ⟨rfl,by rw [Z.o];exact l⟩,uM.o,List.map_append,List.sum_append,HZQ.o,HPT.o];simp;omega
     ·have j2:decide (f < r)=false:=aaV Q;have HJ:=O (show x.1.kids.take f=x.1.kids from aaN (by rw [← nu.o];omega));go_wp2_with fail
      refine⟨⟨k+1,F,E,by omega,by go_num,jO,zO,TS,vS,iU,Z,O ?_,O ?_⟩,by simp [intOf];omega⟩
      ·rw [QY.o,HJ.o,YD.o,wH,KJ,yE HX.o]
      ·intro j hj;rcases Nat.lt_or_ge j k with h9 | h9
       ·exact Q8.o j h9
       ·have:j=k:=by omega
        subst this;rw [YF.o,HJ.o,HKS.o]
   ·obtain rfl:k=n:=by omega
    have i3:decide (k < k)=false:=aaV l;go_wp2_with fail;go_ret;exact⟨L.o,w.heap.size+1+1+1,S,rfl,⟨w.heap.size+1+1,w.heap.size+1,M.o,Ng.o,by rw [YD.o] at X;rw [cZ,aD,← Y.o];exact X.o,by omega⟩,by omega,D.o,Jh.o⟩
end Go.Proofs.YthepmkjggfijoaaGreatDoor
