/-
  A part of the proof.
-/
import Derived.Test.YthepmkjggfijoaaGreatDoorSA
import Derived.Deep.OwnRows
import Derived.StillTailTactics
import Derived.Test.YthepmkjggfijoaaGreatDoorS20
set_option linter.all false
set_option maxRecDepth 100000
set_option maxHeartbeats 4000000
open Go.Lib (hid)
namespace Go.Proofs.YthepmkjggfijoaaGreatDoor
open Go.RowKit Mist
attribute [local go_sem] aj aH aS aB ak
def iZ (D:List Int):Array Value:=(D.map (Value.int .i64)).toArray
theorem yt (D:List Int)(j:Nat)(v:Int):(iZ D).setIfInBounds j (.int .i64 v)=iZ (D.set j v):=by
 unfold iZ;rw [aaA,List.map_set]
theorem nE (D:List Int)(j:Nat)(h:j < D.length):(iZ D)[j]? = some (.int .i64 (D.getD j 0)):=by
 unfold iZ;rw [List.getElem?_toArray,List.getElem?_map,aaD h];simp [aaH,aaD h]
theorem Ab (n:Nat):madeCells #[.int .i64 0] n=iZ (List.replicate n 0):=by
 unfold madeCells iZ;apply Array.ext
 ·simp
 ·intro i h1 h2;simp [Nat.mod_one]
theorem lU (D:List Int)(i j:Nat)(v:Int):(D.set i v).getD j 0=if i=j∧j < D.length then v else D.getD j 0:=by
 simp only [aaH,List.getElem?_set];by_cases h:i=j
 ·subst h;by_cases h2:i < D.length
  ·simp [h2]
  ·simp [h2]
 ·simp [h]
def um (i:Int):List Int→List Int→List Int
 | [],P=>P
 | k :: r,P=>um i r (P.set k.toNat i)
def KJ (ns:List Nd)(i:Nat)(P:List Int):List Int:=um (i:Int) ((ns[i]?.map Nd.kids).getD []) (P.set i (-1))
def wH (ns:List Nd):Nat→List Int
 | 0=>List.replicate ns.length 0
 | i+1=>KJ ns i (wH ns i)
def cZ (ns:List Nd):List Int:=wH ns ns.length
theorem Am (i:Int):∀ (ks:List Int) (k:Int) (P:List Int),um i (ks ++ [k]) P=(um i ks P).set k.toNat i
 | [],_,_=>rfl
 | a :: r,k,P=>by rw [List.cons_append,um,Am i r k];rfl
theorem y8 (i:Int):∀ (ks P:List Int),(um i ks P).length=P.length
 | [],_=>rfl
 | k :: r,P=>by rw [um,y8 i r,List.length_set]
theorem qI (ns:List Nd):∀ i,(wH ns i).length=ns.length
 | 0=>by simp [wH]
 | i+1=>by rw [wH,KJ,y8,List.length_set,qI ns i]
structure qW (w:World) (wb:Nat) (tv iv:Value) (n:Nat) (S P:List Int):Prop where
 ex:∃ sb pb,aC w wb 74 #[tv,iv,.slice (some ⟨sb,0,none⟩) n n,.slice (some ⟨pb,0,none⟩) n n]∧aC w sb 3 (iZ S)∧aC w pb 3 (iZ P)∧sb ≠ pb
theorem qW.below {w w':World}{wb:Nat}{tv iv:Value}{n:Nat}{S P:List Int}(h:qW w wb tv iv n S P)(hb:Below w.heap.size w w'):qW w' wb tv iv n S P:=by
 obtain⟨sb,pb,h1,h2,h3,h4⟩:=h;exact⟨sb,pb,h1.below hb h1.lt,h2.below hb h2.lt,h3.below hb h3.lt,h4⟩
structure SzIs (ns:List Nd) (sz:Nat→Nat):Prop where
 eq:∀ (i:Nat) x,ns[i]? = some x→sz i=1+(x.kids.map fun k=>sz k.toNat).sum
 le:∀ i,sz i≤1000000
theorem dL {W:World}{cs:Array Value}{T:TypeId}{k:Nat}(hk:W.heap.size=k):aC (W.alloc (.cells cs T)) k T cs:=by subst hk;exact aC.new W T cs
theorem EU (A B:Option Addr)(c m d:Nat)(xs:List NV)(its:List Int)(sz:Nat→Nat)(w:World)(hT:mq w A B xs its)(hn:xs.length≤100000)(hW:Wf (aA xs))(hS:SzIs (aA xs) sz) :
  Calls Tryz.prog 66 #[.agg #[.slice A xs.length c,.slice B m d]] w fun e w'=>Below w.heap.size w w'∧∃ wb S,e=.returned (.pointer (some ⟨wb,0,none⟩))∧qW w' wb (.slice A xs.length c) (.slice B m d) xs.length S (cZ (aA xs))∧w.heap.size≤wb∧S.length=xs.length∧∀ i,i < xs.length→S.getD i 0=(sz i:Int):=by
 obtain⟨n,hnn⟩:∃ n,n=xs.length:=⟨_,rfl⟩;rw [← hnn] at hn ⊢
 have pF:=hid hnn;clear hnn;have HT:=hid hT;clear hT;have HW:=hid hW;clear hW;have HS:=hid hS;clear hS;have hmk:=fun W=>run_make_row' (P:=Tryz.prog) 24 3 (.int .i64 0) 8 Tryz.underlying24 gN rfl .i64 .i64 n (by omega) (by omega) W
 rw [Ab] at hmk
 go_in
 go_wp2_with fail;go_region
 ·go_wp2_with fail;have HT3:=hid (show aC (((((w.alloc (.cells #[.slice A n c,.slice B m d] 26)).alloc (.cells (iZ (List.replicate n 0)) 3)).alloc (.cells (iZ (List.replicate n 0)) 3)).alloc (.cells #[.slice A n c,.slice B m d,.slice (some ⟨w.heap.size+1,0,none⟩) n n,.slice (some ⟨w.heap.size+1+1,0,none⟩) n n] 74)).drew) w.heap.size 26 #[.slice A n c,.slice B m d] from by repeat (first|(with_reducible exact aC.new _ _ _)|((with_reducible refine dL ?_) <;> (first | rfl|(· simp)))|(with_reducible refine aC.alloc ?_ _)|(with_reducible refine aC.drew ?_)));have HW3:=hid (show aC (((((w.alloc (.cells #[.slice A n c,.slice B m d] 26)).alloc (.cells (iZ (List.replicate n 0)) 3)).alloc (.cells (iZ (List.replicate n 0)) 3)).alloc (.cells #[.slice A n c,.slice B m d,.slice (some ⟨w.heap.size+1,0,none⟩) n n,.slice (some ⟨w.heap.size+1+1,0,none⟩) n n] 74)).drew) (w.heap.size+1+1+1) 74 #[.slice A n c,.slice B m d,.slice (some ⟨w.heap.size+1,0,none⟩) n n,.slice (some ⟨w.heap.size+1+1,0,none⟩) n n] from by repeat (first|(with_reducible exact aC.new _ _ _)|((with_reducible refine dL ?_) <;> (first | rfl|(· simp)))|(with_reducible refine aC.alloc ?_ _)|(with_reducible refine aC.drew ?_)));have U6:=hid (show aC (((((w.alloc (.cells #[.slice A n c,.slice B m d] 26)).alloc (.cells (iZ (List.replicate n 0)) 3)).alloc (.cells (iZ (List.replicate n 0)) 3)).alloc (.cells #[.slice A n c,.slice B m d,.slice (some ⟨w.heap.size+1,0,none⟩) n n,.slice (some ⟨w.heap.size+1+1,0,none⟩) n n] 74)).drew) (w.heap.size+1) 3 (iZ (List.replicate n 0)) from by repeat (first|(with_reducible exact aC.new _ _ _)|((with_reducible refine dL ?_) <;> (first | rfl|(· simp)))|(with_reducible refine aC.alloc ?_ _)|(with_reducible refine aC.drew ?_)));have HP3:=hid (show aC (((((w.alloc (.cells #[.slice A n c,.slice B m d] 26)).alloc (.cells (iZ (List.replicate n 0)) 3)).alloc (.cells (iZ (List.replicate n 0)) 3)).alloc (.cells #[.slice A n c,.slice B m d,.slice (some ⟨w.heap.size+1,0,none⟩) n n,.slice (some ⟨w.heap.size+1+1,0,none⟩) n n] 74)).drew) (w.heap.size+1+1) 3 (iZ (List.replicate n 0)) from by repeat (first|(with_reducible exact aC.new _ _ _)|((with_reducible refine dL ?_) <;> (first | rfl|(· simp)))|(with_reducible refine aC.alloc ?_ _)|(with_reducible refine aC.drew ?_)));have lS:=hid (show Below w.heap.size w (((((w.alloc (.cells #[.slice A n c,.slice B m d] 26)).alloc (.cells (iZ (List.replicate n 0)) 3)).alloc (.cells (iZ (List.replicate n 0)) 3)).alloc (.cells #[.slice A n c,.slice B m d,.slice (some ⟨w.heap.size+1,0,none⟩) n n,.slice (some ⟨w.heap.size+1+1,0,none⟩) n n] 74)).drew) from by repeat (first|(with_reducible exact Below.refl _ _)|(with_reducible refine ah ?_ ?_)|(with_reducible refine Below.drew ?_) | omega|(· simp)|(· (simp;omega))));clear hmk;go_loopw [22] (fun i wr=>∃ (k:Nat) (S P:List Int),k≤n∧i=.int .i64 k∧Hid (Below w.heap.size w wr)∧Hid (aC wr w.heap.size 26 #[.slice A n c,.slice B m d])∧Hid (aC wr (w.heap.size+1+1+1) 74 #[.slice A n c,.slice B m d,.slice (some ⟨w.heap.size+1,0,none⟩) n n,.slice (some ⟨w.heap.size+1+1,0,none⟩) n n])∧Hid (aC wr (w.heap.size+1) 3 (iZ S))∧Hid (aC wr (w.heap.size+1+1) 3 (iZ P))∧Hid (S.length=n)∧Hid (P=wH (aA xs) k)∧Hid (∀ j,j < k→S.getD j 0=(sz j:Int))) (fun i _=>n - (intOf i).toNat)
  case atStart=>exact⟨0,List.replicate n 0,List.replicate n 0,aaL _,rfl,lS,HT3,HW3,U6,HP3,hid (by simp),hid (by rw [wH,aD,← pF.out]),hid (fun j h=>by omega)⟩
  case round =>
   clear lS HT3 HW3 U6 HP3;obtain⟨wo,rfl⟩:∃ wo:World,wo=wr:=⟨_,rfl⟩;obtain⟨k,S,P,hk,rfl,HL,rE,Rf,Ng,Ey,HSL,YD,Jh⟩:=hrel;have t0:=rE.out.cell 0;have t1:=rE.out.cell 1;have g0:=Rf.out.cell 0;have g1:=Rf.out.cell 1;have g2:=Rf.out.cell 2;have g3:=Rf.out.cell 3;have htl:=rE.out.lt;have hwl:=Rf.out.lt;have hsl:=Ng.out.lt;have hpl:=Ey.out.lt;by_cases hkn:k < n
   ·obtain⟨b,o,rfl,hN⟩:=HT.out.nodes (by rw [← pF.out];omega);obtain⟨x,hx⟩:∃ x,xs[k]? = some x:=jD (by rw [← pF.out];exact hkn);have c0:=(HL.out.cell (p:=⟨b,o+k * 5,none⟩) hN.lt).trans (hN.c0 k x hx);have c1:=(HL.out.cell (p:=⟨b,o+k * 5+1,none⟩) hN.lt).trans (hN.c1 k x hx);have c2:=(HL.out.cell (p:=⟨b,o+k * 5+2,none⟩) hN.lt).trans (hN.c2 k x hx);have c3:=(HL.out.cell (p:=⟨b,o+k * 5+3,none⟩) hN.lt).trans (hN.c3 k x hx);have c4:=(HL.out.cell (p:=⟨b,o+k * 5+4,none⟩) hN.lt).trans (hN.c4 k x hx);obtain⟨Ak,ck,hxe,hxl,hxk⟩:=hN.kid hx;rw [hxe] at c3
    have tK:=hid hxk;have HX:=hid hx;clear hN hx hxe hxk;obtain⟨nk,hnk⟩:∃ nk,nk=x.1.kids.length:=⟨_,rfl⟩;rw [← hnk] at c3 hxl
    have nu:=hid hnk;clear hnk;have i1:(0:Int)≤(k:Int):=by omega
    have i2:(k:Int) < (n:Int):=by omega
    have i3:decide (k < n)=true:=aaU hkn;have s0:wo.cell? ⟨w.heap.size+1,k,none⟩=some (.int .i64 (S.getD k 0)):=by rw [Ng.out.cell k];exact nE S k (by rw [HSL.out];exact hkn)
    have p0:wo.cell? ⟨w.heap.size+1+1,k,none⟩=some (.int .i64 (P.getD k 0)):=by rw [Ey.out.cell k];exact nE P k (by rw [YD.out,qI,aD,← pF.out];exact hkn)
    have sf:=Ng.out.frozen k;have pf:=Ey.out.frozen k;obtain⟨sv,hsv⟩:∃ v,v=S.getD k 0:=⟨_,rfl⟩;obtain⟨pv,hpv⟩:∃ v,v=P.getD k 0:=⟨_,rfl⟩;rw [← hsv] at s0
    rw [← hpv] at p0
    clear hsv hpv;go_wp2_with fail;go_region
    go_wp2_with fail;have hne1:(w.heap.size+1) ≠ (w.heap.size+1+1):=by omega
    have hne2:(w.heap.size+1+1+1) ≠ (w.heap.size+1):=by omega
    have hne3:(w.heap.size+1+1+1) ≠ (w.heap.size+1+1):=by omega
    have Ji:=hid ((((rE.out.far (p:=⟨w.heap.size+1,k,none⟩) (show w.heap.size ≠ w.heap.size+1 by omega) (.int .i64 1)).far (p:=⟨w.heap.size+1+1,k,none⟩) (show w.heap.size ≠ w.heap.size+1+1 by omega) (.int .i64 (-1))).alloc (.cells #[.int .u8 x.1.kind,.string (aM x.1.text),.int .i64 x.1.n,.slice Ak nk ck,.int .i64 x.1.at_] 50)).drew);have Xt:=hid ((((Rf.out.far (p:=⟨w.heap.size+1,k,none⟩) hne2 (.int .i64 1)).far (p:=⟨w.heap.size+1+1,k,none⟩) hne3 (.int .i64 (-1))).alloc (.cells #[.int .u8 x.1.kind,.string (aM x.1.text),.int .i64 x.1.n,.slice Ak nk ck,.int .i64 x.1.at_] 50)).drew);have HS4:=hid ((((Ng.out.d_ k (.int .i64 1)).far (p:=⟨w.heap.size+1+1,k,none⟩) hne1 (.int .i64 (-1))).alloc (.cells #[.int .u8 x.1.kind,.string (aM x.1.text),.int .i64 x.1.n,.slice Ak nk ck,.int .i64 x.1.at_] 50)).drew);have YC:=hid ((((Ey.out.far (p:=⟨w.heap.size+1,k,none⟩) (Ne.symm hne1) (.int .i64 1)).d_ k (.int .i64 (-1))).alloc (.cells #[.int .u8 x.1.kind,.string (aM x.1.text),.int .i64 x.1.n,.slice Ak nk ck,.int .i64 x.1.at_] 50)).drew);rw [yt] at HS4 YC
    have E8:=hid (((dL (W:=(wo.setCell ⟨w.heap.size+1,k,none⟩ (.int .i64 1)).setCell ⟨w.heap.size+1+1,k,none⟩ (.int .i64 (-1))) (T:=50) (cs:=#[.int .u8 x.1.kind,.string (aM x.1.text),.int .i64 x.1.n,.slice Ak nk ck,.int .i64 x.1.at_]) (k:=wo.heap.size) (by simp))).drew);have qx:=hid (Below.drew (ah (dx (dx HL.out (show w.heap.size≤w.heap.size+1 by omega) (i:=k) (u:=.int .i64 1)) (show w.heap.size≤w.heap.size+1+1 by omega) (i:=k) (u:=.int .i64 (-1))) (by simp;omega) (o:=.cells #[.int .u8 x.1.kind,.string (aM x.1.text),.int .i64 x.1.n,.slice Ak nk ck,.int .i64 x.1.at_] 50)));have HKS:=hid (HS.out.eq k x.1 (gP HX.out));have Yu:=hid (show ∀ q ∈ x.1.kids,0≤q∧q < (k:Int) from HW.out k x.1 (gP HX.out));have hzk:=HS.out.le k
    generalize (((wo.setCell ⟨w.heap.size+1,k,none⟩ (.int .i64 1)).setCell ⟨w.heap.size+1+1,k,none⟩ (.int .i64 (-1))).alloc (.cells #[.int .u8 x.1.kind,.string (aM x.1.text),.int .i64 x.1.n,.slice Ak nk ck,.int .i64 x.1.at_] 50)).drew=w4 at Ji Xt HS4 YC E8 qx ⊢
    have n3:=E8.out.cell 3;go_wp2_with fail;go_loopw [42] (fun i wr=>∃ (jn:Nat) (S' P':List Int),jn≤nk∧i=.int .i64 jn∧Hid (Below w.heap.size w wr)∧Hid (aC wr w.heap.size 26 #[.slice (some ⟨b,o,none⟩) n c,.slice B m d])∧Hid (aC wr (w.heap.size+1+1+1) 74 #[.slice (some ⟨b,o,none⟩) n c,.slice B m d,.slice (some ⟨w.heap.size+1,0,none⟩) n n,.slice (some ⟨w.heap.size+1+1,0,none⟩) n n])∧Hid (aC wr (w.heap.size+1) 3 (iZ S'))∧Hid (aC wr (w.heap.size+1+1) 3 (iZ P'))∧Hid (S'.length=n)∧Hid (P'=um (k:Int) (x.1.kids.take jn) (P.set k (-1)))∧Hid (∀ j,j < k→S'.getD j 0=(sz j:Int))∧Hid (S'.getD k 0=((1+((x.1.kids.take jn).map fun q=>sz q.toNat).sum:Nat):Int))) (fun i _=>nk - (intOf i).toNat)
    case atStart=>exact⟨0,S.set k 1,P.set k (-1),aaL _,rfl,qx,Ji,Xt,HS4,YC,hid (by rw [List.length_set];exact HSL.out),hid rfl,hid (fun j hj=>by rw [lU,if_neg (by omega)];exact Jh.out j hj),hid (by rw [lU,if_pos ⟨rfl,by rw [HSL.out];exact hkn⟩];simp)⟩
    case round =>
     clear Ji Xt HS4 YC E8 qx;obtain⟨wq,rfl⟩:∃ wq:World,wq=wr:=⟨_,rfl⟩;obtain⟨jn,S',P',hj,rfl,jO,zO,TS,vS,iU,F8,QY,Q8,YF⟩:=hrel;have g0:=TS.out.cell 0;have g2:=TS.out.cell 2;have g3:=TS.out.cell 3;by_cases hjl:jn < nk
     ·obtain⟨kq,hkq⟩:∃ kq,x.1.kids[jn]? = some kq:=⟨_,aaD (by rw [← nu.out];exact hjl)⟩;have hqb:=Yu.out kq (aaM hkq);obtain⟨qn,rfl⟩:∃ qn:Nat,kq=(qn:Int):=⟨kq.toNat,by omega⟩;obtain⟨bk,ok,rfl,hbk,hck⟩:=tK.out.ex (by rw [← nu.out];omega);have cj:=(jO.out.cell (p:=⟨bk,ok+jn,none⟩) hbk).trans (hck jn qn hkq);have uM:=hid (show x.1.kids.take (jn+1)=x.1.kids.take jn ++ [(qn:Int)] by rw [List.take_add_one,hkq];rfl);clear hck hkq;have j0:(0:Int)≤(jn:Int):=by omega
      have j1:(jn:Int) < (nk:Int):=by omega
      have j2:decide (jn < nk)=true:=aaU hjl;have q0:(0:Int)≤(qn:Int):=by omega
      have q1:(qn:Int) < (n:Int):=by omega
      obtain⟨part,hpart⟩:∃ p:Nat,p=1+((x.1.kids.take jn).map fun q=>sz q.toNat).sum:=⟨_,rfl⟩
      have hsum:part+sz qn≤sz k:=by
       have h9:=HKS.out;have h8:x.1.kids=x.1.kids.take (jn+1) ++ x.1.kids.drop (jn+1):=(List.take_append_drop _ _).symm;rw [h8,List.map_append,List.sum_append,uM.out,List.map_append,List.sum_append] at h9
       simp at h9
       simp at hpart
       omega
      have s0:wq.cell? ⟨w.heap.size+1,k,none⟩=some (.int .i64 (part:Int)):=by rw [vS.out.cell k,nE S' k (by rw [F8.out];exact hkn),YF.out,hpart]
      have s1:wq.cell? ⟨w.heap.size+1,qn,none⟩=some (.int .i64 (sz qn:Int)):=by rw [vS.out.cell qn,nE S' qn (by rw [F8.out];omega),Q8.out qn (by omega)]
      have sf:=vS.out.frozen k;have pl:P'.length=n:=by rw [QY.out,y8,List.length_set,YD.out,qI,aD,← pF.out]
      have p0:wq.cell? ⟨w.heap.size+1+1,qn,none⟩=some (.int .i64 (P'.getD qn 0)):=by rw [iU.out.cell qn,nE P' qn (by rw [pl];omega)]
      have pf:=iU.out.frozen qn;have HPT:=hid hpart;clear hpart;obtain⟨pv2,hpv2⟩:∃ v,v=P'.getD qn 0:=⟨_,rfl⟩;rw [← hpv2] at p0
      clear hpv2 pl;have hp1:part≤1000000:=by omega
      have hz1:sz qn≤1000000:=by omega
      obtain⟨zq,hzq⟩:∃ z,z=sz qn:=⟨_,rfl⟩;rw [← hzq] at s1 hsum hz1
      have HZQ:=hid hzq;clear hzq;go_wp2_with fail;go_region
      go_wp2_with fail
      refine⟨⟨jn+1,S'.set k ((part:Int)+(zq:Int)),P'.set qn (k:Int),by omega,by go_num,hid ?_,hid ?_,hid ?_,hid ?_,hid ?_,hid ?_,hid ?_,hid ?_,hid ?_⟩,by simp [intOf];omega⟩
      ·repeat (first|(with_reducible exact jO.out)|(with_reducible refine dx ?_ ?_)|(with_reducible refine Below.drew ?_) | omega)
      ·repeat (first|(with_reducible exact zO.out)|(with_reducible refine aC.far ?_ ?_ _)|(with_reducible refine aC.drew ?_)|(· simp)|(· (simp;omega)))
      ·repeat (first|(with_reducible exact TS.out)|(with_reducible refine aC.far ?_ ?_ _)|(with_reducible refine aC.drew ?_)|(· simp)|(· (simp;omega)))
      ·rw [← yt]
       repeat (first|(with_reducible exact vS.out.d_ k _)|(with_reducible refine aC.drew ?_)|(with_reducible refine aC.far ?_ ?_ _)|(· simp)|(· (simp;omega)))
      ·rw [← yt]
       repeat (first|(with_reducible refine aC.drew ?_)|(with_reducible refine aC.d_ ?_ qn _)|(with_reducible exact iU.out)|(with_reducible refine aC.far ?_ ?_ _)|(· simp)|(· (simp;omega)))
      ·rw [List.length_set];exact F8.out
      ·rw [uM.out,Am,QY.out,aaQ]
      ·intro j hj;rw [lU,if_neg (by omega)];exact Q8.out j hj
      ·rw [lU,if_pos ⟨rfl,by rw [F8.out];exact hkn⟩,uM.out,List.map_append,List.sum_append,HZQ.out,HPT.out];simp;omega
     ·have j2:decide (jn < nk)=false:=aaV hjl;have HJ:=hid (show x.1.kids.take jn=x.1.kids from aaN (by rw [← nu.out];omega));go_wp2_with fail
      refine⟨⟨k+1,S',P',by omega,by go_num,jO,zO,TS,vS,iU,F8,hid ?_,hid ?_⟩,by simp [intOf];omega⟩
      ·rw [QY.out,HJ.out,YD.out,wH,KJ,yE HX.out]
      ·intro j hj;rcases Nat.lt_or_ge j k with h9 | h9
       ·exact Q8.out j h9
       ·have:j=k:=by omega
        subst this;rw [YF.out,HJ.out,HKS.out]
   ·obtain rfl:k=n:=by omega
    have i3:decide (k < k)=false:=aaV hkn;go_wp2_with fail;go_ret;exact⟨HL.out,w.heap.size+1+1+1,S,rfl,⟨w.heap.size+1,w.heap.size+1+1,Rf.out,Ng.out,by rw [YD.out] at Ey;rw [cZ,aD,← pF.out];exact Ey.out,by omega⟩,by omega,HSL.out,Jh.out⟩
 ·go_wp2_with fail;have HT3:=hid (show aC (((((w.alloc (.cells #[.slice A n c,.slice B m d] 26)).alloc (.cells (iZ (List.replicate n 0)) 3)).alloc (.cells (iZ (List.replicate n 0)) 3)).alloc (.cells #[.slice A n c,.slice B m d,.slice (some ⟨w.heap.size+1+1,0,none⟩) n n,.slice (some ⟨w.heap.size+1,0,none⟩) n n] 74)).drew) w.heap.size 26 #[.slice A n c,.slice B m d] from by repeat (first|(with_reducible exact aC.new _ _ _)|((with_reducible refine dL ?_) <;> (first | rfl|(· simp)))|(with_reducible refine aC.alloc ?_ _)|(with_reducible refine aC.drew ?_)));have HW3:=hid (show aC (((((w.alloc (.cells #[.slice A n c,.slice B m d] 26)).alloc (.cells (iZ (List.replicate n 0)) 3)).alloc (.cells (iZ (List.replicate n 0)) 3)).alloc (.cells #[.slice A n c,.slice B m d,.slice (some ⟨w.heap.size+1+1,0,none⟩) n n,.slice (some ⟨w.heap.size+1,0,none⟩) n n] 74)).drew) (w.heap.size+1+1+1) 74 #[.slice A n c,.slice B m d,.slice (some ⟨w.heap.size+1+1,0,none⟩) n n,.slice (some ⟨w.heap.size+1,0,none⟩) n n] from by repeat (first|(with_reducible exact aC.new _ _ _)|((with_reducible refine dL ?_) <;> (first | rfl|(· simp)))|(with_reducible refine aC.alloc ?_ _)|(with_reducible refine aC.drew ?_)));have U6:=hid (show aC (((((w.alloc (.cells #[.slice A n c,.slice B m d] 26)).alloc (.cells (iZ (List.replicate n 0)) 3)).alloc (.cells (iZ (List.replicate n 0)) 3)).alloc (.cells #[.slice A n c,.slice B m d,.slice (some ⟨w.heap.size+1+1,0,none⟩) n n,.slice (some ⟨w.heap.size+1,0,none⟩) n n] 74)).drew) (w.heap.size+1+1) 3 (iZ (List.replicate n 0)) from by repeat (first|(with_reducible exact aC.new _ _ _)|((with_reducible refine dL ?_) <;> (first | rfl|(· simp)))|(with_reducible refine aC.alloc ?_ _)|(with_reducible refine aC.drew ?_)));have HP3:=hid (show aC (((((w.alloc (.cells #[.slice A n c,.slice B m d] 26)).alloc (.cells (iZ (List.replicate n 0)) 3)).alloc (.cells (iZ (List.replicate n 0)) 3)).alloc (.cells #[.slice A n c,.slice B m d,.slice (some ⟨w.heap.size+1+1,0,none⟩) n n,.slice (some ⟨w.heap.size+1,0,none⟩) n n] 74)).drew) (w.heap.size+1) 3 (iZ (List.replicate n 0)) from by repeat (first|(with_reducible exact aC.new _ _ _)|((with_reducible refine dL ?_) <;> (first | rfl|(· simp)))|(with_reducible refine aC.alloc ?_ _)|(with_reducible refine aC.drew ?_)));have lS:=hid (show Below w.heap.size w (((((w.alloc (.cells #[.slice A n c,.slice B m d] 26)).alloc (.cells (iZ (List.replicate n 0)) 3)).alloc (.cells (iZ (List.replicate n 0)) 3)).alloc (.cells #[.slice A n c,.slice B m d,.slice (some ⟨w.heap.size+1+1,0,none⟩) n n,.slice (some ⟨w.heap.size+1,0,none⟩) n n] 74)).drew) from by repeat (first|(with_reducible exact Below.refl _ _)|(with_reducible refine ah ?_ ?_)|(with_reducible refine Below.drew ?_) | omega|(· simp)|(· (simp;omega))));clear hmk;go_loopw [22] (fun i wr=>∃ (k:Nat) (S P:List Int),k≤n∧i=.int .i64 k∧Hid (Below w.heap.size w wr)∧Hid (aC wr w.heap.size 26 #[.slice A n c,.slice B m d])∧Hid (aC wr (w.heap.size+1+1+1) 74 #[.slice A n c,.slice B m d,.slice (some ⟨w.heap.size+1+1,0,none⟩) n n,.slice (some ⟨w.heap.size+1,0,none⟩) n n])∧Hid (aC wr (w.heap.size+1+1) 3 (iZ S))∧Hid (aC wr (w.heap.size+1) 3 (iZ P))∧Hid (S.length=n)∧Hid (P=wH (aA xs) k)∧Hid (∀ j,j < k→S.getD j 0=(sz j:Int))) (fun i _=>n - (intOf i).toNat)
  case atStart=>exact⟨0,List.replicate n 0,List.replicate n 0,aaL _,rfl,lS,HT3,HW3,U6,HP3,hid (by simp),hid (by rw [wH,aD,← pF.out]),hid (fun j h=>by omega)⟩
  case round =>
   clear lS HT3 HW3 U6 HP3;obtain⟨wo,rfl⟩:∃ wo:World,wo=wr:=⟨_,rfl⟩;obtain⟨k,S,P,hk,rfl,HL,rE,Rf,Ng,Ey,HSL,YD,Jh⟩:=hrel;have t0:=rE.out.cell 0;have t1:=rE.out.cell 1;have g0:=Rf.out.cell 0;have g1:=Rf.out.cell 1;have g2:=Rf.out.cell 2;have g3:=Rf.out.cell 3;have htl:=rE.out.lt;have hwl:=Rf.out.lt;have hsl:=Ng.out.lt;have hpl:=Ey.out.lt;by_cases hkn:k < n
   ·obtain⟨b,o,rfl,hN⟩:=HT.out.nodes (by rw [← pF.out];omega);obtain⟨x,hx⟩:∃ x,xs[k]? = some x:=jD (by rw [← pF.out];exact hkn);have c0:=(HL.out.cell (p:=⟨b,o+k * 5,none⟩) hN.lt).trans (hN.c0 k x hx);have c1:=(HL.out.cell (p:=⟨b,o+k * 5+1,none⟩) hN.lt).trans (hN.c1 k x hx);have c2:=(HL.out.cell (p:=⟨b,o+k * 5+2,none⟩) hN.lt).trans (hN.c2 k x hx);have c3:=(HL.out.cell (p:=⟨b,o+k * 5+3,none⟩) hN.lt).trans (hN.c3 k x hx);have c4:=(HL.out.cell (p:=⟨b,o+k * 5+4,none⟩) hN.lt).trans (hN.c4 k x hx);obtain⟨Ak,ck,hxe,hxl,hxk⟩:=hN.kid hx;rw [hxe] at c3
    have tK:=hid hxk;have HX:=hid hx;clear hN hx hxe hxk;obtain⟨nk,hnk⟩:∃ nk,nk=x.1.kids.length:=⟨_,rfl⟩;rw [← hnk] at c3 hxl
    have nu:=hid hnk;clear hnk;have i1:(0:Int)≤(k:Int):=by omega
    have i2:(k:Int) < (n:Int):=by omega
    have i3:decide (k < n)=true:=aaU hkn;have s0:wo.cell? ⟨w.heap.size+1+1,k,none⟩=some (.int .i64 (S.getD k 0)):=by rw [Ng.out.cell k];exact nE S k (by rw [HSL.out];exact hkn)
    have p0:wo.cell? ⟨w.heap.size+1,k,none⟩=some (.int .i64 (P.getD k 0)):=by rw [Ey.out.cell k];exact nE P k (by rw [YD.out,qI,aD,← pF.out];exact hkn)
    have sf:=Ng.out.frozen k;have pf:=Ey.out.frozen k;obtain⟨sv,hsv⟩:∃ v,v=S.getD k 0:=⟨_,rfl⟩;obtain⟨pv,hpv⟩:∃ v,v=P.getD k 0:=⟨_,rfl⟩;rw [← hsv] at s0
    rw [← hpv] at p0
    clear hsv hpv;go_wp2_with fail;go_region
    go_wp2_with fail;have hne1:(w.heap.size+1+1) ≠ (w.heap.size+1):=by omega
    have hne2:(w.heap.size+1+1+1) ≠ (w.heap.size+1+1):=by omega
    have hne3:(w.heap.size+1+1+1) ≠ (w.heap.size+1):=by omega
    have Ji:=hid ((((rE.out.far (p:=⟨w.heap.size+1+1,k,none⟩) (show w.heap.size ≠ w.heap.size+1+1 by omega) (.int .i64 1)).far (p:=⟨w.heap.size+1,k,none⟩) (show w.heap.size ≠ w.heap.size+1 by omega) (.int .i64 (-1))).alloc (.cells #[.int .u8 x.1.kind,.string (aM x.1.text),.int .i64 x.1.n,.slice Ak nk ck,.int .i64 x.1.at_] 50)).drew);have Xt:=hid ((((Rf.out.far (p:=⟨w.heap.size+1+1,k,none⟩) hne2 (.int .i64 1)).far (p:=⟨w.heap.size+1,k,none⟩) hne3 (.int .i64 (-1))).alloc (.cells #[.int .u8 x.1.kind,.string (aM x.1.text),.int .i64 x.1.n,.slice Ak nk ck,.int .i64 x.1.at_] 50)).drew);have HS4:=hid ((((Ng.out.d_ k (.int .i64 1)).far (p:=⟨w.heap.size+1,k,none⟩) hne1 (.int .i64 (-1))).alloc (.cells #[.int .u8 x.1.kind,.string (aM x.1.text),.int .i64 x.1.n,.slice Ak nk ck,.int .i64 x.1.at_] 50)).drew);have YC:=hid ((((Ey.out.far (p:=⟨w.heap.size+1+1,k,none⟩) (Ne.symm hne1) (.int .i64 1)).d_ k (.int .i64 (-1))).alloc (.cells #[.int .u8 x.1.kind,.string (aM x.1.text),.int .i64 x.1.n,.slice Ak nk ck,.int .i64 x.1.at_] 50)).drew);rw [yt] at HS4 YC
    have E8:=hid (((dL (W:=(wo.setCell ⟨w.heap.size+1+1,k,none⟩ (.int .i64 1)).setCell ⟨w.heap.size+1,k,none⟩ (.int .i64 (-1))) (T:=50) (cs:=#[.int .u8 x.1.kind,.string (aM x.1.text),.int .i64 x.1.n,.slice Ak nk ck,.int .i64 x.1.at_]) (k:=wo.heap.size) (by simp))).drew);have qx:=hid (Below.drew (ah (dx (dx HL.out (show w.heap.size≤w.heap.size+1+1 by omega) (i:=k) (u:=.int .i64 1)) (show w.heap.size≤w.heap.size+1 by omega) (i:=k) (u:=.int .i64 (-1))) (by simp;omega) (o:=.cells #[.int .u8 x.1.kind,.string (aM x.1.text),.int .i64 x.1.n,.slice Ak nk ck,.int .i64 x.1.at_] 50)));have HKS:=hid (HS.out.eq k x.1 (gP HX.out));have Yu:=hid (show ∀ q ∈ x.1.kids,0≤q∧q < (k:Int) from HW.out k x.1 (gP HX.out));have hzk:=HS.out.le k
    generalize (((wo.setCell ⟨w.heap.size+1+1,k,none⟩ (.int .i64 1)).setCell ⟨w.heap.size+1,k,none⟩ (.int .i64 (-1))).alloc (.cells #[.int .u8 x.1.kind,.string (aM x.1.text),.int .i64 x.1.n,.slice Ak nk ck,.int .i64 x.1.at_] 50)).drew=w4 at Ji Xt HS4 YC E8 qx ⊢
    have n3:=E8.out.cell 3;go_wp2_with fail;go_loopw [42] (fun i wr=>∃ (jn:Nat) (S' P':List Int),jn≤nk∧i=.int .i64 jn∧Hid (Below w.heap.size w wr)∧Hid (aC wr w.heap.size 26 #[.slice (some ⟨b,o,none⟩) n c,.slice B m d])∧Hid (aC wr (w.heap.size+1+1+1) 74 #[.slice (some ⟨b,o,none⟩) n c,.slice B m d,.slice (some ⟨w.heap.size+1+1,0,none⟩) n n,.slice (some ⟨w.heap.size+1,0,none⟩) n n])∧Hid (aC wr (w.heap.size+1+1) 3 (iZ S'))∧Hid (aC wr (w.heap.size+1) 3 (iZ P'))∧Hid (S'.length=n)∧Hid (P'=um (k:Int) (x.1.kids.take jn) (P.set k (-1)))∧Hid (∀ j,j < k→S'.getD j 0=(sz j:Int))∧Hid (S'.getD k 0=((1+((x.1.kids.take jn).map fun q=>sz q.toNat).sum:Nat):Int))) (fun i _=>nk - (intOf i).toNat)
    case atStart=>exact⟨0,S.set k 1,P.set k (-1),aaL _,rfl,qx,Ji,Xt,HS4,YC,hid (by rw [List.length_set];exact HSL.out),hid rfl,hid (fun j hj=>by rw [lU,if_neg (by omega)];exact Jh.out j hj),hid (by rw [lU,if_pos ⟨rfl,by rw [HSL.out];exact hkn⟩];simp)⟩
    case round =>
     clear Ji Xt HS4 YC E8 qx;obtain⟨wq,rfl⟩:∃ wq:World,wq=wr:=⟨_,rfl⟩;obtain⟨jn,S',P',hj,rfl,jO,zO,TS,vS,iU,F8,QY,Q8,YF⟩:=hrel;have g0:=TS.out.cell 0;have g2:=TS.out.cell 2;have g3:=TS.out.cell 3;by_cases hjl:jn < nk
     ·obtain⟨kq,hkq⟩:∃ kq,x.1.kids[jn]? = some kq:=⟨_,aaD (by rw [← nu.out];exact hjl)⟩;have hqb:=Yu.out kq (aaM hkq);obtain⟨qn,rfl⟩:∃ qn:Nat,kq=(qn:Int):=⟨kq.toNat,by omega⟩;obtain⟨bk,ok,rfl,hbk,hck⟩:=tK.out.ex (by rw [← nu.out];omega);have cj:=(jO.out.cell (p:=⟨bk,ok+jn,none⟩) hbk).trans (hck jn qn hkq);have uM:=hid (show x.1.kids.take (jn+1)=x.1.kids.take jn ++ [(qn:Int)] by rw [List.take_add_one,hkq];rfl);clear hck hkq;have j0:(0:Int)≤(jn:Int):=by omega
      have j1:(jn:Int) < (nk:Int):=by omega
      have j2:decide (jn < nk)=true:=aaU hjl;have q0:(0:Int)≤(qn:Int):=by omega
      have q1:(qn:Int) < (n:Int):=by omega
      obtain⟨part,hpart⟩:∃ p:Nat,p=1+((x.1.kids.take jn).map fun q=>sz q.toNat).sum:=⟨_,rfl⟩
      have hsum:part+sz qn≤sz k:=by
       have h9:=HKS.out;have h8:x.1.kids=x.1.kids.take (jn+1) ++ x.1.kids.drop (jn+1):=(List.take_append_drop _ _).symm;rw [h8,List.map_append,List.sum_append,uM.out,List.map_append,List.sum_append] at h9
       simp at h9
       simp at hpart
       omega
      have s0:wq.cell? ⟨w.heap.size+1+1,k,none⟩=some (.int .i64 (part:Int)):=by rw [vS.out.cell k,nE S' k (by rw [F8.out];exact hkn),YF.out,hpart]
      have s1:wq.cell? ⟨w.heap.size+1+1,qn,none⟩=some (.int .i64 (sz qn:Int)):=by rw [vS.out.cell qn,nE S' qn (by rw [F8.out];omega),Q8.out qn (by omega)]
      have sf:=vS.out.frozen k;have pl:P'.length=n:=by rw [QY.out,y8,List.length_set,YD.out,qI,aD,← pF.out]
      have p0:wq.cell? ⟨w.heap.size+1,qn,none⟩=some (.int .i64 (P'.getD qn 0)):=by rw [iU.out.cell qn,nE P' qn (by rw [pl];omega)]
      have pf:=iU.out.frozen qn;have HPT:=hid hpart;clear hpart;obtain⟨pv2,hpv2⟩:∃ v,v=P'.getD qn 0:=⟨_,rfl⟩;rw [← hpv2] at p0
      clear hpv2 pl;have hp1:part≤1000000:=by omega
      have hz1:sz qn≤1000000:=by omega
      obtain⟨zq,hzq⟩:∃ z,z=sz qn:=⟨_,rfl⟩;rw [← hzq] at s1 hsum hz1
      have HZQ:=hid hzq;clear hzq;go_wp2_with fail;go_region
      go_wp2_with fail
      refine⟨⟨jn+1,S'.set k ((part:Int)+(zq:Int)),P'.set qn (k:Int),by omega,by go_num,hid ?_,hid ?_,hid ?_,hid ?_,hid ?_,hid ?_,hid ?_,hid ?_,hid ?_⟩,by simp [intOf];omega⟩
      ·repeat (first|(with_reducible exact jO.out)|(with_reducible refine dx ?_ ?_)|(with_reducible refine Below.drew ?_) | omega)
      ·repeat (first|(with_reducible exact zO.out)|(with_reducible refine aC.far ?_ ?_ _)|(with_reducible refine aC.drew ?_)|(· simp)|(· (simp;omega)))
      ·repeat (first|(with_reducible exact TS.out)|(with_reducible refine aC.far ?_ ?_ _)|(with_reducible refine aC.drew ?_)|(· simp)|(· (simp;omega)))
      ·rw [← yt]
       repeat (first|(with_reducible exact vS.out.d_ k _)|(with_reducible refine aC.drew ?_)|(with_reducible refine aC.far ?_ ?_ _)|(· simp)|(· (simp;omega)))
      ·rw [← yt]
       repeat (first|(with_reducible refine aC.drew ?_)|(with_reducible refine aC.d_ ?_ qn _)|(with_reducible exact iU.out)|(with_reducible refine aC.far ?_ ?_ _)|(· simp)|(· (simp;omega)))
      ·rw [List.length_set];exact F8.out
      ·rw [uM.out,Am,QY.out,aaQ]
      ·intro j hj;rw [lU,if_neg (by omega)];exact Q8.out j hj
      ·rw [lU,if_pos ⟨rfl,by rw [F8.out];exact hkn⟩,uM.out,List.map_append,List.sum_append,HZQ.out,HPT.out];simp;omega
     ·have j2:decide (jn < nk)=false:=aaV hjl;have HJ:=hid (show x.1.kids.take jn=x.1.kids from aaN (by rw [← nu.out];omega));go_wp2_with fail
      refine⟨⟨k+1,S',P',by omega,by go_num,jO,zO,TS,vS,iU,F8,hid ?_,hid ?_⟩,by simp [intOf];omega⟩
      ·rw [QY.out,HJ.out,YD.out,wH,KJ,yE HX.out]
      ·intro j hj;rcases Nat.lt_or_ge j k with h9 | h9
       ·exact Q8.out j h9
       ·have:j=k:=by omega
        subst this;rw [YF.out,HJ.out,HKS.out]
   ·obtain rfl:k=n:=by omega
    have i3:decide (k < k)=false:=aaV hkn;go_wp2_with fail;go_ret;exact⟨HL.out,w.heap.size+1+1+1,S,rfl,⟨w.heap.size+1+1,w.heap.size+1,Rf.out,Ng.out,by rw [YD.out] at Ey;rw [cZ,aD,← pF.out];exact Ey.out,by omega⟩,by omega,HSL.out,Jh.out⟩
end Go.Proofs.YthepmkjggfijoaaGreatDoor
