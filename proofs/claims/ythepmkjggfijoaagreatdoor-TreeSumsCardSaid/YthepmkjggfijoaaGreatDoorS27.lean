/-
  A part of the proof.
-/
import Derived.Test.YthepmkjggfijoaaGreatDoorSA
import Derived.Laws.EntriesVeiled
import Derived.Maps.OwnSet
import Derived.Maps.Keyed
import Derived.Deep.QuietTactic
import Derived.BigQuiet
import Derived.Test.YthepmkjggfijoaaGreatDoorS20
import Derived.Test.YthepmkjggfijoaaGreatDoorS26
set_option linter.all false
set_option maxRecDepth 100000
set_option maxHeartbeats 4000000
open Go.Lib (hid)
namespace Go.Proofs.YthepmkjggfijoaaGreatDoor
open Go.RowKit Mist
def nR (T:Tr)(o:Option Nat)(i:Int):Option Nat:=o.bind fun x=>if Mist.within i x ((T.nodes.length:Int) - 1)=true then Mist.walk T (i.toNat+1) i.toNat true x else none
theorem Im (T:Tr):∀ l:List Int,l.foldl (nR T) none=none
 | []=>rfl
 | _ :: r=>Im T r
theorem MJ {T:Tr}{y:Nat}(h:T.items.foldl (nR T) (some 0)=some y):Mist.ordered T=(y == T.nodes.length):=by
 unfold Mist.ordered;unfold nR at h
 rw [h]
theorem Cx {T:Tr}(h:T.items.foldl (nR T) (some 0)=none):Mist.ordered T=false:=by
 unfold Mist.ordered;unfold nR at h
 rw [h]
theorem OW (A B:Option Addr)(c d:Nat)(xs:List NV)(its:List Int)(w:World)(hT:mq w A B xs its)(hR:xO (aA xs))(hn:xs.length≤100000)(hm:its.length≤1000000)(hK:∀ (i:Nat) x,xs[i]? = some x→∀ k ∈ x.1.kids,0≤k∧k≤(i:Int) - 1) :
  Calls Tryz.prog 62 #[.agg #[.slice A xs.length c,.slice B its.length d]] w fun e w'=>e=.returned (.bool (Mist.ordered ⟨aA xs,its⟩))∧Below w.heap.size w w':=by
 obtain⟨n,hnn⟩:∃ n,n=xs.length:=⟨_,rfl⟩;obtain⟨m,hmm⟩:∃ m,m=its.length:=⟨_,rfl⟩;rw [← hnn] at hn ⊢
 rw [← hmm] at hm ⊢
 obtain⟨T,ni⟩:∃ T:Tr,T=⟨aA xs,its⟩:=⟨_,rfl⟩;rw [← ni];have Nh:=hid (show T.nodes.length=n by rw [ni,hnn];exact aD xs);have HTI:=hid (show T.items=its by rw [ni]);have F9:=hid ni;clear ni;have pF:=hid hnn;clear hnn;have U1:=hid hmm;clear hmm;have HT:=hid hT;clear hT;have HKK:=hid hK;clear hK;have HRR:=hid hR;clear hR;go_in
 go_wp2_with fail;have hw1:=((aC.new w 26 #[.slice A n c,.slice B m d]).alloc (.cells #[.int .i64 0] 3)).alloc (.cells #[.func (.func 106) #[] #[.pointer (some ⟨w.heap.size,0,none⟩),.pointer (some ⟨w.heap.size+1+1,0,none⟩),.pointer (some ⟨w.heap.size+1,0,none⟩)]] 123)
 have hw2:aC (((w.alloc (.cells #[.slice A n c,.slice B m d] 26)).alloc (.cells #[.int .i64 0] 3)).alloc (.cells #[.func (.func 106) #[] #[.pointer (some ⟨w.heap.size,0,none⟩),.pointer (some ⟨w.heap.size+1+1,0,none⟩),.pointer (some ⟨w.heap.size+1,0,none⟩)]] 123)) (w.heap.size+1) 3 #[.int .i64 0]:=by
  refine aC.alloc ?_ _;have h9:=aC.new (w.alloc (.cells #[.slice A n c,.slice B m d] 26)) 3 #[.int .i64 0]
  rwa [show (w.alloc (.cells #[.slice A n c,.slice B m d] 26)).heap.size=w.heap.size+1 by simp] at h9
 have hw3:aC (((w.alloc (.cells #[.slice A n c,.slice B m d] 26)).alloc (.cells #[.int .i64 0] 3)).alloc (.cells #[.func (.func 106) #[] #[.pointer (some ⟨w.heap.size,0,none⟩),.pointer (some ⟨w.heap.size+1+1,0,none⟩),.pointer (some ⟨w.heap.size+1,0,none⟩)]] 123)) (w.heap.size+1+1) 123 #[.func (.func 106) #[] #[.pointer (some ⟨w.heap.size,0,none⟩),.pointer (some ⟨w.heap.size+1+1,0,none⟩),.pointer (some ⟨w.heap.size+1,0,none⟩)]]:=by
  have h9:=aC.new ((w.alloc (.cells #[.slice A n c,.slice B m d] 26)).alloc (.cells #[.int .i64 0] 3)) 123 #[.func (.func 106) #[] #[.pointer (some ⟨w.heap.size,0,none⟩),.pointer (some ⟨w.heap.size+1+1,0,none⟩),.pointer (some ⟨w.heap.size+1,0,none⟩)]]
  rwa [show ((w.alloc (.cells #[.slice A n c,.slice B m d] 26)).alloc (.cells #[.int .i64 0] 3)).heap.size=w.heap.size+1+1 by simp] at h9
 have Yx:=hid (show vU w _ w.heap.size (w.heap.size+1) (w.heap.size+1+1) (.slice A n c) (.slice B m d) ((0:Nat):Int) from ⟨hw1,hw3,hw2,ah (ah (ah (Below.refl _ _) (aaJ _)) (by simp)) (by simp;omega),by omega⟩);clear hw1 hw2 hw3;go_loopw [11] (fun j wr=>∃ (jn y:Nat),jn≤m∧j=.int .i64 jn∧y≤1000000∧Hid (vU w wr w.heap.size (w.heap.size+1) (w.heap.size+1+1) (.slice A n c) (.slice B m d) (y:Int))∧Hid ((its.drop jn).foldl (nR T) (some y)=its.foldl (nR T) (some 0))) (fun j _=>m - (intOf j).toNat)
 case atStart=>exact⟨0,0,aaL _,rfl,by omega,Yx,hid rfl⟩
 case round =>
  clear Yx;obtain⟨wo,rfl⟩:∃ wo:World,wo=wr:=⟨_,rfl⟩;obtain⟨jn,y,hj,rfl,hy,HM,HF⟩:=hrel;have t0:=HM.out.tree.cell 0;have s0:=HM.out.self.cell 0;have y0:=HM.out.next.cell 0;by_cases hjl:jn < m
  ·obtain⟨q,hq⟩:∃ q,its[jn]? = some q:=⟨_,aaD (by rw [← U1.out];exact hjl)⟩;obtain⟨bi,oi,rfl,hbi,hci⟩:=HT.out.items.ex (by rw [← U1.out];omega);have cj:=(HM.out.low.cell (p:=⟨bi,oi+jn,none⟩) hbi).trans (hci jn q hq)
   have HDR:=hid (show its.drop jn=q :: its.drop (jn+1) by
    rw [aaX (by rw [← U1.out];exact hjl),(aaE.1 hq).2])
   have TH:=hid (show (its.drop (jn+1)).foldl (nR T) (if Mist.within q y ((n:Int) - 1)=true then Mist.walk T (q.toNat+1) q.toNat true y else none)=its.foldl (nR T) (some 0) by
    have h9:=HF.out;rw [HDR.out,List.foldl_cons] at h9
    rw [← h9,nR,Option.bind_some,Nh.out])
   clear hci hq HDR HF;have j0:(0:Int)≤(jn:Int):=by omega
   have j1:(jn:Int) < (m:Int):=by omega
   have j2:decide (jn < m)=true:=aaU hjl
   cases hw:Mist.within q y ((n:Int) - 1)
   ·have HW:=hid hw;clear hw;have HO:=hid (show Mist.ordered T=false from Cx (by rw [HTI.out,← TH.out,HW.out,if_neg (by simp)];exact Im T _));go_wp2_with fail;refine (dU q y _ false HW.out _).mono ?_;rintro e w2⟨rfl,rfl⟩;go_wp2_with fail;go_ret;exact⟨bD HO.out.symm,HM.out.low⟩
   ·have hw2:(y:Int)≤q∧q≤(n:Int) - 1:=by simpa [Mist.within] using hw
    have HW:=hid hw;clear hw;obtain⟨qn,rfl⟩:∃ qn:Nat,q=(qn:Int):=⟨q.toNat,by omega⟩;obtain⟨b,o,rfl,hN⟩:=HT.out.nodes (by rw [← pF.out];omega);have HC:=hid (walk_any xs its b o c m d n _ w hN pF.out hn HKK.out HRR.out w.heap.size (w.heap.size+1) (w.heap.size+1+1) (qn+1) qn 1 true y wo (by omega) (by omega) (by omega) (by omega) rfl hy HM.out)
    have HF3:=hid (show (its.drop (jn+1)).foldl (nR T) (Mist.walk T (qn+1) qn true y)=its.foldl (nR T) (some 0) by
     have h9:=TH.out;rw [HW.out,if_pos rfl,aaQ] at h9
     exact h9)
    clear hN TH;go_wp2_with fail;refine (dU (qn:Int) y _ true HW.out _).mono ?_;rintro e w2⟨rfl,rfl⟩;go_wp2_with fail;refine HC.out.mono ?_;rintro e w3⟨hmv,hpost⟩;rw [← F9.out] at hpost
    cases hwk:Mist.walk T (qn+1) qn true y with
    | none =>
     rw [hwk] at hpost
     obtain⟨rfl,z,hz⟩:=hpost;have HO:=hid (show Mist.ordered T=false from Cx (by rw [HTI.out,← HF3.out,hwk];exact Im T _));have Jg:=hid (HM.out.mv hmv hz);clear hwk hz hmv;go_wp2_with fail;go_ret;exact⟨bD HO.out.symm,Jg.out.low⟩
    | some z =>
     rw [hwk] at hpost
     obtain⟨rfl,hz⟩:=hpost;have hzv:=Qd hwk;have Jg:=hid (HM.out.mv hmv hz);have HF4:=hid (by have h9:=HF3.out;rw [hwk] at h9;exact h9);have Z5:z≤1000000:=by omega
     clear hwk hz hmv hzv;go_wp2_with fail;exact⟨⟨jn+1,z,by omega,by go_num,Z5,Jg,HF4⟩,by simp [intOf];omega⟩
  ·have HO:=hid (show Mist.ordered T=(y == n) by
    have h9:=HF.out;rw [List.drop_of_length_le (by rw [← U1.out];omega)] at h9
    rw [MJ (y:=y) (by rw [HTI.out];exact h9.symm),Nh.out])
   have j2:decide (jn < m)=false:=aaV hjl;go_wp2_with fail;go_ret
   refine⟨bD ?_,HM.out.low⟩
   rw [HO.out,aaI];simp
   omega
end Go.Proofs.YthepmkjggfijoaaGreatDoor
namespace Go.Proofs.YthepmkjggfijoaaGreatDoor
open Go.RowKit Mist
open Go.WideShapes Go.Maps
def Hl:Lit→Bool
 | .int .i64 _=>true
 | _=>false
def l5 (D:DataW Unit)(P:Int→Bool):Prop:=∃ es,D=.map es∧(es.any fun p=>!Hl p.1)=false∧∀ j:Int,Maps.has D (.int .i64 j)=P j
theorem l5.empty:l5 (.map []) (fun _=>false):=⟨[],rfl,rfl,fun _=>rfl⟩
theorem l5.imp {D:DataW Unit}{P Q:Int→Bool}(h:l5 D P)(e:∀ j,P j=Q j):l5 D Q:=by
 obtain⟨es,rfl,h1,h2⟩:=h;exact⟨es,rfl,h1,fun j=>(h2 j).trans (e j)⟩
theorem mU {α:Type}{f g:α→Bool}:∀ l:List α,l.any f=false→(l.filter g).any f=false
 | [],_=>rfl
 | y :: r,h=>by
  rw [List.any_cons] at h
  have h1:f y=false:=by cases hx:f y <;> simp_all
  have h2:r.any f=false:=by cases hx:r.any f <;> simp_all
  rw [List.filter_cons];split
  ·rw [List.any_cons,h1,mU r h2];rfl
  ·exact mU r h2
theorem l5.put {D:DataW Unit}{P:Int→Bool}(h:l5 D P)(k:Int)(d:DataW Unit):l5 (D.put (.int .i64 k) d) (fun j=>P j || j == k):=by
 obtain⟨es,rfl,h1,h2⟩:=h
 refine⟨DataW.insert (.int .i64 k,d) (es.filter fun p=>!p.1.sameKey (.int .i64 k)),rfl,?_,fun j=>?_⟩
 ·rw [any_insert,mU es h1];rfl
 ·by_cases e:j=k
  ·subst e;rw [has_put_same ⟨_,rfl⟩ (by trivial)];simp
  ·rw [has_put_other (by intro e2;injection e2 with _ e2;exact e e2),h2 j];simp [e]
theorem l5.del {D:DataW Unit}{P:Int→Bool}(h:l5 D P)(k:Int):l5 (D.del (.int .i64 k)) (fun j=>P j && !(j == k)):=by
 obtain⟨es,rfl,h1,h2⟩:=h
 refine⟨es.filter fun p=>!p.1.sameKey (.int .i64 k),rfl,mU es h1,fun j=>?_⟩
 by_cases e:j=k
 ·subst e;rw [has_del_same];simp
 ·rw [has_del_other (by intro e2;injection e2 with _ e2;exact e e2),h2 j];simp [e]
theorem l5.zero {D:DataW Unit}{P:Int→Bool}(h:l5 D P):Maps.size D=0↔∀ j,P j=false:=by
 obtain⟨es,rfl,h1,h2⟩:=h;constructor
 ·intro h0 j
  have:es=[]:=List.eq_nil_of_length_eq_zero h0
  subst this;rw [← h2 j];rfl
 ·intro h0
  cases es with
  | nil=>rfl
  | cons p r =>
   exfalso
   rw [List.any_cons] at h1
   have hk:Hl p.1=true:=by cases hx:Hl p.1 <;> simp_all
   obtain⟨l,d⟩:=p;simp only at hk
   cases l with
   | int q a =>
    cases q <;> simp [Hl] at hk
    have:=h2 a
    rw [h0 a,has_eq] at this
    simp [WideAt.sameKey_self (a:=Lit.int .i64 a) (by trivial)] at this
   | _=>simp [Hl] at hk
def Fp (T:Tr)(k:Nat)(j:Int):Bool:=decide (0≤j∧j < (k:Int)) && ((nd T j.toNat).kind == 1 && decide ((nd T j.toNat).n < 0))
theorem Ec {T:Tr}{k:Nat}(b:Bool)(hb:((nd T k).kind == 1 && decide ((nd T k).n < 0))=b)(j:Int):Fp T (k+1) j=(Fp T k j || (b && j == (k:Int))):=by
 unfold Fp;by_cases e:j=(k:Int)
 ·subst e;rw [aaQ,hb];have h1:decide (0≤(k:Int)∧(k:Int) < ((k+1:Nat):Int))=true:=aaU (by omega);have h2:decide (0≤(k:Int)∧(k:Int) < (k:Int))=false:=aaV (by omega);rw [h1,h2];simp
 ·have h1:decide (0≤j∧j < ((k+1:Nat):Int))=decide (0≤j∧j < (k:Int)):=by
   congr 1;apply propext;omega
  rw [h1];simp [e]
def B_ (T:Tr)(l:List Int)(j:Int):Bool:=l.any fun c=>(nd T c.toNat).kind == 40 && (nd T c.toNat).kids.contains j
theorem Kk (T:Tr)(l:List Int)(c j:Int):B_ T (l ++ [c]) j=(B_ T l j || ((nd T c.toNat).kind == 40 && (nd T c.toNat).kids.contains j)):=by
 simp [B_]
theorem Ta (T:Tr):Mist.signed T=true↔∀ j,(Fp T T.nodes.length j && !B_ T T.items j)=false:=by
 unfold Mist.signed;rw [aaR];constructor
 ·intro h j;by_cases hj:0≤j∧j < (T.nodes.length:Int)
  ·have:=h j.toNat (List.mem_range.2 (by omega))
   have e:((j.toNat:Nat):Int)=j:=by omega
   rw [e] at this
   unfold Fp B_
   revert this
   generalize ((nd T j.toNat).kind == 1 && decide ((nd T j.toNat).n < 0))=x
   generalize (T.items.any fun c=>(nd T c.toNat).kind == 40 && (nd T c.toNat).kids.contains j)=y
   intro this
   cases x <;> cases y <;> simp_all
  ·unfold Fp;rw [aaV hj];simp
 ·intro h i hi;have hi:=List.mem_range.1 hi
  have:=h (i:Int)
  unfold Fp B_ at this
  rw [aaU (by omega),aaQ] at this
  revert this
  generalize ((nd T i).kind == 1 && decide ((nd T i).n < 0))=x
  generalize (T.items.any fun c=>(nd T c.toNat).kind == 40 && (nd T c.toNat).kids.contains (i:Int))=y
  intro this
  cases x <;> cases y <;> simp_all
theorem Ur:Keyed Tryz.prog 3:=int_keyed Tryz.underlying3
theorem wf_i64 {j:Int}(h:jq≤j∧j≤gq):(Lit.int .i64 j).wf=true:=WalkArith.wf_i64 (by unfold jq gq at h;omega)
theorem S_ (A B:Option Addr)(c d:Nat)(xs:List NV)(its:List Int)(w:World)(hT:mq w A B xs its)(hR:xO (aA xs))(hn:xs.length≤100000)(hm:its.length≤1000000)(hI:∀ q ∈ its,0≤q∧q < (xs.length:Int)) :
  Calls Tryz.prog 63 #[.agg #[.slice A xs.length c,.slice B its.length d]] w fun e w'=>e=.returned (.bool (Mist.signed ⟨aA xs,its⟩))∧Below w.heap.size w w':=by
 obtain⟨n,hnn⟩:∃ n,n=xs.length:=⟨_,rfl⟩;obtain⟨m,hmm⟩:∃ m,m=its.length:=⟨_,rfl⟩;rw [← hnn] at hn hI ⊢
 rw [← hmm] at hm ⊢
 obtain⟨T,ni⟩:∃ T:Tr,T=⟨aA xs,its⟩:=⟨_,rfl⟩;rw [← ni];have Nh:=hid (show T.nodes.length=n by rw [ni,hnn];exact aD xs);have HTI:=hid (show T.items=its by rw [ni]);have F9:=hid ni;clear ni;have pF:=hid hnn;clear hnn;have U1:=hid hmm;clear hmm;have HT:=hid hT;clear hT;have HII:=hid hI;clear hI;have HRR:=hid hR;clear hR;have hmk:=@run_makeMap Tryz.prog;go_in
 go_wp2_with fail;have eH:=hid (ah (ah (Below.refl w.heap.size w) (aaJ _) (o:=.cells #[.slice A n c,.slice B m d] 26)) (by simp) (o:=.map #[] 0));have HT0:=hid ((aC.new w 26 #[.slice A n c,.slice B m d]).alloc (.map #[] 0))
 have Yx:=hid (by
  have h9:=World.ownsMap_made (w.alloc (.cells #[.slice A n c,.slice B m d] 26)) Tryz.prog 3 (plainElem (H:=Unit) Tryz.prog 4);rw [show (w.alloc (.cells #[.slice A n c,.slice B m d] 26)).heap.size=w.heap.size+1 by simp] at h9
  exact h9)
 clear hmk;go_loopw [14] (fun i wr=>∃ (k:Nat) (D:DataW Unit),k≤n∧i=.int .i64 k∧Hid (Below w.heap.size w wr)∧Hid (aC wr w.heap.size 26 #[.slice A n c,.slice B m d])∧wr.ownsMap Tryz.prog 3 (plainElem Tryz.prog 4) (w.heap.size+1) k D∧Hid (l5 D (Fp T k))) (fun i _=>n - (intOf i).toNat)
 case atStart=>exact⟨0,.map [],aaL _,rfl,eH,HT0,Yx.out,hid (l5.empty.imp (fun j=>by unfold Fp;rw [aaV (by omega)];rfl))⟩
 case round =>
  clear eH HT0 Yx;obtain⟨wo,rfl⟩:∃ wo:World,wo=wr:=⟨_,rfl⟩;obtain⟨k,D,hk,rfl,HL,Dx,hown,HK⟩:=hrel;have HOW:=hid hown;clear hown;have t0:=Dx.out.cell 0;have t1:=Dx.out.cell 1;have htl:=Dx.out.lt;by_cases hkn:k < n
  ·obtain⟨b,o,rfl,hN⟩:=HT.out.nodes (by rw [← pF.out];omega);obtain⟨x,hx⟩:∃ x,xs[k]? = some x:=jD (by rw [← pF.out];exact hkn);have oV:=hid (show nd T k=x.1 by rw [F9.out];exact l7 its hx);have c0:=(HL.out.cell (p:=⟨b,o+k * 5,none⟩) hN.lt).trans (hN.c0 k x hx);have c1:=(HL.out.cell (p:=⟨b,o+k * 5+1,none⟩) hN.lt).trans (hN.c1 k x hx);have c2:=(HL.out.cell (p:=⟨b,o+k * 5+2,none⟩) hN.lt).trans (hN.c2 k x hx);have c3:=(HL.out.cell (p:=⟨b,o+k * 5+3,none⟩) hN.lt).trans (hN.c3 k x hx);have c4:=(HL.out.cell (p:=⟨b,o+k * 5+4,none⟩) hN.lt).trans (hN.c4 k x hx);obtain⟨Ak,ck,hxe,_,_⟩:=hN.kid hx;rw [hxe] at c3
   clear hN hx hxe;have i1:(0:Int)≤(k:Int):=by omega
   have i2:(k:Int) < (n:Int):=by omega
   have i3:decide (k < n)=true:=aaU hkn;have hkey:keyOf Tryz.prog 3 (.int .i64 (k:Int))=some (.int .i64 (k:Int)):=keyOf_int_mk Tryz.underlying3 (wf_i64 (by unfold jq gq;omega));by_cases h1:x.1.kind=1
   ·have e1:((x.1.kind:Int) == 1)=true:=by rw [h1];rfl
    by_cases h2:x.1.n < 0
    ·have e2:decide (x.1.n < 0)=true:=aaU h2;have Yy:=hid (Ec (T:=T) (k:=k) true (by rw [oV.out];simp [h1,h2]));clear h1 h2
     go_wp2_with (at_mapUpdate
                  refine wpList_mapUpdate_own _ rfl _ _ _ 124 rfl 3 4 Ur Tryz.underlying124 _ (w.heap.size+1) k D rfl (HOW.out.alloc _) (by unfold maxLen;omega) _ _ _ rfl rfl hkey _ [] (plainElem_bool Tryz.underlying4 true) ?_;intro w1 hown1 hgrow1)
     refine⟨⟨k+1,_,by omega,by go_num,hid ?_,hid ?_,hown1,hid ?_⟩,by simp [intOf];omega⟩
     ·exact (ah HL.out HL.out.size).grown hgrow1 (by simp;omega) (fun b hb=>by injection hb with hb;omega)
     ·exact (Dx.out.alloc _).grown hgrow1 (by simp)
     ·exact (HK.out.put (k:Int) _).imp (fun j=>by rw [Yy.out j];simp)
    ·have e2:decide (x.1.n < 0)=false:=aaV h2;have Yy:=hid (Ec (T:=T) (k:=k) false (by rw [oV.out];simp [h2]));clear h1 h2;go_wp2_with fail;exact⟨⟨k+1,D,by omega,by go_num,hid (ah HL.out HL.out.size),hid (Dx.out.alloc _),(HOW.out.alloc _).mono (by omega),hid (HK.out.imp (fun j=>by rw [Yy.out j];simp))⟩,by simp [intOf];omega⟩
   ·have e1:((x.1.kind:Int) == 1)=false:=by rw [aaF];omega
    have Yy:=hid (Ec (T:=T) (k:=k) false (by rw [oV.out];simp [h1]));clear h1;go_wp2_with fail;exact⟨⟨k+1,D,by omega,by go_num,hid (ah HL.out HL.out.size),hid (Dx.out.alloc _),(HOW.out.alloc _).mono (by omega),hid (HK.out.imp (fun j=>by rw [Yy.out j];simp))⟩,by simp [intOf];omega⟩
  ·obtain rfl:k=n:=by omega
   have i3:decide (k < k)=false:=aaV hkn;go_wp2_with fail;go_loopw [33] (fun i wr=>∃ (jn:Nat) (D:DataW Unit),jn≤m∧i=.int .i64 jn∧Hid (Below w.heap.size w wr)∧Hid (aC wr w.heap.size 26 #[.slice A k c,.slice B m d])∧wr.ownsMap Tryz.prog 3 (plainElem Tryz.prog 4) (w.heap.size+1) k D∧Hid (l5 D (fun j=>Fp T k j && !B_ T (its.take jn) j))) (fun i _=>m - (intOf i).toNat)
   case atStart=>exact⟨0,D,aaL _,rfl,HL,Dx,HOW.out,hid (HK.out.imp (fun j=>by simp [B_]))⟩
   case round =>
    clear HL Dx HOW HK;obtain⟨wp,rfl⟩:∃ wp:World,wp=wr:=⟨_,rfl⟩;obtain⟨jn,D2,hj,rfl,HL,Dx,hown,HK⟩:=hrel;have HOW:=hid hown;clear hown;have t0:=Dx.out.cell 0;have t1:=Dx.out.cell 1;have htl:=Dx.out.lt;by_cases hjl:jn < m
    ·obtain⟨q,hq⟩:∃ q,its[jn]? = some q:=⟨_,aaD (by rw [← U1.out];exact hjl)⟩;have hqb:=HII.out q (aaM hq);obtain⟨qn,rfl⟩:∃ qn:Nat,q=(qn:Int):=⟨q.toNat,by omega⟩;obtain⟨bi,oi,rfl,hbi,hci⟩:=HT.out.items.ex (by rw [← U1.out];omega);have cj:=(HL.out.cell (p:=⟨bi,oi+jn,none⟩) hbi).trans (hci jn qn hq);have HIN:=hid (show its.take (jn+1)=its.take jn ++ [(qn:Int)] by rw [List.take_add_one,hq];rfl);clear hci hq;obtain⟨b,o,rfl,hN⟩:=HT.out.nodes (by rw [← pF.out];omega);obtain⟨x,hx⟩:∃ x,xs[qn]? = some x:=jD (by rw [← pF.out];omega);have oV:=hid (show nd T qn=x.1 by rw [F9.out];exact l7 its hx);have c0:=(HL.out.cell (p:=⟨b,o+qn * 5,none⟩) hN.lt).trans (hN.c0 qn x hx);have c3:=(HL.out.cell (p:=⟨b,o+qn * 5+3,none⟩) hN.lt).trans (hN.c3 qn x hx);obtain⟨Ak,ck,hxe,hxl,hxk⟩:=hN.kid hx;have HKR:=hid (HRR.out x.1 (List.mem_map_of_mem (aaM hx)));rw [hxe] at c3
     have tK:=hid hxk;clear hN hx hxe hxk;obtain⟨nk,hnk⟩:∃ nk,nk=x.1.kids.length:=⟨_,rfl⟩;rw [← hnk] at c3 hxl
     have nu:=hid hnk;clear hnk;have i1:(0:Int)≤(qn:Int):=by omega
     have i2:(qn:Int) < (k:Int):=by omega
     have j0:(0:Int)≤(jn:Int):=by omega
     have j1:(jn:Int) < (m:Int):=by omega
     have j2:decide (jn < m)=true:=aaU hjl;by_cases rT:x.1.kind=40
     ·have e1:((x.1.kind:Int) != 40)=false:=by rw [rT];rfl
      have Lh:=hid (show ∀ j,B_ T (its.take (jn+1)) j=(B_ T (its.take jn) j || x.1.kids.contains j) from fun j=>by
       rw [HIN.out,Kk,aaQ,oV.out,rT];simp)
      clear rT;go_wp2_with fail;go_loopw [51] (fun i wr=>∃ (zn:Nat) (D:DataW Unit),zn≤nk∧i=.int .i64 zn∧Hid (Below w.heap.size w wr)∧Hid (aC wr w.heap.size 26 #[.slice (some ⟨b,o,none⟩) k c,.slice (some ⟨bi,oi,none⟩) m d])∧wr.ownsMap Tryz.prog 3 (plainElem Tryz.prog 4) (w.heap.size+1) k D∧Hid (l5 D (fun j=>(Fp T k j && !B_ T (its.take jn) j) && !(x.1.kids.take zn).contains j))) (fun i _=>nk - (intOf i).toNat)
      case atStart=>exact⟨0,D2,aaL _,rfl,HL,Dx,HOW.out,hid (HK.out.imp (fun j=>by simp))⟩
      case round =>
       clear HL Dx HOW HK;obtain⟨wq,rfl⟩:∃ wq:World,wq=wr:=⟨_,rfl⟩;obtain⟨zn,D3,hz,rfl,HL,Dx,hown,HK⟩:=hrel;have HOW:=hid hown;clear hown;by_cases hzl:zn < nk
       ·obtain⟨kq,hkq⟩:∃ kq,x.1.kids[zn]? = some kq:=⟨_,aaD (by rw [← nu.out];exact hzl)⟩;obtain⟨bk,ok,rfl,hbk,hck⟩:=tK.out.ex (by rw [← nu.out];omega);have cz:=(HL.out.cell (p:=⟨bk,ok+zn,none⟩) hbk).trans (hck zn kq hkq);have HZN:=hid (show x.1.kids.take (zn+1)=x.1.kids.take zn ++ [kq] by rw [List.take_add_one,hkq];rfl);have hkey:keyOf Tryz.prog 3 (.int .i64 kq)=some (.int .i64 kq):=keyOf_int_mk Tryz.underlying3 (wf_i64 (HKR.out.kids kq (aaM hkq)));clear hck hkq;have z0:(0:Int)≤(zn:Int):=by omega
        have z1:(zn:Int) < (nk:Int):=by omega
        have z2:decide (zn < nk)=true:=aaU hzl
        go_wp2_with (at_delete
                     refine wpList_delete_own _ rfl _ _ 124 3 rfl 4 Ur Tryz.underlying124 _ (w.heap.size+1) k D3 rfl HOW.out _ _ rfl hkey ?_;intro w1 hown1 hturn1)
        refine⟨⟨zn+1,_,by omega,by go_num,hid ?_,hid ?_,hown1,hid ?_⟩,by simp [intOf];omega⟩
        ·exact HL.out.grown hturn1.grown HL.out.size (fun b hb=>by injection hb with hb;omega)
        ·exact Dx.out.grown hturn1.grown (by simp)
        ·refine (HK.out.del kq).imp (fun j=>?_);rw [HZN.out];have h9:(x.1.kids.take zn ++ [kq]).contains j=((x.1.kids.take zn).contains j || j == kq):=by rw [aaI];simp
         rw [h9,Bool.not_or,Bool.and_assoc]
       ·have HKE:=hid (show l5 D3 (fun j=>Fp T k j && !B_ T (its.take (jn+1)) j) from HK.out.imp (fun j=>by
         rw [show x.1.kids.take zn=x.1.kids from aaN (by rw [← nu.out];omega),Lh.out j,Bool.not_or,Bool.and_assoc]))
        have z2:decide (zn < nk)=false:=aaV hzl;go_wp2_with fail;exact⟨⟨jn+1,D3,by omega,by go_num,HL,Dx,HOW.out,HKE⟩,by simp [intOf];omega⟩
     ·have e1:((x.1.kind:Int) != 40)=true:=by rw [bne_iff_ne];omega
      have Lh:=hid (show ∀ j,B_ T (its.take (jn+1)) j=B_ T (its.take jn) j from fun j=>by
       rw [HIN.out,Kk,aaQ,oV.out];simp [rT])
      clear rT;go_wp2_with fail;exact⟨⟨jn+1,D2,by omega,by go_num,HL,Dx,HOW.out,hid (HK.out.imp (fun j=>by rw [Lh.out j]))⟩,by simp [intOf];omega⟩
    ·have j2:decide (jn < m)=false:=aaV hjl
     have HSG:=hid (show Mist.signed T=decide (Maps.size D2=0) by
      have h9:=HK.out;rw [aaN (by rw [← U1.out];omega),← HTI.out] at h9
      rw [aaI,Ta,decide_eq_true_eq,h9.zero,Nh.out])
     go_wp2_with (at_len
                  refine wpList_len_own _ rfl _ 124 rfl 3 4 Tryz.underlying124 _ (w.heap.size+1) k D2 rfl HOW.out ?_)
     go_ret
     refine⟨bD ?_,HL.out⟩
     rw [HSG.out,aaI];simp
end Go.Proofs.YthepmkjggfijoaaGreatDoor
namespace Go.Proofs.YthepmkjggfijoaaGreatDoor
open Go.RowKit Mist
attribute [local go_sem] aj aH aS aB ak
theorem Ao (a0 a1 a2 a4:Value)(Ak:Option Addr)(nk ck:Nat)(hl:nk≤1000000)(w:World):Calls Tryz.prog 140 #[.agg #[a0,a1,a2,.slice Ak nk ck,a4]] w fun e w'=>e=.returned (.int .i64 ((nk:Int) - 2))∧Below w.heap.size w w':=by
 go_in
 go_wp2;go_ret;exact⟨rfl,ah (Below.refl _ _) (aaJ _)⟩
def nJ (T:Tr)(x:Nd):Prop:=x.kind=40→∃ k0 k1:Nat,x.kids=[(k0:Int),(k1:Int)]∧k0 < T.nodes.length∧k1 < T.nodes.length∧(-9999≤(nd T k0).n∧(nd T k0).n≤9999)∧(-9999≤(nd T k1).n∧(nd T k1).n≤9999)
theorem sized_41 (T:Tr)(A:Option Addr)(n c:Nat)(B:Option Addr)(m d:Nat)(x:Nd)(Ak:Option Addr)(nk ck:Nat)(hnk:nk=x.kids.length)(hl:nk≤1000000)(w:World)(hk:x.kind=41) :
  Calls Tryz.prog 97 #[.agg #[.slice A n c,.slice B m d],.agg #[.int .u8 x.kind,.string (aM x.text),.int .i64 x.n,.slice Ak nk ck,.int .i64 x.at_]] w fun e w'=>e=.returned (.bool (Mist.sized T x))∧Below w.heap.size w w':=by
 have e40:((x.kind:Int) == 40)=false:=by rw [hk];rfl
 have e41:((x.kind:Int) == 41)=true:=by rw [hk];rfl
 have e42:((x.kind:Int) == 42)=false:=by rw [hk];rfl
 have e33:((x.kind:Int) == 33)=false:=by rw [hk];rfl
 have e26:((x.kind:Int) == 26)=false:=by rw [hk];rfl
 have e46:((x.kind:Int) == 46)=false:=by rw [hk];rfl
 have HS:=hid (show Mist.sized T x=decide (nk≤6) by simp [Mist.sized,hk,hnk]);clear hk hnk;have HL:=hid (ah (ah (Below.refl w.heap.size w) (aaJ _) (o:=.cells #[.slice A n c,.slice B m d] 26)) (by simp) (o:=.cells #[.int .u8 x.kind,.string (aM x.text),.int .i64 x.n,.slice Ak nk ck,.int .i64 x.at_] 50));go_in
 go_wp2;go_ret;exact⟨bD (by rw [HS.out];rw [aaI];simp;omega),HL.out⟩
theorem sized_26 (T:Tr)(A:Option Addr)(n c:Nat)(B:Option Addr)(m d:Nat)(x:Nd)(Ak:Option Addr)(nk ck:Nat)(hnk:nk=x.kids.length)(hl:nk≤1000000)(w:World)(hk:x.kind=26) :
  Calls Tryz.prog 97 #[.agg #[.slice A n c,.slice B m d],.agg #[.int .u8 x.kind,.string (aM x.text),.int .i64 x.n,.slice Ak nk ck,.int .i64 x.at_]] w fun e w'=>e=.returned (.bool (Mist.sized T x))∧Below w.heap.size w w':=by
 have e40:((x.kind:Int) == 40)=false:=by rw [hk];rfl
 have e41:((x.kind:Int) == 41)=false:=by rw [hk];rfl
 have e42:((x.kind:Int) == 42)=false:=by rw [hk];rfl
 have e33:((x.kind:Int) == 33)=false:=by rw [hk];rfl
 have e26:((x.kind:Int) == 26)=true:=by rw [hk];rfl
 have e46:((x.kind:Int) == 46)=false:=by rw [hk];rfl
 have HS:=hid (show Mist.sized T x=decide (nk≤6) by simp [Mist.sized,hk,hnk]);clear hk hnk;have HL:=hid (ah (ah (Below.refl w.heap.size w) (aaJ _) (o:=.cells #[.slice A n c,.slice B m d] 26)) (by simp) (o:=.cells #[.int .u8 x.kind,.string (aM x.text),.int .i64 x.n,.slice Ak nk ck,.int .i64 x.at_] 50));go_in
 go_wp2;go_ret;exact⟨bD (by rw [HS.out];rw [aaI];simp;omega),HL.out⟩
theorem sized_33 (T:Tr)(A:Option Addr)(n c:Nat)(B:Option Addr)(m d:Nat)(x:Nd)(Ak:Option Addr)(nk ck:Nat)(hnk:nk=x.kids.length)(hl:nk≤1000000)(w:World)(hk:x.kind=33) :
  Calls Tryz.prog 97 #[.agg #[.slice A n c,.slice B m d],.agg #[.int .u8 x.kind,.string (aM x.text),.int .i64 x.n,.slice Ak nk ck,.int .i64 x.at_]] w fun e w'=>e=.returned (.bool (Mist.sized T x))∧Below w.heap.size w w':=by
 have e40:((x.kind:Int) == 40)=false:=by rw [hk];rfl
 have e41:((x.kind:Int) == 41)=false:=by rw [hk];rfl
 have e42:((x.kind:Int) == 42)=false:=by rw [hk];rfl
 have e33:((x.kind:Int) == 33)=true:=by rw [hk];rfl
 have e26:((x.kind:Int) == 26)=false:=by rw [hk];rfl
 have e46:((x.kind:Int) == 46)=false:=by rw [hk];rfl
 have HS:=hid (show Mist.sized T x=Mist.within x.n 1 6 by simp [Mist.sized,hk,hnk]);clear hk hnk;have HL:=hid (ah (ah (Below.refl w.heap.size w) (aaJ _) (o:=.cells #[.slice A n c,.slice B m d] 26)) (by simp) (o:=.cells #[.int .u8 x.kind,.string (aM x.text),.int .i64 x.n,.slice Ak nk ck,.int .i64 x.at_] 50));go_in
 go_wp2_with fail;refine (dU x.n 1 6 _ rfl _).mono ?_;rintro e w2⟨rfl,rfl⟩;go_wp2_with fail;go_ret;exact⟨bD HS.out.symm,HL.out⟩
theorem sized_46 (T:Tr)(A:Option Addr)(n c:Nat)(B:Option Addr)(m d:Nat)(x:Nd)(Ak:Option Addr)(nk ck:Nat)(hnk:nk=x.kids.length)(hl:nk≤1000000)(w:World)(hk:x.kind=46) :
  Calls Tryz.prog 97 #[.agg #[.slice A n c,.slice B m d],.agg #[.int .u8 x.kind,.string (aM x.text),.int .i64 x.n,.slice Ak nk ck,.int .i64 x.at_]] w fun e w'=>e=.returned (.bool (Mist.sized T x))∧Below w.heap.size w w':=by
 have e40:((x.kind:Int) == 40)=false:=by rw [hk];rfl
 have e41:((x.kind:Int) == 41)=false:=by rw [hk];rfl
 have e42:((x.kind:Int) == 42)=false:=by rw [hk];rfl
 have e33:((x.kind:Int) == 33)=false:=by rw [hk];rfl
 have e26:((x.kind:Int) == 26)=false:=by rw [hk];rfl
 have e46:((x.kind:Int) == 46)=true:=by rw [hk];rfl
 have HS:=hid (show Mist.sized T x=(!(x.n == 8) || decide (nk≤4)) by simp [Mist.sized,hk,hnk]);clear hk hnk;have HL:=hid (ah (ah (Below.refl w.heap.size w) (aaJ _) (o:=.cells #[.slice A n c,.slice B m d] 26)) (by simp) (o:=.cells #[.int .u8 x.kind,.string (aM x.text),.int .i64 x.n,.slice Ak nk ck,.int .i64 x.at_] 50));by_cases h8:x.n=8
 ·have a8:(x.n != 8)=false:=by simp [h8]
  have H8:=hid (show (x.n == 8)=true by simpa using h8);clear h8;go_in
  go_wp2;go_ret;exact⟨bD (by rw [HS.out,H8.out];rw [aaI];simp;omega),HL.out⟩
 ·have a8:(x.n != 8)=true:=by simpa using h8
  have H8:=hid (show (x.n == 8)=false by simpa using h8);clear h8;go_in
  go_wp2;go_ret;exact⟨bD (by rw [HS.out,H8.out];rfl),HL.out⟩
theorem sized_42 (T:Tr)(A:Option Addr)(n c:Nat)(B:Option Addr)(m d:Nat)(x:Nd)(Ak:Option Addr)(nk ck:Nat)(hnk:nk=x.kids.length)(hl:nk≤1000000)(w:World)(hk:x.kind=42) :
  Calls Tryz.prog 97 #[.agg #[.slice A n c,.slice B m d],.agg #[.int .u8 x.kind,.string (aM x.text),.int .i64 x.n,.slice Ak nk ck,.int .i64 x.at_]] w fun e w'=>e=.returned (.bool (Mist.sized T x))∧Below w.heap.size w w':=by
 have e40:((x.kind:Int) == 40)=false:=by rw [hk];rfl
 have e41:((x.kind:Int) == 41)=false:=by rw [hk];rfl
 have e42:((x.kind:Int) == 42)=true:=by rw [hk];rfl
 have e33:((x.kind:Int) == 33)=false:=by rw [hk];rfl
 have e26:((x.kind:Int) == 26)=false:=by rw [hk];rfl
 have e46:((x.kind:Int) == 46)=false:=by rw [hk];rfl
 have HS:=hid (show Mist.sized T x=(decide ((nk:Int) - 2≤4) && decide (x.n≤8)) by simp [Mist.sized,hk,hnk]);clear hk hnk;have HL:=hid (ah (ah (Below.refl w.heap.size w) (aaJ _) (o:=.cells #[.slice A n c,.slice B m d] 26)) (by simp) (o:=.cells #[.int .u8 x.kind,.string (aM x.text),.int .i64 x.n,.slice Ak nk ck,.int .i64 x.at_] 50));by_cases h6:(nk:Int) - 2≤4
 ·have a6:decide ((nk:Int) - 2≤4)=true:=aaU h6;by_cases h8:x.n≤8
  ·have a8:decide (x.n≤8)=true:=aaU h8;have HS2:=hid (show Mist.sized T x=true by rw [HS.out,a6,a8];rfl);go_in
   go_wp2_with fail;refine (Ao _ _ _ _ Ak nk ck hl _).mono ?_;rintro e w2⟨rfl,hb⟩;have Dw:=hid (show aC w2 (w.heap.size+1) 50 #[.int .u8 x.kind,.string (aM x.text),.int .i64 x.n,.slice Ak nk ck,.int .i64 x.at_] from aC.below (by repeat (first|(with_reducible exact aC.new _ _ _)|(refine (show ∀ {W:World} {cs:Array Value} {T:TypeId} {k:Nat},W.heap.size=k→aC (W.alloc (.cells cs T)) k T cs from fun h=>by subst h;exact aC.new _ _ _) (by simp)))) hb (by simp));have n2:=Dw.out.cell 2;have HL2:=hid (HL.out.trans (hb.mono (by simp;omega)));clear hb;go_wp2_with fail;go_ret;exact⟨bD HS2.out.symm,HL2.out⟩
  ·have a8:decide (x.n≤8)=false:=aaV h8;have HS2:=hid (show Mist.sized T x=false by rw [HS.out,a6,a8];rfl);go_in
   go_wp2_with fail;refine (Ao _ _ _ _ Ak nk ck hl _).mono ?_;rintro e w2⟨rfl,hb⟩;have Dw:=hid (show aC w2 (w.heap.size+1) 50 #[.int .u8 x.kind,.string (aM x.text),.int .i64 x.n,.slice Ak nk ck,.int .i64 x.at_] from aC.below (by repeat (first|(with_reducible exact aC.new _ _ _)|(refine (show ∀ {W:World} {cs:Array Value} {T:TypeId} {k:Nat},W.heap.size=k→aC (W.alloc (.cells cs T)) k T cs from fun h=>by subst h;exact aC.new _ _ _) (by simp)))) hb (by simp));have n2:=Dw.out.cell 2;have HL2:=hid (HL.out.trans (hb.mono (by simp;omega)));clear hb;go_wp2_with fail;go_ret;exact⟨bD HS2.out.symm,HL2.out⟩
 ·have a6:decide ((nk:Int) - 2≤4)=false:=aaV h6;have HS2:=hid (show Mist.sized T x=false by rw [HS.out,a6];rfl);go_in
  go_wp2_with fail;refine (Ao _ _ _ _ Ak nk ck hl _).mono ?_;rintro e w2⟨rfl,hb⟩;have HL2:=hid (HL.out.trans (hb.mono (by simp;omega)));clear hb;go_wp2_with fail;go_ret;exact⟨bD HS2.out.symm,HL2.out⟩
theorem PD (T:Tr)(A:Option Addr)(n c:Nat)(B:Option Addr)(m d:Nat)(x:Nd)(Ak:Option Addr)(nk ck:Nat)(hnk:nk=x.kids.length)(hl:nk≤1000000)(w:World)(rT:¬ x.kind=40)(h41:¬ x.kind=41)(h42:¬ x.kind=42)(h33:¬ x.kind=33)(h26:¬ x.kind=26)(h46:¬ x.kind=46) :
  Calls Tryz.prog 97 #[.agg #[.slice A n c,.slice B m d],.agg #[.int .u8 x.kind,.string (aM x.text),.int .i64 x.n,.slice Ak nk ck,.int .i64 x.at_]] w fun e w'=>e=.returned (.bool (Mist.sized T x))∧Below w.heap.size w w':=by
 have e40:((x.kind:Int) == 40)=false:=by rw [aaF];omega
 have e41:((x.kind:Int) == 41)=false:=by rw [aaF];omega
 have e42:((x.kind:Int) == 42)=false:=by rw [aaF];omega
 have e33:((x.kind:Int) == 33)=false:=by rw [aaF];omega
 have e26:((x.kind:Int) == 26)=false:=by rw [aaF];omega
 have e46:((x.kind:Int) == 46)=false:=by rw [aaF];omega
 have HS:=hid (show Mist.sized T x=true by simp [Mist.sized,rT,h41,h42,h33,h26,h46]);clear rT h41 h42 h33 h26 h46 hnk;have HL:=hid (ah (ah (Below.refl w.heap.size w) (aaJ _) (o:=.cells #[.slice A n c,.slice B m d] 26)) (by simp) (o:=.cells #[.int .u8 x.kind,.string (aM x.text),.int .i64 x.n,.slice Ak nk ck,.int .i64 x.at_] 50));go_in
 go_wp2;go_ret;exact⟨bD HS.out.symm,HL.out⟩
theorem sized_40 (xs:List NV)(its:List Int)(b o n c:Nat)(B:Option Addr)(m d:Nat)(x:Nd)(Ak:Option Addr)(nk ck:Nat)(w:World)(hN:oZ w b o xs)(hn:n=xs.length)(hk:x.kind=40)(hC:nJ ⟨aA xs,its⟩ x)(hnk:nk=x.kids.length)(hI:IntsIn w Ak x.kids) :
  Calls Tryz.prog 97 #[.agg #[.slice (some ⟨b,o,none⟩) n c,.slice B m d],.agg #[.int .u8 x.kind,.string (aM x.text),.int .i64 x.n,.slice Ak nk ck,.int .i64 x.at_]] w fun e w'=>e=.returned (.bool (Mist.sized ⟨aA xs,its⟩ x))∧Below w.heap.size w w':=by
 obtain⟨k0,k1,hks,h0,h1,b0,b1⟩:=hC hk;rw [aD,← hn] at h0 h1
 obtain⟨y0,hy0⟩:=jD (xs:=xs) (i:=k0) (by omega);obtain⟨y1,hy1⟩:=jD (xs:=xs) (i:=k1) (by omega);rw [l7 its hy0] at b0
 rw [l7 its hy1] at b1
 obtain⟨a0,ha0⟩:∃ a,a=y0.1.n:=⟨_,rfl⟩;obtain⟨a1,ha1⟩:∃ a,a=y1.1.n:=⟨_,rfl⟩;rw [← ha0] at b0
 rw [← ha1] at b1
 have HS:=hid (show Mist.sized ⟨aA xs,its⟩ x=Mist.within (a1 - a0+1) 1 12 by
  simp only [Mist.sized,hk,if_true];rw [hks];simp only [List.getD_cons_succ,List.getD_cons_zero,aaQ];rw [l7 its hy0,l7 its hy1,ha0,ha1])
 have c0:=hN.c2 k0 y0 hy0;have c1:=hN.c2 k1 y1 hy1;rw [← ha0] at c0
 rw [← ha1] at c1
 obtain⟨bk,ok,rfl,hbk,hck⟩:=hI.ex (by rw [hks];simp);have d0:=hck 0 k0 (by rw [hks];rfl);have d1:=hck 1 k1 (by rw [hks];rfl);rw [Nat.add_zero] at d0
 have hnk2:nk=2:=by rw [hnk,hks];rfl
 subst hnk2;have hbl:=hN.lt;have e40:((x.kind:Int) == 40)=true:=by rw [hk];rfl
 have e41:((x.kind:Int) == 41)=false:=by rw [hk];rfl
 have e42:((x.kind:Int) == 42)=false:=by rw [hk];rfl
 have e33:((x.kind:Int) == 33)=false:=by rw [hk];rfl
 have e26:((x.kind:Int) == 26)=false:=by rw [hk];rfl
 have e46:((x.kind:Int) == 46)=false:=by rw [hk];rfl
 clear hk hnk hck hks hy0 hy1 ha0 ha1 hN hI hn hC;have i0:(0:Int)≤(k0:Int):=by omega
 have i1:(k0:Int) < (n:Int):=by omega
 have j0:(0:Int)≤(k1:Int):=by omega
 have j1:(k1:Int) < (n:Int):=by omega
 have HL:=hid (ah (ah (Below.refl w.heap.size w) (aaJ _) (o:=.cells #[.slice (some ⟨b,o,none⟩) n c,.slice B m d] 26)) (by simp) (o:=.cells #[.int .u8 x.kind,.string (aM x.text),.int .i64 x.n,.slice (some ⟨bk,ok,none⟩) 2 ck,.int .i64 x.at_] 50));go_in
 go_wp2_with fail;go_quiet (fail)
 go_wp2_with fail;refine (dU _ 1 12 _ rfl _).mono ?_;rintro e w2⟨rfl,rfl⟩;go_wp2_with fail;go_ret;exact⟨bD HS.out.symm,gU HL.out _⟩
theorem Xa (xs:List NV)(its:List Int)(A:Option Addr)(n c:Nat)(B:Option Addr)(m d:Nat)(x:Nd)(Ak:Option Addr)(nk ck:Nat)(w:World)(hT:mq w A B xs its)(hn:n=xs.length)(hC:nJ ⟨aA xs,its⟩ x)(hnk:nk=x.kids.length)(hl:nk≤1000000)(hI:IntsIn w Ak x.kids) :
  Calls Tryz.prog 97 #[.agg #[.slice A n c,.slice B m d],.agg #[.int .u8 x.kind,.string (aM x.text),.int .i64 x.n,.slice Ak nk ck,.int .i64 x.at_]] w fun e w'=>e=.returned (.bool (Mist.sized ⟨aA xs,its⟩ x))∧Below w.heap.size w w':=by
 by_cases rT:x.kind=40
 ·obtain⟨k0,k1,_,h0,_⟩:=hC rT;rw [aD] at h0
  obtain⟨b,o,rfl,hN⟩:=hT.nodes (by omega);exact sized_40 xs its b o n c B m d x Ak nk ck w hN hn rT hC hnk hI
 by_cases h41:x.kind=41
 ·exact sized_41 _ A n c B m d x Ak nk ck hnk hl w h41
 by_cases h42:x.kind=42
 ·exact sized_42 _ A n c B m d x Ak nk ck hnk hl w h42
 by_cases h33:x.kind=33
 ·exact sized_33 _ A n c B m d x Ak nk ck hnk hl w h33
 by_cases h26:x.kind=26
 ·exact sized_26 _ A n c B m d x Ak nk ck hnk hl w h26
 by_cases h46:x.kind=46
 ·exact sized_46 _ A n c B m d x Ak nk ck hnk hl w h46
 exact PD _ A n c B m d x Ak nk ck hnk hl w rT h41 h42 h33 h26 h46
end Go.Proofs.YthepmkjggfijoaaGreatDoor
