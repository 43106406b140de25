/-
  PARTS of the proof: N16.
-/
import Derived.Deep.OwnRows
import Derived.StillTailTactics
import Derived.Test.YthepmkjggfijoaaGreatDoorB20
set_option linter.all false
set_option maxRecDepth 100000
set_option maxHeartbeats 4000000
open Go.Lib (hid)
namespace Go.Proofs.YthepmkjggfijoaaGreatDoor
open Go.RowKit Mist
attribute [local go_sem] ofL_extract ofL_size ofL_get ofL_bytes ofL_append
def iZ (D:List Int):Array Value:=(D.map (Value.int .i64)).toArray
theorem iZ_set (D:List Int) (j:Nat) (v:Int):(iZ D).setIfInBounds j (.int .i64 v)=iZ (D.set j v):=by
 unfold iZ;rw [List.setIfInBounds_toArray,List.map_set]
theorem iZ_get (D:List Int) (j:Nat) (h:j < D.length):(iZ D)[j]? = some (.int .i64 (D.getD j 0)):=by
 unfold iZ
 rw [List.getElem?_toArray,List.getElem?_map,List.getElem?_eq_getElem h]
 simp [List.getD_eq_getElem?_getD,List.getElem?_eq_getElem h]
theorem made_zeroZ (n:Nat):madeCells #[.int .i64 0] n=iZ (List.replicate n 0):=by
 unfold madeCells iZ
 apply Array.ext
 ·simp
 ·intro i h1 h2
  simp [Nat.mod_one]
theorem getZ_set (D:List Int) (i j:Nat) (v:Int):(D.set i v).getD j 0=if i=j∧j < D.length then v else D.getD j 0:=by
 simp only [List.getD_eq_getElem?_getD,List.getElem?_set]
 by_cases h:i=j
 ·subst h
  by_cases h2:i < D.length
  ·simp [h2]
  ·simp [h2]
 ·simp [h]
def pKids (i:Int):List Int→List Int→List Int
 | [],P=>P
 | k :: r,P=>pKids i r (P.set k.toNat i)
def pStep (ns:List Nd) (i:Nat) (P:List Int):List Int:=pKids (i:Int) ((ns[i]?.map Nd.kids).getD []) (P.set i (-1))
def pRun (ns:List Nd):Nat→List Int
 | 0=>List.replicate ns.length 0
 | i+1=>pStep ns i (pRun ns i)
def parentsOf (ns:List Nd):List Int:=pRun ns ns.length
theorem pKids_snoc (i:Int):∀ (ks:List Int) (k:Int) (P:List Int),pKids i (ks ++ [k]) P=(pKids i ks P).set k.toNat i
 | [],_,_=>rfl
 | a :: r,k,P=>by rw [List.cons_append,pKids,pKids_snoc i r k];rfl
theorem pKids_len (i:Int):∀ (ks P:List Int),(pKids i ks P).length=P.length
 | [],_=>rfl
 | k :: r,P=>by rw [pKids,pKids_len i r,List.length_set]
theorem pRun_len (ns:List Nd):∀ i,(pRun ns i).length=ns.length
 | 0=>by simp [pRun]
 | i+1=>by rw [pRun,pStep,pKids_len,List.length_set,pRun_len ns i]
structure WorkAt (w:World) (wb:Nat) (tv iv:Value) (n:Nat) (S P:List Int):Prop where
 ex:∃ sb pb,Blk w wb 74 #[tv,iv,.slice (some ⟨sb,0,none⟩) n n,.slice (some ⟨pb,0,none⟩) n n]∧Blk w sb 3 (iZ S)∧Blk w pb 3 (iZ P)∧sb ≠ pb
theorem WorkAt.below {w w':World} {wb:Nat} {tv iv:Value} {n:Nat} {S P:List Int} (h:WorkAt w wb tv iv n S P) (hb:Below w.heap.size w w'):WorkAt w' wb tv iv n S P:=by
 obtain⟨sb,pb,h1,h2,h3,h4⟩:=h
 exact⟨sb,pb,h1.below hb h1.lt,h2.below hb h2.lt,h3.below hb h3.lt,h4⟩
structure SzIs (ns:List Nd) (sz:Nat→Nat):Prop where
 eq:∀ (i:Nat) x,ns[i]? = some x→sz i=1+(x.kids.map fun k=>sz k.toNat).sum
 le:∀ i,sz i≤1000000
theorem blk_topW {W:World} {cs:Array Value} {T:TypeId} {k:Nat} (hk:W.heap.size=k):Blk (W.alloc (.cells cs T)) k T cs:=by subst hk;exact Blk.new W T cs
theorem working_any (A B:Option Addr) (c m d:Nat) (xs:List NV) (its:List Int) (sz:Nat→Nat) (w:World) (hT:TAt w A B xs its) (hn:xs.length≤100000) (hW:Wf (nds xs)) (hS:SzIs (nds xs) sz) :
  Calls Tryz.prog 66 #[.agg #[.slice A xs.length c,.slice B m d]] w fun e w'=>Below w.heap.size w w'∧∃ wb S,e=.returned (.pointer (some ⟨wb,0,none⟩))∧WorkAt w' wb (.slice A xs.length c) (.slice B m d) xs.length S (parentsOf (nds xs))∧w.heap.size≤wb∧S.length=xs.length∧∀ i,i < xs.length→S.getD i 0=(sz i:Int):=by
 obtain⟨n,hnn⟩:∃ n,n=xs.length:=⟨_,rfl⟩
 rw [← hnn] at hn ⊢
 have HNN:=hid hnn;clear hnn
 have HT:=hid hT;clear hT
 have HW:=hid hW;clear hW
 have HS:=hid hS;clear hS
 have hmk:=fun W=>run_make_row' (P:=Tryz.prog) 24 3 (.int .i64 0) 8 Tryz.underlying24 int_info rfl .i64 .i64 n (by omega) (by omega) W
 rw [made_zeroZ] at hmk
 go_enter Tryz.func66,Tryz.ntmps66
 go_wp2_with fail
 go_region
 ·go_wp2_with fail
  have HT3:=hid (show Blk (((((w.alloc (.cells #[.slice A n c,.slice B m d] 26)).alloc (.cells (iZ (List.replicate n 0)) 3)).alloc (.cells (iZ (List.replicate n 0)) 3)).alloc (.cells #[.slice A n c,.slice B m d,.slice (some ⟨w.heap.size+1,0,none⟩) n n,.slice (some ⟨w.heap.size+1+1,0,none⟩) n n] 74)).drew) w.heap.size 26 #[.slice A n c,.slice B m d] from by repeat (first | (with_reducible exact Blk.new _ _ _) | ((with_reducible refine blk_topW ?_) <;> (first | rfl | (· simp))) | (with_reducible refine Blk.alloc ?_ _) | (with_reducible refine Blk.drew ?_)))
  have HW3:=hid (show Blk (((((w.alloc (.cells #[.slice A n c,.slice B m d] 26)).alloc (.cells (iZ (List.replicate n 0)) 3)).alloc (.cells (iZ (List.replicate n 0)) 3)).alloc (.cells #[.slice A n c,.slice B m d,.slice (some ⟨w.heap.size+1,0,none⟩) n n,.slice (some ⟨w.heap.size+1+1,0,none⟩) n n] 74)).drew) (w.heap.size+1+1+1) 74 #[.slice A n c,.slice B m d,.slice (some ⟨w.heap.size+1,0,none⟩) n n,.slice (some ⟨w.heap.size+1+1,0,none⟩) n n] from by repeat (first | (with_reducible exact Blk.new _ _ _) | ((with_reducible refine blk_topW ?_) <;> (first | rfl | (· simp))) | (with_reducible refine Blk.alloc ?_ _) | (with_reducible refine Blk.drew ?_)))
  have HS3:=hid (show Blk (((((w.alloc (.cells #[.slice A n c,.slice B m d] 26)).alloc (.cells (iZ (List.replicate n 0)) 3)).alloc (.cells (iZ (List.replicate n 0)) 3)).alloc (.cells #[.slice A n c,.slice B m d,.slice (some ⟨w.heap.size+1,0,none⟩) n n,.slice (some ⟨w.heap.size+1+1,0,none⟩) n n] 74)).drew) (w.heap.size+1) 3 (iZ (List.replicate n 0)) from by repeat (first | (with_reducible exact Blk.new _ _ _) | ((with_reducible refine blk_topW ?_) <;> (first | rfl | (· simp))) | (with_reducible refine Blk.alloc ?_ _) | (with_reducible refine Blk.drew ?_)))
  have HP3:=hid (show Blk (((((w.alloc (.cells #[.slice A n c,.slice B m d] 26)).alloc (.cells (iZ (List.replicate n 0)) 3)).alloc (.cells (iZ (List.replicate n 0)) 3)).alloc (.cells #[.slice A n c,.slice B m d,.slice (some ⟨w.heap.size+1,0,none⟩) n n,.slice (some ⟨w.heap.size+1+1,0,none⟩) n n] 74)).drew) (w.heap.size+1+1) 3 (iZ (List.replicate n 0)) from by repeat (first | (with_reducible exact Blk.new _ _ _) | ((with_reducible refine blk_topW ?_) <;> (first | rfl | (· simp))) | (with_reducible refine Blk.alloc ?_ _) | (with_reducible refine Blk.drew ?_)))
  have HL3:=hid (show Below w.heap.size w (((((w.alloc (.cells #[.slice A n c,.slice B m d] 26)).alloc (.cells (iZ (List.replicate n 0)) 3)).alloc (.cells (iZ (List.replicate n 0)) 3)).alloc (.cells #[.slice A n c,.slice B m d,.slice (some ⟨w.heap.size+1,0,none⟩) n n,.slice (some ⟨w.heap.size+1+1,0,none⟩) n n] 74)).drew) from by repeat (first | (with_reducible exact Below.refl _ _) | (with_reducible refine balloc ?_ ?_) | (with_reducible refine Below.drew ?_) | omega | (· simp) | (· (simp;omega))))
  clear hmk
  go_loopw [22] (fun i wr=>∃ (k:Nat) (S P:List Int),k≤n∧i=.int .i64 k∧Hid (Below w.heap.size w wr)∧Hid (Blk wr w.heap.size 26 #[.slice A n c,.slice B m d])∧Hid (Blk wr (w.heap.size+1+1+1) 74 #[.slice A n c,.slice B m d,.slice (some ⟨w.heap.size+1,0,none⟩) n n,.slice (some ⟨w.heap.size+1+1,0,none⟩) n n])∧Hid (Blk wr (w.heap.size+1) 3 (iZ S))∧Hid (Blk wr (w.heap.size+1+1) 3 (iZ P))∧Hid (S.length=n)∧Hid (P=pRun (nds xs) k)∧Hid (∀ j,j < k→S.getD j 0=(sz j:Int))) (fun i _=>n - (intOf i).toNat)
  case atStart=>exact⟨0,List.replicate n 0,List.replicate n 0,Nat.zero_le _,rfl,HL3,HT3,HW3,HS3,HP3,hid (by simp),hid (by rw [pRun,nds_len,← HNN.out]),hid (fun j h=>by omega)⟩
  case round =>
   clear HL3 HT3 HW3 HS3 HP3
   obtain⟨wo,rfl⟩:∃ wo:World,wo=wr:=⟨_,rfl⟩
   obtain⟨k,S,P,hk,rfl,HL,HTB,HWB,HSB,HPB,HSL,HPR,HSZ⟩:=hrel
   have t0:=HTB.out.cell 0
   have t1:=HTB.out.cell 1
   have g0:=HWB.out.cell 0
   have g1:=HWB.out.cell 1
   have g2:=HWB.out.cell 2
   have g3:=HWB.out.cell 3
   have htl:=HTB.out.lt
   have hwl:=HWB.out.lt
   have hsl:=HSB.out.lt
   have hpl:=HPB.out.lt
   by_cases hkn:k < n
   ·obtain⟨b,o,rfl,hN⟩:=HT.out.nodes (by rw [← HNN.out];omega)
    obtain⟨x,hx⟩:∃ x,xs[k]? = some x:=xs_at (by rw [← HNN.out];exact hkn)
    have c0:=(HL.out.cell (p:=⟨b,o+k * 5,none⟩) hN.lt).trans (hN.c0 k x hx)
    have c1:=(HL.out.cell (p:=⟨b,o+k * 5+1,none⟩) hN.lt).trans (hN.c1 k x hx)
    have c2:=(HL.out.cell (p:=⟨b,o+k * 5+2,none⟩) hN.lt).trans (hN.c2 k x hx)
    have c3:=(HL.out.cell (p:=⟨b,o+k * 5+3,none⟩) hN.lt).trans (hN.c3 k x hx)
    have c4:=(HL.out.cell (p:=⟨b,o+k * 5+4,none⟩) hN.lt).trans (hN.c4 k x hx)
    obtain⟨Ak,ck,hxe,hxl,hxk⟩:=hN.kid hx
    rw [hxe] at c3
    have HXK:=hid hxk
    have HX:=hid hx
    clear hN hx hxe hxk
    obtain⟨nk,hnk⟩:∃ nk,nk=x.1.kids.length:=⟨_,rfl⟩
    rw [← hnk] at c3 hxl
    have HNK:=hid hnk;clear hnk
    have i1:(0:Int)≤(k:Int):=by omega
    have i2:(k:Int) < (n:Int):=by omega
    have i3:decide (k < n)=true:=decide_eq_true hkn
    have s0:wo.cell? ⟨w.heap.size+1,k,none⟩=some (.int .i64 (S.getD k 0)):=by rw [HSB.out.cell k];exact iZ_get S k (by rw [HSL.out];exact hkn)
    have p0:wo.cell? ⟨w.heap.size+1+1,k,none⟩=some (.int .i64 (P.getD k 0)):=by rw [HPB.out.cell k];exact iZ_get P k (by rw [HPR.out,pRun_len,nds_len,← HNN.out];exact hkn)
    have sf:=HSB.out.frozen k
    have pf:=HPB.out.frozen k
    obtain⟨sv,hsv⟩:∃ v,v=S.getD k 0:=⟨_,rfl⟩
    obtain⟨pv,hpv⟩:∃ v,v=P.getD k 0:=⟨_,rfl⟩
    rw [← hsv] at s0
    rw [← hpv] at p0
    clear hsv hpv
    go_wp2_with fail
    go_region
    go_wp2_with fail
    have hne1:(w.heap.size+1) ≠ (w.heap.size+1+1):=by omega
    have hne2:(w.heap.size+1+1+1) ≠ (w.heap.size+1):=by omega
    have hne3:(w.heap.size+1+1+1) ≠ (w.heap.size+1+1):=by omega
    have HT4:=hid ((((HTB.out.far (p:=⟨w.heap.size+1,k,none⟩) (show w.heap.size ≠ w.heap.size+1 by omega) (.int .i64 1)).far (p:=⟨w.heap.size+1+1,k,none⟩) (show w.heap.size ≠ w.heap.size+1+1 by omega) (.int .i64 (-1))).alloc (.cells #[.int .u8 x.1.kind,.string (ofL x.1.text),.int .i64 x.1.n,.slice Ak nk ck,.int .i64 x.1.at_] 50)).drew)
    have HW4:=hid ((((HWB.out.far (p:=⟨w.heap.size+1,k,none⟩) hne2 (.int .i64 1)).far (p:=⟨w.heap.size+1+1,k,none⟩) hne3 (.int .i64 (-1))).alloc (.cells #[.int .u8 x.1.kind,.string (ofL x.1.text),.int .i64 x.1.n,.slice Ak nk ck,.int .i64 x.1.at_] 50)).drew)
    have HS4:=hid ((((HSB.out.set_ k (.int .i64 1)).far (p:=⟨w.heap.size+1+1,k,none⟩) hne1 (.int .i64 (-1))).alloc (.cells #[.int .u8 x.1.kind,.string (ofL x.1.text),.int .i64 x.1.n,.slice Ak nk ck,.int .i64 x.1.at_] 50)).drew)
    have HP4:=hid ((((HPB.out.far (p:=⟨w.heap.size+1,k,none⟩) (Ne.symm hne1) (.int .i64 1)).set_ k (.int .i64 (-1))).alloc (.cells #[.int .u8 x.1.kind,.string (ofL x.1.text),.int .i64 x.1.n,.slice Ak nk ck,.int .i64 x.1.at_] 50)).drew)
    rw [iZ_set] at HS4 HP4
    have HN4:=hid (((blk_topW (W:=(wo.setCell ⟨w.heap.size+1,k,none⟩ (.int .i64 1)).setCell ⟨w.heap.size+1+1,k,none⟩ (.int .i64 (-1))) (T:=50) (cs:=#[.int .u8 x.1.kind,.string (ofL x.1.text),.int .i64 x.1.n,.slice Ak nk ck,.int .i64 x.1.at_]) (k:=wo.heap.size) (by simp))).drew)
    have HL4:=hid (Below.drew (balloc (bset (bset HL.out (show w.heap.size≤w.heap.size+1 by omega) (i:=k) (u:=.int .i64 1)) (show w.heap.size≤w.heap.size+1+1 by omega) (i:=k) (u:=.int .i64 (-1))) (by simp;omega) (o:=.cells #[.int .u8 x.1.kind,.string (ofL x.1.text),.int .i64 x.1.n,.slice Ak nk ck,.int .i64 x.1.at_] 50)))
    have HKS:=hid (HS.out.eq k x.1 (nds_get HX.out))
    have HKW:=hid (show ∀ q ∈ x.1.kids,0≤q∧q < (k:Int) from HW.out k x.1 (nds_get HX.out))
    have hzk:=HS.out.le k
    generalize (((wo.setCell ⟨w.heap.size+1,k,none⟩ (.int .i64 1)).setCell ⟨w.heap.size+1+1,k,none⟩ (.int .i64 (-1))).alloc (.cells #[.int .u8 x.1.kind,.string (ofL x.1.text),.int .i64 x.1.n,.slice Ak nk ck,.int .i64 x.1.at_] 50)).drew=w4 at HT4 HW4 HS4 HP4 HN4 HL4 ⊢
    have n3:=HN4.out.cell 3
    go_wp2_with fail
    go_loopw [42] (fun i wr=>∃ (jn:Nat) (S' P':List Int),jn≤nk∧i=.int .i64 jn∧Hid (Below w.heap.size w wr)∧Hid (Blk wr w.heap.size 26 #[.slice (some ⟨b,o,none⟩) n c,.slice B m d])∧Hid (Blk wr (w.heap.size+1+1+1) 74 #[.slice (some ⟨b,o,none⟩) n c,.slice B m d,.slice (some ⟨w.heap.size+1,0,none⟩) n n,.slice (some ⟨w.heap.size+1+1,0,none⟩) n n])∧Hid (Blk wr (w.heap.size+1) 3 (iZ S'))∧Hid (Blk wr (w.heap.size+1+1) 3 (iZ P'))∧Hid (S'.length=n)∧Hid (P'=pKids (k:Int) (x.1.kids.take jn) (P.set k (-1)))∧Hid (∀ j,j < k→S'.getD j 0=(sz j:Int))∧Hid (S'.getD k 0=((1+((x.1.kids.take jn).map fun q=>sz q.toNat).sum:Nat):Int))) (fun i _=>nk - (intOf i).toNat)
    case atStart=>exact⟨0,S.set k 1,P.set k (-1),Nat.zero_le _,rfl,HL4,HT4,HW4,HS4,HP4,hid (by rw [List.length_set];exact HSL.out),hid rfl,hid (fun j hj=>by rw [getZ_set,if_neg (by omega)];exact HSZ.out j hj),hid (by rw [getZ_set,if_pos ⟨rfl,by rw [HSL.out];exact hkn⟩];simp)⟩
    case round =>
     clear HT4 HW4 HS4 HP4 HN4 HL4
     obtain⟨wq,rfl⟩:∃ wq:World,wq=wr:=⟨_,rfl⟩
     obtain⟨jn,S',P',hj,rfl,HL5,HT5,HW5,HS5,HP5,HSL5,HPR5,HSZ5,HSK5⟩:=hrel
     have g0:=HW5.out.cell 0
     have g2:=HW5.out.cell 2
     have g3:=HW5.out.cell 3
     by_cases hjl:jn < nk
     ·obtain⟨kq,hkq⟩:∃ kq,x.1.kids[jn]? = some kq:=⟨_,List.getElem?_eq_getElem (by rw [← HNK.out];exact hjl)⟩
      have hqb:=HKW.out kq (List.mem_of_getElem? hkq)
      obtain⟨qn,rfl⟩:∃ qn:Nat,kq=(qn:Int):=⟨kq.toNat,by omega⟩
      obtain⟨bk,ok,rfl,hbk,hck⟩:=HXK.out.ex (by rw [← HNK.out];omega)
      have cj:=(HL5.out.cell (p:=⟨bk,ok+jn,none⟩) hbk).trans (hck jn qn hkq)
      have HTK:=hid (show x.1.kids.take (jn+1)=x.1.kids.take jn ++ [(qn:Int)] by rw [List.take_add_one,hkq];rfl)
      clear hck hkq
      have j0:(0:Int)≤(jn:Int):=by omega
      have j1:(jn:Int) < (nk:Int):=by omega
      have j2:decide (jn < nk)=true:=decide_eq_true hjl
      have q0:(0:Int)≤(qn:Int):=by omega
      have q1:(qn:Int) < (n:Int):=by omega
      obtain⟨part,hpart⟩:∃ p:Nat,p=1+((x.1.kids.take jn).map fun q=>sz q.toNat).sum:=⟨_,rfl⟩
      have hsum:part+sz qn≤sz k:=by
       have h9:=HKS.out
       have h8:x.1.kids=x.1.kids.take (jn+1) ++ x.1.kids.drop (jn+1):=(List.take_append_drop _ _).symm
       rw [h8,List.map_append,List.sum_append,HTK.out,List.map_append,List.sum_append] at h9
       simp at h9
       simp at hpart
       omega
      have s0:wq.cell? ⟨w.heap.size+1,k,none⟩=some (.int .i64 (part:Int)):=by rw [HS5.out.cell k,iZ_get S' k (by rw [HSL5.out];exact hkn),HSK5.out,hpart]
      have s1:wq.cell? ⟨w.heap.size+1,qn,none⟩=some (.int .i64 (sz qn:Int)):=by rw [HS5.out.cell qn,iZ_get S' qn (by rw [HSL5.out];omega),HSZ5.out qn (by omega)]
      have sf:=HS5.out.frozen k
      have pl:P'.length=n:=by rw [HPR5.out,pKids_len,List.length_set,HPR.out,pRun_len,nds_len,← HNN.out]
      have p0:wq.cell? ⟨w.heap.size+1+1,qn,none⟩=some (.int .i64 (P'.getD qn 0)):=by rw [HP5.out.cell qn,iZ_get P' qn (by rw [pl];omega)]
      have pf:=HP5.out.frozen qn
      have HPT:=hid hpart;clear hpart
      obtain⟨pv2,hpv2⟩:∃ v,v=P'.getD qn 0:=⟨_,rfl⟩
      rw [← hpv2] at p0
      clear hpv2 pl
      have hp1:part≤1000000:=by omega
      have hz1:sz qn≤1000000:=by omega
      obtain⟨zq,hzq⟩:∃ z,z=sz qn:=⟨_,rfl⟩
      rw [← hzq] at s1 hsum hz1
      have HZQ:=hid hzq;clear hzq
      go_wp2_with fail
      go_region
      go_wp2_with fail
      refine⟨⟨jn+1,S'.set k ((part:Int)+(zq:Int)),P'.set qn (k:Int),by omega,by go_num,hid ?_,hid ?_,hid ?_,hid ?_,hid ?_,hid ?_,hid ?_,hid ?_,hid ?_⟩,by simp [intOf];omega⟩
      ·repeat (first | (with_reducible exact HL5.out) | (with_reducible refine bset ?_ ?_) | (with_reducible refine Below.drew ?_) | omega)
      ·repeat (first | (with_reducible exact HT5.out) | (with_reducible refine Blk.far ?_ ?_ _) | (with_reducible refine Blk.drew ?_) | (· simp) | (· (simp;omega)))
      ·repeat (first | (with_reducible exact HW5.out) | (with_reducible refine Blk.far ?_ ?_ _) | (with_reducible refine Blk.drew ?_) | (· simp) | (· (simp;omega)))
      ·rw [← iZ_set]
       repeat (first | (with_reducible exact HS5.out.set_ k _) | (with_reducible refine Blk.drew ?_) | (with_reducible refine Blk.far ?_ ?_ _) | (· simp) | (· (simp;omega)))
      ·rw [← iZ_set]
       repeat (first | (with_reducible refine Blk.drew ?_) | (with_reducible refine Blk.set_ ?_ qn _) | (with_reducible exact HP5.out) | (with_reducible refine Blk.far ?_ ?_ _) | (· simp) | (· (simp;omega)))
      ·rw [List.length_set];exact HSL5.out
      ·rw [HTK.out,pKids_snoc,HPR5.out,Int.toNat_natCast]
      ·intro j hj
       rw [getZ_set,if_neg (by omega)];exact HSZ5.out j hj
      ·rw [getZ_set,if_pos ⟨rfl,by rw [HSL5.out];exact hkn⟩,HTK.out,List.map_append,List.sum_append,HZQ.out,HPT.out]
       simp;omega
     ·have j2:decide (jn < nk)=false:=decide_eq_false hjl
      have HJ:=hid (show x.1.kids.take jn=x.1.kids from List.take_of_length_le (by rw [← HNK.out];omega))
      go_wp2_with fail
      refine⟨⟨k+1,S',P',by omega,by go_num,HL5,HT5,HW5,HS5,HP5,HSL5,hid ?_,hid ?_⟩,by simp [intOf];omega⟩
      ·rw [HPR5.out,HJ.out,HPR.out,pRun,pStep,nds_kids HX.out]
      ·intro j hj
       rcases Nat.lt_or_ge j k with h9 | h9
       ·exact HSZ5.out j h9
       ·have:j=k:=by omega
        subst this
        rw [HSK5.out,HJ.out,HKS.out]
   ·obtain rfl:k=n:=by omega
    have i3:decide (k < k)=false:=decide_eq_false hkn
    go_wp2_with fail
    go_ret
    exact⟨HL.out,w.heap.size+1+1+1,S,rfl,⟨w.heap.size+1,w.heap.size+1+1,HWB.out,HSB.out,by rw [HPR.out] at HPB;rw [parentsOf,nds_len,← HNN.out];exact HPB.out,by omega⟩,by omega,HSL.out,HSZ.out⟩
 ·go_wp2_with fail
  have HT3:=hid (show Blk (((((w.alloc (.cells #[.slice A n c,.slice B m d] 26)).alloc (.cells (iZ (List.replicate n 0)) 3)).alloc (.cells (iZ (List.replicate n 0)) 3)).alloc (.cells #[.slice A n c,.slice B m d,.slice (some ⟨w.heap.size+1+1,0,none⟩) n n,.slice (some ⟨w.heap.size+1,0,none⟩) n n] 74)).drew) w.heap.size 26 #[.slice A n c,.slice B m d] from by repeat (first | (with_reducible exact Blk.new _ _ _) | ((with_reducible refine blk_topW ?_) <;> (first | rfl | (· simp))) | (with_reducible refine Blk.alloc ?_ _) | (with_reducible refine Blk.drew ?_)))
  have HW3:=hid (show Blk (((((w.alloc (.cells #[.slice A n c,.slice B m d] 26)).alloc (.cells (iZ (List.replicate n 0)) 3)).alloc (.cells (iZ (List.replicate n 0)) 3)).alloc (.cells #[.slice A n c,.slice B m d,.slice (some ⟨w.heap.size+1+1,0,none⟩) n n,.slice (some ⟨w.heap.size+1,0,none⟩) n n] 74)).drew) (w.heap.size+1+1+1) 74 #[.slice A n c,.slice B m d,.slice (some ⟨w.heap.size+1+1,0,none⟩) n n,.slice (some ⟨w.heap.size+1,0,none⟩) n n] from by repeat (first | (with_reducible exact Blk.new _ _ _) | ((with_reducible refine blk_topW ?_) <;> (first | rfl | (· simp))) | (with_reducible refine Blk.alloc ?_ _) | (with_reducible refine Blk.drew ?_)))
  have HS3:=hid (show Blk (((((w.alloc (.cells #[.slice A n c,.slice B m d] 26)).alloc (.cells (iZ (List.replicate n 0)) 3)).alloc (.cells (iZ (List.replicate n 0)) 3)).alloc (.cells #[.slice A n c,.slice B m d,.slice (some ⟨w.heap.size+1+1,0,none⟩) n n,.slice (some ⟨w.heap.size+1,0,none⟩) n n] 74)).drew) (w.heap.size+1+1) 3 (iZ (List.replicate n 0)) from by repeat (first | (with_reducible exact Blk.new _ _ _) | ((with_reducible refine blk_topW ?_) <;> (first | rfl | (· simp))) | (with_reducible refine Blk.alloc ?_ _) | (with_reducible refine Blk.drew ?_)))
  have HP3:=hid (show Blk (((((w.alloc (.cells #[.slice A n c,.slice B m d] 26)).alloc (.cells (iZ (List.replicate n 0)) 3)).alloc (.cells (iZ (List.replicate n 0)) 3)).alloc (.cells #[.slice A n c,.slice B m d,.slice (some ⟨w.heap.size+1+1,0,none⟩) n n,.slice (some ⟨w.heap.size+1,0,none⟩) n n] 74)).drew) (w.heap.size+1) 3 (iZ (List.replicate n 0)) from by repeat (first | (with_reducible exact Blk.new _ _ _) | ((with_reducible refine blk_topW ?_) <;> (first | rfl | (· simp))) | (with_reducible refine Blk.alloc ?_ _) | (with_reducible refine Blk.drew ?_)))
  have HL3:=hid (show Below w.heap.size w (((((w.alloc (.cells #[.slice A n c,.slice B m d] 26)).alloc (.cells (iZ (List.replicate n 0)) 3)).alloc (.cells (iZ (List.replicate n 0)) 3)).alloc (.cells #[.slice A n c,.slice B m d,.slice (some ⟨w.heap.size+1+1,0,none⟩) n n,.slice (some ⟨w.heap.size+1,0,none⟩) n n] 74)).drew) from by repeat (first | (with_reducible exact Below.refl _ _) | (with_reducible refine balloc ?_ ?_) | (with_reducible refine Below.drew ?_) | omega | (· simp) | (· (simp;omega))))
  clear hmk
  go_loopw [22] (fun i wr=>∃ (k:Nat) (S P:List Int),k≤n∧i=.int .i64 k∧Hid (Below w.heap.size w wr)∧Hid (Blk wr w.heap.size 26 #[.slice A n c,.slice B m d])∧Hid (Blk wr (w.heap.size+1+1+1) 74 #[.slice A n c,.slice B m d,.slice (some ⟨w.heap.size+1+1,0,none⟩) n n,.slice (some ⟨w.heap.size+1,0,none⟩) n n])∧Hid (Blk wr (w.heap.size+1+1) 3 (iZ S))∧Hid (Blk wr (w.heap.size+1) 3 (iZ P))∧Hid (S.length=n)∧Hid (P=pRun (nds xs) k)∧Hid (∀ j,j < k→S.getD j 0=(sz j:Int))) (fun i _=>n - (intOf i).toNat)
  case atStart=>exact⟨0,List.replicate n 0,List.replicate n 0,Nat.zero_le _,rfl,HL3,HT3,HW3,HS3,HP3,hid (by simp),hid (by rw [pRun,nds_len,← HNN.out]),hid (fun j h=>by omega)⟩
  case round =>
   clear HL3 HT3 HW3 HS3 HP3
   obtain⟨wo,rfl⟩:∃ wo:World,wo=wr:=⟨_,rfl⟩
   obtain⟨k,S,P,hk,rfl,HL,HTB,HWB,HSB,HPB,HSL,HPR,HSZ⟩:=hrel
   have t0:=HTB.out.cell 0
   have t1:=HTB.out.cell 1
   have g0:=HWB.out.cell 0
   have g1:=HWB.out.cell 1
   have g2:=HWB.out.cell 2
   have g3:=HWB.out.cell 3
   have htl:=HTB.out.lt
   have hwl:=HWB.out.lt
   have hsl:=HSB.out.lt
   have hpl:=HPB.out.lt
   by_cases hkn:k < n
   ·obtain⟨b,o,rfl,hN⟩:=HT.out.nodes (by rw [← HNN.out];omega)
    obtain⟨x,hx⟩:∃ x,xs[k]? = some x:=xs_at (by rw [← HNN.out];exact hkn)
    have c0:=(HL.out.cell (p:=⟨b,o+k * 5,none⟩) hN.lt).trans (hN.c0 k x hx)
    have c1:=(HL.out.cell (p:=⟨b,o+k * 5+1,none⟩) hN.lt).trans (hN.c1 k x hx)
    have c2:=(HL.out.cell (p:=⟨b,o+k * 5+2,none⟩) hN.lt).trans (hN.c2 k x hx)
    have c3:=(HL.out.cell (p:=⟨b,o+k * 5+3,none⟩) hN.lt).trans (hN.c3 k x hx)
    have c4:=(HL.out.cell (p:=⟨b,o+k * 5+4,none⟩) hN.lt).trans (hN.c4 k x hx)
    obtain⟨Ak,ck,hxe,hxl,hxk⟩:=hN.kid hx
    rw [hxe] at c3
    have HXK:=hid hxk
    have HX:=hid hx
    clear hN hx hxe hxk
    obtain⟨nk,hnk⟩:∃ nk,nk=x.1.kids.length:=⟨_,rfl⟩
    rw [← hnk] at c3 hxl
    have HNK:=hid hnk;clear hnk
    have i1:(0:Int)≤(k:Int):=by omega
    have i2:(k:Int) < (n:Int):=by omega
    have i3:decide (k < n)=true:=decide_eq_true hkn
    have s0:wo.cell? ⟨w.heap.size+1+1,k,none⟩=some (.int .i64 (S.getD k 0)):=by rw [HSB.out.cell k];exact iZ_get S k (by rw [HSL.out];exact hkn)
    have p0:wo.cell? ⟨w.heap.size+1,k,none⟩=some (.int .i64 (P.getD k 0)):=by rw [HPB.out.cell k];exact iZ_get P k (by rw [HPR.out,pRun_len,nds_len,← HNN.out];exact hkn)
    have sf:=HSB.out.frozen k
    have pf:=HPB.out.frozen k
    obtain⟨sv,hsv⟩:∃ v,v=S.getD k 0:=⟨_,rfl⟩
    obtain⟨pv,hpv⟩:∃ v,v=P.getD k 0:=⟨_,rfl⟩
    rw [← hsv] at s0
    rw [← hpv] at p0
    clear hsv hpv
    go_wp2_with fail
    go_region
    go_wp2_with fail
    have hne1:(w.heap.size+1+1) ≠ (w.heap.size+1):=by omega
    have hne2:(w.heap.size+1+1+1) ≠ (w.heap.size+1+1):=by omega
    have hne3:(w.heap.size+1+1+1) ≠ (w.heap.size+1):=by omega
    have HT4:=hid ((((HTB.out.far (p:=⟨w.heap.size+1+1,k,none⟩) (show w.heap.size ≠ w.heap.size+1+1 by omega) (.int .i64 1)).far (p:=⟨w.heap.size+1,k,none⟩) (show w.heap.size ≠ w.heap.size+1 by omega) (.int .i64 (-1))).alloc (.cells #[.int .u8 x.1.kind,.string (ofL x.1.text),.int .i64 x.1.n,.slice Ak nk ck,.int .i64 x.1.at_] 50)).drew)
    have HW4:=hid ((((HWB.out.far (p:=⟨w.heap.size+1+1,k,none⟩) hne2 (.int .i64 1)).far (p:=⟨w.heap.size+1,k,none⟩) hne3 (.int .i64 (-1))).alloc (.cells #[.int .u8 x.1.kind,.string (ofL x.1.text),.int .i64 x.1.n,.slice Ak nk ck,.int .i64 x.1.at_] 50)).drew)
    have HS4:=hid ((((HSB.out.set_ k (.int .i64 1)).far (p:=⟨w.heap.size+1,k,none⟩) hne1 (.int .i64 (-1))).alloc (.cells #[.int .u8 x.1.kind,.string (ofL x.1.text),.int .i64 x.1.n,.slice Ak nk ck,.int .i64 x.1.at_] 50)).drew)
    have HP4:=hid ((((HPB.out.far (p:=⟨w.heap.size+1+1,k,none⟩) (Ne.symm hne1) (.int .i64 1)).set_ k (.int .i64 (-1))).alloc (.cells #[.int .u8 x.1.kind,.string (ofL x.1.text),.int .i64 x.1.n,.slice Ak nk ck,.int .i64 x.1.at_] 50)).drew)
    rw [iZ_set] at HS4 HP4
    have HN4:=hid (((blk_topW (W:=(wo.setCell ⟨w.heap.size+1+1,k,none⟩ (.int .i64 1)).setCell ⟨w.heap.size+1,k,none⟩ (.int .i64 (-1))) (T:=50) (cs:=#[.int .u8 x.1.kind,.string (ofL x.1.text),.int .i64 x.1.n,.slice Ak nk ck,.int .i64 x.1.at_]) (k:=wo.heap.size) (by simp))).drew)
    have HL4:=hid (Below.drew (balloc (bset (bset HL.out (show w.heap.size≤w.heap.size+1+1 by omega) (i:=k) (u:=.int .i64 1)) (show w.heap.size≤w.heap.size+1 by omega) (i:=k) (u:=.int .i64 (-1))) (by simp;omega) (o:=.cells #[.int .u8 x.1.kind,.string (ofL x.1.text),.int .i64 x.1.n,.slice Ak nk ck,.int .i64 x.1.at_] 50)))
    have HKS:=hid (HS.out.eq k x.1 (nds_get HX.out))
    have HKW:=hid (show ∀ q ∈ x.1.kids,0≤q∧q < (k:Int) from HW.out k x.1 (nds_get HX.out))
    have hzk:=HS.out.le k
    generalize (((wo.setCell ⟨w.heap.size+1+1,k,none⟩ (.int .i64 1)).setCell ⟨w.heap.size+1,k,none⟩ (.int .i64 (-1))).alloc (.cells #[.int .u8 x.1.kind,.string (ofL x.1.text),.int .i64 x.1.n,.slice Ak nk ck,.int .i64 x.1.at_] 50)).drew=w4 at HT4 HW4 HS4 HP4 HN4 HL4 ⊢
    have n3:=HN4.out.cell 3
    go_wp2_with fail
    go_loopw [42] (fun i wr=>∃ (jn:Nat) (S' P':List Int),jn≤nk∧i=.int .i64 jn∧Hid (Below w.heap.size w wr)∧Hid (Blk wr w.heap.size 26 #[.slice (some ⟨b,o,none⟩) n c,.slice B m d])∧Hid (Blk wr (w.heap.size+1+1+1) 74 #[.slice (some ⟨b,o,none⟩) n c,.slice B m d,.slice (some ⟨w.heap.size+1+1,0,none⟩) n n,.slice (some ⟨w.heap.size+1,0,none⟩) n n])∧Hid (Blk wr (w.heap.size+1+1) 3 (iZ S'))∧Hid (Blk wr (w.heap.size+1) 3 (iZ P'))∧Hid (S'.length=n)∧Hid (P'=pKids (k:Int) (x.1.kids.take jn) (P.set k (-1)))∧Hid (∀ j,j < k→S'.getD j 0=(sz j:Int))∧Hid (S'.getD k 0=((1+((x.1.kids.take jn).map fun q=>sz q.toNat).sum:Nat):Int))) (fun i _=>nk - (intOf i).toNat)
    case atStart=>exact⟨0,S.set k 1,P.set k (-1),Nat.zero_le _,rfl,HL4,HT4,HW4,HS4,HP4,hid (by rw [List.length_set];exact HSL.out),hid rfl,hid (fun j hj=>by rw [getZ_set,if_neg (by omega)];exact HSZ.out j hj),hid (by rw [getZ_set,if_pos ⟨rfl,by rw [HSL.out];exact hkn⟩];simp)⟩
    case round =>
     clear HT4 HW4 HS4 HP4 HN4 HL4
     obtain⟨wq,rfl⟩:∃ wq:World,wq=wr:=⟨_,rfl⟩
     obtain⟨jn,S',P',hj,rfl,HL5,HT5,HW5,HS5,HP5,HSL5,HPR5,HSZ5,HSK5⟩:=hrel
     have g0:=HW5.out.cell 0
     have g2:=HW5.out.cell 2
     have g3:=HW5.out.cell 3
     by_cases hjl:jn < nk
     ·obtain⟨kq,hkq⟩:∃ kq,x.1.kids[jn]? = some kq:=⟨_,List.getElem?_eq_getElem (by rw [← HNK.out];exact hjl)⟩
      have hqb:=HKW.out kq (List.mem_of_getElem? hkq)
      obtain⟨qn,rfl⟩:∃ qn:Nat,kq=(qn:Int):=⟨kq.toNat,by omega⟩
      obtain⟨bk,ok,rfl,hbk,hck⟩:=HXK.out.ex (by rw [← HNK.out];omega)
      have cj:=(HL5.out.cell (p:=⟨bk,ok+jn,none⟩) hbk).trans (hck jn qn hkq)
      have HTK:=hid (show x.1.kids.take (jn+1)=x.1.kids.take jn ++ [(qn:Int)] by rw [List.take_add_one,hkq];rfl)
      clear hck hkq
      have j0:(0:Int)≤(jn:Int):=by omega
      have j1:(jn:Int) < (nk:Int):=by omega
      have j2:decide (jn < nk)=true:=decide_eq_true hjl
      have q0:(0:Int)≤(qn:Int):=by omega
      have q1:(qn:Int) < (n:Int):=by omega
      obtain⟨part,hpart⟩:∃ p:Nat,p=1+((x.1.kids.take jn).map fun q=>sz q.toNat).sum:=⟨_,rfl⟩
      have hsum:part+sz qn≤sz k:=by
       have h9:=HKS.out
       have h8:x.1.kids=x.1.kids.take (jn+1) ++ x.1.kids.drop (jn+1):=(List.take_append_drop _ _).symm
       rw [h8,List.map_append,List.sum_append,HTK.out,List.map_append,List.sum_append] at h9
       simp at h9
       simp at hpart
       omega
      have s0:wq.cell? ⟨w.heap.size+1+1,k,none⟩=some (.int .i64 (part:Int)):=by rw [HS5.out.cell k,iZ_get S' k (by rw [HSL5.out];exact hkn),HSK5.out,hpart]
      have s1:wq.cell? ⟨w.heap.size+1+1,qn,none⟩=some (.int .i64 (sz qn:Int)):=by rw [HS5.out.cell qn,iZ_get S' qn (by rw [HSL5.out];omega),HSZ5.out qn (by omega)]
      have sf:=HS5.out.frozen k
      have pl:P'.length=n:=by rw [HPR5.out,pKids_len,List.length_set,HPR.out,pRun_len,nds_len,← HNN.out]
      have p0:wq.cell? ⟨w.heap.size+1,qn,none⟩=some (.int .i64 (P'.getD qn 0)):=by rw [HP5.out.cell qn,iZ_get P' qn (by rw [pl];omega)]
      have pf:=HP5.out.frozen qn
      have HPT:=hid hpart;clear hpart
      obtain⟨pv2,hpv2⟩:∃ v,v=P'.getD qn 0:=⟨_,rfl⟩
      rw [← hpv2] at p0
      clear hpv2 pl
      have hp1:part≤1000000:=by omega
      have hz1:sz qn≤1000000:=by omega
      obtain⟨zq,hzq⟩:∃ z,z=sz qn:=⟨_,rfl⟩
      rw [← hzq] at s1 hsum hz1
      have HZQ:=hid hzq;clear hzq
      go_wp2_with fail
      go_region
      go_wp2_with fail
      refine⟨⟨jn+1,S'.set k ((part:Int)+(zq:Int)),P'.set qn (k:Int),by omega,by go_num,hid ?_,hid ?_,hid ?_,hid ?_,hid ?_,hid ?_,hid ?_,hid ?_,hid ?_⟩,by simp [intOf];omega⟩
      ·repeat (first | (with_reducible exact HL5.out) | (with_reducible refine bset ?_ ?_) | (with_reducible refine Below.drew ?_) | omega)
      ·repeat (first | (with_reducible exact HT5.out) | (with_reducible refine Blk.far ?_ ?_ _) | (with_reducible refine Blk.drew ?_) | (· simp) | (· (simp;omega)))
      ·repeat (first | (with_reducible exact HW5.out) | (with_reducible refine Blk.far ?_ ?_ _) | (with_reducible refine Blk.drew ?_) | (· simp) | (· (simp;omega)))
      ·rw [← iZ_set]
       repeat (first | (with_reducible exact HS5.out.set_ k _) | (with_reducible refine Blk.drew ?_) | (with_reducible refine Blk.far ?_ ?_ _) | (· simp) | (· (simp;omega)))
      ·rw [← iZ_set]
       repeat (first | (with_reducible refine Blk.drew ?_) | (with_reducible refine Blk.set_ ?_ qn _) | (with_reducible exact HP5.out) | (with_reducible refine Blk.far ?_ ?_ _) | (· simp) | (· (simp;omega)))
      ·rw [List.length_set];exact HSL5.out
      ·rw [HTK.out,pKids_snoc,HPR5.out,Int.toNat_natCast]
      ·intro j hj
       rw [getZ_set,if_neg (by omega)];exact HSZ5.out j hj
      ·rw [getZ_set,if_pos ⟨rfl,by rw [HSL5.out];exact hkn⟩,HTK.out,List.map_append,List.sum_append,HZQ.out,HPT.out]
       simp;omega
     ·have j2:decide (jn < nk)=false:=decide_eq_false hjl
      have HJ:=hid (show x.1.kids.take jn=x.1.kids from List.take_of_length_le (by rw [← HNK.out];omega))
      go_wp2_with fail
      refine⟨⟨k+1,S',P',by omega,by go_num,HL5,HT5,HW5,HS5,HP5,HSL5,hid ?_,hid ?_⟩,by simp [intOf];omega⟩
      ·rw [HPR5.out,HJ.out,HPR.out,pRun,pStep,nds_kids HX.out]
      ·intro j hj
       rcases Nat.lt_or_ge j k with h9 | h9
       ·exact HSZ5.out j h9
       ·have:j=k:=by omega
        subst this
        rw [HSK5.out,HJ.out,HKS.out]
   ·obtain rfl:k=n:=by omega
    have i3:decide (k < k)=false:=decide_eq_false hkn
    go_wp2_with fail
    go_ret
    exact⟨HL.out,w.heap.size+1+1+1,S,rfl,⟨w.heap.size+1+1,w.heap.size+1,HWB.out,HSB.out,by rw [HPR.out] at HPB;rw [parentsOf,nds_len,← HNN.out];exact HPB.out,by omega⟩,by omega,HSL.out,HSZ.out⟩
end Go.Proofs.YthepmkjggfijoaaGreatDoor
