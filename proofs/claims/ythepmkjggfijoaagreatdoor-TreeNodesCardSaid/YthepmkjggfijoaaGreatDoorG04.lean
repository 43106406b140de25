/-
  PARTS of the proof: RSM, RL, LawChecks3, RN0, RN1.
-/
import Derived.Deep.QuietTactic
import Derived.BigRegion
import Derived.Deep.CutRange
import Derived.Deep.RegionHeld3
import Derived.Test.YthepmkjggfijoaaGreatDoorB21
import Derived.Test.YthepmkjggfijoaaGreatDoorC35
import Derived.Test.YthepmkjggfijoaaGreatDoorC34
import Derived.Test.YthepmkjggfijoaaGreatDoorB32
import Derived.Test.YthepmkjggfijoaaGreatDoorB31
import Derived.Test.YthepmkjggfijoaaGreatDoorB07
import Derived.Test.YthepmkjggfijoaaGreatDoorShelf
import Derived.Test.YthepmkjggfijoaaGreatDoorG03
set_option linter.all false
set_option maxRecDepth 100000
set_option maxHeartbeats 2000000
open Go.Lib (hid)
namespace Go.Proofs.YthepmkjggfijoaaGreatDoor
open Go.RowKit Mist
attribute [local go_sem] ofL_extract ofL_size ofL_get ofL_bytes ofL_append
def shade (x:Nd):Nd:=⟨x.kind,x.text,x.n,x.kids,0⟩
theorem take_ne {α:Type}{l r:List α}{k:Nat}{a b:α}(h1:l[k]? = some a)(h2:r[k]? = some b)(h:a ≠ b):l ≠ r:=by
 rintro rfl
 exact h (Option.some.inj (h1.symm.trans h2))
theorem take_eq {α:Type}{l r:List α}{k:Nat}{a b:α}(h1:l[k]? = some a)(h2:r[k]? = some b)(h:a=b)(ht:l.take k=r.take k):l.take (k+1)=r.take (k+1):=by
 rw [List.take_add_one,List.take_add_one,h1,h2,h,ht]
theorem takes_all {α:Type}{l r:List α}{k:Nat}(h1:l.length≤k)(h2:r.length≤k)(ht:l.take k=r.take k):l=r:=by
 rwa [List.take_of_length_le h1,List.take_of_length_le h2] at ht
theorem alike_any (A B A' B':Option Addr)(c d c' d':Nat)(xs ys:List NV)(its jts:List Int)(w:World)(hT:TAt w A B xs its)(hU:TAt w A' B' ys jts)(hx:xs.length≤100000)(hy:ys.length≤100000)(hi:its.length≤100000)(hj:jts.length≤100000) :
  Calls Tryz.prog 59 #[.agg #[.slice A xs.length c,.slice B its.length d],.agg #[.slice A' ys.length c',.slice B' jts.length d']] w fun e w'=>Below w.heap.size w w'∧∃ r:Bool,e=.returned (.bool r)∧(r=true↔(nds xs).map shade=(nds ys).map shade∧its=jts):=by
 obtain⟨n,hnn⟩:∃ n,n=xs.length:=⟨_,rfl⟩
 obtain⟨n',hnn'⟩:∃ n,n=ys.length:=⟨_,rfl⟩
 obtain⟨m,hmm⟩:∃ m,m=its.length:=⟨_,rfl⟩
 obtain⟨m',hmm'⟩:∃ m,m=jts.length:=⟨_,rfl⟩
 rw [← hnn] at hx ⊢
 rw [← hnn'] at hy ⊢
 rw [← hmm] at hi ⊢
 rw [← hmm'] at hj ⊢
 have HT:=hid hT;clear hT
 have HU:=hid hU;clear hU
 have HN:=hid hnn;clear hnn
 have HN':=hid hnn';clear hnn'
 have HM:=hid hmm;clear hmm
 have HM':=hid hmm';clear hmm'
 have HL0:=hid (balloc (balloc (Below.refl w.heap.size w) (Nat.le_refl _) (o:=.cells #[.slice A n c,.slice B m d] 26)) (by simp) (o:=.cells #[.slice A' n' c',.slice B' m' d'] 26))
 have HX0:=hid ((Blk.new w 26 #[.slice A n c,.slice B m d]).alloc (.cells #[.slice A' n' c',.slice B' m' d'] 26))
 have HY0:=hid (blk_topW (W:=w.alloc (.cells #[.slice A n c,.slice B m d] 26)) (T:=26) (cs:=#[.slice A' n' c',.slice B' m' d']) (k:=w.heap.size+1) (by simp))
 by_cases hn:n=n'
 case neg =>
  have q1:((n:Int) != (n':Int))=true:=by simp;omega
  have HF:=hid (show ¬ ((nds xs).map shade=(nds ys).map shade∧its=jts) from fun h=>hn (by have:=congrArg List.length h.1;simp only [List.length_map,nds_len] at this;rw [HN.out,HN'.out];exact this))
  clear hn
  go_enter Tryz.func59,Tryz.ntmps59
  go_wp2_with fail
  go_ret
  exact⟨HL0.out,false,rfl,by simp only [Bool.false_eq_true,false_iff];exact HF.out⟩
 subst hn
 have q1:((n:Int) != (n:Int))=false:=by simp
 by_cases hm:m=m'
 case neg =>
  have q2:((m:Int) != (m':Int))=true:=by simp;omega
  have HF:=hid (show ¬ ((nds xs).map shade=(nds ys).map shade∧its=jts) from fun h=>hm (by rw [HM.out,HM'.out,h.2]))
  clear hm
  go_enter Tryz.func59,Tryz.ntmps59
  go_wp2_with fail
  go_ret
  exact⟨HL0.out,false,rfl,by simp only [Bool.false_eq_true,false_iff];exact HF.out⟩
 subst hm
 have q2:((m:Int) != (m:Int))=false:=by simp
 clear hy hj
 go_enter Tryz.func59,Tryz.ntmps59
 go_wp2_with fail
 go_loopw [5] (fun i wr=>∃ k:Nat,k≤m∧i=.int .i64 k∧Hid (its.take k=jts.take k)∧Hid (Blk wr w.heap.size 26 #[.slice A n c,.slice B m d])∧Hid (Blk wr (w.heap.size+1) 26 #[.slice A' n c',.slice B' m d'])∧Hid (Below w.heap.size w wr)) (fun i _=>m - (intOf i).toNat)
 case atStart=>exact⟨0,Nat.zero_le _,rfl,hid rfl,HX0,HY0,HL0⟩
 case round =>
  obtain⟨k,hk,rfl,HK,HX,HY,HL⟩:=hrel
  clear HL0 HX0 HY0
  have x0:=HX.out.cell 0
  have x1:=HX.out.cell 1
  have y0:=HY.out.cell 0
  have y1:=HY.out.cell 1
  by_cases hkm:k < m
  ·have i3:decide (k < m)=true:=decide_eq_true hkm
   obtain⟨b,o,rfl,hbl,hc⟩:=HT.out.items.ex (by rw [← HM.out];omega)
   obtain⟨b',o',rfl,hbl',hc'⟩:=HU.out.items.ex (by rw [← HM'.out];omega)
   obtain⟨p,hp⟩:∃ p,its[k]? = some p:=⟨_,List.getElem?_eq_getElem (by rw [← HM.out];exact hkm)⟩
   obtain⟨q,hq⟩:∃ p,jts[k]? = some p:=⟨_,List.getElem?_eq_getElem (by rw [← HM'.out];exact hkm)⟩
   have cp:=(HL.out.cell (p:=⟨b,o+k,none⟩) (by exact hbl)).trans (hc k p hp)
   have cq:=(HL.out.cell (p:=⟨b',o'+k,none⟩) (by exact hbl')).trans (hc' k q hq)
   have z0:(0:Int)≤(k:Int):=by omega
   have z1:(k:Int) < (m:Int):=by omega
   by_cases hpq:p=q
   ·have HK2:=hid (take_eq hp hq hpq HK.out)
    have e1:(p != q)=false:=by simp [hpq]
    clear hc hc' hp hq hpq
    go_wp2_with fail
    go_quiet (fail)
    go_wp2_with fail
    exact⟨⟨k+1,by omega,by go_num,HK2,hid (HX.out.drewN _),hid (HY.out.drewN _),hid (bdrewN HL.out _)⟩,by simp [intOf];omega⟩
   ·have HF:=hid (show ¬ ((nds xs).map shade=(nds ys).map shade∧its=jts) from fun h=>take_ne hp hq hpq h.2)
    have e1:(p != q)=true:=by simp [hpq]
    clear hc hc' hp hq hpq
    go_wp2_with fail
    go_quiet (fail)
    go_wp2_with fail
    go_ret
    exact⟨bdrewN HL.out _,false,rfl,by simp only [Bool.false_eq_true,false_iff];exact HF.out⟩
  ·have i3:decide (k < m)=false:=decide_eq_false hkm
   have HIT:=hid (takes_all (by rw [← HM.out];omega) (by rw [← HM'.out];omega) HK.out)
   clear HK
   go_wp2_with fail
   clear x0 x1 y0 y1
   go_loopw [6] (fun i wr=>∃ k:Nat,k≤n∧i=.int .i64 k∧Hid (((nds xs).take k).map shade=((nds ys).take k).map shade)∧Hid (Blk wr w.heap.size 26 #[.slice A n c,.slice B m d])∧Hid (Blk wr (w.heap.size+1) 26 #[.slice A' n c',.slice B' m d'])∧Hid (Below w.heap.size w wr)) (fun i _=>n - (intOf i).toNat)
   case atStart=>exact⟨0,Nat.zero_le _,rfl,hid rfl,HX,HY,HL⟩
   case round =>
    clear HX HY HL
    obtain⟨wo,rfl⟩:∃ wo:World,wo=wr:=⟨_,rfl⟩
    obtain⟨k,hk,rfl,HK,HX,HY,HL⟩:=hrel
    have x0:=HX.out.cell 0
    have x1:=HX.out.cell 1
    have y0:=HY.out.cell 0
    have y1:=HY.out.cell 1
    by_cases hkn:k < n
    ·have i3:decide (k < n)=true:=decide_eq_true hkn
     obtain⟨b,o,rfl,hA⟩:=HT.out.nodes (by rw [← HN.out];omega)
     obtain⟨b',o',rfl,hB⟩:=HU.out.nodes (by rw [← HN'.out];omega)
     obtain⟨x,hx⟩:∃ x,xs[k]? = some x:=xs_at (by rw [← HN.out];exact hkn)
     obtain⟨y,hy⟩:∃ y,ys[k]? = some y:=xs_at (by rw [← HN'.out];exact hkn)
     have c0:=(HL.out.cell (p:=⟨b,o+k * 5,none⟩) hA.lt).trans (hA.c0 k x hx)
     have c1:=(HL.out.cell (p:=⟨b,o+k * 5+1,none⟩) hA.lt).trans (hA.c1 k x hx)
     have c2:=(HL.out.cell (p:=⟨b,o+k * 5+2,none⟩) hA.lt).trans (hA.c2 k x hx)
     have c3:=(HL.out.cell (p:=⟨b,o+k * 5+3,none⟩) hA.lt).trans (hA.c3 k x hx)
     have c4:=(HL.out.cell (p:=⟨b,o+k * 5+4,none⟩) hA.lt).trans (hA.c4 k x hx)
     have d0:=(HL.out.cell (p:=⟨b',o'+k * 5,none⟩) hB.lt).trans (hB.c0 k y hy)
     have d1:=(HL.out.cell (p:=⟨b',o'+k * 5+1,none⟩) hB.lt).trans (hB.c1 k y hy)
     have d2:=(HL.out.cell (p:=⟨b',o'+k * 5+2,none⟩) hB.lt).trans (hB.c2 k y hy)
     have d3:=(HL.out.cell (p:=⟨b',o'+k * 5+3,none⟩) hB.lt).trans (hB.c3 k y hy)
     have d4:=(HL.out.cell (p:=⟨b',o'+k * 5+4,none⟩) hB.lt).trans (hB.c4 k y hy)
     obtain⟨Ka,ca,hxe,hxl,hxk⟩:=hA.kid hx
     obtain⟨Kb,cb,hye,hyl,hyk⟩:=hB.kid hy
     rw [hxe] at c3
     rw [hye] at d3
     have HXK:=hid hxk
     have HYK:=hid hyk
     have HXG:=hid (nds_get hx)
     have HYG:=hid (nds_get hy)
     have hl1:=HX.out.lt
     have hl2:=HY.out.lt
     have hb1:b < wo.heap.size:=Nat.lt_of_lt_of_le hA.lt HL.out.size
     have hb2:b' < wo.heap.size:=Nat.lt_of_lt_of_le hB.lt HL.out.size
     clear hA hB hx hy hxe hye hxk hyk
     have z0:(0:Int)≤(k:Int):=by omega
     have z1:(k:Int) < (n:Int):=by omega
     have HNE:=hid (show shade x.1 ≠ shade y.1→¬ ((nds xs).map shade=(nds ys).map shade∧its=jts) from fun h h2=>by
      refine take_ne (l:=(nds xs).map shade) (r:=(nds ys).map shade) (k:=k) ?_ ?_ h h2.1
      ·rw [List.getElem?_map,HXG.out];rfl
      ·rw [List.getElem?_map,HYG.out];rfl)
     go_upto_region 11 with (fail)
     go_cut [7,8] from 44 to 106 (fun u v wx=>∃ p q:Nat,u=.pointer (some ⟨p,0,none⟩)∧v=.pointer (some ⟨q,0,none⟩)∧Hid (Blk wx p 50 #[.int .u8 x.1.kind,.string (ofL x.1.text),.int .i64 x.1.n,.slice Ka x.1.kids.length ca,.int .i64 x.1.at_])∧Hid (Blk wx q 50 #[.int .u8 y.1.kind,.string (ofL y.1.text),.int .i64 y.1.n,.slice Kb y.1.kids.length cb,.int .i64 y.1.at_])∧Hid (Below wo.heap.size wo wx))
     case first =>
      go_region
      all_goals
       go_wp2_with fail
       go_meet
       refine⟨_,_,rfl,rfl,hid (Blk.drew ?_),hid (Blk.drew ?_),hid (Below.drew (balloc (balloc (Below.refl _ _) (Nat.le_refl _)) (by simp)))⟩
       ·first | exact (Blk.new wo _ _).alloc _ | exact blk_topW (by simp)
       ·first | exact (Blk.new wo _ _).alloc _ | exact blk_topW (by simp)
     case rest =>
      obtain⟨p,q,rfl,rfl,HP,HQ,HLW⟩:=hcut
      have HLc:=hid (HL.out.trans (HLW.out.mono HL.out.size))
      have HXc:=hid (HX.out.below HLW.out HX.out.lt)
      have HYc:=hid (HY.out.below HLW.out HY.out.lt)
      clear HX HY HL HLW x0 x1 y0 y1 c0 c1 c2 c3 c4 d0 d1 d2 d3 d4
      have x0:=HXc.out.cell 0
      have x1:=HXc.out.cell 1
      have y0:=HYc.out.cell 0
      have y1:=HYc.out.cell 1
      have c0:=HP.out.cell 0
      have c1:=HP.out.cell 1
      have c2:=HP.out.cell 2
      have c3:=HP.out.cell 3
      have d0:=HQ.out.cell 0
      have d1:=HQ.out.cell 1
      have d2:=HQ.out.cell 2
      have d3:=HQ.out.cell 3
      by_cases h1:x.1.kind=y.1.kind
      case neg =>
       have e1:((x.1.kind:Int) != (y.1.kind:Int))=true:=by simp;omega
       have HF:=hid (HNE.out fun h=>h1 (show x.1.kind=y.1.kind from by have h9:=congrArg Nd.kind h;exact h9))
       clear h1
       go_wp2_with fail
       go_ret
       exact⟨HLc.out,false,rfl,by simp only [Bool.false_eq_true,false_iff];exact HF.out⟩
      have e1:((x.1.kind:Int) != (y.1.kind:Int))=false:=by simp;omega
      by_cases h2:x.1.text=y.1.text
      case neg =>
       have e2:(x.1.text != y.1.text)=true:=by simpa using h2
       have HF:=hid (HNE.out fun h=>h2 (show x.1.text=y.1.text from by have h9:=congrArg Nd.text h;exact h9))
       have H1:=hid h1
       clear h1
       go_wp2_with fail
       go_ret
       exact⟨HLc.out,false,rfl,by simp only [Bool.false_eq_true,false_iff];exact HF.out⟩
      have e2:(x.1.text != y.1.text)=false:=by simpa using h2
      by_cases h3:x.1.n=y.1.n
      case neg =>
       have e3:(x.1.n != y.1.n)=true:=by simpa using h3
       have HF:=hid (HNE.out fun h=>h3 (show x.1.n=y.1.n from by have h9:=congrArg Nd.n h;exact h9))
       have H1:=hid h1
       have H2:=hid h2
       clear h1 h2 h3
       go_wp2_with fail
       go_ret
       exact⟨HLc.out,false,rfl,by simp only [Bool.false_eq_true,false_iff];exact HF.out⟩
      have e3:(x.1.n != y.1.n)=false:=by simpa using h3
      obtain⟨nk,hnk⟩:∃ nk,nk=x.1.kids.length:=⟨_,rfl⟩
      obtain⟨nk',hnk'⟩:∃ nk,nk=y.1.kids.length:=⟨_,rfl⟩
      have H1:=hid h1
      have H2:=hid h2
      have H3:=hid h3
      clear h1 h2 h3
      rw [← hnk] at c3 hxl HP
      rw [← hnk'] at d3 hyl HQ
      have HK1:=hid hnk
      have HK2:=hid hnk'
      clear hnk hnk'
      by_cases h4:nk=nk'
      case neg =>
       have e4:((nk:Int) != (nk':Int))=true:=by simp;omega
       have HF:=hid (HNE.out fun h=>h4 (by rw [HK1.out,HK2.out];have h9:=congrArg (fun z=>z.kids.length) h;exact h9))
       clear h4
       go_wp2_with fail
       go_ret
       exact⟨HLc.out,false,rfl,by simp only [Bool.false_eq_true,false_iff];exact HF.out⟩
      subst h4
      have e4:((nk:Int) != (nk:Int))=false:=by simp
      go_wp2_with fail
      go_loopw [9] (fun i wr=>∃ j:Nat,j≤nk∧i=.int .i64 j∧Hid (x.1.kids.take j=y.1.kids.take j)∧Hid (Blk wr p 50 #[.int .u8 x.1.kind,.string (ofL x.1.text),.int .i64 x.1.n,.slice Ka nk ca,.int .i64 x.1.at_])∧Hid (Blk wr q 50 #[.int .u8 y.1.kind,.string (ofL y.1.text),.int .i64 y.1.n,.slice Kb nk cb,.int .i64 y.1.at_])∧Hid (Blk wr w.heap.size 26 #[.slice (some ⟨b,o,none⟩) n c,.slice B m d])∧Hid (Blk wr (w.heap.size+1) 26 #[.slice (some ⟨b',o',none⟩) n c',.slice B' m d'])∧Hid (Below w.heap.size w wr)) (fun i _=>nk - (intOf i).toNat)
      case atStart=>exact⟨0,Nat.zero_le _,rfl,hid rfl,HP,HQ,HXc,HYc,HLc⟩
      case round =>
       clear HP HQ HXc HYc HLc x0 x1 y0 y1 c0 c1 c2 c3 d0 d1 d2 d3
       obtain⟨j,hj,rfl,HJ,HP,HQ,HX,HY,HL⟩:=hrel
       have c3:=HP.out.cell 3
       have d3:=HQ.out.cell 3
       by_cases hjl:j < nk
       ·have i4:decide (j < nk)=true:=decide_eq_true hjl
        obtain⟨bk,ok,rfl,hbk,hck⟩:=HXK.out.ex (by rw [← HK1.out];omega)
        obtain⟨bl,ol,rfl,hbl,hcl⟩:=HYK.out.ex (by rw [← HK2.out];omega)
        obtain⟨kp,hkp⟩:∃ kp,x.1.kids[j]? = some kp:=⟨_,List.getElem?_eq_getElem (by rw [← HK1.out];exact hjl)⟩
        obtain⟨kq,hkq⟩:∃ kp,y.1.kids[j]? = some kp:=⟨_,List.getElem?_eq_getElem (by rw [← HK2.out];exact hjl)⟩
        have cj:=(HL.out.cell (p:=⟨bk,ok+j,none⟩) hbk).trans (hck j kp hkp)
        have dj:=(HL.out.cell (p:=⟨bl,ol+j,none⟩) hbl).trans (hcl j kq hkq)
        have z2:(0:Int)≤(j:Int):=by omega
        have z3:(j:Int) < (nk:Int):=by omega
        by_cases hpq:kp=kq
        ·have HJ2:=hid (take_eq hkp hkq hpq HJ.out)
         have e5:(kp != kq)=false:=by simp [hpq]
         clear hck hcl hkp hkq hpq
         go_wp2_with fail
         go_quiet (fail)
         go_wp2_with fail
         exact⟨⟨j+1,by omega,by go_num,HJ2,hid (HP.out.drewN _),hid (HQ.out.drewN _),hid (HX.out.drewN _),hid (HY.out.drewN _),hid (bdrewN HL.out _)⟩,by simp [intOf];omega⟩
        ·have HF:=hid (HNE.out fun h=>take_ne hkp hkq hpq (show x.1.kids=y.1.kids from by have h9:=congrArg Nd.kids h;exact h9))
         have e5:(kp != kq)=true:=by simp [hpq]
         clear hck hcl hkp hkq hpq
         go_wp2_with fail
         go_quiet (fail)
         go_wp2_with fail
         go_ret
         exact⟨bdrewN HL.out _,false,rfl,by simp only [Bool.false_eq_true,false_iff];exact HF.out⟩
       ·have i4:decide (j < nk)=false:=decide_eq_false hjl
        have HKK:=hid (takes_all (by rw [← HK1.out];omega) (by rw [← HK2.out];omega) HJ.out)
        have HNX:=hid (show ((nds xs).take (k+1)).map shade=((nds ys).take (k+1)).map shade by
         rw [List.take_add_one,List.take_add_one,HXG.out,HYG.out,List.map_append,List.map_append,HK.out]
         simp [shade,H1.out,H2.out,H3.out,HKK.out])
        go_wp2_with fail
        exact⟨⟨k+1,by omega,by go_num,HNX,HX,HY,HL⟩,by simp [intOf];omega⟩
    ·have i3:decide (k < n)=false:=decide_eq_false hkn
     have HEQ:=hid (show (nds xs).map shade=(nds ys).map shade by
      have h9:=HK.out
      rwa [List.take_of_length_le (by rw [nds_len,← HN.out];omega),List.take_of_length_le (by rw [nds_len,← HN'.out];omega)] at h9)
     go_wp2_with fail
     go_ret
     exact⟨HL.out,true,rfl,by simp only [true_iff];exact⟨HEQ.out,HIT.out⟩⟩
theorem same_any (A B A' B':Option Addr)(c d c' d':Nat)(xs ys:List NV)(its:List Int)(w:World)(hT:TAt w A B xs its)(hU:TAt w A' B' ys its)(hN:nds xs=nds ys)(hx:xs.length≤100000)(hi:its.length≤100000) :
  Calls Tryz.prog 19 #[.agg #[.slice A xs.length c,.slice B its.length d],.agg #[.slice A' ys.length c',.slice B' its.length d']] w fun e w'=>Below w.heap.size w w'∧e=.returned (.bool true):=by
 have hl:ys.length=xs.length:=by rw [← nds_len,← nds_len,hN]
 have HAL:=hid fun W (hb:Below w.heap.size w W)=>alike_any A B A' B' c d c' d' xs ys its its W (hT.below hb) (hU.below hb) hx (by omega) hi hi
 rw [hl] at HAL ⊢
 obtain⟨n,hnn⟩:∃ n,n=xs.length:=⟨_,rfl⟩
 obtain⟨m,hmm⟩:∃ m,m=its.length:=⟨_,rfl⟩
 rw [← hnn,← hmm] at HAL ⊢
 rw [← hnn] at hx hl
 have HN:=hid hnn;clear hnn
 have HN':=hid hl.symm;clear hl
 have HE:=hid hN;clear hN
 have HT:=hid hT;clear hT
 have HU:=hid hU;clear hU
 clear hmm hi
 have HL0:=hid (balloc (balloc (Below.refl w.heap.size w) (Nat.le_refl _) (o:=.cells #[.slice A n c,.slice B m d] 26)) (by simp) (o:=.cells #[.slice A' n c',.slice B' m d'] 26))
 have HX0:=hid ((Blk.new w 26 #[.slice A n c,.slice B m d]).alloc (.cells #[.slice A' n c',.slice B' m d'] 26))
 have HY0:=hid (blk_topW (W:=w.alloc (.cells #[.slice A n c,.slice B m d] 26)) (T:=26) (cs:=#[.slice A' n c',.slice B' m d']) (k:=w.heap.size+1) (by simp))
 go_enter Tryz.func19,Tryz.ntmps19
 go_wp2_with fail
 refine (HAL.out _ HL0.out).mono ?_
 rintro e w1⟨hb1,r,rfl,hr⟩
 obtain rfl:r=true:=hr.2 ⟨by rw [HE.out],by trivial⟩
 clear hr
 have HX:=hid (HX0.out.below hb1 HX0.out.lt)
 have HY:=hid (HY0.out.below hb1 HY0.out.lt)
 have HL:=hid (HL0.out.trans (hb1.mono HL0.out.size))
 clear HX0 HY0 HL0 hb1 HAL
 go_wp2_with fail
 go_loopw [5] (fun i wr=>∃ k:Nat,k≤n∧i=.int .i64 k∧Hid (Blk wr w.heap.size 26 #[.slice A n c,.slice B m d])∧Hid (Blk wr (w.heap.size+1) 26 #[.slice A' n c',.slice B' m d'])∧Hid (Below w.heap.size w wr)) (fun i _=>n - (intOf i).toNat)
 case atStart=>exact⟨0,Nat.zero_le _,rfl,HX,HY,HL⟩
 case round =>
  clear HX HY HL
  obtain⟨k,hk,rfl,HX,HY,HL⟩:=hrel
  have x0:=HX.out.cell 0
  have x1:=HX.out.cell 1
  have y0:=HY.out.cell 0
  have y1:=HY.out.cell 1
  by_cases hkn:k < n
  ·have i3:decide (k < n)=true:=decide_eq_true hkn
   obtain⟨b,o,rfl,hA⟩:=HT.out.nodes (by rw [← HN.out];omega)
   obtain⟨b',o',rfl,hB⟩:=HU.out.nodes (by rw [← HN'.out];omega)
   obtain⟨x,hx⟩:∃ x,xs[k]? = some x:=xs_at (by rw [← HN.out];exact hkn)
   obtain⟨y,hy⟩:∃ y,ys[k]? = some y:=xs_at (by rw [← HN'.out];exact hkn)
   have c4:=(HL.out.cell (p:=⟨b,o+k * 5+4,none⟩) hA.lt).trans (hA.c4 k x hx)
   have d4:=(HL.out.cell (p:=⟨b',o'+k * 5+4,none⟩) hB.lt).trans (hB.c4 k y hy)
   have e1:y.1=x.1:=by
    have h1:=nds_get hx
    have h2:=nds_get hy
    rw [HE.out] at h1
    exact Option.some.inj (h2.symm.trans h1)
   rw [e1] at d4
   clear hA hB hx hy e1
   have z0:(0:Int)≤(k:Int):=by omega
   have z1:(k:Int) < (n:Int):=by omega
   have e2:(x.1.at_ != x.1.at_)=false:=by simp
   go_wp2_with fail
   go_quiet (fail)
   go_wp2_with fail
   exact⟨⟨k+1,by omega,by go_num,hid (HX.out.drewN _),hid (HY.out.drewN _),hid (bdrewN HL.out _)⟩,by simp [intOf];omega⟩
  ·have i3:decide (k < n)=false:=decide_eq_false hkn
   go_wp2_with fail
   go_ret
   exact⟨HL.out,rfl⟩
end Go.Proofs.YthepmkjggfijoaaGreatDoor
namespace Go.Proofs.YthepmkjggfijoaaGreatDoor
open Go.RowKit Mist
attribute [local go_sem] ofL_extract ofL_size ofL_get ofL_bytes ofL_append
theorem big_any (A B:Option Addr)(c d:Nat)(xs:List NV)(its:List Int)(w:World)(hR:RawAt w A B xs its)(hxs:xs.length≤17592186044416)(hi:its.length≤17592186044416)(hX:∀ x ∈ xs,x.1.text.length≤140737488351232∧x.1.kids.length≤17592186044416) :
  Calls Tryz.prog 20 #[.agg #[.slice A xs.length c,.slice B its.length d]] w fun e w'=>e=.returned (.bool (bigL ⟨nds xs,its⟩))∧Below w.heap.size w w':=by
 obtain⟨n,hnn⟩:∃ n,n=xs.length:=⟨_,rfl⟩
 obtain⟨m,hmm⟩:∃ m,m=its.length:=⟨_,rfl⟩
 rw [← hnn] at hxs ⊢
 rw [← hmm] at hi ⊢
 have HBG:=hid (show bigL ⟨nds xs,its⟩=(decide (900 < n) || decide (100 < m) || decide (3000 < sumK ((nds xs).take 901)) || decide (5000 < sumB ((nds xs).take 901))) by unfold bigL;rw [hnn,hmm];simp only [nds_len])
 have HNN:=hid (show (nds xs).length=n by rw [nds_len,hnn])
 have HXL:=hid hnn;clear hnn
 clear hmm
 have HR:=hid hR;clear hR
 have HX:=hid hX;clear hX
 have HSB:=hid (show ∀ k,sumK ((nds xs).take k)≤k * 17592186044416∧sumB ((nds xs).take k)≤k * 140737488351232 from fun k=>by
  have q:∀ x ∈ (nds xs).take k,x.text.length≤140737488351232∧x.kids.length≤17592186044416:=fun x hx=>by
   obtain⟨y,hy,rfl⟩:=List.mem_map.1 (List.mem_of_mem_take hx)
   exact HX.out y hy
  have l:((nds xs).take k).length≤k:=List.length_take_le _ _
  exact⟨Nat.le_trans (sumK_bound fun x hx=>(q x hx).2) (Nat.mul_le_mul_right _ l),Nat.le_trans (sumB_bound fun x hx=>(q x hx).1) (Nat.mul_le_mul_right _ l)⟩)
 go_enter Tryz.func20,Tryz.ntmps20
 go_wp2_with fail
 have HT0:=hid (Blk.new w 26 #[.slice A n c,.slice B m d])
 have HL0:=hid (balloc (Below.refl w.heap.size w) (Nat.le_refl _) (o:=.cells #[.slice A n c,.slice B m d] 26))
 go_loopw [3,4,5] (fun kv bv i wr=>∃ k S Z:Nat,k≤n∧k≤901∧i=.int .i64 k∧kv=.int .i64 S∧bv=.int .i64 Z∧Hid (S=sumK ((nds xs).take k))∧Hid (Z=sumB ((nds xs).take k))∧Hid (Blk wr w.heap.size 26 #[.slice A n c,.slice B m d])∧Hid (Below w.heap.size w wr)) (fun _ _ i _=>901 - (intOf i).toNat)
 case atStart=>exact⟨0,0,0,Nat.zero_le _,by omega,rfl,rfl,rfl,hid (by simp [sumK]),hid (by simp [sumB]),HT0,HL0⟩
 case round =>
  obtain⟨k,S,Z,hk,hk9,rfl,rfl,rfl,HS,HZ,HT,HL⟩:=hrel
  have t0:=HT.out.cell 0
  have t1:=HT.out.cell 1
  have hb1:S≤901 * 17592186044416:=by
   have h9:=(HSB.out k).1
   rw [← HS.out] at h9
   exact Nat.le_trans h9 (Nat.mul_le_mul_right _ hk9)
  have hb2:Z≤901 * 140737488351232:=by
   have h9:=(HSB.out k).2
   rw [← HZ.out] at h9
   exact Nat.le_trans h9 (Nat.mul_le_mul_right _ hk9)
  by_cases hgo:k < n∧k < 901
  ·obtain⟨hkn,hk1⟩:=hgo
   have i3:decide (k < n)=true:=decide_eq_true hkn
   have i4:decide (k < 901)=true:=decide_eq_true hk1
   have i5:decide ((k:Int) < 901)=true:=decide_eq_true (by omega)
   obtain⟨b,o,rfl,hbl,hc⟩:=HR.out.nodes (by rw [← HXL.out];omega)
   obtain⟨x,hx⟩:∃ x,xs[k]? = some x:=⟨_,List.getElem?_eq_getElem (by rw [← HXL.out];exact hkn)⟩
   obtain⟨K,ck,hxe,_⟩:=HR.out.kids x (List.mem_of_getElem? hx)
   have hq:=HX.out x (List.mem_of_getElem? hx)
   have e1:=hc k 1 x _ hx rfl
   rw [← Nat.add_assoc] at e1
   have c1:=(HL.out.cell (p:=⟨b,o+k * 5+1,none⟩) (by exact hbl)).trans e1
   have e3:=hc k 3 x _ hx rfl
   rw [← Nat.add_assoc] at e3
   have c3:=(HL.out.cell (p:=⟨b,o+k * 5+3,none⟩) (by exact hbl)).trans e3
   rw [hxe] at c3
   clear e1 e3
   have HTK:=hid (show (nds xs).take (k+1)=(nds xs).take k ++ [x.1] by rw [List.take_add_one,nds_get hx];rfl)
   clear hc hxe hx
   obtain⟨nk,hnk⟩:∃ q,q=x.1.kids.length:=⟨_,rfl⟩
   obtain⟨tx,htx⟩:∃ q,q=x.1.text:=⟨_,rfl⟩
   rw [← htx] at c1 hq
   rw [← hnk] at c3 hq
   have HNK:=hid hnk;clear hnk
   have HTX:=hid htx;clear htx
   have z0:(0:Int)≤(k:Int):=by omega
   have z1:(k:Int) < (n:Int):=by omega
   have w1:IntKind.i64.wrap ((S:Int)+(nk:Int))=(S:Int)+(nk:Int):=IntWalk.i64_in _ (by omega)
   have w2:IntKind.i64.wrap ((Z:Int)+(tx.length:Int))=(Z:Int)+(tx.length:Int):=IntWalk.i64_in _ (by omega)
   go_wp2_with fail
   go_quiet (fail)
   go_wp2_with fail
   refine⟨⟨k+1,S+nk,Z+tx.length,by omega,by omega,by go_num,by simp,by simp,hid (by rw [HTK.out,sumK_snoc,HS.out,HNK.out]),hid (by rw [HTK.out,sumB_snoc,HZ.out,HTX.out]),hid (HT.out.drewN _),hid (bdrewN HL.out _)⟩,by simp [intOf];omega⟩
  ·have hfin:∀ f:List Nd→Nat,f ((nds xs).take k)=f ((nds xs).take 901):=fun f=>by
    by_cases h9:k=901
    ·rw [h9]
    ·have h8:=HNN.out
     rw [List.take_of_length_le (by omega),List.take_of_length_le (by omega)]
   have HS9:=hid (show sumK ((nds xs).take 901)=S by rw [HS.out];exact (hfin sumK).symm)
   have HZ9:=hid (show sumB ((nds xs).take 901)=Z by rw [HZ.out];exact (hfin sumB).symm)
   rw [HS9.out,HZ9.out] at HBG
   clear hfin
   have hcase:¬ k < n∨(k < n∧k=901):=by omega
   rcases hcase with hkn | ⟨hkn,rfl⟩
   ·have i3:decide (k < n)=false:=decide_eq_false hkn
    go_upto_region 6 with (fail)
    by_cases h1:900 < n
    ·have d1:decide (900 < n)=true:=decide_eq_true h1
     have d1':decide ((900:Int) < (n:Int))=true:=decide_eq_true (by omega)
     go_wp2
     go_ret
     exact⟨by rw [HBG.out];simp [d1],HL.out⟩
    have d1:decide (900 < n)=false:=decide_eq_false h1
    have d1':decide ((900:Int) < (n:Int))=false:=decide_eq_false (by omega)
    by_cases h2:100 < m
    ·have d2:decide (100 < m)=true:=decide_eq_true h2
     have d2':decide ((100:Int) < (m:Int))=true:=decide_eq_true (by omega)
     go_wp2
     go_ret
     exact⟨by rw [HBG.out];simp [d2],HL.out⟩
    have d2:decide (100 < m)=false:=decide_eq_false h2
    have d2':decide ((100:Int) < (m:Int))=false:=decide_eq_false (by omega)
    by_cases h3:3000 < S
    ·have d3:decide (3000 < S)=true:=decide_eq_true h3
     have d3':decide ((3000:Int) < (S:Int))=true:=decide_eq_true (by omega)
     go_wp2
     go_ret
     exact⟨by rw [HBG.out];simp [d3],HL.out⟩
    have d3:decide (3000 < S)=false:=decide_eq_false h3
    have d3':decide ((3000:Int) < (S:Int))=false:=decide_eq_false (by omega)
    by_cases h4:5000 < Z
    ·have d4:decide (5000 < Z)=true:=decide_eq_true h4
     have d4':decide ((5000:Int) < (Z:Int))=true:=decide_eq_true (by omega)
     go_wp2
     go_ret
     exact⟨by rw [HBG.out];simp [d4],HL.out⟩
    have d4:decide (5000 < Z)=false:=decide_eq_false h4
    have d4':decide ((5000:Int) < (Z:Int))=false:=decide_eq_false (by omega)
    go_wp2
    go_ret
    exact⟨by rw [HBG.out];simp [d1,d2,d3,d4],HL.out⟩
   ·have i3:decide (901 < n)=true:=decide_eq_true hkn
    have i4:decide ((901:Int) < (n:Int))=true:=decide_eq_true (by omega)
    have d1:decide (900 < n)=true:=decide_eq_true (by omega)
    have d1':decide ((900:Int) < (n:Int))=true:=decide_eq_true (by omega)
    go_wp2
    go_ret
    exact⟨by rw [HBG.out];simp [d1],HL.out⟩
end Go.Proofs.YthepmkjggfijoaaGreatDoor
namespace Go.Proofs.YthepmkjggfijoaaGreatDoor
open Go.RowKit Mist
attribute [local go_sem] ofL_extract ofL_size ofL_get ofL_bytes ofL_append
theorem RowsIn.tAt {g:Nat}{w:World}{A B:Option Addr}{c d:Nat}{xs:List NV}{its:List Int}(h:RowsIn g w (.slice A xs.length c) (.slice B its.length d) xs its)(hk:∀ x ∈ xs,x.1.kids.length≤1000000):TAt w A B xs its:=by
 refine⟨fun h0=>?_,own_ints h.row rfl⟩
 obtain⟨gb,e,hn⟩:=own_nodes h.own h0 (fun x hx=>⟨_,h.kids x hx⟩) hk
 exact⟨gb,0,e,hn⟩
def TreeArg (w:World)(A B:Option Addr)(c:Nat)(xs:List NV)(its:List Int):Prop :=
 RawAt w A B xs its∧xs.length≤c∧its.length≤17592186044416∧c≤17592186044416∧(∀ i ∈ its,lowN≤i∧i≤highN) ∧
   ∀ x ∈ xs,(x.1.kind < 256∧(lowN≤x.1.n∧x.1.n≤highN)∧(lowN≤x.1.at_∧x.1.at_≤highN)∧(∀ c ∈ x.1.kids,lowN≤c∧c≤highN))∧x.1.text.length≤reachBytes∧x.1.kids.length≤17592186044416
theorem TreeArg.big {w:World}{A B:Option Addr}{c:Nat}{xs:List NV}{its:List Int}(h:TreeArg w A B c xs its)(g:Nat)(W:World)(hb:Below w.heap.size w W) :
  Calls Tryz.prog 20 #[.agg #[.slice A xs.length c,.slice B its.length g]] W fun e w'=>e=.returned (.bool (bigL ⟨nds xs,its⟩))∧Below W.heap.size W w':=by
 obtain⟨h1,h2,h3,h4,h5,h6⟩:=h
 have hr:reachBytes=140737488351232:=rfl
 exact big_any A B c g xs its W (h1.below hb) (by omega) h3 (fun x hx=>by
  obtain⟨_,h7,h8⟩:=h6 x hx
  exact⟨by omega,h8⟩)
theorem TreeArg.small {w:World}{A B:Option Addr}{c:Nat}{xs:List NV}{its:List Int}(h:TreeArg w A B c xs its)(hb:bigL ⟨nds xs,its⟩=false) :
  TAt w A B xs its∧TrR (nds xs)∧xs.length≤900∧its.length≤100∧(∀ x ∈ xs,x.1.text.length≤100000000)∧(∀ x ∈ xs,∀ k ∈ x.1.kids,lowN≤k∧k≤highN)∧∀ x ∈ nds xs,x.kids.length≤1000000:=by
 obtain⟨h1,h2,h3,h4,h5,h6⟩:=h
 obtain⟨b1,b2,b3⟩:=bigL_not hb
 have b4:∀ x ∈ xs,x.1.kids.length≤3000∧x.1.text.length≤5000:=fun x hx=>b3 x.1 (List.mem_map.2 ⟨x,hx,rfl⟩)
 refine⟨h1.tAt fun x hx=>by have:=(b4 x hx).1;omega,fun n hn=>?_,by simpa [nds_len] using b1,b2,fun x hx=>by have:=(b4 x hx).2;omega,fun x hx=>(h6 x hx).1.2.2.2,fun x hx=>by have:=(b3 x hx).1;omega⟩
 obtain⟨x,hx,rfl⟩:=List.mem_map.1 hn
 obtain⟨⟨h7,h8,h9,h10⟩,_,_⟩:=h6 x hx
 exact⟨h7,by have:=(b4 x hx).2;omega,h8,h9,h10⟩
end Go.Proofs.YthepmkjggfijoaaGreatDoor
namespace Go.Proofs.YthepmkjggfijoaaGreatDoor
open Go.RowKit Mist
def aboveN (ns:List Nd)(c:Int):Int:=firstN (fun x=>x.kids.any (· == c)) ns
theorem pKids_get (i:Int):∀ (ks P:List Int) (j:Nat),(∀ k ∈ ks,0≤k∧k < (P.length:Int))→(pKids i ks P).getD j 0=if (j:Int) ∈ ks then i else P.getD j 0
 | [],P,j,_=>by simp [pKids]
 | k :: r,P,j,h=>by
  rw [pKids,pKids_get i r _ j (fun x hx=>by rw [List.length_set];exact h x (List.mem_cons_of_mem _ hx)),getZ_set]
  have h0:=h k (List.mem_cons_self ..)
  by_cases h1:(j:Int) ∈ r
  ·rw [if_pos h1,if_pos (List.mem_cons_of_mem _ h1)]
  ·rw [if_neg h1]
   by_cases h2:k.toNat=j
   ·rw [if_pos ⟨h2,by omega⟩,if_pos (by rw [show (j:Int)=k by omega];exact List.mem_cons_self ..)]
   ·rw [if_neg (fun h=>h2 h.1),if_neg]
    intro h3
    rcases List.mem_cons.1 h3 with h4 | h4
    ·omega
    ·exact h1 h4
theorem pRun_is {ns:List Nd}(hW:Wf ns):∀ k,k≤ns.length→∀ j,j < k→((pRun ns k).getD j 0=-1∧∀ m x,m < k→ns[m]? = some x→(j:Int) ∉ x.kids)∨∃ m x,m < k∧ns[m]? = some x∧(j:Int) ∈ x.kids∧(pRun ns k).getD j 0=(m:Int)
 | 0,_,j,hj=>by omega
 | k+1,hk,j,hj=>by
  obtain⟨x,hx⟩:∃ x,ns[k]? = some x:=⟨_,List.getElem?_eq_getElem (by omega)⟩
  have hks:=hW k x hx
  have e:(pRun ns (k+1)).getD j 0=if (j:Int) ∈ x.kids then (k:Int) else ((pRun ns k).set k (-1)).getD j 0:=by
   rw [pRun,pStep,hx]
   exact pKids_get _ _ _ _ (fun c hc=>by rw [List.length_set,pRun_len];have:=hks c hc;omega)
  rw [e]
  by_cases h1:(j:Int) ∈ x.kids
  ·rw [if_pos h1]
   exact .inr ⟨k,x,by omega,hx,h1,rfl⟩
  ·rw [if_neg h1,getZ_set]
   by_cases h2:k=j
   ·subst h2
    rw [if_pos ⟨rfl,by rw [pRun_len];omega⟩]
    refine .inl ⟨rfl,fun m y hm hy hc=>?_⟩
    have:=hW m y hy _ hc
    omega
   ·rw [if_neg (fun h=>h2 h.1)]
    rcases pRun_is hW k (by omega) j (by omega) with ⟨h3,h4⟩ | ⟨m,y,h3,h4,h5,h6⟩
    ·refine .inl ⟨h3,fun m y hm hy hc=>?_⟩
     rcases Nat.lt_or_ge m k with h7 | h7
     ·exact h4 m y h7 hy hc
     ·obtain rfl:m=k:=by omega
      rw [hx] at hy;cases hy
      exact h1 hc
    ·exact .inr ⟨m,y,by omega,h4,h5,h6⟩
theorem parent_of {ns:List Nd}{qs:List Int}(hW:Wf ns)(hf:Fo ns 0 ns.length qs){j m:Nat}{x:Nd}(hx:ns[m]? = some x)(hc:(j:Int) ∈ x.kids):(parentsOf ns).getD j 0=(m:Int):=by
 have hm:=(List.getElem?_eq_some_iff.1 hx).1
 have hj:=hW m x hx _ hc
 rcases pRun_is hW ns.length (Nat.le_refl _) j (by omega) with ⟨_,h4⟩ | ⟨m',y,h3,h4,h5,h6⟩
 ·exact absurd hc (h4 m x hm hx)
 ·rw [Fo.one_parent hf hm h3 hx h4 hc h5]
  exact h6
theorem kid_par {ns:List Nd}(hW:Wf ns){j m:Nat}(hj:j < ns.length)(h:(parentsOf ns).getD j 0=(m:Int)):∃ x,ns[m]? = some x∧(j:Int) ∈ x.kids:=by
 rcases pRun_is hW ns.length (Nat.le_refl _) j hj with ⟨h3,_⟩ | ⟨m',y,h3,h4,h5,h6⟩
 ·unfold parentsOf at h;omega
 ·have:m'=m:=by unfold parentsOf at h;omega
  subst this
  exact⟨y,h4,h5⟩
theorem root_of {ns:List Nd}{qs:List Int}(hW:Wf ns)(hf:Fo ns 0 ns.length qs){r:Nat}(hr:(r:Int) ∈ qs):(parentsOf ns).getD r 0=-1:=by
 have hi:=hf.ids _ hr
 rcases pRun_is hW ns.length (Nat.le_refl _) r (by omega) with ⟨h3,_⟩ | ⟨m',y,h3,h4,h5,h6⟩
 ·exact h3
 ·exact absurd hr (hf.apart m' y (Nat.zero_le _) h3 h4 _ h5)
theorem parents_above {ns:List Nd}{qs:List Int}(hW:Wf ns)(hf:Fo ns 0 ns.length qs){j:Nat}(hj:j < ns.length):(parentsOf ns).getD j 0=aboveN ns (j:Int):=by
 rcases pRun_is hW ns.length (Nat.le_refl _) j hj with ⟨h3,h4⟩ | ⟨m,y,h3,h4,h5,h6⟩
 ·rw [show (parentsOf ns).getD j 0=-1 from h3]
  refine (firstN_miss ?_).symm
  rw [List.all_eq_true]
  intro x hx
  obtain⟨m,hm,rfl⟩:=List.getElem_of_mem hx
  have:=h4 m _ hm (List.getElem?_eq_getElem hm)
  simp only [Bool.not_eq_true',List.any_eq_false,beq_iff_eq]
  exact fun x hx e=>this (e ▸ hx)
 ·rw [show (parentsOf ns).getD j 0=(m:Int) from h6]
  refine (firstN_hit (x:=y) ?_ h4 (by simpa using h5)).symm
  rw [List.all_eq_true]
  intro x hx
  obtain⟨m',hm',rfl⟩:=List.getElem_of_mem hx
  rw [List.length_take] at hm'
  have e:(ns.take m)[m']? = some (ns.take m)[m']:=List.getElem?_eq_getElem _
  rw [List.getElem?_take_of_lt (by omega)] at e
  have hno:(j:Int) ∉ ((ns.take m)[m']).kids:=fun hc=>by
   have:=Fo.one_parent hf (show m' < ns.length by omega) h3 e h4 hc h5
   omega
  simp only [Bool.not_eq_true',List.any_eq_false,beq_iff_eq]
  exact fun x hx e=>hno (e ▸ hx)
theorem upL_more {P:List Int}(hP:GoodP P):∀ (f n:Nat),n < P.length→P.length≤n+f→upL P (f+1) (n:Int)=upL P f (n:Int)
 | 0,n,h1,h2=>by omega
 | f+1,n,h1,h2=>by
  rw [upL_step (f:=f+1) (n:=n),upL_step (f:=f) (n:=n)]
  congr 1
  rcases hP n h1 with h | ⟨h3,h4⟩
  ·rw [h,upL_stop,upL_stop]
  ·obtain⟨m,hm⟩:∃ m:Nat,P.getD n 0=(m:Int):=⟨(P.getD n 0).toNat,by omega⟩
   rw [hm]
   exact upL_more hP f m (by omega) (by omega)
def upN (P:List Int)(n:Nat):List Nat:=upL P (P.length+1) (n:Int)
theorem upN_root {P:List Int}{n:Nat}(h:P.getD n 0=-1):upN P n=[n]:=by
 unfold upN;rw [upL_step,h,upL_stop]
theorem upN_kid {P:List Int}(hP:GoodP P){n m:Nat}(h:P.getD n 0=(m:Int))(hm:m < P.length):upN P n=n :: upN P m:=by
 unfold upN;rw [upL_step (f:=P.length) (n:=n),h,upL_more hP P.length m hm (by omega)]
theorem upN_pos {P:List Int}{n:Nat}:0 < (upN P n).length:=by
 unfold upN;rw [upL_step];simp
theorem dKids_get (v:Nat):∀ (ks:List Int) (D:List Nat) (j:Nat),(∀ k ∈ ks,0≤k∧k < (D.length:Int))→(dKids v ks D).getD j 0=if (j:Int) ∈ ks then v+1 else D.getD j 0
 | [],D,j,_=>by simp [dKids]
 | k :: r,D,j,h=>by
  rw [dKids,dKids_get v r _ j (fun x hx=>by rw [List.length_set];exact h x (List.mem_cons_of_mem _ hx)),getD_set]
  have h0:=h k (List.mem_cons_self ..)
  by_cases h1:(j:Int) ∈ r
  ·rw [if_pos h1,if_pos (List.mem_cons_of_mem _ h1)]
  ·rw [if_neg h1]
   by_cases h2:k.toNat=j
   ·rw [if_pos ⟨h2,by omega⟩,if_pos (by rw [show (j:Int)=k by omega];exact List.mem_cons_self ..)]
   ·rw [if_neg (fun h=>h2 h.1),if_neg]
    intro h3
    rcases List.mem_cons.1 h3 with h4 | h4
    ·omega
    ·exact h1 h4
def DInv (ns:List Nd)(k:Nat)(D:List Nat):Prop:=D.length=ns.length∧∀ j,j < ns.length→D.getD j 0=if k≤j∨(k:Int)≤(parentsOf ns).getD j 0 then (upN (parentsOf ns) j).length else 0
theorem dInv_step {ns:List Nd}{qs:List Int}(hW:Wf ns)(hf:Fo ns 0 ns.length qs){i:Nat}{D:List Nat}(hi:i < ns.length)(h:DInv ns (i+1) D):DInv ns i (dStep ns i D):=by
 obtain⟨hG,hGl⟩:=goodP_of hW
 obtain⟨x,hx⟩:∃ x,ns[i]? = some x:=⟨_,List.getElem?_eq_getElem hi⟩
 have hks:=hW i x hx
 have hone:∀ j,j < ns.length→(dOne i D).getD j 0=if j=i then (upN (parentsOf ns) i).length else D.getD j 0:=by
  intro j hj
  have hDi:=h.2 i hi
  have hp:=hG i (by rw [hGl];exact hi)
  unfold dOne
  rcases hp with h1 | ⟨h1,_⟩
  ·rw [if_neg (by omega)] at hDi
   rw [if_pos hDi,getD_set,upN_root h1]
   by_cases h2:j=i
   ·rw [if_pos ⟨h2.symm,by rw [h.1];exact hj⟩,if_pos h2];rfl
   ·rw [if_neg (fun h3=>h2 h3.1.symm),if_neg h2]
  ·rw [if_pos (by omega)] at hDi
   have:=upN_pos (P:=parentsOf ns) (n:=i)
   rw [if_neg (by omega)]
   by_cases h2:j=i
   ·subst h2;rw [if_pos rfl,hDi]
   ·rw [if_neg h2]
 refine⟨by rw [dStep_len];exact h.1,fun j hj=>?_⟩
 have e:(dStep ns i D).getD j 0=if (j:Int) ∈ x.kids then (dOne i D).getD i 0+1 else (dOne i D).getD j 0:=by
  unfold dStep
  rw [hx]
  exact dKids_get _ _ _ _ (fun c hc=>by rw [dOne_len,h.1];have:=hks c hc;omega)
 rw [e]
 by_cases h1:(j:Int) ∈ x.kids
 ·have hp:=parent_of hW hf hx h1
  rw [if_pos h1,if_pos (.inr (by omega)),hone i hi,if_pos rfl,upN_kid hG hp (by rw [hGl];exact hi)]
  rfl
 ·rw [if_neg h1,hone j hj]
  by_cases h2:j=i
  ·subst h2;rw [if_pos rfl,if_pos (.inl (Nat.le_refl _))]
  ·rw [if_neg h2,h.2 j hj]
   have h3:(parentsOf ns).getD j 0 ≠ (i:Int):=fun h9=>by
    obtain⟨y,hy,hk⟩:=kid_par hW hj h9
    rw [hx] at hy;cases hy
    exact h1 hk
   by_cases h4:i+1≤j∨((i+1:Nat):Int)≤(parentsOf ns).getD j 0
   ·rw [if_pos h4,if_pos (by omega)]
   ·rw [if_neg h4,if_neg (by omega)]
theorem dInv_run {ns:List Nd}{qs:List Int}(hW:Wf ns)(hf:Fo ns 0 ns.length qs):∀ (k:Nat) (D:List Nat),k≤ns.length→DInv ns k D→DInv ns 0 (dRun ns k D)
 | 0,_,_,h=>h
 | k+1,D,hk,h=>dInv_run hW hf k _ (by omega) (dInv_step hW hf (by omega) h)
theorem depths_up {ns:List Nd}{qs:List Int}(hW:Wf ns)(hf:Fo ns 0 ns.length qs){j:Nat}(hj:j < ns.length):(depthsOf ns).getD j 0=(upN (parentsOf ns) j).length:=by
 obtain⟨hG,hGl⟩:=goodP_of hW
 have h:=(dInv_run hW hf ns.length (List.replicate ns.length 0) (Nat.le_refl _) ⟨by simp,fun i hi=>by
  have hp:=hG i (by rw [hGl];exact hi)
  rw [hGl] at hp
  rw [if_neg (by omega),List.getD_eq_getElem?_getD,List.getElem?_replicate]
  simp [hi]⟩).2 j hj
 rw [if_pos (.inl (Nat.zero_le _))] at h
 exact h
inductive Up (ns:List Nd):Nat→Nat→Prop
 | refl (i:Nat):Up ns i i
 | step {i j r:Nat} {x:Nd} (e:ns[j]? = some x) (h:(i:Int) ∈ x.kids) (k:Up ns j r):Up ns i r
theorem Up.more {ns:List Nd}{i r b:Nat}{n:Nd}(h:Up ns i r)(e:ns[b]? = some n)(k:(r:Int) ∈ n.kids):Up ns i b:=by
 induction h with
 | refl=>exact .step e k (.refl _)
 | step e' h' _ ih=>exact .step e' h' (ih k)
theorem fo_up {ns:List Nd}{a b:Nat}{qs:List Int}(h:Fo ns a b qs):∀ i,a≤i→i < b→∃ (q r:Nat),qs[q]? = some (r:Int)∧i≤r∧(∀ (q':Nat) c,q' < q→qs[q']? = some c→c < (i:Int))∧Up ns i r:=by
 induction h with
 | nil=>intro i h1 h2;omega
 | @snoc a m b qs n h k e ih jh =>
  intro i h1 h2
  have hlast:(qs ++ [(b:Int)])[qs.length]? = some (b:Int):=by simp
  have hbelow:m≤i→∀ (q':Nat) c,q' < qs.length→(qs ++ [(b:Int)])[q']? = some c→c < (i:Int):=by
   intro hm q' c hq hc
   rw [List.getElem?_append_left hq] at hc
   have:=h.ids c (List.mem_of_getElem? hc)
   omega
  rcases Nat.lt_or_ge i m with h3 | h3
  ·obtain⟨q,r,g1,g2,g3,g4⟩:=ih i h1 h3
   have hq:=(List.getElem?_eq_some_iff.1 g1).1
   refine⟨q,r,by rw [List.getElem?_append_left hq];exact g1,g2,fun q' c hq' hc=>?_,g4⟩
   rw [List.getElem?_append_left (by omega)] at hc
   exact g3 q' c hq' hc
  ·rcases Nat.lt_or_ge i b with h4 | h4
   ·obtain⟨q,r,g1,g2,g3,g4⟩:=jh i h3 h4
    exact⟨qs.length,b,hlast,by omega,hbelow h3,g4.more e (List.mem_of_getElem? g1)⟩
   ·obtain rfl:i=b:=by omega
    exact⟨qs.length,i,hlast,Nat.le_refl _,hbelow h3,.refl _⟩
theorem up_last {ns:List Nd}{qs:List Int}(hW:Wf ns)(hf:Fo ns 0 ns.length qs){i r:Nat}(h:Up ns i r):(parentsOf ns).getD r 0=-1→(upN (parentsOf ns) i).getLast? = some r:=by
 obtain⟨hG,hGl⟩:=goodP_of hW
 induction h with
 | refl=>intro hr;rw [upN_root hr];rfl
 | @step i j r x e h k ih =>
  intro hr
  rw [upN_kid hG (parent_of hW hf e h) (by rw [hGl];exact (List.getElem?_eq_some_iff.1 e).1),List.getLast?_cons,ih hr]
  rfl
theorem item_up {ns:List Nd}{qs:List Int}(hW:Wf ns)(hf:Fo ns 0 ns.length qs){i:Nat}(hi:i < ns.length):∃ (q r:Nat),qs[q]? = some (r:Int)∧i≤r∧(∀ (q':Nat) c,q' < q→qs[q']? = some c→c < (i:Int))∧(upN (parentsOf ns) i).getLast? = some r:=by
 obtain⟨q,r,g1,g2,g3,g4⟩:=fo_up hf i (Nat.zero_le _) hi
 exact⟨q,r,g1,g2,g3,up_last hW hf g4 (root_of hW hf (List.mem_of_getElem? g1))⟩
theorem findIdx_first {l:List Int}{q:Nat}{r k:Int}(hq:l[q]? = some r)(hr:k≤r)(hf:∀ (q':Nat) c,q' < q→l[q']? = some c→c < k):(l.findIdx fun c=>decide (k≤c))=q:=by
 obtain⟨hlt,he⟩:=List.getElem?_eq_some_iff.1 hq
 rw [List.findIdx_eq hlt]
 refine⟨by rw [he];exact decide_eq_true hr,fun j hj=>decide_eq_false ?_⟩
 have:=hf j _ hj (List.getElem?_eq_getElem (by omega))
 omega
end Go.Proofs.YthepmkjggfijoaaGreatDoor
namespace Go.Proofs.YthepmkjggfijoaaGreatDoor
open Go.RowKit Mist
theorem wsize_any (wb N nd:Nat)(P S:List Int)(tv iv:Value)(w:World)(hW:WorkAt w wb tv iv N S P)(hS:S.length=N)(hnd:nd < N) :
  Calls Tryz.prog 78 #[.pointer (some ⟨wb,0,none⟩),.int .i64 (nd:Int)] w fun e w'=>e=.returned (.int .i64 (S.getD nd 0))∧Below w.heap.size w w':=by
 obtain⟨sb,pb,h1,h2,h3,h4⟩:=hW.ex
 have x2:=h1.cell 2
 have s0:w.cell? ⟨sb,nd,none⟩=some (.int .i64 (S.getD nd 0)):=(h2.cell nd).trans (iZ_get S nd (by omega))
 have z0:(0:Int)≤(nd:Int):=by omega
 have z1:(nd:Int) < (N:Int):=by omega
 clear h1 h2 h3 h4 hW hS
 go_enter Tryz.func78,Tryz.ntmps78
 go_wp2_with fail
 go_ret
 exact⟨rfl,Below.refl _ _⟩
theorem wparent_any (wb N nd:Nat)(P S:List Int)(tv iv:Value)(w:World)(hW:WorkAt w wb tv iv N S P)(hP:P.length=N)(hnd:nd < N) :
  Calls Tryz.prog 79 #[.pointer (some ⟨wb,0,none⟩),.int .i64 (nd:Int)] w fun e w'=>e=.returned (.int .i64 (P.getD nd 0))∧Below w.heap.size w w':=by
 obtain⟨sb,pb,h1,h2,h3,h4⟩:=hW.ex
 have x2:=h1.cell 3
 have s0:w.cell? ⟨pb,nd,none⟩=some (.int .i64 (P.getD nd 0)):=(h3.cell nd).trans (iZ_get P nd (by omega))
 have z0:(0:Int)≤(nd:Int):=by omega
 have z1:(nd:Int) < (N:Int):=by omega
 clear h1 h2 h3 h4 hW hP
 go_enter Tryz.func79,Tryz.ntmps79
 go_wp2_with fail
 go_ret
 exact⟨rfl,Below.refl _ _⟩
theorem wdepth_any (wb N nd:Nat)(P S:List Int)(tv iv:Value)(w:World)(hW:WorkAt w wb tv iv N S P)(hP:GoodP P)(hN:P.length=N)(hN6:N≤100000)(hnd:nd < N) :
  Calls Tryz.prog 73 #[.pointer (some ⟨wb,0,none⟩),.int .i64 (nd:Int)] w fun e w'=>e=.returned (.int .i64 ((upN P nd).length:Int))∧Below w.heap.size w w':=by
 have HPT:=hid (path_in wb N nd P S tv iv w hW hP hN hN6 hnd)
 have HU:=hid (show upL P (N+1) (nd:Int)=upN P nd by unfold upN;rw [hN])
 rw [HU.out] at HPT
 clear hW hP hN hnd
 go_enter Tryz.func73,Tryz.ntmps73
 go_wp2_with fail
 refine HPT.out.mono ?_
 rintro e w2⟨hb,g,c,rfl,_,_⟩
 go_wp2_with fail
 go_ret
 exact⟨rfl,hb⟩
theorem idxOf_first {zs:List Int}{q:Nat}{x:Int}(hq:zs[q]? = some x)(hb:∀ (q':Nat) c,q' < q→zs[q']? = some c→c ≠ x):Lib.idxOf zs x=(q:Int):=by
 have hlt:=(List.getElem?_eq_some_iff.1 hq).1
 have h:=Lib.idxFrom_hit x zs q 0 hlt (by rw [List.getD_eq_getElem?_getD,hq];rfl) (fun j hj=>by
  rw [List.getD_eq_getElem?_getD,List.getElem?_eq_getElem (by omega)]
  exact hb j _ hj (List.getElem?_eq_getElem (by omega)))
 unfold Lib.idxOf
 rw [h,Nat.zero_add]
theorem witem_any (wb N nd q r d:Nat)(P S:List Int)(tv:Value)(B:Option Addr)(its:List Int)(w:World)(hW:WorkAt w wb tv (.slice B its.length d) N S P)(hP:GoodP P)(hN:P.length=N)(hN6:N≤100000)(hnd:nd < N)(hI:IntsIn w B its)(hi:its.length≤100000)
  (hq:its[q]? = some (r:Int)) (hf:∀ (q':Nat) c,q' < q→its[q']? = some c→c < (nd:Int)) (hr:nd≤r) (hl:(upN P nd).getLast? = some r) :
  Calls Tryz.prog 82 #[.pointer (some ⟨wb,0,none⟩),.int .i64 (nd:Int)] w fun e w'=>e=.returned (.int .i64 (q:Int))∧Below w.heap.size w w':=by
 have HPT:=hid fun W (hb:Below w.heap.size w W)=>path_in wb N nd P S tv (.slice B its.length d) W (hW.below hb) hP hN hN6 hnd
 have HU:=hid (show upL P (N+1) (nd:Int)=upN P nd by unfold upN;rw [hN])
 rw [HU.out] at HPT
 obtain⟨sb,pb,h1,h2,h3,h4⟩:=hW.ex
 have HW:=hid h1
 obtain⟨bi,oi,rfl,hbi,hci⟩:=hI.ex (by have:=(List.getElem?_eq_some_iff.1 hq).1;omega)
 have HC:=hid hci
 have HX:=hid (show Lib.idxOf its (r:Int)=(q:Int) by
  exact idxOf_first hq (fun q' c hq' hc=>by have:=hf q' c hq' hc;omega))
 have HH:=hid (show (upN P nd).reverse[0]? = some r by rw [← List.head?_eq_getElem?,List.head?_reverse,hl])
 have HPO:=hid (upN_pos (P:=P) (n:=nd))
 have x1:=h1.cell 1
 clear h1 h2 h3 h4 hW hP hN hnd hci hq hf hr hl hI
 go_enter Tryz.func82,Tryz.ntmps82
 go_wp2_with fail
 have hi2:its.length≤9223372036854775807:=by omega
 obtain⟨L,hL⟩:∃ L,L=(upN P nd).length:=⟨_,rfl⟩
 rw [← hL] at HPT HPO
 have z0:(0:Int) < (L:Int):=by have:=HPO.out;omega
 clear hL
 go_region_with (first
   | (go_at_call 81;refine (HPT.out _ (by repeat (first|(with_reducible exact Below.refl _ _)|(with_reducible refine Below.drew ?_)))).mono ?_;rintro e w4⟨hb4,g,cp,rfl,hg4,hcs⟩;have HL4:=hid (show Below w.heap.size w w4 from Below.trans (Below.drew (Below.refl _ _)) hb4);clear x1;have x1:=(HW.out.below HL4.out HW.out.lt).cell 1;have g0:=hcs 0 r HH.out;clear hb4 hcs)
   | (go_at_call 122;refine (Tryz.slices_Index_int bi oi its.length d its (r:Int) _ (Nat.le_refl _) hi2 (fun j hj=>(Below.cell (by repeat (first|(with_reducible exact HL4.out)|(with_reducible refine Below.drew ?_))) (by exact hbi)).trans (by rw [List.getD_eq_getElem?_getD,List.getElem?_eq_getElem hj];exact HC.out j _ (List.getElem?_eq_getElem hj)))).mono ?_;rintro e w5⟨rfl,rfl⟩))
 all_goals
  go_wp2_with fail
  go_ret
  refine⟨by rw [HX.out];first | done | rfl,?_⟩
  repeat (first|(with_reducible exact HL4.out)|(with_reducible refine Below.drew ?_))
end Go.Proofs.YthepmkjggfijoaaGreatDoor
