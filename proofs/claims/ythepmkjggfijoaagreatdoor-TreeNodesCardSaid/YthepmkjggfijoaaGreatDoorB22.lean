/-
  PARTS of the proof: N17, WalkK, N3, N4.
-/
import Derived.Deep.RegionLaw
import Derived.Laws.EntriesVeiled
import Derived.Test.YthepmkjggfijoaaGreatDoorB01
import Derived.Test.YthepmkjggfijoaaGreatDoorB06
import Derived.Test.YthepmkjggfijoaaGreatDoorB08
import Derived.Test.YthepmkjggfijoaaGreatDoorB20
import Derived.Test.YthepmkjggfijoaaGreatDoorB21
set_option linter.all false
set_option maxRecDepth 100000
set_option maxHeartbeats 8000000
open Go.Lib (hid)
namespace Go.Proofs.YthepmkjggfijoaaGreatDoor
open Go.RowKit Mist
attribute [local go_sem] ofL_extract ofL_size ofL_get ofL_bytes ofL_append
structure JS (g:Nat) (w:World) (tb:Nat) (nv iv:Value) (xs:List NV) (its:List Int):Prop where
 blk:Blk w tb 26 #[nv,iv]
 lo:tb < g
 own:w.ownsRow g 50 5 nv xs.length (ndRow xs)
 kids:∀ x ∈ xs,w.ownsRow g 3 1 x.2 x.1.kids.length (intCells x.1.kids)
 row:w.ownsRow g 3 1 iv its.length (intCells its)
 far:∀ x ∈ xs,x.2.ownBlock=none∨x.2.ownBlock ≠ iv.ownBlock
theorem JS.below {g:Nat} {w w':World} {tb:Nat} {nv iv:Value} {xs:List NV} {its:List Int} (h:JS g w tb nv iv xs its) (hb:Below w.heap.size w w'):JS g w' tb nv iv xs its :=
 ⟨h.blk.below hb h.blk.lt,h.lo,own_below h.own hb,fun x hx=>own_below (h.kids x hx) hb,own_below h.row hb,h.far⟩
theorem JS.far_ {g:Nat} {w:World} {tb:Nat} {nv iv:Value} {xs:List NV} {its:List Int} (h:JS g w tb nv iv xs its) {b i:Nat} {u:Value} (h0:b ≠ tb) (h1:nv.ownBlock ≠ some b) (h2:iv.ownBlock ≠ some b) (h3:∀ x ∈ xs,x.2.ownBlock ≠ some b):JS g (w.setCell ⟨b,i,none⟩ u) tb nv iv xs its :=
 ⟨h.blk.far (p:=⟨b,i,none⟩) (Ne.symm h0) u,h.lo,ownsRow_setCell_other h.own h1 u,fun x hx=>ownsRow_setCell_other (h.kids x hx) (h3 x hx) u,ownsRow_setCell_other h.row h2 u,h.far⟩
theorem JS.rowlt {g:Nat} {w:World} {tb:Nat} {nv iv:Value} {xs:List NV} {its:List Int} (h:JS g w tb nv iv xs its) {b:Nat} (hb:w.heap.size≤b):b ≠ tb∧nv.ownBlock ≠ some b∧iv.ownBlock ≠ some b∧∀ x ∈ xs,x.2.ownBlock ≠ some b :=
 ⟨by have:=h.blk.lt;omega,fun e=>by have:=(h.own.lt b e).2;omega,fun e=>by have:=(h.row.lt b e).2;omega,fun x hx e=>by have:=((h.kids x hx).lt b e).2;omega⟩
theorem JS.add {g:Nat} {w w1:World} {tb:Nat} {nv nv' iv:Value} {xs:List NV} {its:List Int} {x:NV} (h:JS g w tb nv iv xs its) (hg:w.grownBy w1 nv.ownBlock) (hown:w1.ownsRow g 50 5 nv' (xs.length+1) (ndRow xs ++ ndCells x)) (hk:w.ownsRow g 3 1 x.2 x.1.kids.length (intCells x.1.kids)) (hf:x.2.ownBlock=none∨x.2.ownBlock ≠ iv.ownBlock):JS g (w1.setCell ⟨tb,0,none⟩ nv') tb nv' iv (xs ++ [x]) its:=by
 have hb:=h.blk.grown hg (fun e=>own_blk_ne h.own h.blk (by decide) e.symm)
 have keep:∀ {v:Value} {n:Nat} {cs:List Value},w.ownsRow g 3 1 v n cs→(w1.setCell ⟨tb,0,none⟩ nv').ownsRow g 3 1 v n cs:=fun hk =>
  ownsRow_setCell_other (hk.kept hg (own_own_ne hk h.own (by decide))) (own_blk_ne (hk.kept hg (own_own_ne hk h.own (by decide))) hb (by decide)) _
 refine⟨?_,h.lo,?_,fun y hy=>?_,keep h.row,fun y hy=>?_⟩
 ·have:=hb.set_ 0 nv';simpa using this
 ·rw [List.length_append,ndRow_append]
  have e:ndRow [x]=ndCells x:=by simp [ndRow]
  rw [e]
  exact ownsRow_setCell_other hown (own_blk_ne hown hb (by decide)) _
 ·rcases List.mem_append.1 hy with hy | hy
  ·exact keep (h.kids y hy)
  ·rw [List.mem_singleton.1 hy];exact keep hk
 ·rcases List.mem_append.1 hy with hy | hy
  ·exact h.far y hy
  ·rw [List.mem_singleton.1 hy];exact hf
theorem JS.item {g:Nat} {w w1:World} {tb:Nat} {nv iv iv':Value} {xs:List NV} {its:List Int} {q:Int} (h:JS g w tb nv iv xs its) (hg:w.grownBy w1 iv.ownBlock) (hown:w1.ownsRow g 3 1 iv' (its.length+1) (intCells its ++ [.int .i64 q])) (hat:iv'.ownBlock=iv.ownBlock∨iv'.ownBlock=some w.heap.size):JS g (w1.setCell ⟨tb,1,none⟩ iv') tb nv iv' xs (its ++ [q]):=by
 have hb:=h.blk.grown hg (fun e=>own_blk_ne h.row h.blk (by decide) e.symm)
 have hn:=h.own.kept hg (own_own_ne h.own h.row (by decide))
 refine⟨?_,h.lo,ownsRow_setCell_other hn (own_blk_ne hn hb (by decide)) _,fun y hy=>?_,?_,fun y hy=>?_⟩
 ·have:=hb.set_ 1 iv';simpa using this
 ·have hk:=(h.kids y hy).kept hg (h.far y hy)
  exact ownsRow_setCell_other hk (own_blk_ne hk hb (by decide)) _
 ·rw [List.length_append,intCells_append]
  exact ownsRow_setCell_other hown (own_blk_ne hown hb (by decide)) _
 ·rcases hat with e | e
  ·rw [e];exact h.far y hy
  ·rcases h9:y.2.ownBlock with _ | b
   ·exact .inl rfl
   ·right
    rw [e]
    intro e2
    have:=((h.kids y hy).lt b h9).2
    injection e2 with e2
    omega
def moveN (by_:Int) (x:Nd):Nd:=⟨x.kind,x.text,x.n,x.kids.map (·+by_),x.at_⟩
def rootsOf:Nat→List Nd→List Int
 | _,[]=>[]
 | n,x :: r=>if isItem x.kind=true then (n:Int) :: rootsOf (n+1) r else rootsOf (n+1) r
theorem rootsOf_snoc:∀ (n:Nat) (l:List Nd) (x:Nd),rootsOf n (l ++ [x])=rootsOf n l ++ (if isItem x.kind=true then [((n+l.length:Nat):Int)] else [])
 | n,[],x=>by simp only [List.nil_append,rootsOf,List.length_nil,Nat.add_zero]
 | n,y :: r,x=>by
  simp only [List.cons_append,rootsOf,List.length_cons]
  have e:n+1+r.length=n+(r.length+1):=by omega
  split
  ·rw [rootsOf_snoc (n+1) r x,e];rfl
  ·rw [rootsOf_snoc (n+1) r x,e]
theorem rootsOf_len:∀ (n:Nat) (l:List Nd),(rootsOf n l).length≤l.length
 | _,[]=>Nat.le_refl _
 | n,x :: r=>by
  unfold rootsOf
  split
  ·have:=rootsOf_len (n+1) r;simp;omega
  ·have:=rootsOf_len (n+1) r;simp;omega
theorem ob_eq (A:Option Addr) (n n' c c':Nat):(Value.slice A n c).ownBlock=(Value.slice A n' c').ownBlock:=by cases A <;> rfl
theorem own_of_blk {w:World} {base kb n:Nat} {T:TypeId} {D:List Int} (h:Blk w kb T (iZ D)) (hn:D.length=n) (hb:base≤kb) (hm:n≤1000000):w.ownsRow base T 1 (.slice (some ⟨kb,0,none⟩) n n) n (intCells D):=by
 refine⟨by rw [intCells_len,hn];omega,.inr ⟨kb,n,iZ D,rfl,hb,h,Nat.le_refl _,by simp only [maxLen];omega,by simp [iZ,hn],?_⟩⟩
 rw [show (iZ D).toList=intCells D by simp [iZ,intCells],List.take_of_length_le (by rw [intCells_len];omega)]
theorem join_any (g tb:Nat) (nv iv:Value) (xs:List NV) (its:List Int) (Ai:Option Addr) (ci:Nat) (ys:List NV) (from_:Int) (wS w:World) (hJ:JS g w tb nv iv xs its) (hS:0 < ys.length→∃ b o,Ai=some ⟨b,o,none⟩∧NdsAt wS b o ys) (hb:Below wS.heap.size wS w) (hlo:wS.heap.size≤tb) (hg:g≤w.heap.size)
  (hx:xs.length≤10000) (hi:its.length≤10000) (hy:ys.length≤10000) (hf:-100000≤from_∧from_≤100000) (hk:∀ y ∈ ys,∀ k ∈ y.1.kids,-1000000≤k∧k≤1000000) :
  Calls Tryz.prog 67 #[.pointer (some ⟨tb,0,none⟩),.slice Ai ys.length ci,.int .i64 from_] w fun e w'=>e=.returned (.tuple #[])∧Below wS.heap.size wS w'∧∃ nv' iv' ext,JS g w' tb nv' iv' (xs ++ ext) (its ++ rootsOf xs.length (nds ys))∧nds ext=(nds ys).map (moveN ((xs.length:Int) - from_)):=by
 obtain⟨An,cn,rfl⟩:=own_form hJ.own
 obtain⟨Av,cv,rfl⟩:=own_form hJ.row
 obtain⟨by_,hby⟩:∃ b,b=(xs.length:Int) - from_:=⟨_,rfl⟩
 obtain⟨n,hn⟩:∃ n,n=ys.length:=⟨_,rfl⟩
 have hbb:-200000≤by_∧by_≤200000:=by omega
 rw [← hby]
 rw [← hn] at hy ⊢
 obtain⟨xn,hxn⟩:∃ n,n=xs.length:=⟨_,rfl⟩
 have HJ:=hid hJ
 have t0:=hJ.blk.cell 0
 clear hJ
 rw [← hxn] at t0 hx hby
 have HXN:=hid hxn;clear hxn
 have HN:=hid hn;clear hn
 have HS:=hid hS;clear hS
 have HKK:=hid hk;clear hk
 have HB:=hid hb;clear hb
 have HBY:=hid hby.symm;clear hby
 obtain⟨i0,hi0,hz0,hz1,hz2⟩:=info_parts node_info
 obtain⟨j0,hj0,hy0,hy1,hy2⟩:=info_parts int_info
 go_enter Tryz.func67,Tryz.ntmps67
 go_wp2_with fail
 rw [HBY.out]
 go_loopw [21] (fun i wr=>∃ (k:Nat) (nv iv:Value) (ext:List NV),k≤n∧i=.int .i64 k∧ext.length=k∧Hid (JS g wr tb nv iv (xs ++ ext) (its ++ rootsOf xs.length ((nds ys).take k)))∧Hid (nds ext=((nds ys).take k).map (moveN by_))∧Hid (Below wS.heap.size wS wr)∧Hid (g≤wr.heap.size)) (fun i _=>n - (intOf i).toNat)
 case atStart=>exact⟨0,_,_,[],Nat.zero_le _,rfl,rfl,hid (by simpa [rootsOf] using HJ.out),hid (by simp [nds]),HB,hid hg⟩
 case round =>
  obtain⟨wo,rfl⟩:∃ wo:World,wo=wr:=⟨_,rfl⟩
  obtain⟨k,nv,iv,ext,hkn',rfl,hel,HJO,HEX,HL,HG⟩:=hrel
  by_cases hkn:k < n
  ·obtain⟨b,o,rfl,hN⟩:=HS.out (by rw [← HN.out];omega)
   obtain⟨y,hyk⟩:∃ y,ys[k]? = some y:=xs_at (by rw [← HN.out];exact hkn)
   have c0:=(HL.out.cell (p:=⟨b,o+k * 5,none⟩) hN.lt).trans (hN.c0 k y hyk)
   have c1:=(HL.out.cell (p:=⟨b,o+k * 5+1,none⟩) hN.lt).trans (hN.c1 k y hyk)
   have c2:=(HL.out.cell (p:=⟨b,o+k * 5+2,none⟩) hN.lt).trans (hN.c2 k y hyk)
   have c3:=(HL.out.cell (p:=⟨b,o+k * 5+3,none⟩) hN.lt).trans (hN.c3 k y hyk)
   have c4:=(HL.out.cell (p:=⟨b,o+k * 5+4,none⟩) hN.lt).trans (hN.c4 k y hyk)
   obtain⟨Ak,ck,hye,hyl,hxk⟩:=hN.kid hyk
   rw [hye] at c3
   have HXK:=hid hxk
   have HYK:=hid hyk
   have HKB:=hid (HKK.out y (List.mem_of_getElem? hyk))
   clear hN hyk hye hxk
   obtain⟨nk,hnk⟩:∃ nk,nk=y.1.kids.length:=⟨_,rfl⟩
   rw [← hnk] at c3 hyl
   have HNK:=hid hnk;clear hnk
   have i1:(0:Int)≤(k:Int):=by omega
   have i2:(k:Int) < (n:Int):=by omega
   have i3:decide (k < n)=true:=decide_eq_true hkn
   have hmk:=fun W=>run_make_row' (P:=Tryz.prog) 24 3 (.int .i64 0) 8 Tryz.underlying24 int_info rfl .i64 .i64 nk (by omega) (by omega) W
   rw [made_zeroZ] at hmk
   go_wp2_with fail
   clear hmk
   have HND:=hid ((Blk.new wo 50 #[.int .u8 y.1.kind,.string (ofL y.1.text),.int .i64 y.1.n,.slice Ak nk ck,.int .i64 y.1.at_]).alloc (.cells (iZ (List.replicate nk 0)) 3))
   have HKD:=hid (blk_topW (W:=wo.alloc (.cells #[.int .u8 y.1.kind,.string (ofL y.1.text),.int .i64 y.1.n,.slice Ak nk ck,.int .i64 y.1.at_] 50)) (T:=3) (cs:=iZ (List.replicate nk 0)) (k:=wo.heap.size+1) (by simp))
   have HBL:=hid (balloc (balloc (Below.refl wo.heap.size wo) (Nat.le_refl _) (o:=.cells #[.int .u8 y.1.kind,.string (ofL y.1.text),.int .i64 y.1.n,.slice Ak nk ck,.int .i64 y.1.at_] 50)) (by simp) (o:=.cells (iZ (List.replicate nk 0)) 3))
   go_loopw [32] (fun i wr=>∃ (jn:Nat) (D:List Int),jn≤nk∧i=.int .i64 jn∧Hid (Below wo.heap.size wo wr)∧Hid (Blk wr wo.heap.size 50 #[.int .u8 y.1.kind,.string (ofL y.1.text),.int .i64 y.1.n,.slice Ak nk ck,.int .i64 y.1.at_])∧Hid (Blk wr (wo.heap.size+1) 3 (iZ D))∧Hid (D=((y.1.kids.take jn).map (·+by_)) ++ List.replicate (nk - jn) 0)) (fun i _=>nk - (intOf i).toNat)
   case atStart=>exact⟨0,List.replicate nk 0,Nat.zero_le _,rfl,HBL,HND,HKD,hid (by simp)⟩
   case round =>
    clear HBL HND HKD
    obtain⟨wq,rfl⟩:∃ wq:World,wq=wr:=⟨_,rfl⟩
    obtain⟨jn,D,hj,rfl,HL5,HND,HKD,HD⟩:=hrel
    have HLS:=hid (HL.out.trans (HL5.out.mono HL.out.size))
    have hds:D.length=nk:=by rw [HD.out];simp;rw [← HNK.out];omega
    by_cases hjl:jn < nk
    ·obtain⟨kq,hkq⟩:∃ kq,y.1.kids[jn]? = some kq:=⟨_,List.getElem?_eq_getElem (by rw [← HNK.out];exact hjl)⟩
     have hqb:=HKB.out kq (List.mem_of_getElem? hkq)
     obtain⟨bk,ok,rfl,hbk,hck⟩:=HXK.out.ex (by rw [← HNK.out];omega)
     have cj:=(HLS.out.cell (p:=⟨bk,ok+jn,none⟩) hbk).trans (hck jn kq hkq)
     have HTK:=hid (show y.1.kids.take (jn+1)=y.1.kids.take jn ++ [kq] by rw [List.take_add_one,hkq];rfl)
     clear hck hkq
     have z0:(0:Int)≤(jn:Int):=by omega
     have z1:(jn:Int) < (nk:Int):=by omega
     have z2:decide (jn < nk)=true:=decide_eq_true hjl
     have d0:wq.cell? ⟨wo.heap.size+1,jn,none⟩=some (.int .i64 (D.getD jn 0)):=by rw [HKD.out.cell jn];exact iZ_get D jn (by omega)
     have df:=HKD.out.frozen jn
     obtain⟨dv,hdv⟩:∃ v,v=D.getD jn 0:=⟨_,rfl⟩
     rw [← hdv] at d0
     clear hdv
     go_wp2_with fail
     refine⟨⟨jn+1,D.set jn (kq+by_),by omega,by go_num,hid (bset HL5.out (by omega)),hid (HND.out.far (by simp) _),hid (by rw [← iZ_set];exact HKD.out.set_ jn _),hid ?_⟩,by simp [intOf];omega⟩
     rw [HD.out,HTK.out]
     have hl9:((y.1.kids.take jn).map (·+by_)).length=jn:=by simp;rw [← HNK.out];omega
     have hr9:List.replicate (nk - jn) (0:Int)=0 :: List.replicate (nk - (jn+1)) 0:=by
      rw [show nk - jn=(nk - (jn+1))+1 by omega];rfl
     rw [hr9,List.set_append_right _ _ (by omega),hl9,Nat.sub_self,List.set_cons_zero,List.map_append,List.append_assoc]
     rfl
    ·have z2:decide (jn < nk)=false:=decide_eq_false hjl
     have HDE:=hid (show D=y.1.kids.map (·+by_) by
      rw [HD.out,List.take_of_length_le (by rw [← HNK.out];omega),show nk - jn=0 by omega];simp)
     have n0:=HND.out.cell 0
     have n1:=HND.out.cell 1
     have n2:=HND.out.cell 2
     have n3:=HND.out.cell 3
     have n4:=HND.out.cell 4
     have nf:=HND.out.frozen 3
     have hnl:=HND.out.lt
     obtain⟨xe,hxe⟩:∃ e,e=xs ++ ext:=⟨_,rfl⟩
     obtain⟨ie,hie⟩:∃ e,e=its ++ rootsOf xs.length ((nds ys).take k):=⟨_,rfl⟩
     have JQ:=HJO.out.below HL5.out
     rw [← hxe,← hie] at JQ
     have hxq:xe.length=xn+k:=by rw [hxe,List.length_append,hel,HXN.out]
     have HXE:=hid hxe;clear hxe
     have HIE:=hid hie;clear hie
     have hfar:=HJO.out.rowlt (b:=wo.heap.size) (Nat.le_refl _)
     rw [← HXE.out] at hfar
     have JW:=JQ.far_ (b:=wo.heap.size) (i:=3) (u:=.slice (some ⟨wo.heap.size+1,0,none⟩) nk nk) hfar.1 hfar.2.1 hfar.2.2.1 hfar.2.2.2
     have HNW:=HND.out.set_ 3 (.slice (some ⟨wo.heap.size+1,0,none⟩) nk nk)
     have HKW:=HKD.out.far (p:=⟨wo.heap.size,3,none⟩) (by simp) (.slice (some ⟨wo.heap.size+1,0,none⟩) nk nk)
     have HLW:=hid (bset (i:=3) (u:=.slice (some ⟨wo.heap.size+1,0,none⟩) nk nk) HL5.out (Nat.le_refl _))
     have HF1:=hid hfar
     have HF2:=hid (HJO.out.rowlt (b:=wo.heap.size+1) (by omega))
     clear JQ hfar
     obtain⟨qn,hqn⟩:∃ q,q=xe.length:=⟨_,rfl⟩
     obtain⟨mn,hmn⟩:∃ q,q=ie.length:=⟨_,rfl⟩
     obtain⟨An',cn',hnv⟩:=own_form JW.own
     obtain⟨Av',cv',hiv⟩:=own_form JW.row
     subst hnv
     subst hiv
     have hq6:qn=xn+k:=by rw [hqn,hxq]
     rw [← hqn] at JW
     rw [← hmn] at JW
     subst hq6
     have HQN:=hid hqn;clear hqn
     have HMN:=hid hmn;clear hmn
     go_upto_region 11 with (fail)
     generalize wq.setCell ⟨wo.heap.size,3,none⟩ (.slice (some ⟨wo.heap.size+1,0,none⟩) nk nk)=w6 at JW HNW HKW HLW ⊢
     have n0:=HNW.cell 0
     have n1:=HNW.cell 1
     have n2:=HNW.cell 2
     have n3:=HNW.cell 3
     have n4:=HNW.cell 4
     have hnl:=HNW.lt
     have u0:=JW.blk.cell 0
     have u1:=JW.blk.cell 1
     have uf:=JW.blk.frozen 0
     have hul:=JW.blk.lt
     have hune:¬ w6.heap.size=tb:=by omega
     have JW2:=hid JW
     have HN6:=hid HNW
     have HK6:=hid HKW
     clear JW HNW HKW
     have HOWN:=hid (show w6.ownsRow g 50 5 (.slice An' (xn+k) cn') (xn+k) (ndRow xe) from by have h9:=JW2.out.own;rw [← HQN.out] at h9;exact h9)
     go_region_law ((refine step_append_lies _ (by rfl) _ _ _ (by rfl) g 50 i0 _ 5 64 Tryz.underlying23 hi0 hz0 hz1 hz2 rfl (by omega) _ (xn + k) (ndRow xe) (by rfl) (((HOWN.out.alloc _)).drew)
                              ⟨w6.heap.size,0,none⟩ 1 1 (ndCells (⟨y.1.kind,y.1.text,y.1.n,D,y.1.at_⟩,.slice (some ⟨wo.heap.size+1,0,none⟩) nk nk)) (by rfl) (by rfl) (World.news_of_block (cs:=#[.int .u8 y.1.kind,.string (ofL y.1.text),.int .i64 y.1.n,.slice (some ⟨wo.heap.size+1,0,none⟩) nk nk,.int .i64 y.1.at_]) (t:=50) (fr:=(0,0)) (heap_alloc_new w6 _)) (by intro u hu;simp [ndCells] at hu;rcases hu with rfl | rfl | rfl | rfl | rfl <;> rfl)
                              (by omega) (by simp only [maxLen];omega) (by omega) (by simp;have h9:=HG.out;have h8:=HLW.out.size;omega) (w6.heap.size+1) (by simp) ?_;intro gg cap w1 hown1 hgrow hat hlt';have kk:=((JW2.out.blk.alloc (.cells #[.int .u8 y.1.kind,.string (ofL y.1.text),.int .i64 y.1.n,.slice (some ⟨wo.heap.size+1,0,none⟩) nk nk,.int .i64 y.1.at_] 50)).drew).grown hgrow (fun e=>own_blk_ne JW2.out.own JW2.out.blk (by decide) e.symm);have c3':=kk.cell 0;have f3':=kk.frozen 0;clear kk))
     all_goals
      obtain⟨xk,hxk⟩:∃ xk:NV,xk=(⟨y.1.kind,y.1.text,y.1.n,D,y.1.at_⟩,.slice (some ⟨wo.heap.size+1,0,none⟩) nk nk):=⟨_,rfl⟩
      have hgsz:=HG.out
      have h6sz:=HLW.out.size
      have hd6:=JW2.out.lo
      have HBD:=hid (Below.drew (balloc (Below.refl w6.heap.size w6) (Nat.le_refl _) (o:=.cells #[.int .u8 y.1.kind,.string (ofL y.1.text),.int .i64 y.1.n,.slice (some ⟨wo.heap.size+1,0,none⟩) nk nk,.int .i64 y.1.at_] 50)))
      have JA:=JS.add (x:=xk) (nv':=.slice (some ⟨gg,0,none⟩) (xn+k+1) cap) (JW2.out.below HBD.out) hgrow (by rw [← HQN.out,hxk];exact hown1) (by rw [hxk];show World.ownsRow _ g _ 1 _ D.length _;rw [hds];exact own_of_blk ((HK6.out.alloc _).drew) hds (by omega) hyl) (by right;rw [hxk];exact fun e=>HF2.out.2.2.1 ((ob_eq _ _ _ _ _).trans e.symm))
      have HNA:=(((HN6.out.alloc (.cells #[.int .u8 y.1.kind,.string (ofL y.1.text),.int .i64 y.1.n,.slice (some ⟨wo.heap.size+1,0,none⟩) nk nk,.int .i64 y.1.at_] 50)).drew).grown hgrow (fun e=>HF1.out.2.1 ((ob_eq _ _ _ _ _).trans e.symm))).far (p:=⟨tb,0,none⟩) HF1.out.1 (.slice (some ⟨gg,0,none⟩) (xn+k+1) cap)
      have HLA:=bset (i:=0) (b:=tb) (u:=.slice (some ⟨gg,0,none⟩) (xn+k+1) cap) ((((HL.out.trans (HLW.out.mono HL.out.size)).trans (HBD.out.mono (Nat.le_trans HL.out.size h6sz)))).grown hgrow (Nat.le_trans (Nat.le_trans HL.out.size h6sz) HBD.out.size) (fun b' hb'=>by have:=(JW2.out.own.lt b' hb').1;omega)) hlo
      have HGA:g≤(w1.setCell ⟨tb,0,none⟩ (.slice (some ⟨gg,0,none⟩) (xn+k+1) cap)).heap.size:=by
       have h9:=hgrow.size
       have h8:=HBD.out.size
       simp [World.setCell]
       omega
      have HEXT:=hid (show nds (ext ++ [xk])=((nds ys).take (k+1)).map (moveN by_) by
       rw [nds_append,HEX.out,List.take_add_one,List.map_append,nds_get HYK.out,hxk]
       congr 1
       simp [nds,moveN,HDE.out])
      clear hxk hat hgrow hown1 c3' f3' hlt' HN6 HK6 HOWN HBD
      generalize w1.setCell ⟨tb,0,none⟩ (.slice (some ⟨gg,0,none⟩) (xn+k+1) cap)=w7 at JA HNA HLA HGA ⊢
      have JA2:=hid JA
      have HNA2:=hid HNA
      have HLA2:=hid HLA
      have HGA2:=hid HGA
      have v0:=HNA.cell 0
      have u0':=JA.blk.cell 0
      have u1':=JA.blk.cell 1
      have uf':=JA.blk.frozen 1
      have hul':=JA.blk.lt
      clear JA HNA HLA HGA u0 u1 uf n0 n1 n2 n3 n4 hul hnl hune
      have HRT:=hid (rootsOf_snoc xs.length ((nds ys).take k) y.1)
      have HTK:=hid (show (nds ys).take (k+1)=(nds ys).take k ++ [y.1] by rw [List.take_add_one,nds_get HYK.out];rfl)
      have HTL:=hid (show ((nds ys).take k).length=k by rw [List.length_take,nds_len,← HN.out];omega)
      cases hit:isItem y.1.kind
      ·have HIT:=hid hit;clear hit
       go_wp2_with fail
       refine (item_of y.1.kind false HIT.out _).mono ?_
       rintro e w8 ⟨rfl,rfl⟩
       go_wp2_with fail
       refine⟨⟨k+1,.slice (some ⟨gg,0,none⟩) (xn+k+1) cap,.slice Av' mn cv',ext ++ [xk],by omega,by go_num,by rw [List.length_append,hel];rfl,hid ?_,HEXT,HLA2,HGA2⟩,by simp [intOf];omega⟩
       have h9:=JA2.out
       rw [HXE.out,HIE.out] at h9
       rw [HTK.out,HRT.out,HIT.out]
       simpa using h9
      ·have HIT:=hid hit;clear hit
       have HUN:¬ w7.heap.size=tb:=by omega
       go_wp2_with fail
       refine (item_of y.1.kind true HIT.out _).mono ?_
       rintro e w8 ⟨rfl,rfl⟩
       go_upto_region 13 with (fail)
       have hmn9:mn≤20000:=by
        have h9:=rootsOf_len xs.length ((nds ys).take k)
        rw [HMN.out,HIE.out,List.length_append]
        rw [HTL.out] at h9
        omega
       have HOWI:=hid (show w7.ownsRow g 3 1 (.slice Av' mn cv') mn (intCells ie) from by have h9:=JA2.out.row;rw [← HMN.out] at h9;exact h9)
       have w1v:IntKind.i64.wrap ((xn:Int)+(k:Int))=(xn:Int)+(k:Int):=IntWalk.i64_in _ (by omega)
       go_region_law ((refine step_append_lies _ (by rfl) _ _ _ (by rfl) g 3 j0 _ 1 8 Tryz.underlying24 hj0 hy0 hy1 hy2 rfl (by omega) _ mn (intCells ie) (by rfl) (((HOWI.out.alloc _)).drew)
                                  ⟨w7.heap.size,0,none⟩ 1 1 [.int .i64 ((xn:Int)+(k:Int))] (by rfl) (by rfl) (World.news_of_block (cs:=#[.int .i64 ((xn:Int)+(k:Int))]) (t:=3) (fr:=(0,0)) (heap_alloc_new w7 _)) (by intro u hu;simp at hu;subst hu;rfl)
                                  (by omega) (by simp only [maxLen];omega) (by omega) (by simp;have h9:=HGA2.out;omega) (w7.heap.size+1) (by simp) ?_;intro gi capi w9 hown2 hgrow2 hat2 hlt2;have kk:=((JA2.out.blk.alloc (.cells #[.int .i64 ((xn:Int)+(k:Int))] 3)).drew).grown hgrow2 (fun e=>own_blk_ne JA2.out.row JA2.out.blk (by decide) e.symm);have c4':=kk.cell 0;have c5':=kk.cell 1;have f5':=kk.frozen 1;clear kk))
       all_goals
        have HBD2:=hid (Below.drew (balloc (Below.refl w7.heap.size w7) (Nat.le_refl _) (o:=.cells #[.int .i64 ((xn:Int)+(k:Int))] 3)))
        have hg7:=HGA2.out
        have hl6:=JA2.out.lo
        have JB:=hid (JS.item (q:=(xn:Int)+(k:Int)) (iv':=.slice (some ⟨gi,0,none⟩) (mn+1) capi) (JA2.out.below HBD2.out) hgrow2 (by rw [← HMN.out];exact hown2) (by
         rcases hat2 with e | e
         ·left;rw [e];rfl
         ·right;rw [e];simp [Value.ownBlock]))
        have HLB:=hid (bset (i:=1) (b:=tb) (u:=.slice (some ⟨gi,0,none⟩) (mn+1) capi) ((HLA2.out.trans (HBD2.out.mono HLA2.out.size)).grown hgrow2 (Nat.le_trans HLA2.out.size HBD2.out.size) (fun b' hb'=>by have:=(JA2.out.row.lt b' hb').1;omega)) hlo)
        have HGB:g≤(w9.setCell ⟨tb,1,none⟩ (.slice (some ⟨gi,0,none⟩) (mn+1) capi)).heap.size:=by
         have h9:=hgrow2.size
         have h8:=HBD2.out.size
         simp [World.setCell]
         omega
        have HGB2:=hid HGB
        clear hat2 hgrow2 hown2 c4' c5' f5' hlt2 HBD2 HGB
        go_wp2_with fail
        refine⟨⟨k+1,.slice (some ⟨gg,0,none⟩) (xn+k+1) cap,.slice (some ⟨gi,0,none⟩) (mn+1) capi,ext ++ [xk],by omega,by go_num,by rw [List.length_append,hel];rfl,hid ?_,HEXT,HLB,HGB2⟩,by simp [intOf];omega⟩
        have h9:=JB.out
        rw [HXE.out,HIE.out] at h9
        rw [HTK.out,HRT.out,HIT.out,HTL.out,← HXN.out]
        rw [← HXN.out] at h9
        simpa using h9
  ·have i3:decide (k < n)=false:=decide_eq_false hkn
   have HTK:=hid (show (nds ys).take k=nds ys from List.take_of_length_le (by rw [nds_len,← HN.out];omega))
   go_wp2_with fail
   go_end0
   exact⟨rfl,HL.out,nv,iv,ext,by have h9:=HJO.out;rwa [HTK.out] at h9,by rw [HEX.out,HTK.out]⟩
end Go.Proofs.YthepmkjggfijoaaGreatDoor
namespace Go.Proofs.YthepmkjggfijoaaGreatDoor
open Go.RowKit Mist
attribute [local go_sem] ofL_extract ofL_size ofL_get ofL_bytes ofL_append
structure TokVar (w:World) (g:Nat) (t:Tok):Prop where
 c0:w.cell? ⟨g,0,none⟩=some (.int .u8 t.kind)
 c1:w.cell? ⟨g,1,none⟩=some (.string (ofL t.text))
 c2:w.cell? ⟨g,2,none⟩=some (.int .i64 t.at_)
 f0:w.frozen? ⟨g,0,none⟩=false
 f1:w.frozen? ⟨g,1,none⟩=false
 f2:w.frozen? ⟨g,2,none⟩=false
theorem TokVar.lt {w:World} {g:Nat} {t:Tok} (h:TokVar w g t):g < w.heap.size:=by
 have:=World.block_lt_of_cell? w _ h.c0;exact this
theorem TokVar.below {w w':World} {g:Nat} {t:Tok} (h:TokVar w g t) (hb:Below w.heap.size w w'):TokVar w' g t :=
 ⟨(hb.cell (p:=⟨g,_,none⟩) h.lt).trans h.c0,(hb.cell (p:=⟨g,_,none⟩) h.lt).trans h.c1,(hb.cell (p:=⟨g,_,none⟩) h.lt).trans h.c2,
  (hb.frozen (p:=⟨g,_,none⟩) h.lt).trans h.f0,(hb.frozen (p:=⟨g,_,none⟩) h.lt).trans h.f1,(hb.frozen (p:=⟨g,_,none⟩) h.lt).trans h.f2⟩
theorem TokVar.new (w:World) (t:Tok) (T:TypeId):TokVar (w.alloc (.cells #[.int .u8 t.kind,.string (ofL t.text),.int .i64 t.at_] T)) w.heap.size t:=by
 have hn:=heap_alloc_new w (.cells #[.int .u8 t.kind,.string (ofL t.text),.int .i64 t.at_] T)
 exact⟨by rw [Lib.cell_of_heap hn];rfl,by rw [Lib.cell_of_heap hn];rfl,by rw [Lib.cell_of_heap hn];rfl,Lib.frozen_of_heap hn 0,Lib.frozen_of_heap hn 1,Lib.frozen_of_heap hn 2⟩
end Go.Proofs.YthepmkjggfijoaaGreatDoor
namespace Go.Proofs.YthepmkjggfijoaaGreatDoor
open Go.RowKit Mist
def partV (p:Part):List Value:=[.int .i64 p.least,.int .i64 p.most,pdV p.pd]
structure PartsIn (w:World) (A:Option Addr) (ps:List Part):Prop where
 ex:0 < ps.length→∃ b,A=some ⟨b,0,none⟩∧b < w.heap.size∧∀ (j:Nat) p,ps[j]? = some p→w.cell? ⟨b,j * 3,none⟩=some (.int .i64 p.least)∧w.cell? ⟨b,j * 3+1,none⟩=some (.int .i64 p.most)∧w.cell? ⟨b,j * 3+2,none⟩=some (pdV p.pd)
theorem PartsIn.below {w w':World} {A:Option Addr} {ps:List Part} (h:PartsIn w A ps) (hb:Below w.heap.size w w'):PartsIn w' A ps :=
 ⟨fun h0=>by
  obtain⟨b,e,hl,hc⟩:=h.ex h0
  refine⟨b,e,Nat.lt_of_lt_of_le hl hb.size,fun j p hj=>?_⟩
  obtain⟨h1,h2,h3⟩:=hc j p hj
  exact⟨(hb.cell (by exact hl)).trans h1,(hb.cell (by exact hl)).trans h2,(hb.cell (by exact hl)).trans h3⟩⟩
theorem PartsIn.nil (w:World):PartsIn w none []:=⟨fun h=>absurd h (by simp)⟩
theorem PartsIn.one {w:World} {b:Nat} {T:TypeId} {p:Part} (h:Blk w b T (partV p).toArray):PartsIn w (some ⟨b,0,none⟩) [p]:=by
 refine⟨fun _=>⟨b,rfl,h.lt,fun j q hj=>?_⟩⟩
 have:j=0∧p=q:=by
  cases j with
  | zero=>exact⟨rfl,by simpa using hj⟩
  | succ j=>simp at hj
 obtain⟨rfl,rfl⟩:=this
 exact⟨h.cell 0,h.cell 1,h.cell 2⟩
theorem just_expr (n:Int) (w:World):Calls Tryz.prog 157 #[.int .i64 n,.func (.func 69) #[] #[]] w fun e w'=>e=.returned (.agg #[.int .i64 n,.int .i64 n,.func (.func 69) #[] #[]])∧Below w.heap.size w w':=by
 go_enter Tryz.func157,Tryz.ntmps157
 go_wp2
 refine bodyPost_ret (v:=.agg #[.int .i64 n,.int .i64 n,.func (.func 69) #[] #[]]) (by simp [results,Tryz.f157,go_sem]) rfl ⟨rfl,?_⟩
 repeat (first | exact Below.refl _ _ | refine bset ?_ (Nat.le_refl _) | refine balloc ?_ (Nat.le_refl _))
theorem just_typ (n:Int) (w:World):Calls Tryz.prog 157 #[.int .i64 n,.func (.func 161) #[] #[]] w fun e w'=>e=.returned (.agg #[.int .i64 n,.int .i64 n,.func (.func 161) #[] #[]])∧Below w.heap.size w w':=by
 go_enter Tryz.func157,Tryz.ntmps157
 go_wp2
 refine bodyPost_ret (v:=.agg #[.int .i64 n,.int .i64 n,.func (.func 161) #[] #[]]) (by simp [results,Tryz.f157,go_sem]) rfl ⟨rfl,?_⟩
 repeat (first | exact Below.refl _ _ | refine bset ?_ (Nat.le_refl _) | refine balloc ?_ (Nat.le_refl _))
theorem just_num (n:Int) (w:World):Calls Tryz.prog 157 #[.int .i64 n,.func (.func 162) #[] #[]] w fun e w'=>e=.returned (.agg #[.int .i64 n,.int .i64 n,.func (.func 162) #[] #[]])∧Below w.heap.size w w':=by
 go_enter Tryz.func157,Tryz.ntmps157
 go_wp2
 refine bodyPost_ret (v:=.agg #[.int .i64 n,.int .i64 n,.func (.func 162) #[] #[]]) (by simp [results,Tryz.f157,go_sem]) rfl ⟨rfl,?_⟩
 repeat (first | exact Below.refl _ _ | refine bset ?_ (Nat.le_refl _) | refine balloc ?_ (Nat.le_refl _))
theorem parts_1 (A:Option Addr) (n c:Nat) (w:World):Calls Tryz.prog 158 #[.slice A n c] w fun e w'=>e=.returned (.agg #[.bool false,.int .i64 0,.int .i64 0,.slice A n c])∧Below w.heap.size w w':=by
 go_enter Tryz.func158,Tryz.ntmps158
 go_wp2
 refine bodyPost_ret (v:=.agg #[.bool false,.int .i64 0,.int .i64 0,.slice A n c]) (by simp [results,Tryz.f158,go_sem]) rfl ⟨rfl,?_⟩
 repeat (first | exact Below.refl _ _ | refine bset ?_ (Nat.le_refl _) | refine balloc ?_ (Nat.le_refl _))
theorem parts_2 (A:Option Addr) (n c:Nat) (w:World):Calls Tryz.prog 159 #[.slice A n c] w fun e w'=>e=.returned (.agg #[.bool true,.int .i64 0,.int .i64 0,.slice A n c])∧Below w.heap.size w w':=by
 go_enter Tryz.func159,Tryz.ntmps159
 go_wp2
 refine bodyPost_ret (v:=.agg #[.bool true,.int .i64 0,.int .i64 0,.slice A n c]) (by simp [results,Tryz.f159,go_sem]) rfl ⟨rfl,?_⟩
 repeat (first | exact Below.refl _ _ | refine bset ?_ (Nat.le_refl _) | refine balloc ?_ (Nat.le_refl _))
def ShapePost (s:Option Shape) (w:World) (e:Ending) (w':World):Prop :=
 ∃ nm lo hi A n c b,e=.returned (.tuple #[.agg #[.bool nm,.int .i64 lo,.int .i64 hi,.slice A n c],.bool b])∧Below w.heap.size w w'∧match s with
  | none=>b=false
  | some s=>b=true∧nm=s.named∧lo=s.low∧hi=s.high∧n=s.parts.length∧n≤c∧PartsIn w' A s.parts
theorem blk_top {W:World} {cs:Array Value} {T:TypeId} {k:Nat} (hk:W.heap.size=k):Blk (W.alloc (.cells cs T)) k T cs:=by subst hk;exact Blk.new W T cs
theorem blk_made {W w':World} {cs:Array Value} {T:TypeId} (hb:Below (W.alloc (.cells cs T)).heap.size (W.alloc (.cells cs T)) w'):Blk w' W.heap.size T cs:=(Blk.new W T cs).below hb (by simp)
theorem pre_facts {w w1 w2 w3:World} {c0 c1:Array Value} {T0 T1:TypeId} (hb1:Below ((w.alloc (.cells c0 T0)).alloc (.cells c1 T1)).heap.size ((w.alloc (.cells c0 T0)).alloc (.cells c1 T1)) w1) (hb2:Below w1.heap.size w1 w2) (hb3:Below w2.heap.size w2 w3):Blk w3 w.heap.size T0 c0∧Blk w3 (w.heap.size+1) T1 c1∧Below w.heap.size w w3:=by
 have b:=hb1.trans ((hb2.trans (hb3.mono hb2.size)).mono hb1.size)
 have h1:Blk ((w.alloc (.cells c0 T0)).alloc (.cells c1 T1)) (w.heap.size+1) T1 c1:=by
  have:=Blk.new (w.alloc (.cells c0 T0)) T1 c1
  rwa [show (w.alloc (.cells c0 T0)).heap.size=w.heap.size+1 by simp] at this
 refine⟨((Blk.new w T0 c0).alloc _).below b (by simp;omega),h1.below b (by simp),(balloc (balloc (Below.refl _ _) (Nat.le_refl _)) (by simp)).trans (b.mono (by simp;omega))⟩
end Go.Proofs.YthepmkjggfijoaaGreatDoor
namespace Go.Proofs.YthepmkjggfijoaaGreatDoor
open Go.RowKit Mist
structure KindsIn (w:World) (A:Option Addr) (ks:List Nat):Prop where
 ex:0 < ks.length→∃ b o,A=some ⟨b,o,none⟩∧b < w.heap.size∧∀ (j:Nat) k,ks[j]? = some k→w.cell? ⟨b,o+j,none⟩=some (.int .u8 k)
theorem KindsIn.below {w w':World} {A:Option Addr} {ks:List Nat} (h:KindsIn w A ks) (hb:Below w.heap.size w w'):KindsIn w' A ks :=
 ⟨fun h0=>by
  obtain⟨b,o,e,hl,hc⟩:=h.ex h0
  exact⟨b,o,e,Nat.lt_of_lt_of_le hl hb.size,fun j k hk=>(hb.cell (by exact hl)).trans (hc j k hk)⟩⟩
theorem KindsIn.take {w:World} {A:Option Addr} {ks:List Nat} (h:KindsIn w A ks) (n:Nat):KindsIn w A (ks.take n) :=
 ⟨fun h0=>by
  obtain⟨b,o,e,hl,hc⟩:=h.ex (by rw [List.length_take] at h0;omega)
  refine⟨b,o,e,hl,fun j k hk=>hc j k ?_⟩
  rw [List.getElem?_take] at hk
  split at hk
  ·exact hk
  ·cases hk⟩
theorem KindsIn.drop {w:World} {A:Option Addr} {ks:List Nat} (h:KindsIn w A ks) {n c:Nat} (hc:ks.length≤c):KindsIn w (if c=n then A else A.map (·.add n)) (ks.drop n) :=
 ⟨fun h0=>by
  rw [List.length_drop] at h0
  obtain⟨b,o,rfl,hl,hcell⟩:=h.ex (by omega)
  rw [if_neg (by omega)]
  refine⟨b,o+n,by rw [Option.map_some,add_none],hl,fun j k hk=>?_⟩
  rw [Nat.add_assoc]
  exact hcell (n+j) k (by rwa [List.getElem?_drop] at hk)⟩
theorem asks_pd (p:Pd) (k:Nat) (r:Bool) (hr:p.is k=r) (w:World) (least most:Value) (g:Nat) (T:TypeId) (hg:Blk w g T #[least,most,pdV p]):Calls Tryz.prog 167 #[.int .u8 k,.pointer (some ⟨g,0,none⟩)] w fun e w'=>e=.returned (.bool (!r))∧w=w':=by
 cases p with
 | expr=>exact asks_expr k r hr w least most g T hg
 | typ=>exact asks_typ k r hr w least most g T hg
 | param=>exact asks_param k r hr w least most g T hg
 | put=>exact asks_put k r hr w least most g T hg
 | num=>exact asks_num k r hr w least most g T hg
theorem index_kinds (p:Pd) (ks:List Nat) (A:Option Addr) (c:Nat) (w:World) (hK:KindsIn w A ks) (hl:ks.length≤1000000) (least most:Value) (g:Nat) (T:TypeId) (hg:Blk w g T #[least,most,pdV p]) :
  Calls Tryz.prog 193 #[.slice A ks.length c,.func (.func 167) #[] #[.pointer (some ⟨g,0,none⟩)]] w fun e w'=>(∃ i:Int,e=.returned (.int .i64 i)∧decide (0≤i)=!(ks.all p.is))∧w=w':=by
 obtain⟨n,hn⟩:∃ n,n=ks.length:=⟨_,rfl⟩
 rw [← hn] at hl ⊢
 have HN:=hid hn;clear hn
 have HK:=hid hK;clear hK
 have HG:=hid hg;clear hg
 go_enter Tryz.func193,Tryz.ntmps193
 go_wp2_with fail
 go_loop [8] (fun i=>∃ k:Nat,k≤n∧i=.int .i64 k∧Hid ((ks.take k).all p.is=true)) (fun i=>n - (intOf i).toNat)
 case atStart=>exact⟨0,Nat.zero_le _,rfl,hid rfl⟩
 case round =>
  obtain⟨k,hk,rfl,HT⟩:=hrel
  by_cases hlt:k < n
  ·obtain⟨b,o,rfl,hbl,hc⟩:=HK.out.ex (by rw [← HN.out];omega)
   obtain⟨q,hq⟩:∃ q,ks[k]? = some q:=⟨_,List.getElem?_eq_getElem (by rw [← HN.out];exact hlt)⟩
   have cq:=hc k q hq
   have HQ:=hid hq
   clear hc hq
   have i1:(0:Int)≤(k:Int):=by omega
   have i2:(k:Int) < (n:Int):=by omega
   have HS:=hid (show ks.take (k+1)=ks.take k ++ [q] by rw [List.take_add_one,HQ.out];rfl)
   cases hr:p.is q
   ·have HR:=hid hr;clear hr
    go_wp2_with fail
    refine (asks_pd p q false HR.out _ least most g T HG.out).mono ?_
    rintro e w1 ⟨rfl,rfl⟩
    go_wp2_with fail
    go_ret
    refine⟨⟨k,rfl,?_⟩,rfl⟩
    have hf:ks.all p.is=false:=by
     rw [List.all_eq_false]
     exact⟨q,List.mem_of_getElem? HQ.out,by rw [HR.out];simp⟩
    rw [hf];simp
   ·have HR:=hid hr;clear hr
    go_wp2_with fail
    refine (asks_pd p q true HR.out _ least most g T HG.out).mono ?_
    rintro e w1 ⟨rfl,rfl⟩
    go_wp2_with fail
    go_round
    case rel=>exact⟨k+1,by omega,by go_num,hid (by rw [HS.out,List.all_append,HT.out];simp [HR.out])⟩
    case measure=>simp [intOf];omega
  ·have HE:=hid (show ks.all p.is=true by have:=HT.out;rwa [List.take_of_length_le (by rw [← HN.out];omega)] at this)
   go_wp2_with fail
   go_ret
   exact⟨⟨-1,rfl,by rw [HE.out];rfl⟩,rfl⟩
theorem contains_kinds (p:Pd) (ks:List Nat) (A:Option Addr) (c:Nat) (w:World) (hK:KindsIn w A ks) (hl:ks.length≤1000000) (least most:Value) (g:Nat) (T:TypeId) (hg:Blk w g T #[least,most,pdV p]) (r:Bool) (hr:ks.all p.is=r) :
  Calls Tryz.prog 166 #[.slice A ks.length c,.func (.func 167) #[] #[.pointer (some ⟨g,0,none⟩)]] w fun e w'=>e=.returned (.bool (!r))∧w=w':=by
 have HR:=hid hr;clear hr
 have HC:=hid (index_kinds p ks A c w hK hl least most g T hg)
 clear hK hg
 go_enter Tryz.func166,Tryz.ntmps166
 go_wp2_with fail
 refine HC.out.mono ?_
 rintro e w1 ⟨⟨i,rfl,hi⟩,rfl⟩
 rw [HR.out] at hi
 go_wp2_with fail
 go_ret
 exact⟨rfl,rfl⟩
theorem contains_kinds' (p:Pd) (ks:List Nat) (n:Nat) (hn:ks.length=n) (A:Option Addr) (c:Nat) (w:World) (hK:KindsIn w A ks) (hl:ks.length≤1000000) (least most:Value) (g:Nat) (T:TypeId) (hg:Blk w g T #[least,most,pdV p]) (r:Bool) (hr:ks.all p.is=r) :
  Calls Tryz.prog 166 #[.slice A n c,.func (.func 167) #[] #[.pointer (some ⟨g,0,none⟩)]] w fun e w'=>e=.returned (.bool (!r))∧w=w':=by
 subst hn
 exact contains_kinds p ks A c w hK hl least most g T hg r hr
end Go.Proofs.YthepmkjggfijoaaGreatDoor
