/-
  A part of the proof.
-/
import Derived.Test.YthepmkjggfijoaaGreatDoorSA
import Derived.Deep.RegionLaw
import Derived.Laws.EntriesVeiled
import Derived.Test.YthepmkjggfijoaaGreatDoorS01
import Derived.Test.YthepmkjggfijoaaGreatDoorS06
import Derived.Test.YthepmkjggfijoaaGreatDoorS08
import Derived.Test.YthepmkjggfijoaaGreatDoorS20
import Derived.Test.YthepmkjggfijoaaGreatDoorS21
set_option linter.all false
set_option maxRecDepth 100000
set_option maxHeartbeats 8000000
open Go.Lib (hid)
namespace Go.Proofs.YthepmkjggfijoaaGreatDoor
open Go.RowKit Mist
attribute [local go_sem] aj aH aS aB ak
structure JS (g:Nat) (w:World) (tb:Nat) (nv iv:Value) (xs:List NV) (its:List Int):Prop where
 blk:aC w tb 26 #[nv,iv]
 lo:tb < g
 own:w.ownsRow g 50 5 nv xs.length (iO xs)
 kids:∀ x ∈ xs,w.ownsRow g 3 1 x.2 x.1.kids.length (intCells x.1.kids)
 row:w.ownsRow g 3 1 iv its.length (intCells its)
 far:∀ x ∈ xs,x.2.ownBlock=none∨x.2.ownBlock ≠ iv.ownBlock
theorem JS.below {g:Nat}{w w':World}{tb:Nat}{nv iv:Value}{xs:List NV}{its:List Int}(h:JS g w tb nv iv xs its)(hb:Below w.heap.size w w'):JS g w' tb nv iv xs its :=
 ⟨h.blk.below hb h.blk.lt,h.lo,own_below h.own hb,fun x hx=>own_below (h.kids x hx) hb,own_below h.row hb,h.far⟩
theorem JS.far_ {g:Nat}{w:World}{tb:Nat}{nv iv:Value}{xs:List NV}{its:List Int}(h:JS g w tb nv iv xs its){b i:Nat}{u:Value}(h0:b ≠ tb)(h1:nv.ownBlock ≠ some b)(h2:iv.ownBlock ≠ some b)(h3:∀ x ∈ xs,x.2.ownBlock ≠ some b):JS g (w.setCell ⟨b,i,none⟩ u) tb nv iv xs its :=
 ⟨h.blk.far (p:=⟨b,i,none⟩) (Ne.symm h0) u,h.lo,ownsRow_setCell_other h.own h1 u,fun x hx=>ownsRow_setCell_other (h.kids x hx) (h3 x hx) u,ownsRow_setCell_other h.row h2 u,h.far⟩
theorem JS.UD {g:Nat}{w:World}{tb:Nat}{nv iv:Value}{xs:List NV}{its:List Int}(h:JS g w tb nv iv xs its){b:Nat}(hb:w.heap.size≤b):b ≠ tb∧nv.ownBlock ≠ some b∧iv.ownBlock ≠ some b∧∀ x ∈ xs,x.2.ownBlock ≠ some b :=
 ⟨by have:=h.blk.lt;omega,fun e=>by have:=(h.own.lt b e).2;omega,fun e=>by have:=(h.row.lt b e).2;omega,fun x hx e=>by have:=((h.kids x hx).lt b e).2;omega⟩
theorem JS.add {g:Nat}{w w1:World}{tb:Nat}{nv eO iv:Value}{xs:List NV}{its:List Int}{x:NV}(h:JS g w tb nv iv xs its)(hg:w.grownBy w1 nv.ownBlock)(hown:w1.ownsRow g 50 5 eO (xs.length+1) (iO xs ++ fC x))(hk:w.ownsRow g 3 1 x.2 x.1.kids.length (intCells x.1.kids))(hf:x.2.ownBlock=none∨x.2.ownBlock ≠ iv.ownBlock):JS g (w1.setCell ⟨tb,0,none⟩ eO) tb eO iv (xs ++ [x]) its:=by
 have hb:=h.blk.grown hg (fun e=>aT h.own h.blk (by decide) e.symm)
 have keep:∀ {v:Value} {n:Nat} {cs:List Value},w.ownsRow g 3 1 v n cs→(w1.setCell ⟨tb,0,none⟩ eO).ownsRow g 3 1 v n cs:=fun hk =>
  ownsRow_setCell_other (hk.kept hg (iE hk h.own (by decide))) (aT (hk.kept hg (iE hk h.own (by decide))) hb (by decide)) _
 refine⟨?_,h.lo,?_,fun y hy=>?_,keep h.row,fun y hy=>?_⟩
 ·have:=hb.d_ 0 eO;simpa using this
 ·rw [aaO,rJ];have e:iO [x]=fC x:=by simp [iO]
  rw [e];exact ownsRow_setCell_other hown (aT hown hb (by decide)) _
 ·rcases List.mem_append.1 hy with hy | hy
  ·exact keep (h.kids y hy)
  ·rw [List.mem_singleton.1 hy];exact keep hk
 ·rcases List.mem_append.1 hy with hy | hy
  ·exact h.far y hy
  ·rw [List.mem_singleton.1 hy];exact hf
theorem JS.item {g:Nat}{w w1:World}{tb:Nat}{nv iv AY:Value}{xs:List NV}{its:List Int}{q:Int}(h:JS g w tb nv iv xs its)(hg:w.grownBy w1 iv.ownBlock)(hown:w1.ownsRow g 3 1 AY (its.length+1) (intCells its ++ [.int .i64 q]))(hat:AY.ownBlock=iv.ownBlock∨AY.ownBlock=some w.heap.size):JS g (w1.setCell ⟨tb,1,none⟩ AY) tb nv AY xs (its ++ [q]):=by
 have hb:=h.blk.grown hg (fun e=>aT h.row h.blk (by decide) e.symm);have hn:=h.own.kept hg (iE h.own h.row (by decide))
 refine⟨?_,h.lo,ownsRow_setCell_other hn (aT hn hb (by decide)) _,fun y hy=>?_,?_,fun y hy=>?_⟩
 ·have:=hb.d_ 1 AY;simpa using this
 ·have hk:=(h.kids y hy).kept hg (h.far y hy);exact ownsRow_setCell_other hk (aT hk hb (by decide)) _
 ·rw [aaO,eT];exact ownsRow_setCell_other hown (aT hown hb (by decide)) _
 ·rcases hat with e | e
  ·rw [e];exact h.far y hy
  ·rcases h9:y.2.ownBlock with _ | b
   ·exact .inl rfl
   ·right
    rw [e];intro e2
    have:=((h.kids y hy).lt b h9).2
    injection e2 with e2
    omega
def lI (zA:Int)(x:Nd):Nd:=⟨x.kind,x.text,x.n,x.kids.map (·+zA),x.at_⟩
def gJ:Nat→List Nd→List Int
 | _,[]=>[]
 | n,x :: r=>if eP x.kind=true then (n:Int) :: gJ (n+1) r else gJ (n+1) r
theorem oM:∀ (n:Nat) (l:List Nd) (x:Nd),gJ n (l ++ [x])=gJ n l ++ (if eP x.kind=true then [((n+l.length:Nat):Int)] else [])
 | n,[],x=>by simp only [List.nil_append,gJ,List.length_nil,Nat.add_zero]
 | n,y :: r,x=>by
  simp only [List.cons_append,gJ,List.length_cons];have e:n+1+r.length=n+(r.length+1):=by omega
  split
  ·rw [oM (n+1) r x,e];rfl
  ·rw [oM (n+1) r x,e]
theorem uw:∀ (n:Nat) (l:List Nd),(gJ n l).length≤l.length
 | _,[]=>aaJ _
 | n,x :: r=>by
  unfold gJ;split
  ·have:=uw (n+1) r;simp;omega
  ·have:=uw (n+1) r;simp;omega
theorem Uu (A:Option Addr)(n n' c c':Nat):(Value.slice A n c).ownBlock=(Value.slice A n' c').ownBlock:=by cases A <;> rfl
theorem Iw {w:World}{base kb n:Nat}{T:TypeId}{D:List Int}(h:aC w kb T (iZ D))(hn:D.length=n)(hb:base≤kb)(hm:n≤1000000):w.ownsRow base T 1 (.slice (some ⟨kb,0,none⟩) n n) n (intCells D):=by
 refine⟨by rw [rG,hn];omega,.inr ⟨kb,n,iZ D,rfl,hb,h,aaJ _,by simp only [maxLen];omega,by simp [iZ,hn],?_⟩⟩
 rw [show (iZ D).toList=intCells D by simp [iZ,intCells],aaN (by rw [rG];omega)]
theorem Z_ (g tb:Nat)(nv iv:Value)(xs:List NV)(its:List Int)(Ai:Option Addr)(ci:Nat)(ys:List NV)(from_:Int)(wS w:World)(hJ:JS g w tb nv iv xs its)(hS:0 < ys.length→∃ b o,Ai=some ⟨b,o,none⟩∧oZ wS b o ys)(hb:Below wS.heap.size wS w)(hlo:wS.heap.size≤tb)(hg:g≤w.heap.size)
  (hx:xs.length≤10000) (hi:its.length≤10000) (hy:ys.length≤10000) (hf:-100000≤from_∧from_≤100000) (hk:∀ y ∈ ys,∀ k ∈ y.1.kids,-1000000≤k∧k≤1000000) :
  Calls Tryz.prog 67 #[.pointer (some ⟨tb,0,none⟩),.slice Ai ys.length ci,.int .i64 from_] w fun e w'=>e=.returned (.tuple #[])∧Below wS.heap.size wS w'∧∃ eO AY ext,JS g w' tb eO AY (xs ++ ext) (its ++ gJ xs.length (aA ys))∧aA ext=(aA ys).map (lI ((xs.length:Int) - from_)):=by
 obtain⟨An,cn,rfl⟩:=dh hJ.own;obtain⟨Av,cv,rfl⟩:=dh hJ.row;obtain⟨zA,hby⟩:∃ b,b=(xs.length:Int) - from_:=⟨_,rfl⟩;obtain⟨n,hn⟩:∃ n,n=ys.length:=⟨_,rfl⟩;have hbb:-200000≤zA∧zA≤200000:=by omega
 rw [← hby];rw [← hn] at hy ⊢
 obtain⟨xn,hxn⟩:∃ n,n=xs.length:=⟨_,rfl⟩;have HJ:=hid hJ;have t0:=hJ.blk.cell 0;clear hJ;rw [← hxn] at t0 hx hby
 have HXN:=hid hxn;clear hxn;have HN:=hid hn;clear hn;have HS:=hid hS;clear hS;have HKK:=hid hk;clear hk;have HB:=hid hb;clear hb;have HBY:=hid hby.symm;clear hby;obtain⟨i0,hi0,hz0,hz1,hz2⟩:=info_parts rW;obtain⟨j0,hj0,hy0,hy1,hy2⟩:=info_parts gN;go_in
 go_wp2_with fail;rw [HBY.out];go_loopw [21] (fun i wr=>∃ (k:Nat) (nv iv:Value) (ext:List NV),k≤n∧i=.int .i64 k∧ext.length=k∧Hid (JS g wr tb nv iv (xs ++ ext) (its ++ gJ xs.length ((aA ys).take k)))∧Hid (aA ext=((aA ys).take k).map (lI zA))∧Hid (Below wS.heap.size wS wr)∧Hid (g≤wr.heap.size)) (fun i _=>n - (intOf i).toNat)
 case atStart=>exact⟨0,_,_,[],aaL _,rfl,rfl,hid (by simpa [gJ] using HJ.out),hid (by simp [aA]),HB,hid hg⟩
 case round =>
  obtain⟨wo,rfl⟩:∃ wo:World,wo=wr:=⟨_,rfl⟩;obtain⟨k,nv,iv,ext,hkn',rfl,hel,HJO,Li,HL,HG⟩:=hrel;by_cases hkn:k < n
  ·obtain⟨b,o,rfl,hN⟩:=HS.out (by rw [← HN.out];omega);obtain⟨y,hyk⟩:∃ y,ys[k]? = some y:=jD (by rw [← HN.out];exact hkn);have c0:=(HL.out.cell (p:=⟨b,o+k * 5,none⟩) hN.lt).trans (hN.c0 k y hyk);have c1:=(HL.out.cell (p:=⟨b,o+k * 5+1,none⟩) hN.lt).trans (hN.c1 k y hyk);have c2:=(HL.out.cell (p:=⟨b,o+k * 5+2,none⟩) hN.lt).trans (hN.c2 k y hyk);have c3:=(HL.out.cell (p:=⟨b,o+k * 5+3,none⟩) hN.lt).trans (hN.c3 k y hyk);have c4:=(HL.out.cell (p:=⟨b,o+k * 5+4,none⟩) hN.lt).trans (hN.c4 k y hyk);obtain⟨Ak,ck,hye,hyl,hxk⟩:=hN.kid hyk;rw [hye] at c3
   have tK:=hid hxk;have HYK:=hid hyk;have HKB:=hid (HKK.out y (aaM hyk));clear hN hyk hye hxk;obtain⟨nk,hnk⟩:∃ nk,nk=y.1.kids.length:=⟨_,rfl⟩;rw [← hnk] at c3 hyl
   have nu:=hid hnk;clear hnk;have i1:(0:Int)≤(k:Int):=by omega
   have i2:(k:Int) < (n:Int):=by omega
   have i3:decide (k < n)=true:=aaU hkn;have hmk:=fun W=>run_make_row' (P:=Tryz.prog) 24 3 (.int .i64 0) 8 Tryz.underlying24 gN rfl .i64 .i64 nk (by omega) (by omega) W
   rw [Ab] at hmk
   go_wp2_with fail;clear hmk;have oV:=hid ((aC.new wo 50 #[.int .u8 y.1.kind,.string (aM y.1.text),.int .i64 y.1.n,.slice Ak nk ck,.int .i64 y.1.at_]).alloc (.cells (iZ (List.replicate nk 0)) 3));have AQ:=hid (dL (W:=wo.alloc (.cells #[.int .u8 y.1.kind,.string (aM y.1.text),.int .i64 y.1.n,.slice Ak nk ck,.int .i64 y.1.at_] 50)) (T:=3) (cs:=iZ (List.replicate nk 0)) (k:=wo.heap.size+1) (by simp));have vL:=hid (ah (ah (Below.refl wo.heap.size wo) (aaJ _) (o:=.cells #[.int .u8 y.1.kind,.string (aM y.1.text),.int .i64 y.1.n,.slice Ak nk ck,.int .i64 y.1.at_] 50)) (by simp) (o:=.cells (iZ (List.replicate nk 0)) 3));go_loopw [32] (fun i wr=>∃ (jn:Nat) (D:List Int),jn≤nk∧i=.int .i64 jn∧Hid (Below wo.heap.size wo wr)∧Hid (aC wr wo.heap.size 50 #[.int .u8 y.1.kind,.string (aM y.1.text),.int .i64 y.1.n,.slice Ak nk ck,.int .i64 y.1.at_])∧Hid (aC wr (wo.heap.size+1) 3 (iZ D))∧Hid (D=((y.1.kids.take jn).map (·+zA)) ++ List.replicate (nk - jn) 0)) (fun i _=>nk - (intOf i).toNat)
   case atStart=>exact⟨0,List.replicate nk 0,aaL _,rfl,vL,oV,AQ,hid (by simp)⟩
   case round =>
    clear vL oV AQ;obtain⟨wq,rfl⟩:∃ wq:World,wq=wr:=⟨_,rfl⟩;obtain⟨jn,D,hj,rfl,jO,oV,AQ,HD⟩:=hrel;have HLS:=hid (HL.out.trans (jO.out.mono HL.out.size));have hds:D.length=nk:=by rw [HD.out];simp;rw [← nu.out];omega
    by_cases hjl:jn < nk
    ·obtain⟨kq,hkq⟩:∃ kq,y.1.kids[jn]? = some kq:=⟨_,aaD (by rw [← nu.out];exact hjl)⟩;have hqb:=HKB.out kq (aaM hkq);obtain⟨bk,ok,rfl,hbk,hck⟩:=tK.out.ex (by rw [← nu.out];omega);have cj:=(HLS.out.cell (p:=⟨bk,ok+jn,none⟩) hbk).trans (hck jn kq hkq);have uM:=hid (show y.1.kids.take (jn+1)=y.1.kids.take jn ++ [kq] by rw [List.take_add_one,hkq];rfl);clear hck hkq;have z0:(0:Int)≤(jn:Int):=by omega
     have z1:(jn:Int) < (nk:Int):=by omega
     have z2:decide (jn < nk)=true:=aaU hjl;have d0:wq.cell? ⟨wo.heap.size+1,jn,none⟩=some (.int .i64 (D.getD jn 0)):=by rw [AQ.out.cell jn];exact nE D jn (by omega)
     have df:=AQ.out.frozen jn;obtain⟨dv,hdv⟩:∃ v,v=D.getD jn 0:=⟨_,rfl⟩;rw [← hdv] at d0
     clear hdv;go_wp2_with fail
     refine⟨⟨jn+1,D.set jn (kq+zA),by omega,by go_num,hid (dx jO.out (by omega)),hid (oV.out.far (by simp) _),hid (by rw [← yt];exact AQ.out.d_ jn _),hid ?_⟩,by simp [intOf];omega⟩
     rw [HD.out,uM.out];have hl9:((y.1.kids.take jn).map (·+zA)).length=jn:=by simp;rw [← nu.out];omega
     have Qs:List.replicate (nk - jn) (0:Int)=0 :: List.replicate (nk - (jn+1)) 0:=by
      rw [show nk - jn=(nk - (jn+1))+1 by omega];rfl
     rw [Qs,List.set_append_right _ _ (by omega),hl9,Nat.sub_self,aaB,List.map_append,List.append_assoc];rfl
    ·have z2:decide (jn < nk)=false:=aaV hjl
     have JU:=hid (show D=y.1.kids.map (·+zA) by
      rw [HD.out,aaN (by rw [← nu.out];omega),show nk - jn=0 by omega];simp)
     have n0:=oV.out.cell 0;have n1:=oV.out.cell 1;have n2:=oV.out.cell 2;have n3:=oV.out.cell 3;have n4:=oV.out.cell 4;have nf:=oV.out.frozen 3;have hnl:=oV.out.lt;obtain⟨xe,hxe⟩:∃ e,e=xs ++ ext:=⟨_,rfl⟩;obtain⟨ie,hie⟩:∃ e,e=its ++ gJ xs.length ((aA ys).take k):=⟨_,rfl⟩;have JQ:=HJO.out.below jO.out;rw [← hxe,← hie] at JQ
     have hxq:xe.length=xn+k:=by rw [hxe,aaO,hel,HXN.out]
     have HXE:=hid hxe;clear hxe;have HIE:=hid hie;clear hie;have zY:=HJO.out.UD (b:=wo.heap.size) (aaJ _);rw [← HXE.out] at zY
     have JW:=JQ.far_ (b:=wo.heap.size) (i:=3) (u:=.slice (some ⟨wo.heap.size+1,0,none⟩) nk nk) zY.1 zY.2.1 zY.2.2.1 zY.2.2.2;have Lr:=oV.out.d_ 3 (.slice (some ⟨wo.heap.size+1,0,none⟩) nk nk);have Yu:=AQ.out.far (p:=⟨wo.heap.size,3,none⟩) (by simp) (.slice (some ⟨wo.heap.size+1,0,none⟩) nk nk);have Ql:=hid (dx (i:=3) (u:=.slice (some ⟨wo.heap.size+1,0,none⟩) nk nk) jO.out (aaJ _));have HF1:=hid zY;have TH:=hid (HJO.out.UD (b:=wo.heap.size+1) (by omega));clear JQ zY;obtain⟨qn,VP⟩:∃ q,q=xe.length:=⟨_,rfl⟩;obtain⟨mn,hmn⟩:∃ q,q=ie.length:=⟨_,rfl⟩;obtain⟨An',cn',hnv⟩:=dh JW.own;obtain⟨Av',cv',hiv⟩:=dh JW.row;subst hnv;subst hiv;have hq6:qn=xn+k:=by rw [VP,hxq]
     rw [← VP] at JW
     rw [← hmn] at JW
     subst hq6;have HQN:=hid VP;clear VP;have HMN:=hid hmn;clear hmn;go_upto_region 11 with (fail)
     generalize wq.setCell ⟨wo.heap.size,3,none⟩ (.slice (some ⟨wo.heap.size+1,0,none⟩) nk nk)=w6 at JW Lr Yu Ql ⊢
     have n0:=Lr.cell 0;have n1:=Lr.cell 1;have n2:=Lr.cell 2;have n3:=Lr.cell 3;have n4:=Lr.cell 4;have hnl:=Lr.lt;have u0:=JW.blk.cell 0;have u1:=JW.blk.cell 1;have uf:=JW.blk.frozen 0;have hul:=JW.blk.lt;have hune:¬ w6.heap.size=tb:=by omega
     have Qo:=hid JW;have F6:=hid Lr;have HK6:=hid Yu;clear JW Lr Yu;have HOWN:=hid (show w6.ownsRow g 50 5 (.slice An' (xn+k) cn') (xn+k) (iO xe) from by have h9:=Qo.out.own;rw [← HQN.out] at h9;exact h9)
     go_region_law ((refine step_append_lies _ (by rfl) _ _ _ (by rfl) g 50 i0 _ 5 64 Tryz.underlying23 hi0 hz0 hz1 hz2 rfl (by omega) _ (xn + k) (iO xe) (by rfl) (((HOWN.out.alloc _)).drew)
                              ⟨w6.heap.size,0,none⟩ 1 1 (fC (⟨y.1.kind,y.1.text,y.1.n,D,y.1.at_⟩,.slice (some ⟨wo.heap.size+1,0,none⟩) nk nk)) (by rfl) (by rfl) (World.news_of_block (cs:=#[.int .u8 y.1.kind,.string (aM y.1.text),.int .i64 y.1.n,.slice (some ⟨wo.heap.size+1,0,none⟩) nk nk,.int .i64 y.1.at_]) (t:=50) (fr:=(0,0)) (heap_alloc_new w6 _)) (by intro u hu;simp [fC] at hu;rcases hu with rfl | rfl | rfl | rfl | rfl <;> rfl)
                              (by omega) (by simp only [maxLen];omega) (by omega) (by simp;have h9:=HG.out;have h8:=Ql.out.size;omega) (w6.heap.size+1) (by simp) ?_;intro gg cap w1 hown1 hgrow hat hlt';have kk:=((Qo.out.blk.alloc (.cells #[.int .u8 y.1.kind,.string (aM y.1.text),.int .i64 y.1.n,.slice (some ⟨wo.heap.size+1,0,none⟩) nk nk,.int .i64 y.1.at_] 50)).drew).grown hgrow (fun e=>aT Qo.out.own Qo.out.blk (by decide) e.symm);have c3':=kk.cell 0;have f3':=kk.frozen 0;clear kk))
     all_goals
      obtain⟨xk,hxk⟩:∃ xk:NV,xk=(⟨y.1.kind,y.1.text,y.1.n,D,y.1.at_⟩,.slice (some ⟨wo.heap.size+1,0,none⟩) nk nk):=⟨_,rfl⟩;have hgsz:=HG.out;have Zv:=Ql.out.size;have hd6:=Qo.out.lo;have QH:=hid (Below.drew (ah (Below.refl w6.heap.size w6) (aaJ _) (o:=.cells #[.int .u8 y.1.kind,.string (aM y.1.text),.int .i64 y.1.n,.slice (some ⟨wo.heap.size+1,0,none⟩) nk nk,.int .i64 y.1.at_] 50)));have JA:=JS.add (x:=xk) (eO:=.slice (some ⟨gg,0,none⟩) (xn+k+1) cap) (Qo.out.below QH.out) hgrow (by rw [← HQN.out,hxk];exact hown1) (by rw [hxk];show World.ownsRow _ g _ 1 _ D.length _;rw [hds];exact Iw ((HK6.out.alloc _).drew) hds (by omega) hyl) (by right;rw [hxk];exact fun e=>TH.out.2.2.1 ((Uu _ _ _ _ _).trans e.symm));have HNA:=(((F6.out.alloc (.cells #[.int .u8 y.1.kind,.string (aM y.1.text),.int .i64 y.1.n,.slice (some ⟨wo.heap.size+1,0,none⟩) nk nk,.int .i64 y.1.at_] 50)).drew).grown hgrow (fun e=>HF1.out.2.1 ((Uu _ _ _ _ _).trans e.symm))).far (p:=⟨tb,0,none⟩) HF1.out.1 (.slice (some ⟨gg,0,none⟩) (xn+k+1) cap);have HLA:=dx (i:=0) (b:=tb) (u:=.slice (some ⟨gg,0,none⟩) (xn+k+1) cap) ((((HL.out.trans (Ql.out.mono HL.out.size)).trans (QH.out.mono (Nat.le_trans HL.out.size Zv)))).grown hgrow (Nat.le_trans (Nat.le_trans HL.out.size Zv) QH.out.size) (fun b' hb'=>by have:=(Qo.out.own.lt b' hb').1;omega)) hlo
      have HGA:g≤(w1.setCell ⟨tb,0,none⟩ (.slice (some ⟨gg,0,none⟩) (xn+k+1) cap)).heap.size:=by
       have h9:=hgrow.size;have h8:=QH.out.size;simp [World.setCell]
       omega
      have Lj:=hid (show aA (ext ++ [xk])=((aA ys).take (k+1)).map (lI zA) by
       rw [nY,Li.out,List.take_add_one,List.map_append,gP HYK.out,hxk]
       congr 1
       simp [aA,lI,JU.out])
      clear hxk hat hgrow hown1 c3' f3' hlt' F6 HK6 HOWN QH
      generalize w1.setCell ⟨tb,0,none⟩ (.slice (some ⟨gg,0,none⟩) (xn+k+1) cap)=w7 at JA HNA HLA HGA ⊢
      have Ni:=hid JA;have HNA2:=hid HNA;have Lm:=hid HLA;have QT:=hid HGA;have v0:=HNA.cell 0;have u0':=JA.blk.cell 0;have u1':=JA.blk.cell 1;have uf':=JA.blk.frozen 1;have hul':=JA.blk.lt;clear JA HNA HLA HGA u0 u1 uf n0 n1 n2 n3 n4 hul hnl hune;have nH:=hid (oM xs.length ((aA ys).take k) y.1);have uM:=hid (show (aA ys).take (k+1)=(aA ys).take k ++ [y.1] by rw [List.take_add_one,gP HYK.out];rfl);have Nh:=hid (show ((aA ys).take k).length=k by rw [List.length_take,aD,← HN.out];omega)
      cases hit:eP y.1.kind
      ·have HIT:=hid hit;clear hit;go_wp2_with fail;refine (Cn y.1.kind false HIT.out _).mono ?_;rintro e w8⟨rfl,rfl⟩;go_wp2_with fail
       refine⟨⟨k+1,.slice (some ⟨gg,0,none⟩) (xn+k+1) cap,.slice Av' mn cv',ext ++ [xk],by omega,by go_num,by rw [aaO,hel];rfl,hid ?_,Lj,Lm,QT⟩,by simp [intOf];omega⟩
       have h9:=Ni.out;rw [HXE.out,HIE.out] at h9
       rw [uM.out,nH.out,HIT.out]
       simpa using h9
      ·have HIT:=hid hit;clear hit;have HUN:¬ w7.heap.size=tb:=by omega
       go_wp2_with fail;refine (Cn y.1.kind true HIT.out _).mono ?_;rintro e w8⟨rfl,rfl⟩;go_upto_region 13 with (fail)
       have hmn9:mn≤20000:=by
        have h9:=uw xs.length ((aA ys).take k);rw [HMN.out,HIE.out,aaO];rw [Nh.out] at h9
        omega
       have Jp:=hid (show w7.ownsRow g 3 1 (.slice Av' mn cv') mn (intCells ie) from by have h9:=Ni.out.row;rw [← HMN.out] at h9;exact h9);have w1v:IntKind.i64.wrap ((xn:Int)+(k:Int))=(xn:Int)+(k:Int):=IntWalk.i64_in _ (by omega)
       go_region_law ((refine step_append_lies _ (by rfl) _ _ _ (by rfl) g 3 j0 _ 1 8 Tryz.underlying24 hj0 hy0 hy1 hy2 rfl (by omega) _ mn (intCells ie) (by rfl) (((Jp.out.alloc _)).drew)
                                  ⟨w7.heap.size,0,none⟩ 1 1 [.int .i64 ((xn:Int)+(k:Int))] (by rfl) (by rfl) (World.news_of_block (cs:=#[.int .i64 ((xn:Int)+(k:Int))]) (t:=3) (fr:=(0,0)) (heap_alloc_new w7 _)) (by intro u hu;simp at hu;subst hu;rfl)
                                  (by omega) (by simp only [maxLen];omega) (by omega) (by simp;have h9:=QT.out;omega) (w7.heap.size+1) (by simp) ?_;intro gi zm w9 hown2 hgrow2 Ol hlt2;have kk:=((Ni.out.blk.alloc (.cells #[.int .i64 ((xn:Int)+(k:Int))] 3)).drew).grown hgrow2 (fun e=>aT Ni.out.row Ni.out.blk (by decide) e.symm);have c4':=kk.cell 0;have c5':=kk.cell 1;have f5':=kk.frozen 1;clear kk))
       all_goals
        have F3:=hid (Below.drew (ah (Below.refl w7.heap.size w7) (aaJ _) (o:=.cells #[.int .i64 ((xn:Int)+(k:Int))] 3)));have hg7:=QT.out;have Xy:=Ni.out.lo
        have JB:=hid (JS.item (q:=(xn:Int)+(k:Int)) (AY:=.slice (some ⟨gi,0,none⟩) (mn+1) zm) (Ni.out.below F3.out) hgrow2 (by rw [← HMN.out];exact hown2) (by
         rcases Ol with e | e
         ·left;rw [e];rfl
         ·right;rw [e];simp [Value.ownBlock]))
        have HLB:=hid (dx (i:=1) (b:=tb) (u:=.slice (some ⟨gi,0,none⟩) (mn+1) zm) ((Lm.out.trans (F3.out.mono Lm.out.size)).grown hgrow2 (Nat.le_trans Lm.out.size F3.out.size) (fun b' hb'=>by have:=(Ni.out.row.lt b' hb').1;omega)) hlo)
        have HGB:g≤(w9.setCell ⟨tb,1,none⟩ (.slice (some ⟨gi,0,none⟩) (mn+1) zm)).heap.size:=by
         have h9:=hgrow2.size;have h8:=F3.out.size;simp [World.setCell]
         omega
        have HGB2:=hid HGB;clear Ol hgrow2 hown2 c4' c5' f5' hlt2 F3 HGB;go_wp2_with fail
        refine⟨⟨k+1,.slice (some ⟨gg,0,none⟩) (xn+k+1) cap,.slice (some ⟨gi,0,none⟩) (mn+1) zm,ext ++ [xk],by omega,by go_num,by rw [aaO,hel];rfl,hid ?_,Lj,HLB,HGB2⟩,by simp [intOf];omega⟩
        have h9:=JB.out;rw [HXE.out,HIE.out] at h9
        rw [uM.out,nH.out,HIT.out,Nh.out,← HXN.out];rw [← HXN.out] at h9
        simpa using h9
  ·have i3:decide (k < n)=false:=aaV hkn;have uM:=hid (show (aA ys).take k=aA ys from aaN (by rw [aD,← HN.out];omega));go_wp2_with fail;go_end0
   exact⟨rfl,HL.out,nv,iv,ext,by have h9:=HJO.out;rwa [uM.out] at h9,by rw [Li.out,uM.out]⟩
structure zQ (w:World) (g:Nat) (t:Tok):Prop where
 c0:w.cell? ⟨g,0,none⟩=some (.int .u8 t.kind)
 c1:w.cell? ⟨g,1,none⟩=some (.string (aM t.text))
 c2:w.cell? ⟨g,2,none⟩=some (.int .i64 t.at_)
 f0:w.frozen? ⟨g,0,none⟩=false
 f1:w.frozen? ⟨g,1,none⟩=false
 f2:w.frozen? ⟨g,2,none⟩=false
theorem zQ.lt {w:World}{g:Nat}{t:Tok}(h:zQ w g t):g < w.heap.size:=by
 have:=World.block_lt_of_cell? w _ h.c0;exact this
theorem zQ.below {w w':World}{g:Nat}{t:Tok}(h:zQ w g t)(hb:Below w.heap.size w w'):zQ w' g t :=
 ⟨(hb.cell (p:=⟨g,_,none⟩) h.lt).trans h.c0,(hb.cell (p:=⟨g,_,none⟩) h.lt).trans h.c1,(hb.cell (p:=⟨g,_,none⟩) h.lt).trans h.c2,
  (hb.frozen (p:=⟨g,_,none⟩) h.lt).trans h.f0,(hb.frozen (p:=⟨g,_,none⟩) h.lt).trans h.f1,(hb.frozen (p:=⟨g,_,none⟩) h.lt).trans h.f2⟩
theorem zQ.new (w:World)(t:Tok)(T:TypeId):zQ (w.alloc (.cells #[.int .u8 t.kind,.string (aM t.text),.int .i64 t.at_] T)) w.heap.size t:=by
 have hn:=heap_alloc_new w (.cells #[.int .u8 t.kind,.string (aM t.text),.int .i64 t.at_] T);exact⟨by rw [Lib.cell_of_heap hn];rfl,by rw [Lib.cell_of_heap hn];rfl,by rw [Lib.cell_of_heap hn];rfl,Lib.frozen_of_heap hn 0,Lib.frozen_of_heap hn 1,Lib.frozen_of_heap hn 2⟩
end Go.Proofs.YthepmkjggfijoaaGreatDoor
namespace Go.Proofs.YthepmkjggfijoaaGreatDoor
open Go.RowKit Mist
def Ux (p:Part):List Value:=[.int .i64 p.least,.int .i64 p.most,KM p.pd]
structure dS (w:World) (A:Option Addr) (ps:List Part):Prop where
 ex:0 < ps.length→∃ b,A=some ⟨b,0,none⟩∧b < w.heap.size∧∀ (j:Nat) p,ps[j]? = some p→w.cell? ⟨b,j * 3,none⟩=some (.int .i64 p.least)∧w.cell? ⟨b,j * 3+1,none⟩=some (.int .i64 p.most)∧w.cell? ⟨b,j * 3+2,none⟩=some (KM p.pd)
theorem dS.below {w w':World}{A:Option Addr}{ps:List Part}(h:dS w A ps)(hb:Below w.heap.size w w'):dS w' A ps :=
 ⟨fun h0=>by
  obtain⟨b,e,hl,hc⟩:=h.ex h0
  refine⟨b,e,aaW hl hb.size,fun j p hj=>?_⟩
  obtain⟨h1,h2,h3⟩:=hc j p hj;exact⟨(hb.cell (by exact hl)).trans h1,(hb.cell (by exact hl)).trans h2,(hb.cell (by exact hl)).trans h3⟩⟩
theorem dS.nil (w:World):dS w none []:=⟨fun h=>absurd h (by simp)⟩
theorem dS.one {w:World}{b:Nat}{T:TypeId}{p:Part}(h:aC w b T (Ux p).toArray):dS w (some ⟨b,0,none⟩) [p]:=by
 refine⟨fun _=>⟨b,rfl,h.lt,fun j q hj=>?_⟩⟩
 have:j=0∧p=q:=by
  cases j with
  | zero=>exact⟨rfl,by simpa using hj⟩
  | succ j=>simp at hj
 obtain⟨rfl,rfl⟩:=this;exact⟨h.cell 0,h.cell 1,h.cell 2⟩
theorem aG (n:Int)(w:World):Calls Tryz.prog 157 #[.int .i64 n,.func (.func 69) #[] #[]] w fun e w'=>e=.returned (.agg #[.int .i64 n,.int .i64 n,.func (.func 69) #[] #[]])∧Below w.heap.size w w':=by
 go_in
 go_wp2;refine bodyPost_ret (v:=.agg #[.int .i64 n,.int .i64 n,.func (.func 69) #[] #[]]) (by simp [results,Tryz.f157,go_sem]) rfl ⟨rfl,?_⟩
 repeat (first | exact Below.refl _ _ | refine dx ?_ (aaJ _) | refine ah ?_ (aaJ _))
theorem OJ (n:Int)(w:World):Calls Tryz.prog 157 #[.int .i64 n,.func (.func 161) #[] #[]] w fun e w'=>e=.returned (.agg #[.int .i64 n,.int .i64 n,.func (.func 161) #[] #[]])∧Below w.heap.size w w':=by
 go_in
 go_wp2;refine bodyPost_ret (v:=.agg #[.int .i64 n,.int .i64 n,.func (.func 161) #[] #[]]) (by simp [results,Tryz.f157,go_sem]) rfl ⟨rfl,?_⟩
 repeat (first | exact Below.refl _ _ | refine dx ?_ (aaJ _) | refine ah ?_ (aaJ _))
theorem aac (n:Int)(w:World):Calls Tryz.prog 157 #[.int .i64 n,.func (.func 162) #[] #[]] w fun e w'=>e=.returned (.agg #[.int .i64 n,.int .i64 n,.func (.func 162) #[] #[]])∧Below w.heap.size w w':=by
 go_in
 go_wp2;refine bodyPost_ret (v:=.agg #[.int .i64 n,.int .i64 n,.func (.func 162) #[] #[]]) (by simp [results,Tryz.f157,go_sem]) rfl ⟨rfl,?_⟩
 repeat (first | exact Below.refl _ _ | refine dx ?_ (aaJ _) | refine ah ?_ (aaJ _))
theorem uo (A:Option Addr)(n c:Nat)(w:World):Calls Tryz.prog 158 #[.slice A n c] w fun e w'=>e=.returned (.agg #[.bool false,.int .i64 0,.int .i64 0,.slice A n c])∧Below w.heap.size w w':=by
 go_in
 go_wp2;refine bodyPost_ret (v:=.agg #[.bool false,.int .i64 0,.int .i64 0,.slice A n c]) (by simp [results,Tryz.f158,go_sem]) rfl ⟨rfl,?_⟩
 repeat (first | exact Below.refl _ _ | refine dx ?_ (aaJ _) | refine ah ?_ (aaJ _))
theorem mZ (A:Option Addr)(n c:Nat)(w:World):Calls Tryz.prog 159 #[.slice A n c] w fun e w'=>e=.returned (.agg #[.bool true,.int .i64 0,.int .i64 0,.slice A n c])∧Below w.heap.size w w':=by
 go_in
 go_wp2;refine bodyPost_ret (v:=.agg #[.bool true,.int .i64 0,.int .i64 0,.slice A n c]) (by simp [results,Tryz.f159,go_sem]) rfl ⟨rfl,?_⟩
 repeat (first | exact Below.refl _ _ | refine dx ?_ (aaJ _) | refine ah ?_ (aaJ _))
def eB (s:Option Shape)(w:World)(e:Ending)(w':World):Prop :=
 ∃ nm lo hi A n c b,e=.returned (.tuple #[.agg #[.bool nm,.int .i64 lo,.int .i64 hi,.slice A n c],.bool b])∧Below w.heap.size w w'∧match s with
  | none=>b=false
  | some s=>b=true∧nm=s.named∧lo=s.low∧hi=s.high∧n=s.parts.length∧n≤c∧dS w' A s.parts
theorem yU {W:World}{cs:Array Value}{T:TypeId}{k:Nat}(hk:W.heap.size=k):aC (W.alloc (.cells cs T)) k T cs:=by subst hk;exact aC.new W T cs
theorem gF {W w':World}{cs:Array Value}{T:TypeId}(hb:Below (W.alloc (.cells cs T)).heap.size (W.alloc (.cells cs T)) w'):aC w' W.heap.size T cs:=(aC.new W T cs).below hb (by simp)
theorem Wn {w w1 w2 w3:World}{c0 c1:Array Value}{T0 T1:TypeId}(hb1:Below ((w.alloc (.cells c0 T0)).alloc (.cells c1 T1)).heap.size ((w.alloc (.cells c0 T0)).alloc (.cells c1 T1)) w1)(hb2:Below w1.heap.size w1 w2)(hb3:Below w2.heap.size w2 w3):aC w3 w.heap.size T0 c0∧aC w3 (w.heap.size+1) T1 c1∧Below w.heap.size w w3:=by
 have b:=hb1.trans ((hb2.trans (hb3.mono hb2.size)).mono hb1.size)
 have h1:aC ((w.alloc (.cells c0 T0)).alloc (.cells c1 T1)) (w.heap.size+1) T1 c1:=by
  have:=aC.new (w.alloc (.cells c0 T0)) T1 c1
  rwa [show (w.alloc (.cells c0 T0)).heap.size=w.heap.size+1 by simp] at this
 refine⟨((aC.new w T0 c0).alloc _).below b (by simp;omega),h1.below b (by simp),(ah (ah (Below.refl _ _) (aaJ _)) (by simp)).trans (b.mono (by simp;omega))⟩
theorem fP {w w1 w2 w3:World}{c0 c1:Array Value}{T0 T1:TypeId}(hb1:Below ((w.alloc (.cells c0 T0)).alloc (.cells c1 T1)).heap.size ((w.alloc (.cells c0 T0)).alloc (.cells c1 T1)) w1)(hb2:Below w1.heap.size w1 w2)(hb3:Below w2.heap.size w2 w3):w.heap.size+1 < w3.heap.size∧∃ w5,(((((w3.alloc (.cells #[.int .i64 1,.int .i64 1,.func (.func 69) #[] #[]] 152)).alloc (.cells #[.int .i64 2,.int .i64 2,.func (.func 69) #[] #[]] 152)).alloc (.cells #[.int .i64 3,.int .i64 3,.func (.func 69) #[] #[]] 152)).alloc (.cells #[.int .i64 0,.int .i64 801,.func (.func 69) #[] #[]] 152)).alloc (.cells #[.int .i64 1,.int .i64 801,.func (.func 69) #[] #[]] 152))=w5∧Hid (aC w5 (w.heap.size+1) T1 c1)∧Hid (aC w5 w.heap.size T0 c0)∧Hid (Below w.heap.size w w5)∧Hid (w5.heap.size=w3.heap.size+1+1+1+1+1)∧w.heap.size+1 < w5.heap.size∧w.heap.size < w5.heap.size∧Hid (aC w5 (w3.heap.size) 152 #[.int .i64 1,.int .i64 1,.func (.func 69) #[] #[]])∧Hid (aC w5 (w3.heap.size+1) 152 #[.int .i64 2,.int .i64 2,.func (.func 69) #[] #[]])∧Hid (aC w5 (w3.heap.size+1+1) 152 #[.int .i64 3,.int .i64 3,.func (.func 69) #[] #[]])∧Hid (aC w5 (w3.heap.size+1+1+1) 152 #[.int .i64 0,.int .i64 801,.func (.func 69) #[] #[]])∧Hid (aC w5 (w3.heap.size+1+1+1+1) 152 #[.int .i64 1,.int .i64 801,.func (.func 69) #[] #[]]):=by
 obtain⟨hB0,hB1,hL3⟩:=Wn hb1 hb2 hb3;have hz:=hB1.lt
 refine⟨hz,_,rfl,hid ?_,hid ?_,hid ?_,hid (by simp),(by simp;omega),(by simp;omega),hid ?_,hid ?_,hid ?_,hid ?_,hid ?_⟩
 ·repeat (first | exact hB1 | refine aC.alloc ?_ _)
 ·repeat (first | exact hB0 | refine aC.alloc ?_ _)
 ·repeat (first | exact hL3 | refine ah ?_ ?_ | omega|(simp;omega))
 all_goals repeat (first|(with_reducible exact yU (by first | rfl | simp))|(with_reducible refine aC.alloc ?_ _))
structure jY (w:World) (A:Option Addr) (ks:List Nat):Prop where
 ex:0 < ks.length→∃ b o,A=some ⟨b,o,none⟩∧b < w.heap.size∧∀ (j:Nat) k,ks[j]? = some k→w.cell? ⟨b,o+j,none⟩=some (.int .u8 k)
theorem jY.below {w w':World}{A:Option Addr}{ks:List Nat}(h:jY w A ks)(hb:Below w.heap.size w w'):jY w' A ks :=
 ⟨fun h0=>by
  obtain⟨b,o,e,hl,hc⟩:=h.ex h0;exact⟨b,o,e,aaW hl hb.size,fun j k hk=>(hb.cell (by exact hl)).trans (hc j k hk)⟩⟩
theorem jY.take {w:World}{A:Option Addr}{ks:List Nat}(h:jY w A ks)(n:Nat):jY w A (ks.take n) :=
 ⟨fun h0=>by
  obtain⟨b,o,e,hl,hc⟩:=h.ex (by rw [List.length_take] at h0;omega)
  refine⟨b,o,e,hl,fun j k hk=>hc j k ?_⟩
  rw [List.getElem?_take] at hk
  split at hk
  ·exact hk
  ·cases hk⟩
theorem jY.drop {w:World}{A:Option Addr}{ks:List Nat}(h:jY w A ks){n c:Nat}(hc:ks.length≤c):jY w (if c=n then A else A.map (·.add n)) (ks.drop n) :=
 ⟨fun h0=>by
  rw [List.length_drop] at h0
  obtain⟨b,o,rfl,hl,hcell⟩:=h.ex (by omega);rw [if_neg (by omega)]
  refine⟨b,o+n,by rw [Option.map_some,sj],hl,fun j k hk=>?_⟩
  rw [Nat.add_assoc];exact hcell (n+j) k (by rwa [List.getElem?_drop] at hk)⟩
theorem T_ (p:Pd)(k:Nat)(r:Bool)(hr:p.is k=r)(w:World)(least most:Value)(g:Nat)(T:TypeId)(hg:aC w g T #[least,most,KM p]):Calls Tryz.prog 167 #[.int .u8 k,.pointer (some ⟨g,0,none⟩)] w fun e w'=>e=.returned (.bool (!r))∧w=w':=by
 cases p with
 | expr=>exact Vi k r hr w least most g T hg
 | typ=>exact Y_ k r hr w least most g T hg
 | param=>exact Rm k r hr w least most g T hg
 | put=>exact Y9 k r hr w least most g T hg
 | num=>exact Y8 k r hr w least most g T hg
theorem OC (p:Pd)(ks:List Nat)(A:Option Addr)(c:Nat)(w:World)(hK:jY w A ks)(hl:ks.length≤1000000)(least most:Value)(g:Nat)(T:TypeId)(hg:aC w g T #[least,most,KM p]) :
  Calls Tryz.prog 193 #[.slice A ks.length c,.func (.func 167) #[] #[.pointer (some ⟨g,0,none⟩)]] w fun e w'=>(∃ i:Int,e=.returned (.int .i64 i)∧decide (0≤i)=!(ks.all p.is))∧w=w':=by
 obtain⟨n,hn⟩:∃ n,n=ks.length:=⟨_,rfl⟩;rw [← hn] at hl ⊢
 have HN:=hid hn;clear hn;have HK:=hid hK;clear hK;have HG:=hid hg;clear hg;go_in
 go_wp2_with fail;go_loop [8] (fun i=>∃ k:Nat,k≤n∧i=.int .i64 k∧Hid ((ks.take k).all p.is=true)) (fun i=>n - (intOf i).toNat)
 case atStart=>exact⟨0,aaL _,rfl,hid rfl⟩
 case round =>
  obtain⟨k,hk,rfl,HT⟩:=hrel;by_cases hlt:k < n
  ·obtain⟨b,o,rfl,hbl,hc⟩:=HK.out.ex (by rw [← HN.out];omega);obtain⟨q,hq⟩:∃ q,ks[k]? = some q:=⟨_,aaD (by rw [← HN.out];exact hlt)⟩;have cq:=hc k q hq;have HQ:=hid hq;clear hc hq;have i1:(0:Int)≤(k:Int):=by omega
   have i2:(k:Int) < (n:Int):=by omega
   have HS:=hid (show ks.take (k+1)=ks.take k ++ [q] by rw [List.take_add_one,HQ.out];rfl)
   cases hr:p.is q
   ·have HR:=hid hr;clear hr;go_wp2_with fail;refine (T_ p q false HR.out _ least most g T HG.out).mono ?_;rintro e w1⟨rfl,rfl⟩;go_wp2_with fail;go_ret
    refine⟨⟨k,rfl,?_⟩,rfl⟩
    have hf:ks.all p.is=false:=by
     rw [List.all_eq_false];exact⟨q,aaM HQ.out,by rw [HR.out];simp⟩
    rw [hf];simp
   ·have HR:=hid hr;clear hr;go_wp2_with fail;refine (T_ p q true HR.out _ least most g T HG.out).mono ?_;rintro e w1⟨rfl,rfl⟩;go_wp2_with fail;go_round
    case rel=>exact⟨k+1,by omega,by go_num,hid (by rw [HS.out,List.all_append,HT.out];simp [HR.out])⟩
    case measure=>simp [intOf];omega
  ·have HE:=hid (show ks.all p.is=true by have:=HT.out;rwa [aaN (by rw [← HN.out];omega)] at this);go_wp2_with fail;go_ret;exact⟨⟨-1,rfl,by rw [HE.out];rfl⟩,rfl⟩
theorem GQ (p:Pd)(ks:List Nat)(A:Option Addr)(c:Nat)(w:World)(hK:jY w A ks)(hl:ks.length≤1000000)(least most:Value)(g:Nat)(T:TypeId)(hg:aC w g T #[least,most,KM p])(r:Bool)(hr:ks.all p.is=r) :
  Calls Tryz.prog 166 #[.slice A ks.length c,.func (.func 167) #[] #[.pointer (some ⟨g,0,none⟩)]] w fun e w'=>e=.returned (.bool (!r))∧w=w':=by
 have HR:=hid hr;clear hr;have HC:=hid (OC p ks A c w hK hl least most g T hg);clear hK hg;go_in
 go_wp2_with fail;refine HC.out.mono ?_;rintro e w1⟨⟨i,rfl,hi⟩,rfl⟩;rw [HR.out] at hi
 go_wp2_with fail;go_ret;exact⟨rfl,rfl⟩
theorem wU (p:Pd)(ks:List Nat)(n:Nat)(hn:ks.length=n)(A:Option Addr)(c:Nat)(w:World)(hK:jY w A ks)(hl:ks.length≤1000000)(least most:Value)(g:Nat)(T:TypeId)(hg:aC w g T #[least,most,KM p])(r:Bool)(hr:ks.all p.is=r) :
  Calls Tryz.prog 166 #[.slice A n c,.func (.func 167) #[] #[.pointer (some ⟨g,0,none⟩)]] w fun e w'=>e=.returned (.bool (!r))∧w=w':=by
 subst hn;exact GQ p ks A c w hK hl least most g T hg r hr
end Go.Proofs.YthepmkjggfijoaaGreatDoor
