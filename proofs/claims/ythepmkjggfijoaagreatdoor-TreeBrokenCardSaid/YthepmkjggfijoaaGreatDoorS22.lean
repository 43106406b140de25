/-
  A part of the proof.
-/
import Derived.Test.YthepmkjggfijoaaGreatDoorSA
import Derived.Deep.RegionLaw
import Derived.Laws.EntriesVeiled
import Derived.Test.YthepmkjggfijoaaGreatDoorS01
import Derived.Test.YthepmkjggfijoaaGreatDoorS06
import Derived.Test.YthepmkjggfijoaaGreatDoorS08
import Derived.Test.YthepmkjggfijoaaGreatDoorS20
import Derived.Test.YthepmkjggfijoaaGreatDoorS21
set_option linter.all false
set_option maxRecDepth 100000
set_option maxHeartbeats 8000000
namespace Go.Proofs.YthepmkjggfijoaaGreatDoor
open Go.RowKit Mist
attribute [local go_sem] aj aH aS aB ak
structure JS (g:Nat) (w:World) (tb:Nat) (nv iv:Value) (xs:List NV) (its:List Int):Prop where
 blk:aC w tb 26 #[nv,iv]
 lo:tb < g
 own:w.ownsRow g 50 5 nv xs.length (iO xs)
 kids:∀ x ∈ xs,w.ownsRow g 3 1 x.2 x.1.kids.length (intCells x.1.kids)
 row:w.ownsRow g 3 1 iv its.length (intCells its)
 far:∀ x ∈ xs,x.2.ownBlock=none∨x.2.ownBlock ≠ iv.ownBlock
theorem JS.below {g:Nat}{w c:World}{tb:Nat}{nv iv:Value}{xs:List NV}{a:List Int}(h:JS g w tb nv iv xs a)(b:Below w.heap.size w c):JS g c tb nv iv xs a :=
 ⟨h.blk.below b h.blk.lt,h.lo,own_below h.own b,fun x d=>own_below (h.kids x d) b,own_below h.row b,h.far⟩
theorem JS.far_ {g:Nat}{w:World}{tb:Nat}{nv iv:Value}{xs:List NV}{a:List Int}(h:JS g w tb nv iv xs a){b i:Nat}{u:Value}(h0:b ≠ tb)(h1:nv.ownBlock ≠ some b)(h2:iv.ownBlock ≠ some b)(h3:∀ x ∈ xs,x.2.ownBlock ≠ some b):JS g (w.setCell ⟨b,i,none⟩ u) tb nv iv xs a :=
 ⟨h.blk.far (p:=⟨b,i,none⟩) (Ne.symm h0) u,h.lo,ownsRow_setCell_other h.own h1 u,fun x c=>ownsRow_setCell_other (h.kids x c) (h3 x c) u,ownsRow_setCell_other h.row h2 u,h.far⟩
theorem JS.UD {g:Nat}{w:World}{tb:Nat}{nv iv:Value}{xs:List NV}{a:List Int}(h:JS g w tb nv iv xs a){b:Nat}(d:w.heap.size≤b):b ≠ tb∧nv.ownBlock ≠ some b∧iv.ownBlock ≠ some b∧∀ x ∈ xs,x.2.ownBlock ≠ some b :=
 ⟨by have:=h.blk.lt;omega,fun e=>by have:=(h.own.lt b e).2;omega,fun e=>by have:=(h.row.lt b e).2;omega,fun x c e=>by have:=((h.kids x c).lt b e).2;omega⟩
theorem JS.add {g:Nat}{w w1:World}{tb:Nat}{nv eO iv:Value}{xs:List NV}{c:List Int}{x:NV}(h:JS g w tb nv iv xs c)(f:w.grownBy w1 nv.ownBlock)(a:w1.ownsRow g 50 5 eO (xs.length+1) (iO xs ++ fC x))(b:w.ownsRow g 3 1 x.2 x.1.kids.length (intCells x.1.kids))(i:x.2.ownBlock=none∨x.2.ownBlock ≠ iv.ownBlock):JS g (w1.setCell ⟨tb,0,none⟩ eO) tb eO iv (xs ++ [x]) c:=by
 have d:=h.blk.grown f (fun e=>aT h.own h.blk (by decide) e.symm)
 have keep:∀ {v:Value} {n:Nat} {cs:List Value},w.ownsRow g 3 1 v n cs→(w1.setCell ⟨tb,0,none⟩ eO).ownsRow g 3 1 v n cs:=fun b =>
  ownsRow_setCell_other (b.kept f (iE b h.own (by decide))) (aT (b.kept f (iE b h.own (by decide))) d (by decide)) _
 refine⟨?_,h.lo,?_,fun y hy=>?_,keep h.row,fun y hy=>?_⟩
 ·have:=d.d_ 0 eO;simpa using this
 ·rw [aaO,rJ];have e:iO [x]=fC x:=by simp [iO]
  rw [e];exact ownsRow_setCell_other a (aT a d (by decide)) _
 ·rcases List.mem_append.1 hy with hy | hy
  ·exact keep (h.kids y hy)
  ·rw [List.mem_singleton.1 hy];exact keep b
 ·rcases List.mem_append.1 hy with hy | hy
  ·exact h.far y hy
  ·rw [List.mem_singleton.1 hy];exact i
theorem JS.item {g:Nat}{w w1:World}{tb:Nat}{nv iv AY:Value}{xs:List NV}{a:List Int}{q:Int}(h:JS g w tb nv iv xs a)(i:w.grownBy w1 iv.ownBlock)(c:w1.ownsRow g 3 1 AY (a.length+1) (intCells a ++ [.int .i64 q]))(f:AY.ownBlock=iv.ownBlock∨AY.ownBlock=some w.heap.size):JS g (w1.setCell ⟨tb,1,none⟩ AY) tb nv AY xs (a ++ [q]):=by
 have d:=h.blk.grown i (fun e=>aT h.row h.blk (by decide) e.symm);have l:=h.own.kept i (iE h.own h.row (by decide))
 refine⟨?_,h.lo,ownsRow_setCell_other l (aT l d (by decide)) _,fun y hy=>?_,?_,fun y hy=>?_⟩
 ·have:=d.d_ 1 AY;simpa using this
 ·have k:=(h.kids y hy).kept i (h.far y hy);exact ownsRow_setCell_other k (aT k d (by decide)) _
 ·rw [aaO,eT];exact ownsRow_setCell_other c (aT c d (by decide)) _
 ·rcases f with e | e
  ·rw [e];exact h.far y hy
  ·rcases h9:y.2.ownBlock with _ | b
   ·exact .inl rfl
   ·right
    rw [e];intro j
    have:=((h.kids y hy).lt b h9).2
    injection j with j
    omega
def lI (zA:Int)(x:Nd):Nd:=⟨x.kind,x.text,x.n,x.kids.map (·+zA),x.at_⟩
def gJ:Nat→List Nd→List Int
 | _,[]=>[]
 | n,x :: r=>if eP x.kind=true then (n:Int) :: gJ (n+1) r else gJ (n+1) r
theorem oM:∀ (n:Nat) (l:List Nd) (x:Nd),gJ n (l ++ [x])=gJ n l ++ (if eP x.kind=true then [((n+l.length:Nat):Int)] else [])
 | n,[],x=>by simp only [List.nil_append,gJ,List.length_nil,Nat.add_zero]
 | n,y :: r,x=>by
  simp only [List.cons_append,gJ,List.length_cons];have e:n+1+r.length=n+(r.length+1):=by omega
  split
  ·rw [oM (n+1) r x,e];rfl
  ·rw [oM (n+1) r x,e]
theorem uw:∀ (n:Nat) (l:List Nd),(gJ n l).length≤l.length
 | _,[]=>aaJ _
 | n,x :: r=>by
  unfold gJ;split
  ·have:=uw (n+1) r;simp;omega
  ·have:=uw (n+1) r;simp;omega
theorem Uu (A:Option Addr)(n b c a:Nat):(Value.slice A n c).ownBlock=(Value.slice A b a).ownBlock:=by cases A <;> rfl
theorem Iw {w:World}{base kb n:Nat}{T:TypeId}{D:List Int}(h:aC w kb T (iZ D))(a:D.length=n)(b:base≤kb)(c:n≤1000000):w.ownsRow base T 1 (.slice (some ⟨kb,0,none⟩) n n) n (intCells D):=by
 refine⟨by rw [rG,a];omega,.inr ⟨kb,n,iZ D,rfl,b,h,aaJ _,by simp only [maxLen];omega,by simp [iZ,a],?_⟩⟩
 rw [show (iZ D).toList=intCells D by simp [iZ,intCells],aaN (by rw [rG];omega)]
theorem Z_ (g tb:Nat)(nv iv:Value)(xs:List NV)(I:List Int)(Ai:Option Addr)(ci:Nat)(j:List NV)(from_:Int)(Y w:World)(hJ:JS g w tb nv iv xs I)(hS:0 < j.length→∃ b o,Ai=some ⟨b,o,none⟩∧oZ Y b o j)(hb:Below Y.heap.size Y w)(hlo:Y.heap.size≤tb)(hg:g≤w.heap.size)
  (hx:xs.length≤10000) (hi:I.length≤10000) (hy:j.length≤10000) (hf:-100000≤from_∧from_≤100000) (hk:∀ y ∈ j,∀ k ∈ y.1.kids,-1000000≤k∧k≤1000000) :
  Calls Tryz.prog 67 #[.pointer (some ⟨tb,0,none⟩),.slice Ai j.length ci,.int .i64 from_] w fun e w'=>e=.returned (.tuple #[])∧Below Y.heap.size Y w'∧∃ eO AY ext,JS g w' tb eO AY (xs ++ ext) (I ++ gJ xs.length (aA j))∧aA ext=(aA j).map (lI ((xs.length:Int) - from_)):=by
 obtain⟨An,cn,rfl⟩:=dh hJ.own;obtain⟨Av,cv,rfl⟩:=dh hJ.row;obtain⟨Z,M⟩:∃ b,b=(xs.length:Int) - from_:=⟨_,rfl⟩;obtain⟨n,hn⟩:∃ n,n=j.length:=⟨_,rfl⟩;have hbb:-200000≤Z∧Z≤200000:=by omega
 rw [← M];rw [← hn] at hy ⊢
 obtain⟨m,hxn⟩:∃ n,n=xs.length:=⟨_,rfl⟩;have HJ:=O hJ;have t0:=hJ.blk.cell 0;clear hJ;rw [← hxn] at t0 hx M
 have HXN:=O hxn;clear hxn;have HN:=O hn;clear hn;have HS:=O hS;clear hS;have HKK:=O hk;clear hk;have HB:=O hb;clear hb;have HBY:=O M.symm;clear M;obtain⟨i0,hi0,hz0,hz1,hz2⟩:=info_parts rW;obtain⟨j0,hj0,hy0,hy1,hy2⟩:=info_parts gN;go_in
 go_wp2_with fail;rw [HBY.o];go_loopw [21] (fun i wr=>∃ (k:Nat) (nv iv:Value) (ext:List NV),k≤n∧i=.int .i64 k∧ext.length=k∧Hid (JS g wr tb nv iv (xs ++ ext) (I ++ gJ xs.length ((aA j).take k)))∧Hid (aA ext=((aA j).take k).map (lI Z))∧Hid (Below Y.heap.size Y wr)∧Hid (g≤wr.heap.size)) (fun i _=>n - (intOf i).toNat)
 case atStart=>exact⟨0,_,_,[],aaL _,rfl,rfl,O (by simpa [gJ] using HJ.o),O (by simp [aA]),HB,O hg⟩
 case round =>
  obtain⟨f,rfl⟩:∃ f:World,f=wr:=⟨_,rfl⟩;obtain⟨k,nv,iv,ext,hkn',rfl,hel,J,Li,A,HG⟩:=hrel;by_cases hkn:k < n
  ·obtain⟨b,o,rfl,B⟩:=HS.o (by rw [← HN.o];omega);obtain⟨y,l⟩:∃ y,j[k]? = some y:=jD (by rw [← HN.o];exact hkn);have c0:=(A.o.cell (p:=⟨b,o+k * 5,none⟩) B.lt).trans (B.c0 k y l);have c1:=(A.o.cell (p:=⟨b,o+k * 5+1,none⟩) B.lt).trans (B.c1 k y l);have c2:=(A.o.cell (p:=⟨b,o+k * 5+2,none⟩) B.lt).trans (B.c2 k y l);have c3:=(A.o.cell (p:=⟨b,o+k * 5+3,none⟩) B.lt).trans (B.c3 k y l);have c4:=(A.o.cell (p:=⟨b,o+k * 5+4,none⟩) B.lt).trans (B.c4 k y l);obtain⟨Ak,ck,hye,hyl,r⟩:=B.kid l;rw [hye] at c3
   have tK:=O r;have HYK:=O l;have HKB:=O (HKK.o y (aaM l));clear B l hye r;obtain⟨a,hnk⟩:∃ a,a=y.1.kids.length:=⟨_,rfl⟩;rw [← hnk] at c3 hyl
   have nu:=O hnk;clear hnk;have i1:(0:Int)≤(k:Int):=by omega
   have i2:(k:Int) < (n:Int):=by omega
   have i3:decide (k < n)=true:=aaU hkn;have hmk:=fun W=>run_make_row' (P:=Tryz.prog) 24 3 (.int .i64 0) 8 Tryz.underlying24 gN rfl .i64 .i64 a (by omega) (by omega) W
   rw [Ab] at hmk
   go_wp2_with fail;clear hmk;have C:=O ((aC.new f 50 #[.int .u8 y.1.kind,.string (aM y.1.text),.int .i64 y.1.n,.slice Ak a ck,.int .i64 y.1.at_]).alloc (.cells (iZ (List.replicate a 0)) 3));have AQ:=O (dL (W:=f.alloc (.cells #[.int .u8 y.1.kind,.string (aM y.1.text),.int .i64 y.1.n,.slice Ak a ck,.int .i64 y.1.at_] 50)) (T:=3) (cs:=iZ (List.replicate a 0)) (k:=f.heap.size+1) (by simp));have vL:=O (ah (ah (Below.refl f.heap.size f) (aaJ _) (o:=.cells #[.int .u8 y.1.kind,.string (aM y.1.text),.int .i64 y.1.n,.slice Ak a ck,.int .i64 y.1.at_] 50)) (by simp) (o:=.cells (iZ (List.replicate a 0)) 3));go_loopw [32] (fun i wr=>∃ (c:Nat) (D:List Int),c≤a∧i=.int .i64 c∧Hid (Below f.heap.size f wr)∧Hid (aC wr f.heap.size 50 #[.int .u8 y.1.kind,.string (aM y.1.text),.int .i64 y.1.n,.slice Ak a ck,.int .i64 y.1.at_])∧Hid (aC wr (f.heap.size+1) 3 (iZ D))∧Hid (D=((y.1.kids.take c).map (·+Z)) ++ List.replicate (a - c) 0)) (fun i _=>a - (intOf i).toNat)
   case atStart=>exact⟨0,List.replicate a 0,aaL _,rfl,vL,C,AQ,O (by simp)⟩
   case round =>
    clear vL C AQ;obtain⟨wq,rfl⟩:∃ wq:World,wq=wr:=⟨_,rfl⟩;obtain⟨c,D,hj,rfl,jO,C,AQ,HD⟩:=hrel;have HLS:=O (A.o.trans (jO.o.mono A.o.size));have hds:D.length=a:=by rw [HD.o];simp;rw [← nu.o];omega
    by_cases hjl:c < a
    ·obtain⟨kq,Q⟩:∃ kq,y.1.kids[c]? = some kq:=⟨_,aaD (by rw [← nu.o];exact hjl)⟩;have hqb:=HKB.o kq (aaM Q);obtain⟨bk,ok,rfl,hbk,hck⟩:=tK.o.ex (by rw [← nu.o];omega);have cj:=(HLS.o.cell (p:=⟨bk,ok+c,none⟩) hbk).trans (hck c kq Q);have uM:=O (show y.1.kids.take (c+1)=y.1.kids.take c ++ [kq] by rw [List.take_add_one,Q];rfl);clear hck Q;have z0:(0:Int)≤(c:Int):=by omega
     have z1:(c:Int) < (a:Int):=by omega
     have z2:decide (c < a)=true:=aaU hjl;have d0:wq.cell? ⟨f.heap.size+1,c,none⟩=some (.int .i64 (D.getD c 0)):=by rw [AQ.o.cell c];exact nE D c (by omega)
     have df:=AQ.o.frozen c;obtain⟨dv,hdv⟩:∃ v,v=D.getD c 0:=⟨_,rfl⟩;rw [← hdv] at d0
     clear hdv;go_wp2_with fail
     refine⟨⟨c+1,D.set c (kq+Z),by omega,by go_num,O (dx jO.o (by omega)),O (C.o.far (by simp) _),O (by rw [← yt];exact AQ.o.d_ c _),O ?_⟩,by simp [intOf];omega⟩
     rw [HD.o,uM.o];have hl9:((y.1.kids.take c).map (·+Z)).length=c:=by simp;rw [← nu.o];omega
     have Qs:List.replicate (a - c) (0:Int)=0 :: List.replicate (a - (c+1)) 0:=by
      rw [show a - c=(a - (c+1))+1 by omega];rfl
     rw [Qs,List.set_append_right _ _ (by omega),hl9,Nat.sub_self,aaB,List.map_append,List.append_assoc];rfl
    ·have z2:decide (c < a)=false:=aaV hjl
     have JU:=O (show D=y.1.kids.map (·+Z) by
      rw [HD.o,aaN (by rw [← nu.o];omega),show a - c=0 by omega];simp)
     have n0:=C.o.cell 0;have n1:=C.o.cell 1;have n2:=C.o.cell 2;have n3:=C.o.cell 3;have n4:=C.o.cell 4;have nf:=C.o.frozen 3;have hnl:=C.o.lt;obtain⟨xe,R⟩:∃ e,e=xs ++ ext:=⟨_,rfl⟩;obtain⟨ie,hie⟩:∃ e,e=I ++ gJ xs.length ((aA j).take k):=⟨_,rfl⟩;have JQ:=J.o.below jO.o;rw [← R,← hie] at JQ
     have hxq:xe.length=m+k:=by rw [R,aaO,hel,HXN.o]
     have HXE:=O R;clear R;have HIE:=O hie;clear hie;have zY:=J.o.UD (b:=f.heap.size) (aaJ _);rw [← HXE.o] at zY
     have F:=JQ.far_ (b:=f.heap.size) (i:=3) (u:=.slice (some ⟨f.heap.size+1,0,none⟩) a a) zY.1 zY.2.1 zY.2.2.1 zY.2.2.2;have L:=C.o.d_ 3 (.slice (some ⟨f.heap.size+1,0,none⟩) a a);have Yu:=AQ.o.far (p:=⟨f.heap.size,3,none⟩) (by simp) (.slice (some ⟨f.heap.size+1,0,none⟩) a a);have Ql:=O (dx (i:=3) (u:=.slice (some ⟨f.heap.size+1,0,none⟩) a a) jO.o (aaJ _));have HF1:=O zY;have TH:=O (J.o.UD (b:=f.heap.size+1) (by omega));clear JQ zY;obtain⟨qn,VP⟩:∃ q,q=xe.length:=⟨_,rfl⟩;obtain⟨S,hmn⟩:∃ q,q=ie.length:=⟨_,rfl⟩;obtain⟨An',cn',hnv⟩:=dh F.own;obtain⟨Av',cv',hiv⟩:=dh F.row;subst hnv;subst hiv;have hq6:qn=m+k:=by rw [VP,hxq]
     rw [← VP] at F
     rw [← hmn] at F
     subst hq6;have HQN:=O VP;clear VP;have HMN:=O hmn;clear hmn;go_upto_region 11 with (fail)
     generalize wq.setCell ⟨f.heap.size,3,none⟩ (.slice (some ⟨f.heap.size+1,0,none⟩) a a)=w6 at F L Yu Ql ⊢
     have n0:=L.cell 0;have n1:=L.cell 1;have n2:=L.cell 2;have n3:=L.cell 3;have n4:=L.cell 4;have hnl:=L.lt;have u0:=F.blk.cell 0;have u1:=F.blk.cell 1;have uf:=F.blk.frozen 0;have hul:=F.blk.lt;have hune:¬ w6.heap.size=tb:=by omega
     have Qo:=O F;have F6:=O L;have HK6:=O Yu;clear F L Yu;have U:=O (show w6.ownsRow g 50 5 (.slice An' (m+k) cn') (m+k) (iO xe) from by have h9:=Qo.o.own;rw [← HQN.o] at h9;exact h9)
     go_region_law ((refine step_append_lies _ (by rfl) _ _ _ (by rfl) g 50 i0 _ 5 64 Tryz.underlying23 hi0 hz0 hz1 hz2 rfl (by omega) _ (m + k) (iO xe) (by rfl) (((U.o.alloc _)).drew)
                              ⟨w6.heap.size,0,none⟩ 1 1 (fC (⟨y.1.kind,y.1.text,y.1.n,D,y.1.at_⟩,.slice (some ⟨f.heap.size+1,0,none⟩) a a)) (by rfl) (by rfl) (World.news_of_block (cs:=#[.int .u8 y.1.kind,.string (aM y.1.text),.int .i64 y.1.n,.slice (some ⟨f.heap.size+1,0,none⟩) a a,.int .i64 y.1.at_]) (t:=50) (fr:=(0,0)) (heap_alloc_new w6 _)) (by intro u hu;simp [fC] at hu;rcases hu with rfl | rfl | rfl | rfl | rfl <;> rfl)
                              (by omega) (by simp only [maxLen];omega) (by omega) (by simp;have h9:=HG.o;have h8:=Ql.o.size;omega) (w6.heap.size+1) (by simp) ?_;intro gg cap w1 G h hat hlt';have X:=((Qo.o.blk.alloc (.cells #[.int .u8 y.1.kind,.string (aM y.1.text),.int .i64 y.1.n,.slice (some ⟨f.heap.size+1,0,none⟩) a a,.int .i64 y.1.at_] 50)).drew).grown h (fun e=>aT Qo.o.own Qo.o.blk (by decide) e.symm);have c3':=X.cell 0;have f3':=X.frozen 0;clear X))
     all_goals
      obtain⟨xk,r⟩:∃ xk:NV,xk=(⟨y.1.kind,y.1.text,y.1.n,D,y.1.at_⟩,.slice (some ⟨f.heap.size+1,0,none⟩) a a):=⟨_,rfl⟩;have hgsz:=HG.o;have Zv:=Ql.o.size;have hd6:=Qo.o.lo;have QH:=O (Below.drew (ah (Below.refl w6.heap.size w6) (aaJ _) (o:=.cells #[.int .u8 y.1.kind,.string (aM y.1.text),.int .i64 y.1.n,.slice (some ⟨f.heap.size+1,0,none⟩) a a,.int .i64 y.1.at_] 50)));have JA:=JS.add (x:=xk) (eO:=.slice (some ⟨gg,0,none⟩) (m+k+1) cap) (Qo.o.below QH.o) h (by rw [← HQN.o,r];exact G) (by rw [r];show World.ownsRow _ g _ 1 _ D.length _;rw [hds];exact Iw ((HK6.o.alloc _).drew) hds (by omega) hyl) (by right;rw [r];exact fun e=>TH.o.2.2.1 ((Uu _ _ _ _ _).trans e.symm));have K:=(((F6.o.alloc (.cells #[.int .u8 y.1.kind,.string (aM y.1.text),.int .i64 y.1.n,.slice (some ⟨f.heap.size+1,0,none⟩) a a,.int .i64 y.1.at_] 50)).drew).grown h (fun e=>HF1.o.2.1 ((Uu _ _ _ _ _).trans e.symm))).far (p:=⟨tb,0,none⟩) HF1.o.1 (.slice (some ⟨gg,0,none⟩) (m+k+1) cap);have HLA:=dx (i:=0) (b:=tb) (u:=.slice (some ⟨gg,0,none⟩) (m+k+1) cap) ((((A.o.trans (Ql.o.mono A.o.size)).trans (QH.o.mono (Nat.le_trans A.o.size Zv)))).grown h (Nat.le_trans (Nat.le_trans A.o.size Zv) QH.o.size) (fun b' hb'=>by have:=(Qo.o.own.lt b' hb').1;omega)) hlo
      have HGA:g≤(w1.setCell ⟨tb,0,none⟩ (.slice (some ⟨gg,0,none⟩) (m+k+1) cap)).heap.size:=by
       have h9:=h.size;have h8:=QH.o.size;simp [World.setCell]
       omega
      have Lj:=O (show aA (ext ++ [xk])=((aA j).take (k+1)).map (lI Z) by
       rw [nY,Li.o,List.take_add_one,List.map_append,gP HYK.o,r]
       congr 1
       simp [aA,lI,JU.o])
      clear r hat h G c3' f3' hlt' F6 HK6 U QH
      generalize w1.setCell ⟨tb,0,none⟩ (.slice (some ⟨gg,0,none⟩) (m+k+1) cap)=w7 at JA K HLA HGA ⊢
      have V:=O JA;have HNA2:=O K;have Lm:=O HLA;have QT:=O HGA;have v0:=K.cell 0;have u0':=JA.blk.cell 0;have u1':=JA.blk.cell 1;have uf':=JA.blk.frozen 1;have hul':=JA.blk.lt;clear JA K HLA HGA u0 u1 uf n0 n1 n2 n3 n4 hul hnl hune;have nH:=O (oM xs.length ((aA j).take k) y.1);have uM:=O (show (aA j).take (k+1)=(aA j).take k ++ [y.1] by rw [List.take_add_one,gP HYK.o];rfl);have Nh:=O (show ((aA j).take k).length=k by rw [List.length_take,aD,← HN.o];omega)
      cases N:eP y.1.kind
      ·have E:=O N;clear N;go_wp2_with fail;refine (Cn y.1.kind false E.o _).mono ?_;rintro e w8⟨rfl,rfl⟩;go_wp2_with fail
       refine⟨⟨k+1,.slice (some ⟨gg,0,none⟩) (m+k+1) cap,.slice Av' S cv',ext ++ [xk],by omega,by go_num,by rw [aaO,hel];rfl,O ?_,Lj,Lm,QT⟩,by simp [intOf];omega⟩
       have h9:=V.o;rw [HXE.o,HIE.o] at h9
       rw [uM.o,nH.o,E.o]
       simpa using h9
      ·have E:=O N;clear N;have HUN:¬ w7.heap.size=tb:=by omega
       go_wp2_with fail;refine (Cn y.1.kind true E.o _).mono ?_;rintro e w8⟨rfl,rfl⟩;go_upto_region 13 with (fail)
       have hmn9:S≤20000:=by
        have h9:=uw xs.length ((aA j).take k);rw [HMN.o,HIE.o,aaO];rw [Nh.o] at h9
        omega
       have Jp:=O (show w7.ownsRow g 3 1 (.slice Av' S cv') S (intCells ie) from by have h9:=V.o.row;rw [← HMN.o] at h9;exact h9);have w1v:IntKind.i64.wrap ((m:Int)+(k:Int))=(m:Int)+(k:Int):=IntWalk.i64_in _ (by omega)
       go_region_law ((refine step_append_lies _ (by rfl) _ _ _ (by rfl) g 3 j0 _ 1 8 Tryz.underlying24 hj0 hy0 hy1 hy2 rfl (by omega) _ S (intCells ie) (by rfl) (((Jp.o.alloc _)).drew)
                                  ⟨w7.heap.size,0,none⟩ 1 1 [.int .i64 ((m:Int)+(k:Int))] (by rfl) (by rfl) (World.news_of_block (cs:=#[.int .i64 ((m:Int)+(k:Int))]) (t:=3) (fr:=(0,0)) (heap_alloc_new w7 _)) (by intro u hu;simp at hu;subst hu;rfl)
                                  (by omega) (by simp only [maxLen];omega) (by omega) (by simp;have h9:=QT.o;omega) (w7.heap.size+1) (by simp) ?_;intro gi zm w9 H d Ol hlt2;have X:=((V.o.blk.alloc (.cells #[.int .i64 ((m:Int)+(k:Int))] 3)).drew).grown d (fun e=>aT V.o.row V.o.blk (by decide) e.symm);have c4':=X.cell 0;have c5':=X.cell 1;have f5':=X.frozen 1;clear X))
       all_goals
        have F3:=O (Below.drew (ah (Below.refl w7.heap.size w7) (aaJ _) (o:=.cells #[.int .i64 ((m:Int)+(k:Int))] 3)));have hg7:=QT.o;have Xy:=V.o.lo
        have JB:=O (JS.item (q:=(m:Int)+(k:Int)) (AY:=.slice (some ⟨gi,0,none⟩) (S+1) zm) (V.o.below F3.o) d (by rw [← HMN.o];exact H) (by
         rcases Ol with e | e
         ·left;rw [e];rfl
         ·right;rw [e];simp [Value.ownBlock]))
        have HLB:=O (dx (i:=1) (b:=tb) (u:=.slice (some ⟨gi,0,none⟩) (S+1) zm) ((Lm.o.trans (F3.o.mono Lm.o.size)).grown d (Nat.le_trans Lm.o.size F3.o.size) (fun b' hb'=>by have:=(V.o.row.lt b' hb').1;omega)) hlo)
        have HGB:g≤(w9.setCell ⟨tb,1,none⟩ (.slice (some ⟨gi,0,none⟩) (S+1) zm)).heap.size:=by
         have h9:=d.size;have h8:=F3.o.size;simp [World.setCell]
         omega
        have HGB2:=O HGB;clear Ol d H c4' c5' f5' hlt2 F3 HGB;go_wp2_with fail
        refine⟨⟨k+1,.slice (some ⟨gg,0,none⟩) (m+k+1) cap,.slice (some ⟨gi,0,none⟩) (S+1) zm,ext ++ [xk],by omega,by go_num,by rw [aaO,hel];rfl,O ?_,Lj,HLB,HGB2⟩,by simp [intOf];omega⟩
        have h9:=JB.o;rw [HXE.o,HIE.o] at h9
        rw [uM.o,nH.o,E.o,Nh.o,← HXN.o];rw [← HXN.o] at h9
        simpa using h9
  ·have i3:decide (k < n)=false:=aaV hkn;have uM:=O (show (aA j).take k=aA j from aaN (by rw [aD,← HN.o];omega));go_wp2_with fail;go_end0
   exact⟨rfl,A.o,nv,iv,ext,by have h9:=J.o;rwa [uM.o] at h9,by rw [Li.o,uM.o]⟩
structure zQ (w:World) (g:Nat) (t:Tok):Prop where
 c0:w.cell? ⟨g,0,none⟩=some (.int .u8 t.kind)
 c1:w.cell? ⟨g,1,none⟩=some (.string (aM t.text))
 c2:w.cell? ⟨g,2,none⟩=some (.int .i64 t.at_)
 f0:w.frozen? ⟨g,0,none⟩=false
 f1:w.frozen? ⟨g,1,none⟩=false
 f2:w.frozen? ⟨g,2,none⟩=false
theorem zQ.lt {w:World}{g:Nat}{t:Tok}(h:zQ w g t):g < w.heap.size:=by
 have:=World.block_lt_of_cell? w _ h.c0;exact this
theorem zQ.below {w b:World}{g:Nat}{t:Tok}(h:zQ w g t)(a:Below w.heap.size w b):zQ b g t :=
 ⟨(a.cell (p:=⟨g,_,none⟩) h.lt).trans h.c0,(a.cell (p:=⟨g,_,none⟩) h.lt).trans h.c1,(a.cell (p:=⟨g,_,none⟩) h.lt).trans h.c2,
  (a.frozen (p:=⟨g,_,none⟩) h.lt).trans h.f0,(a.frozen (p:=⟨g,_,none⟩) h.lt).trans h.f1,(a.frozen (p:=⟨g,_,none⟩) h.lt).trans h.f2⟩
theorem zQ.new (w:World)(t:Tok)(T:TypeId):zQ (w.alloc (.cells #[.int .u8 t.kind,.string (aM t.text),.int .i64 t.at_] T)) w.heap.size t:=by
 have a:=heap_alloc_new w (.cells #[.int .u8 t.kind,.string (aM t.text),.int .i64 t.at_] T);exact⟨by rw [Lib.cell_of_heap a];rfl,by rw [Lib.cell_of_heap a];rfl,by rw [Lib.cell_of_heap a];rfl,Lib.frozen_of_heap a 0,Lib.frozen_of_heap a 1,Lib.frozen_of_heap a 2⟩
end Go.Proofs.YthepmkjggfijoaaGreatDoor
namespace Go.Proofs.YthepmkjggfijoaaGreatDoor
open Go.RowKit Mist
def Ux (p:Part):List Value:=[.int .i64 p.least,.int .i64 p.most,KM p.pd]
structure dS (w:World) (A:Option Addr) (ps:List Part):Prop where
 ex:0 < ps.length→∃ b,A=some ⟨b,0,none⟩∧b < w.heap.size∧∀ (j:Nat) p,ps[j]? = some p→w.cell? ⟨b,j * 3,none⟩=some (.int .i64 p.least)∧w.cell? ⟨b,j * 3+1,none⟩=some (.int .i64 p.most)∧w.cell? ⟨b,j * 3+2,none⟩=some (KM p.pd)
theorem dS.below {w d:World}{A:Option Addr}{ps:List Part}(h:dS w A ps)(a:Below w.heap.size w d):dS d A ps :=
 ⟨fun h0=>by
  obtain⟨b,e,c,f⟩:=h.ex h0
  refine⟨b,e,aaW c a.size,fun j p g=>?_⟩
  obtain⟨h1,h2,h3⟩:=f j p g;exact⟨(a.cell (by exact c)).trans h1,(a.cell (by exact c)).trans h2,(a.cell (by exact c)).trans h3⟩⟩
theorem dS.nil (w:World):dS w none []:=⟨fun h=>absurd h (by simp)⟩
theorem dS.one {w:World}{b:Nat}{T:TypeId}{p:Part}(h:aC w b T (Ux p).toArray):dS w (some ⟨b,0,none⟩) [p]:=by
 refine⟨fun _=>⟨b,rfl,h.lt,fun j q a=>?_⟩⟩
 have:j=0∧p=q:=by
  cases j with
  | zero=>exact⟨rfl,by simpa using a⟩
  | succ j=>simp at a
 obtain⟨rfl,rfl⟩:=this;exact⟨h.cell 0,h.cell 1,h.cell 2⟩
theorem aG (n:Int)(w:World):Calls Tryz.prog 157 #[.int .i64 n,.func (.func 69) #[] #[]] w fun e a=>e=.returned (.agg #[.int .i64 n,.int .i64 n,.func (.func 69) #[] #[]])∧Below w.heap.size w a:=by
 go_in
 go_wp2;refine bodyPost_ret (v:=.agg #[.int .i64 n,.int .i64 n,.func (.func 69) #[] #[]]) (by simp [results,Tryz.f157,go_sem]) rfl ⟨rfl,?_⟩
 repeat (first | exact Below.refl _ _ | refine dx ?_ (aaJ _) | refine ah ?_ (aaJ _))
theorem OJ (n:Int)(w:World):Calls Tryz.prog 157 #[.int .i64 n,.func (.func 161) #[] #[]] w fun e a=>e=.returned (.agg #[.int .i64 n,.int .i64 n,.func (.func 161) #[] #[]])∧Below w.heap.size w a:=by
 go_in
 go_wp2;refine bodyPost_ret (v:=.agg #[.int .i64 n,.int .i64 n,.func (.func 161) #[] #[]]) (by simp [results,Tryz.f157,go_sem]) rfl ⟨rfl,?_⟩
 repeat (first | exact Below.refl _ _ | refine dx ?_ (aaJ _) | refine ah ?_ (aaJ _))
theorem aac (n:Int)(w:World):Calls Tryz.prog 157 #[.int .i64 n,.func (.func 162) #[] #[]] w fun e a=>e=.returned (.agg #[.int .i64 n,.int .i64 n,.func (.func 162) #[] #[]])∧Below w.heap.size w a:=by
 go_in
 go_wp2;refine bodyPost_ret (v:=.agg #[.int .i64 n,.int .i64 n,.func (.func 162) #[] #[]]) (by simp [results,Tryz.f157,go_sem]) rfl ⟨rfl,?_⟩
 repeat (first | exact Below.refl _ _ | refine dx ?_ (aaJ _) | refine ah ?_ (aaJ _))
theorem uo (A:Option Addr)(n c:Nat)(w:World):Calls Tryz.prog 158 #[.slice A n c] w fun e a=>e=.returned (.agg #[.bool false,.int .i64 0,.int .i64 0,.slice A n c])∧Below w.heap.size w a:=by
 go_in
 go_wp2;refine bodyPost_ret (v:=.agg #[.bool false,.int .i64 0,.int .i64 0,.slice A n c]) (by simp [results,Tryz.f158,go_sem]) rfl ⟨rfl,?_⟩
 repeat (first | exact Below.refl _ _ | refine dx ?_ (aaJ _) | refine ah ?_ (aaJ _))
theorem mZ (A:Option Addr)(n c:Nat)(w:World):Calls Tryz.prog 159 #[.slice A n c] w fun e a=>e=.returned (.agg #[.bool true,.int .i64 0,.int .i64 0,.slice A n c])∧Below w.heap.size w a:=by
 go_in
 go_wp2;refine bodyPost_ret (v:=.agg #[.bool true,.int .i64 0,.int .i64 0,.slice A n c]) (by simp [results,Tryz.f159,go_sem]) rfl ⟨rfl,?_⟩
 repeat (first | exact Below.refl _ _ | refine dx ?_ (aaJ _) | refine ah ?_ (aaJ _))
def eB (s:Option Shape)(w:World)(e:Ending)(w':World):Prop :=
 ∃ nm lo hi A n c b,e=.returned (.tuple #[.agg #[.bool nm,.int .i64 lo,.int .i64 hi,.slice A n c],.bool b])∧Below w.heap.size w w'∧match s with
  | none=>b=false
  | some s=>b=true∧nm=s.named∧lo=s.low∧hi=s.high∧n=s.parts.length∧n≤c∧dS w' A s.parts
theorem yU {W:World}{cs:Array Value}{T:TypeId}{k:Nat}(a:W.heap.size=k):aC (W.alloc (.cells cs T)) k T cs:=by subst a;exact aC.new W T cs
theorem gF {W a:World}{cs:Array Value}{T:TypeId}(b:Below (W.alloc (.cells cs T)).heap.size (W.alloc (.cells cs T)) a):aC a W.heap.size T cs:=(aC.new W T cs).below b (by simp)
theorem Wn {w w1 i g:World}{c c1:Array Value}{a d:TypeId}(e:Below ((w.alloc (.cells c a)).alloc (.cells c1 d)).heap.size ((w.alloc (.cells c a)).alloc (.cells c1 d)) w1)(f:Below w1.heap.size w1 i)(h:Below i.heap.size i g):aC g w.heap.size a c∧aC g (w.heap.size+1) d c1∧Below w.heap.size w g:=by
 have b:=e.trans ((f.trans (h.mono f.size)).mono e.size)
 have h1:aC ((w.alloc (.cells c a)).alloc (.cells c1 d)) (w.heap.size+1) d c1:=by
  have:=aC.new (w.alloc (.cells c a)) d c1
  rwa [show (w.alloc (.cells c a)).heap.size=w.heap.size+1 by simp] at this
 refine⟨((aC.new w a c).alloc _).below b (by simp;omega),h1.below b (by simp),(ah (ah (Below.refl _ _) (aaJ _)) (by simp)).trans (b.mono (by simp;omega))⟩
theorem fP {w w1 l b:World}{f c1:Array Value}{d e:TypeId}(i:Below ((w.alloc (.cells f d)).alloc (.cells c1 e)).heap.size ((w.alloc (.cells f d)).alloc (.cells c1 e)) w1)(j:Below w1.heap.size w1 l)(k:Below l.heap.size l b):w.heap.size+1 < b.heap.size∧∃ a,(((((b.alloc (.cells #[.int .i64 1,.int .i64 1,.func (.func 69) #[] #[]] 152)).alloc (.cells #[.int .i64 2,.int .i64 2,.func (.func 69) #[] #[]] 152)).alloc (.cells #[.int .i64 3,.int .i64 3,.func (.func 69) #[] #[]] 152)).alloc (.cells #[.int .i64 0,.int .i64 801,.func (.func 69) #[] #[]] 152)).alloc (.cells #[.int .i64 1,.int .i64 801,.func (.func 69) #[] #[]] 152))=a∧Hid (aC a (w.heap.size+1) e c1)∧Hid (aC a w.heap.size d f)∧Hid (Below w.heap.size w a)∧Hid (a.heap.size=b.heap.size+1+1+1+1+1)∧w.heap.size+1 < a.heap.size∧w.heap.size < a.heap.size∧Hid (aC a (b.heap.size) 152 #[.int .i64 1,.int .i64 1,.func (.func 69) #[] #[]])∧Hid (aC a (b.heap.size+1) 152 #[.int .i64 2,.int .i64 2,.func (.func 69) #[] #[]])∧Hid (aC a (b.heap.size+1+1) 152 #[.int .i64 3,.int .i64 3,.func (.func 69) #[] #[]])∧Hid (aC a (b.heap.size+1+1+1) 152 #[.int .i64 0,.int .i64 801,.func (.func 69) #[] #[]])∧Hid (aC a (b.heap.size+1+1+1+1) 152 #[.int .i64 1,.int .i64 801,.func (.func 69) #[] #[]]):=by
 obtain⟨g,c,h⟩:=Wn i j k;have m:=c.lt
 refine⟨m,_,rfl,O ?_,O ?_,O ?_,O (by simp),(by simp;omega),(by simp;omega),O ?_,O ?_,O ?_,O ?_,O ?_⟩
 ·repeat (first | exact c | refine aC.alloc ?_ _)
 ·repeat (first | exact g | refine aC.alloc ?_ _)
 ·repeat (first | exact h | refine ah ?_ ?_ | omega|(simp;omega))
 all_goals repeat (first|(with_reducible exact yU (by first | rfl | simp))|(with_reducible refine aC.alloc ?_ _))
structure jY (w:World) (A:Option Addr) (ks:List Nat):Prop where
 ex:0 < ks.length→∃ b o,A=some ⟨b,o,none⟩∧b < w.heap.size∧∀ (j:Nat) k,ks[j]? = some k→w.cell? ⟨b,o+j,none⟩=some (.int .u8 k)
theorem jY.below {w d:World}{A:Option Addr}{ks:List Nat}(h:jY w A ks)(a:Below w.heap.size w d):jY d A ks :=
 ⟨fun h0=>by
  obtain⟨b,o,e,c,f⟩:=h.ex h0;exact⟨b,o,e,aaW c a.size,fun j k g=>(a.cell (by exact c)).trans (f j k g)⟩⟩
theorem jY.take {w:World}{A:Option Addr}{ks:List Nat}(h:jY w A ks)(n:Nat):jY w A (ks.take n) :=
 ⟨fun h0=>by
  obtain⟨b,o,e,d,c⟩:=h.ex (by rw [List.length_take] at h0;omega)
  refine⟨b,o,e,d,fun j k a=>c j k ?_⟩
  rw [List.getElem?_take] at a
  split at a
  ·exact a
  ·cases a⟩
theorem jY.drop {w:World}{A:Option Addr}{ks:List Nat}(h:jY w A ks){n c:Nat}(f:ks.length≤c):jY w (if c=n then A else A.map (·.add n)) (ks.drop n) :=
 ⟨fun h0=>by
  rw [List.length_drop] at h0
  obtain⟨b,o,rfl,e,a⟩:=h.ex (by omega);rw [if_neg (by omega)]
  refine⟨b,o+n,by rw [Option.map_some,sj],e,fun j k d=>?_⟩
  rw [Nat.add_assoc];exact a (n+j) k (by rwa [List.getElem?_drop] at d)⟩
theorem T_ (p:Pd)(k:Nat)(r:Bool)(d:p.is k=r)(w:World)(a b:Value)(g:Nat)(T:TypeId)(c:aC w g T #[a,b,KM p]):Calls Tryz.prog 167 #[.int .u8 k,.pointer (some ⟨g,0,none⟩)] w fun e f=>e=.returned (.bool (!r))∧w=f:=by
 cases p with
 | expr=>exact Vi k r d w a b g T c
 | typ=>exact Y_ k r d w a b g T c
 | param=>exact Rm k r d w a b g T c
 | put=>exact Y9 k r d w a b g T c
 | num=>exact Y8 k r d w a b g T c
theorem OC (p:Pd)(ks:List Nat)(A:Option Addr)(c:Nat)(w:World)(x:jY w A ks)(H:ks.length≤1000000)(a d:Value)(g:Nat)(T:TypeId)(B:aC w g T #[a,d,KM p]) :
  Calls Tryz.prog 193 #[.slice A ks.length c,.func (.func 167) #[] #[.pointer (some ⟨g,0,none⟩)]] w fun e I=>(∃ i:Int,e=.returned (.int .i64 i)∧decide (0≤i)=!(ks.all p.is))∧w=I:=by
 obtain⟨n,m⟩:∃ n,n=ks.length:=⟨_,rfl⟩;rw [← m] at H ⊢
 have j:=O m;clear m;have D:=O x;clear x;have t:=O B;clear B;go_in
 go_wp2_with fail;go_loop [8] (fun i=>∃ k:Nat,k≤n∧i=.int .i64 k∧Hid ((ks.take k).all p.is=true)) (fun i=>n - (intOf i).toNat)
 case atStart=>exact⟨0,aaL _,rfl,O rfl⟩
 case round =>
  obtain⟨k,K,rfl,v⟩:=hrel;by_cases l:k < n
  ·obtain⟨b,o,rfl,F,y⟩:=D.o.ex (by rw [← j.o];omega);obtain⟨q,r⟩:∃ q,ks[k]? = some q:=⟨_,aaD (by rw [← j.o];exact l)⟩;have J:=y k q r;have u:=O r;clear y r;have L:(0:Int)≤(k:Int):=by omega
   have M:(k:Int) < (n:Int):=by omega
   have E:=O (show ks.take (k+1)=ks.take k ++ [q] by rw [List.take_add_one,u.o];rfl)
   cases h:p.is q
   ·have f:=O h;clear h;go_wp2_with fail;refine (T_ p q false f.o _ a d g T t.o).mono ?_;rintro e w1⟨rfl,rfl⟩;go_wp2_with fail;go_ret
    refine⟨⟨k,rfl,?_⟩,rfl⟩
    have G:ks.all p.is=false:=by
     rw [List.all_eq_false];exact⟨q,aaM u.o,by rw [f.o];simp⟩
    rw [G];simp
   ·have f:=O h;clear h;go_wp2_with fail;refine (T_ p q true f.o _ a d g T t.o).mono ?_;rintro e w1⟨rfl,rfl⟩;go_wp2_with fail;go_round
    case rel=>exact⟨k+1,by omega,by go_num,O (by rw [E.o,List.all_append,v.o];simp [f.o])⟩
    case measure=>simp [intOf];omega
  ·have C:=O (show ks.all p.is=true by have:=v.o;rwa [aaN (by rw [← j.o];omega)] at this);go_wp2_with fail;go_ret;exact⟨⟨-1,rfl,by rw [C.o];rfl⟩,rfl⟩
theorem GQ (p:Pd)(ks:List Nat)(A:Option Addr)(c:Nat)(w:World)(d:jY w A ks)(l:ks.length≤1000000)(a b:Value)(g:Nat)(T:TypeId)(f:aC w g T #[a,b,KM p])(r:Bool)(h:ks.all p.is=r) :
  Calls Tryz.prog 166 #[.slice A ks.length c,.func (.func 167) #[] #[.pointer (some ⟨g,0,none⟩)]] w fun e m=>e=.returned (.bool (!r))∧w=m:=by
 have k:=O h;clear h;have j:=O (OC p ks A c w d l a b g T f);clear d f;go_in
 go_wp2_with fail;refine j.o.mono ?_;rintro e w1⟨⟨i,rfl,hi⟩,rfl⟩;rw [k.o] at hi
 go_wp2_with fail;go_ret;exact⟨rfl,rfl⟩
theorem wU (p:Pd)(ks:List Nat)(n:Nat)(i:ks.length=n)(A:Option Addr)(c:Nat)(w:World)(d:jY w A ks)(h:ks.length≤1000000)(a b:Value)(g:Nat)(T:TypeId)(f:aC w g T #[a,b,KM p])(r:Bool)(j:ks.all p.is=r) :
  Calls Tryz.prog 166 #[.slice A n c,.func (.func 167) #[] #[.pointer (some ⟨g,0,none⟩)]] w fun e k=>e=.returned (.bool (!r))∧w=k:=by
 subst i;exact GQ p ks A c w d h a b g T f r j
end Go.Proofs.YthepmkjggfijoaaGreatDoor
