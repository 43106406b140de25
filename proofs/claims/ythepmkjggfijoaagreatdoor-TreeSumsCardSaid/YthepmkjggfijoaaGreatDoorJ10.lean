/-
  A part of the proof.
-/
import Derived.Test.YthepmkjggfijoaaGreatDoorSA
import Derived.Test.YthepmkjggfijoaaGreatDoorS21
import Derived.Test.YthepmkjggfijoaaGreatDoorS22
import Derived.Test.YthepmkjggfijoaaGreatDoorJ04
set_option linter.all false
set_option maxRecDepth 100000
set_option maxHeartbeats 4000000
open Go.Lib (hid)
namespace Go.Proofs.YthepmkjggfijoaaGreatDoor
open Go.RowKit Mist
attribute [local go_sem] aj aH aS aB ak
theorem R3 {w:World}{A:Option Addr}{ks:List Int}(h:IntsIn w A ks):Reads w w.heap.size 1 A ks.length (intCells ks):=by
 refine⟨by rw [rG,Nat.mul_one],fun h0=>?_⟩
 obtain⟨b,o,rfl,hl,hc⟩:=h.ex h0
 refine⟨⟨b,o,none⟩,rfl,hl,fun j u hu=>?_⟩
 rw [sj];have hj:j < ks.length:=by have:=(aaE.1 hu).1;rwa [rG] at this
 have he:u=.int .i64 ks[j]:=by
  have h9:(intCells ks)[j]? = some (.int .i64 ks[j]):=by simp [intCells,hj]
  rw [h9] at hu;exact (aaP hu).symm
 rw [he];exact hc j _ (aaD hj)
structure RowsIn (g:Nat) (w:World) (nv iv:Value) (xs:List NV) (its:List Int):Prop where
 own:w.ownsRow g 50 5 nv xs.length (iO xs)
 kids:∀ x ∈ xs,w.ownsRow g 3 1 x.2 x.1.kids.length (intCells x.1.kids)
 row:w.ownsRow g 3 1 iv its.length (intCells its)
 far:∀ x ∈ xs,x.2.ownBlock=none∨x.2.ownBlock ≠ iv.ownBlock
theorem RowsIn.below {g:Nat}{w w':World}{nv iv:Value}{xs:List NV}{its:List Int}(h:RowsIn g w nv iv xs its)(hb:Below w.heap.size w w'):RowsIn g w' nv iv xs its :=
 ⟨own_below h.own hb,fun x hx=>own_below (h.kids x hx) hb,own_below h.row hb,h.far⟩
theorem RowsIn.add {g:Nat}{w w1:World}{tb:Nat}{nv eO iv:Value}{xs:List NV}{its:List Int}{x:NV}(h:RowsIn g w nv iv xs its)(hB:aC w tb 26 #[nv,iv])(hg:w.grownBy w1 nv.ownBlock)(hown:w1.ownsRow g 50 5 eO (xs.length+1) (iO xs ++ fC x))(hk:w.ownsRow g 3 1 x.2 x.1.kids.length (intCells x.1.kids))(hf:x.2.ownBlock=none∨x.2.ownBlock ≠ iv.ownBlock) :
  RowsIn g (w1.setCell ⟨tb,0,none⟩ eO) eO iv (xs ++ [x]) its∧aC (w1.setCell ⟨tb,0,none⟩ eO) tb 26 #[eO,iv]:=by
 have hb:=hB.grown hg (fun e=>aT h.own hB (by decide) e.symm)
 have keep:∀ {v:Value} {n:Nat} {cs:List Value},w.ownsRow g 3 1 v n cs→(w1.setCell ⟨tb,0,none⟩ eO).ownsRow g 3 1 v n cs:=fun hk =>
  ownsRow_setCell_other (hk.kept hg (iE hk h.own (by decide))) (aT (hk.kept hg (iE hk h.own (by decide))) hb (by decide)) _
 refine⟨⟨?_,fun y hy=>?_,keep h.row,fun y hy=>?_⟩,?_⟩
 ·rw [aaO,rJ];have e:iO [x]=fC x:=by simp [iO]
  rw [e];exact ownsRow_setCell_other hown (aT hown hb (by decide)) _
 ·rcases List.mem_append.1 hy with hy | hy
  ·exact keep (h.kids y hy)
  ·rw [List.mem_singleton.1 hy];exact keep hk
 ·rcases List.mem_append.1 hy with hy | hy
  ·exact h.far y hy
  ·rw [List.mem_singleton.1 hy];exact hf
 ·have:=hb.d_ 0 eO;simpa using this
theorem RowsIn.tY {g:Nat}{w:World}{nv iv:Value}{xs:List NV}{its:List Int}{zb i:Nat}{cs:Array Value}{u:Value}(h:RowsIn g w nv iv xs its)(hz:aC w zb 26 cs):RowsIn g (w.setCell ⟨zb,i,none⟩ u) nv iv xs its :=
 ⟨ownsRow_setCell_other h.own (aT h.own hz (by decide)) u,fun x hx=>ownsRow_setCell_other (h.kids x hx) (aT (h.kids x hx) hz (by decide)) u,ownsRow_setCell_other h.row (aT h.row hz (by decide)) u,h.far⟩
theorem Uh {w w':World}{v iv:Value}{b b' e e' s s' n n':Nat}{xs ys:List Value}(h:w'.ownsRow b e s v n xs)(hb:w.heap.size≤b)(hi:w.ownsRow b' e' s' iv n' ys):v.ownBlock=none∨v.ownBlock ≠ iv.ownBlock:=by
 rcases h9:v.ownBlock with _ | q
 ·exact .inl rfl
 ·right
  intro e2;have h1:=(h.lt q h9).1;have h2:=(hi.lt q e2.symm).2;omega
end Go.Proofs.YthepmkjggfijoaaGreatDoor
namespace Go.Proofs.YthepmkjggfijoaaGreatDoor
open Go.RowKit Mist
attribute [local go_sem] aj aH aS aB ak
theorem own_any (A B:Option Addr)(c d:Nat)(xs:List NV)(its:List Int)(w:World)(hT:mq w A B xs its)(hn:xs.length≤10000)(hm:its.length≤10000)(hr:∀ x ∈ xs,∀ k ∈ x.1.kids,jq≤k∧k≤gq) :
  Calls Tryz.prog 29 #[.agg #[.slice A xs.length c,.slice B its.length d]] w fun e w'=>Below w.heap.size w w'∧∃ nv iv ext,e=.returned (.agg #[nv,iv])∧RowsIn w.heap.size w' nv iv ext its∧aA ext=aA xs:=by
 obtain⟨n,hnn⟩:∃ n,n=xs.length:=⟨_,rfl⟩;obtain⟨m,hmm⟩:∃ m,m=its.length:=⟨_,rfl⟩;rw [← hnn] at hn ⊢
 rw [← hmm] at hm ⊢
 have HRD:=hid (R3 hT.items);rw [← hmm] at HRD
 have pF:=hid hnn;clear hnn;have U1:=hid hmm;clear hmm;have HT:=hid hT;clear hT;have HR:=hid hr;clear hr;obtain⟨i0,hi0,hz0,hz1,hz2⟩:=info_parts rW;obtain⟨j0,hj0,hy0,hy1,hy2⟩:=info_parts gN;go_in
 have h0:=hid (((Below.refl w.heap.size w).alloc (aaJ _) (.cells #[.slice A n c,.slice B m d] 26)).alloc (by simp) (.cells #[.slice none 0 0,.slice none 0 0] 26));have h1:=hid (h0.out.alloc (by simp;omega) (.cells #[] 3));have HO0:=hid (World.ownsRow_made (base:=w.heap.size) (e:=3) (size:=1) ((w.alloc (.cells #[.slice A n c,.slice B m d] 26)).alloc (.cells #[.slice none 0 0,.slice none 0 0] 26)) #[] 0 (by simp;omega) (by simp [maxLen]) rfl);have hmb:m * 8≤140737488355328:=by omega
 have HRD2:=hid (HRD.out.below h1.out);go_wp2_with (at_builtin;go_loud (refine Dq _ rfl (.tmp 6) (.tmp 8) 24 rfl w.heap.size 3 j0 _ 1 8 Tryz.underlying24 hj0 hy0 hy1 hy2 rfl (by decide) (.slice (some ⟨w.heap.size+1+1,0,none⟩) 0 0) 0 [] rfl (by simpa using HO0.out) w.heap.size B m d (intCells its) rfl HRD2.out (by intro u hu;obtain⟨z,_,rfl⟩:=List.mem_map.1 hu;rfl) (by simp only [maxLen];omega) (by omega) (by simp;omega) ?_);intro v2 w2 hown2 hg2 _;rw [Nat.zero_add] at hown2;obtain⟨Av,cv,rfl⟩:=dh hown2)
 have HG2:=hid hg2;have HOW:=hid (show w2.ownsRow w.heap.size 3 1 (.slice Av m cv) m (intCells its) from by simpa using hown2);have HL2:=hid (show Below w.heap.size w w2 from h1.out.grown hg2 (by simp;omega) (fun k hk=>by have:=(HO0.out.lt k (by simpa using hk)).1;omega));have hBt:=(aC.new w 26 #[.slice A n c,.slice B m d]).alloc (.cells #[.slice none 0 0,.slice none 0 0] 26);have HB2:=hid ((hBt.alloc (.cells #[] 3)).grown hg2 (fun e=>by first|(simp [Value.ownBlock] at e;done)|(simp [Value.ownBlock] at e;omega)));have hBz:=dL (W:=w.alloc (.cells #[.slice A n c,.slice B m d] 26)) (T:=26) (cs:=#[.slice none 0 0,.slice none 0 0]) (k:=w.heap.size+1) (by simp);have HZ2:=hid ((hBz.alloc (.cells #[] 3)).grown hg2 (fun e=>by first|(simp [Value.ownBlock] at e;done)|(simp [Value.ownBlock] at e;omega)));have hsz2:=HL2.out.size;have htb3:w.heap.size+1 < w2.heap.size:=HZ2.out.lt;clear hown2 hg2 HG2 hBt hBz HO0 h0 h1 HRD HRD2 hmb
 have qm:=hid (show RowsIn w.heap.size (w2.alloc (.cells #[.slice none 0 0,.slice Av m cv] 26)) (.slice none 0 0) (.slice Av m cv) [] its from
  ⟨World.ownsRow_nil _ _ _ _,(fun x hx=>by cases hx),by rw [← U1.out];exact HOW.out.alloc _,(fun x hx=>by cases hx)⟩)
 have HT0:=hid (aC.new w2 26 #[.slice none 0 0,.slice Av m cv]);have HB0:=hid (HB2.out.alloc (.cells #[.slice none 0 0,.slice Av m cv] 26));have HZ0:=hid (HZ2.out.alloc (.cells #[.slice none 0 0,.slice Av m cv] 26));have eH:=hid (ah HL2.out hsz2 (o:=.cells #[.slice none 0 0,.slice Av m cv] 26));clear HB2 HZ2 HL2 HOW
 generalize w2.alloc (.cells #[.slice none 0 0,.slice Av m cv] 26)=w4 at qm HT0 HB0 HZ0 eH ⊢
 generalize w2.heap.size=tb at HT0 hsz2 htb3 ⊢
 go_loopw [4] (fun i wr=>∃ (k:Nat) (nv:Value) (ext:List NV),k≤n∧i=.int .i64 k∧ext.length=k∧Hid (aA ext=(aA xs).take k)∧Hid (RowsIn w.heap.size wr nv (.slice Av m cv) ext its)∧Hid (aC wr tb 26 #[nv,.slice Av m cv])∧Hid (aC wr w.heap.size 26 #[.slice A n c,.slice B m d])∧Hid (aC wr (w.heap.size+1) 26 #[.slice none 0 0,.slice none 0 0])∧Hid (Below w.heap.size w wr)) (fun i _=>n - (intOf i).toNat)
 case atStart=>exact⟨0,_,[],aaL _,rfl,rfl,hid rfl,qm,HT0,HB0,HZ0,eH⟩
 case round =>
  clear qm HT0 HB0 HZ0 eH;obtain⟨wo,rfl⟩:∃ wo:World,wo=wr:=⟨_,rfl⟩;obtain⟨k,nv,ext,hk,rfl,hel,Li,HRW,rE,HB,HZ,HL⟩:=hrel;have t0:=HB.out.cell 0;have t1:=HB.out.cell 1;by_cases hkn:k < n
  ·have i3:decide (k < n)=true:=aaU hkn;obtain⟨An,cn,rfl⟩:=dh HRW.out.own;rw [hel] at rE
   have TD:=hid hel;have u0:=rE.out.cell 0;have u1:=rE.out.cell 1;have uf:=rE.out.frozen 0;obtain⟨b,o,rfl,yc⟩:=HT.out.nodes (by rw [← pF.out];omega);obtain⟨x,hx⟩:∃ x,xs[k]? = some x:=jD (by rw [← pF.out];exact hkn);have c0:=(HL.out.cell (p:=⟨b,o+k * 5,none⟩) yc.lt).trans (yc.c0 k x hx);have c1:=(HL.out.cell (p:=⟨b,o+k * 5+1,none⟩) yc.lt).trans (yc.c1 k x hx);have c2:=(HL.out.cell (p:=⟨b,o+k * 5+2,none⟩) yc.lt).trans (yc.c2 k x hx);have c3:=(HL.out.cell (p:=⟨b,o+k * 5+3,none⟩) yc.lt).trans (yc.c3 k x hx);have c4:=(HL.out.cell (p:=⟨b,o+k * 5+4,none⟩) yc.lt).trans (yc.c4 k x hx);obtain⟨Ka,ca,hxe,hxl,hxk⟩:=yc.kid hx;rw [hxe] at c3
   have tK:=hid (hxk.below HL.out);have HXR:=hid (HR.out x (aaM hx));have Rh:=hid (gP hx);clear yc hx hxe hxk hel;obtain⟨⟨kd,tx,nn,ks,at_⟩,xv⟩:=x;simp only at c0 c1 c2 c3 c4 hxl tK HXR Rh
   obtain⟨nk,hnk⟩:∃ nk,nk=ks.length:=⟨_,rfl⟩;rw [← hnk] at c3 hxl
   have nu:=hid hnk;clear hnk;have z0:(0:Int)≤(k:Int):=by omega
   have z1:(k:Int) < (n:Int):=by omega
   have hlo:=HL.out.size;have htl:=rE.out.lt;have htg:w.heap.size≤tb:=hsz2;have oV:=hid ((aC.new wo 50 #[.int .u8 kd,.string (aM tx),.int .i64 nn,.slice Ka nk ca,.int .i64 at_]).alloc (.cells #[] 3));have n3:=oV.out.cell 3;have hbB:Below wo.heap.size wo ((wo.alloc (.cells #[.int .u8 kd,.string (aM tx),.int .i64 nn,.slice Ka nk ca,.int .i64 at_] 50)).alloc (.cells #[] 3)):=ah (ah (Below.refl _ _) (aaJ _)) (by simp);have HBB:=hid hbB;have HO9:=hid (World.ownsRow_made (base:=wo.heap.size) (e:=3) (size:=1) (wo.alloc (.cells #[.int .u8 kd,.string (aM tx),.int .i64 nn,.slice Ka nk ca,.int .i64 at_] 50)) #[] 0 (by simp) (by simp [maxLen]) rfl);have HRK:=R3 tK.out;rw [← nu.out] at HRK
   have HRDK:=hid (HRK.below hbB);clear HRK hbB;go_upto_region 7 with (at_builtin;go_loud (refine Dq _ rfl (.tmp 23) (.tmp 25) 24 rfl wo.heap.size 3 j0 _ 1 8 Tryz.underlying24 hj0 hy0 hy1 hy2 rfl (by decide) (.slice (some ⟨wo.heap.size+1,0,none⟩) 0 0) 0 [] rfl (by simpa using HO9.out) wo.heap.size Ka nk ca (intCells ks) rfl HRDK.out (by intro u hu;obtain⟨z,_,rfl⟩:=List.mem_map.1 hu;rfl) (by simp only [maxLen];omega) (by omega) (by simp;omega) ?_);intro v6 w6 hown6 vN _;rw [Nat.zero_add] at hown6;obtain⟨Ak,ck,rfl⟩:=dh hown6;have HOW6:=hid (show w6.ownsRow wo.heap.size 3 1 (.slice Ak nk ck) nk (intCells ks) from by simpa using hown6);have F6:=hid (oV.out.grown vN (fun e=>by first|(simp [Value.ownBlock] at e;done)|(simp [Value.ownBlock] at e;omega)));have dA:=hid (HBB.out.grown vN (by simp;omega) (fun q hq=>by first|(simp [Value.ownBlock] at hq;done)|(simp [Value.ownBlock] at hq;omega)));have m3:=F6.out.frozen 3;have k3:=F6.out.cell 3;clear hown6 vN)
   have HN7:=hid (show aC (w6.setCell ⟨wo.heap.size,3,none⟩ (.slice Ak nk ck)) wo.heap.size 50 #[.int .u8 kd,.string (aM tx),.int .i64 nn,.slice Ak nk ck,.int .i64 at_] from by have:=F6.out.d_ 3 (.slice Ak nk ck);simpa using this);have EZ:=hid (dx (b:=wo.heap.size) (i:=3) (u:=.slice Ak nk ck) dA.out (aaJ _));have HK7:=hid (show (w6.setCell ⟨wo.heap.size,3,none⟩ (.slice Ak nk ck)).ownsRow wo.heap.size 3 1 (.slice Ak nk ck) nk (intCells ks) from ownsRow_setCell_other HOW6.out (aT HOW6.out F6.out (by decide)) _);clear F6 dA HOW6 oV HBB HO9 HRDK m3 k3 n3
   generalize w6.setCell ⟨wo.heap.size,3,none⟩ (.slice Ak nk ck)=w5 at HN7 EZ HK7 ⊢
   have AU:=hid (HRW.out.below EZ.out);have zO:=hid (rE.out.below EZ.out rE.out.lt);have HK5:=hid (sS HK7.out (show w.heap.size≤_ by omega));have HFA:=hid (Uh HK7.out (aaJ _) HRW.out.row);have HOWN:=hid (show w5.ownsRow w.heap.size 50 5 (.slice An k cn) k (iO ext) from by have h9:=AU.out.own;rw [TD.out] at h9;exact h9);have x0:=HN7.out.cell 0;have x1:=HN7.out.cell 1;have x2:=HN7.out.cell 2;have x3:=HN7.out.cell 3;have x4:=HN7.out.cell 4;clear u0 u1 uf c0 c1 c2 c3 c4;have u5:=zO.out.cell 0;have tl5:=zO.out.lt;have f5:=zO.out.frozen 0;have hs5:=EZ.out.size;go_wp2_with (at_builtin;go_loud (refine wpList_append_lies _ rfl (.tmp 29) (.tmp 31) 23 rfl w.heap.size 50 i0 _ 5 64 Tryz.underlying23 hi0 hz0 hz1 hz2 rfl (by decide) _ k (iO ext) rfl (HOWN.out.alloc _) ⟨w5.heap.size,0,none⟩ 1 1 (fC (⟨kd,tx,nn,ks,at_⟩,.slice Ak nk ck)) rfl rfl (iP _ _ _) (by intro u hu;simp [fC] at hu;rcases hu with rfl | rfl | rfl | rfl | rfl <;> rfl) (by omega) (by simp only [maxLen];omega) (by omega) (by simp;omega) _ rfl ?_);intro gg cap w6 hown6 vN xC z8;have kk:=(zO.out.alloc (.cells #[.int .u8 kd,.string (aM tx),.int .i64 nn,.slice Ak nk ck,.int .i64 at_] 50)).grown vN (fun e=>aT HOWN.out zO.out (by decide) e.symm);have c3':=kk.cell 0;have f3':=kk.frozen 0;clear kk;have HRA:=AU.out.below (ah (Below.refl w5.heap.size w5) (aaJ _) (o:=.cells #[.int .u8 kd,.string (aM tx),.int .i64 nn,.slice Ak nk ck,.int .i64 at_] 50));have Lx:=zO.out.alloc (.cells #[.int .u8 kd,.string (aM tx),.int .i64 nn,.slice Ak nk ck,.int .i64 at_] 50);obtain⟨HRX,HTX⟩:=RowsIn.add (x:=(⟨kd,tx,nn,ks,at_⟩,.slice Ak nk ck)) (eO:=.slice (some ⟨gg,0,none⟩) (k+1) cap) HRA (by rw [TD.out];exact Lx) (by rw [TD.out];exact vN) (by rw [TD.out];exact hown6) (by show World.ownsRow _ _ _ 1 (.slice Ak nk ck) ks.length (intCells ks);rw [← nu.out];exact HK5.out.alloc _) HFA.out;have YE:=hid HRX;have YH:=hid HTX;have HGR:=hid vN;clear HRX HTX HRA Lx vN hown6 xC)
   have cu:=HB.out.below EZ.out HB.out.lt;have HZ5:=HZ.out.below EZ.out HZ.out.lt;have HBX:=hid (((cu.alloc (.cells #[.int .u8 kd,.string (aM tx),.int .i64 nn,.slice Ak nk ck,.int .i64 at_] 50)).grown HGR.out (fun e=>aT HOWN.out cu (by decide) e.symm)).far (p:=⟨tb,0,none⟩) (by show w.heap.size ≠ tb;omega) (.slice (some ⟨gg,0,none⟩) (k+1) cap));have HZX:=hid (((HZ5.alloc (.cells #[.int .u8 kd,.string (aM tx),.int .i64 nn,.slice Ak nk ck,.int .i64 at_] 50)).grown HGR.out (fun e=>aT HOWN.out HZ5 (by decide) e.symm)).far (p:=⟨tb,0,none⟩) (by show w.heap.size+1 ≠ tb;omega) (.slice (some ⟨gg,0,none⟩) (k+1) cap));have hl5:=(HL.out.trans (EZ.out.mono hlo)).size;have Nt:=hid (dx (b:=tb) (i:=0) (u:=.slice (some ⟨gg,0,none⟩) (k+1) cap) ((ah (HL.out.trans (EZ.out.mono hlo)) hl5 (o:=.cells #[.int .u8 kd,.string (aM tx),.int .i64 nn,.slice Ak nk ck,.int .i64 at_] 50)).grown HGR.out (by simp;omega) (fun q hq=>by have:=(HOWN.out.lt q hq).1;omega)) htg)
   have Lj:=hid (show aA (ext ++ [(⟨kd,tx,nn,ks,at_⟩,.slice Ak nk ck)])=(aA xs).take (k+1) by
    rw [nY,Li.out,List.take_add_one,Rh.out];rfl)
   exact⟨⟨k+1,_,ext ++ [(⟨kd,tx,nn,ks,at_⟩,.slice Ak nk ck)],by omega,by go_num,by rw [aaO,TD.out];rfl,Lj,YE,YH,HBX,HZX,Nt⟩,by simp [intOf];omega⟩
  ·have i3:decide (k < n)=false:=aaV hkn;have HXE:=hid (show aA ext=aA xs by rw [Li.out,aaN (by rw [aD,← pF.out];omega)]);have u0:=rE.out.cell 0;have u1:=rE.out.cell 1;obtain⟨An,cn,rfl⟩:=dh HRW.out.own;rw [hel] at u0 HRW
   have v0:=HZ.out.cell 0;have v1:=HZ.out.cell 1;have g0:=HZ.out.frozen 0;have g1:=HZ.out.frozen 1;have TD:=hid hel;clear hel;go_wp2_with fail;have Ez:=(HZ.out.d_ 0 (.slice An k cn)).d_ 1 (.slice Av m cv);have r0:=Ez.cell 0;have r1:=Ez.cell 1;refine bodyPost_ret (v:=.agg #[.slice An k cn,.slice Av m cv]) (by simp [results,Tryz.f29,go_sem,r0,r1]) rfl ?_;exact⟨dx (dx HL.out (by omega)) (by omega),_,_,ext,rfl,(HRW.out.tY HZ.out).tY (HZ.out.d_ 0 _),HXE.out⟩
end Go.Proofs.YthepmkjggfijoaaGreatDoor
namespace Mist
def ab' (ns:List Nd):Nat→Int→Prop
 | 0,_=>False
 | b+1,i=>0≤i∧∃ x,ns[i.toNat]? = some x∧∀ k ∈ x.kids,ab' ns b k
theorem ab'.app {ns:List Nd}(t:List Nd):∀ {b:Nat} {i:Int},ab' ns b i→ab' (ns ++ t) b i
 | 0,_,h=>h
 | b+1,i,⟨h0,x,hx,hk⟩=>⟨h0,x,by rw [List.getElem?_append_left (aaE.1 hx).1];exact hx,fun k hm=>ab'.app t (hk k hm)⟩
theorem ab'.more {ns:List Nd}:∀ {b c:Nat} {i:Int},ab' ns b i→b≤c→ab' ns c i
 | 0,_,_,h,_=>h.elim
 | b+1,0,_,_,hc=>absurd hc (by omega)
 | b+1,c+1,i,⟨h0,x,hx,hk⟩,hc=>⟨h0,x,hx,fun k hm=>ab'.more (hk k hm) (by omega)⟩
def szL (x:Nd):Bool :=
 if x.kind=40 then false
 else if x.kind=41 then decide (x.kids.length≤6)
 else if x.kind=42 then decide ((x.kids.length:Int) - 2≤4) && decide (x.n≤8)
 else if x.kind=33 then within x.n 1 6
 else if x.kind=26 then decide (x.kids.length≤6)
 else if x.kind=46 then !(x.n == 8) || decide (x.kids.length≤4)
 else true
def ab9 (s s':abd)(c:Nat):Prop:=∃ new,s'.ns=s.ns ++ new∧new.length≤c∧∀ x ∈ new,szL x=true
section
variable {s s1 s2:abd} {c c1 c2:Nat}
theorem ab9.same (h:s1.ns=s.ns):ab9 s s1 0:=⟨[],by rw [h,List.append_nil],aaJ _,fun x hx=>by cases hx⟩
theorem ab9.trans (h:ab9 s s1 c1)(k:ab9 s1 s2 c2):ab9 s s2 (c1+c2):=by
 obtain⟨n1,e1,l1,p1⟩:=h;obtain⟨n2,e2,l2,p2⟩:=k;exact⟨n1 ++ n2,by rw [e2,e1,List.append_assoc],by rw [aaO];omega,fun x hx=>(List.mem_append.1 hx).elim (p1 x) (p2 x)⟩
theorem ab9.on (h:ab9 s s1 c)(e:s2.ns=s1.ns):ab9 s s2 c:=by obtain⟨n,e1,l,p⟩:=h;exact⟨n,by rw [e,e1],l,p⟩
theorem ab9.of (h:ab9 s1 s2 c)(e:s1.ns=s.ns):ab9 s s2 c:=by obtain⟨n,e1,l,p⟩:=h;exact⟨n,by rw [e1,e],l,p⟩
theorem ab9.le (h:ab9 s s1 c)(hc:c≤c1):ab9 s s1 c1:=by obtain⟨n,e1,l,p⟩:=h;exact⟨n,e1,by omega,p⟩
theorem ab9.put (h:ab9 s s1 c){n:Nd}(hn:szL n=true):ab9 s (s1.put n) (c+1):=by
 obtain⟨new,e,l,p⟩:=h
 exact⟨new ++ [n],by show s1.ns ++ [n]=_;rw [e,List.append_assoc],by rw [aaO];exact Nat.add_le_add_right l 1,fun x hx=>by
  rcases List.mem_append.1 hx with hx | hx
  ·exact p x hx
  ·rw [List.mem_singleton.1 hx];exact hn⟩
theorem ab'.ad {b:Nat}{i:Int}(h:ab' s.ns b i)(k:ab9 s s1 c):ab' s1.ns b i:=by
 obtain⟨new,e,_,_⟩:=k;rw [e];exact h.app new
theorem ab'.put {n:Nd}{b:Nat}(h:∀ k ∈ n.kids,ab' s.ns b k):ab' (s.put n).ns (b+1) s.id:=by
 refine⟨by unfold abd.id;omega,n,?_,fun k hk=>(h k hk).app [n]⟩
 show (s.ns ++ [n])[((s.ns.length:Int)).toNat]? = some n
 rw [aaQ,List.getElem?_append_right (aaJ _),Nat.sub_self];rfl
end
structure ab_ (s:abd) (r:abb) (b:Nat):Prop where
 ad:ab9 s r.st r.pc.length
 ht:ab' r.st.ns b r.ix
theorem ab_.more {s:abd}{r:abb}{b c:Nat}(h:ab_ s r b)(hc:b≤c):ab_ s r c:=⟨h.ad,h.ht.more hc⟩
theorem ab_.end_ {s s1:abd}{I:Pcs}{n:Nd}{b c:Nat}(h:ab9 s s1 c)(hc:c+1≤I.length)(hk:∀ k ∈ n.kids,ab' s1.ns b k)(hn:szL n=true):ab_ s (acP I s1 n) (b+1):=⟨(h.put hn).le hc,ab'.put hk⟩
theorem listG_ix (wild:Bool)(E:abd→abb):∀ (m:Nat) (r:aa'),(acS wild E m r).ix.length=r.ix.length+m
 | 0,r=>rfl
 | m+1,r=>by
  rw [acS];simp only
  split
  ·rw [listG_ix wild E m,aaO];simp only [aaT];omega
  ·rw [listG_ix wild E m,aaO];simp only [aaT];omega
theorem some_len (wild:Bool)(I:Pcs)(s:abd):I.length+2≤(someP wild I s).length:=by
 unfold someP;split <;> simp [aaO]
theorem leaf_hg (b:Nat)(s:abd):ab_ s (leafG b s) 1:=by
 have tL:0+1≤(numPc ((b * 7:Nat):Int)).length:=by unfold numPc;split <;> simp
 unfold leafG;split
 ·exact ab_.end_ (b:=0) (.same rfl) tL (fun k hk=>by cases hk) rfl
 split
 ·exact ab_.end_ (b:=0) (.same rfl) (by simp) (fun k hk=>by cases hk) rfl
 ·exact ab_.end_ (b:=0) (.same rfl) (by simp) (fun k hk=>by cases hk) rfl
section
variable (wild:Bool) {E:abd→abb} {B:Nat} (h:∀ s,ab_ s (E s) B)
include h
theorem list_hg (s:abd):∀ (m:Nat) (r:aa'),ab9 s r.st r.pc.length→(∀ k ∈ r.ix,ab' r.st.ns B k)→ab9 s (acS wild E m r).st (acS wild E m r).pc.length∧(∀ k ∈ (acS wild E m r).ix,ab' (acS wild E m r).st.ns B k)
 | 0,r,ha,hk=>⟨ha,hk⟩
 | m+1,r,ha,hk=>by
  rw [acS];simp only
  split
  ·have h1:=h r.st;refine list_hg s m _ ?_ ?_
   ·show ab9 s (E r.st).st (r.pc ++ (E r.st).pc).length
    rw [aaO];exact ha.trans h1.ad
   ·intro k hm;rcases List.mem_append.1 hm with hm | hm
    ·exact (hk k hm).ad h1.ad
    ·rw [List.mem_singleton.1 hm];exact h1.ht
  ·have h1:=h (acC wild r.st);have h2:=h1.ad.of (acD wild r.st);refine list_hg s m _ ?_ ?_
   ·show ab9 s (E (acC wild r.st)).st (r.pc ++ (sgn [44] :: Pcs.on _ (E (acC wild r.st)).pc)).length
    rw [aaO,List.length_cons,on_length];exact (ha.trans h2).le (by omega)
   ·intro k hm;rcases List.mem_append.1 hm with hm | hm
    ·exact (hk k hm).ad h2
    ·rw [List.mem_singleton.1 hm];exact h1.ht
theorem puts_hg (s:abd):∀ (m:Nat) (r:aa'),ab9 s r.st r.pc.length→(∀ k ∈ r.ix,ab' r.st.ns (B+1) k)→ab9 s (putsG wild E m r).st (putsG wild E m r).pc.length∧(∀ k ∈ (putsG wild E m r).ix,ab' (putsG wild E m r).st.ns (B+1) k)
 | 0,r,ha,hk=>⟨ha,hk⟩
 | m+1,r,ha,hk=>by
  rw [putsG];obtain⟨s0,hs0⟩:∃ s0,s0=if r.ix=[] then r.st else acC wild r.st:=⟨_,rfl⟩
  have hn0:s0.ns=r.st.ns:=by rw [hs0];split;rfl;exact acD wild r.st
  simp only [← hs0];have h1:=h s0.tl;have h2:ab9 r.st (E s0.tl).st (E s0.tl).pc.length:=h1.ad.of hn0;have h3:=h2.put (n:=⟨25,acH s0.nx,0,[(E s0.tl).ix],0⟩) rfl;refine puts_hg s m _ ?_ ?_
  ·show ab9 s ((E s0.tl).st.put _) (r.pc ++ _).length
   refine (ha.trans h3).le ?_;rw [aaO];split
   ·simp only [List.length_cons];omega
   ·simp only [List.length_cons];omega
  ·intro k hm;rcases List.mem_append.1 hm with hm | hm
   ·exact (hk k hm).ad h3
   ·rw [List.mem_singleton.1 hm];exact ab'.put fun k hk=>by rw [List.mem_singleton.1 hk];exact h1.ht
theorem op_hg (b:Nat)(s:abd):ab_ s (opG wild E b s) (B+1):=by
 unfold opG;have h1:=h s;have h2:=h (E s).st;split
 ·unfold notG;simp only
  refine ab_.end_ (c:=(E s).pc.length) (h1.ad.on (by rw [acR,acD])) ?_ (fun k hk=>?_) ?_
  ·refine Nat.le_trans ?_ (some_len wild _ _);rw [List.length_cons,on_length];omega
  ·rw [List.mem_singleton.1 hk,acR,acD];exact h1.ht
  ·split <;> rfl
 ·unfold binG;simp only
  have e:(someS wild (acC wild (acC wild (E (E s).st).st))).ns=(E (E s).st).st.ns:=by rw [acR,acD,acD]
  refine ab_.end_ (c:=(E s).pc.length+(E (E s).st).pc.length) ((h1.ad.trans h2.ad).on e) ?_ (fun k hk=>?_) ?_
  ·refine Nat.le_trans ?_ (some_len wild _ _);rw [aaO,List.length_cons,on_length];omega
  ·rw [e];rcases List.mem_cons.1 hk with rfl | hk
   ·exact h1.ht.ad h2.ad
   ·rw [List.mem_singleton.1 hk];exact h2.ht
  ·have hr:b % 13 < 13:=Nat.mod_lt _ (by decide)
   generalize b % 13=r at hr ⊢
   unfold szL;rw [if_neg (by show ¬ 6+r=40;omega),if_neg (by show ¬ 6+r=41;omega),if_neg (by show ¬ 6+r=42;omega),if_neg (by show ¬ 6+r=33;omega),if_neg (by show ¬ 6+r=26;omega),if_neg (by show ¬ 6+r=46;omega)]
theorem comp_hg (b:Nat)(s:abd):ab_ s (compG wild E b s) (B+2):=by
 unfold compG;simp only
 generalize hs:s.tl=s'
 have hss:s'.ns=s.ns:=by rw [← hs];rfl
 generalize acH s.nx=x
 refine (fun (q:ab_ s' _ (B+2))=>(⟨q.ad.of hss,q.ht⟩:ab_ s _ (B+2))) ?_;have h1:=h s';have h2:=h (E s').st;have h3:=h (E (E s').st).st;have empty:∀ (z:abd),z.ns=s'.ns→ab9 s' (aa'.st ⟨[],[],z⟩) (aa'.pc ⟨[],[],z⟩).length∧∀ k ∈ (aa'.ix ⟨[],[],z⟩),ab' (aa'.st ⟨[],[],z⟩).ns B k:=fun z hz=>⟨.same hz,fun k hk=>by cases hk⟩
 split
 ·unfold ifG;simp only
  have e:(someS wild (acC wild (acC wild (acC wild (acC wild (acC wild (E (E (E s').st).st).st)))))).ns=(E (E (E s').st).st).st.ns:=by simp only [acR,acD]
  refine ab_.more (ab_.end_ (b:=B) ((h1.ad.trans (h2.ad.trans h3.ad)).on e) ?_ (fun k hk=>?_) rfl) (by omega)
  ·refine Nat.le_trans ?_ (some_len wild _ _);simp only [aaO,List.length_cons,on_length];omega
  ·rw [e];rcases List.mem_cons.1 hk with rfl | hk
   ·exact h1.ht.ad (h2.ad.trans h3.ad)
   rcases List.mem_cons.1 hk with rfl | hk
   ·exact h2.ht.ad h3.ad
   ·rw [List.mem_singleton.1 hk];exact h3.ht
 split
 ·unfold letG;simp only
  have e:(someS wild (acC wild (acC wild (acC wild (acC wild (E (E s').st).st))))).ns=(E (E s').st).st.ns:=by simp only [acR,acD]
  refine ab_.more (ab_.end_ (b:=B) ((h1.ad.trans h2.ad).on e) ?_ (fun k hk=>?_) rfl) (by omega)
  ·refine Nat.le_trans ?_ (some_len wild _ _);simp only [aaO,List.length_cons,on_length];omega
  ·rw [e];rcases List.mem_cons.1 hk with rfl | hk
   ·exact h1.ht.ad h2.ad
   ·rw [List.mem_singleton.1 hk];exact h2.ht
 split
 ·unfold callG;simp only
  obtain⟨l1,l2⟩:=list_hg wild h s' (s'.nx % 4) ⟨[],[],s'.tl⟩ (empty s'.tl rfl).1 (empty s'.tl rfl).2;refine ab_.more (ab_.end_ (b:=B) (l1.on (acD wild _)) ?_ (fun k hk=>?_) rfl) (by omega)
  ·simp only [aaO,List.length_cons];omega
  ·rw [acD];exact l2 k hk
 split
 ·unfold fieldG;simp only
  refine ab_.more (ab_.end_ (b:=B) (h1.ad.on (acD wild _)) ?_ (fun k hk=>?_) rfl) (by omega)
  ·simp only [aaO,List.length_cons];omega
  ·rw [List.mem_singleton.1 hk,acD];exact h1.ht
 split
 ·unfold indexG;simp only
  refine ab_.more (ab_.end_ (b:=B) ((h1.ad.trans h2.ad).on (acD wild _)) ?_ (fun k hk=>?_) rfl) (by omega)
  ·simp only [aaO,List.length_cons];omega
  ·rw [acD];rcases List.mem_cons.1 hk with rfl | hk
   ·exact h1.ht.ad h2.ad
   ·rw [List.mem_singleton.1 hk];exact h2.ht
 split
 ·unfold arrayG;simp only
  obtain⟨l1,l2⟩:=list_hg wild h s' (1+s'.nx % 4) ⟨[],[],s'.tl⟩ (empty s'.tl rfl).1 (empty s'.tl rfl).2;have l3:=listG_ix wild E (1+s'.nx % 4) ⟨[],[],s'.tl⟩;refine ab_.more (ab_.end_ (b:=B) (l1.on (acD wild _)) ?_ (fun k hk=>?_) ?_) (by omega)
  ·simp only [aaO,List.length_cons,on_length];omega
  ·rw [acD];exact l2 k hk
  ·show decide (_≤6)=true
   rw [decide_eq_true_iff,l3]
   show 0+_≤6
   omega
 ·unfold recG;simp only
  obtain⟨l1,l2⟩:=puts_hg wild h s' (1+b % 3) ⟨[],[],s'⟩ (.same rfl) (fun k hk=>by cases hk);refine ab_.end_ (b:=B+1) (l1.on (acD wild _)) ?_ (fun k hk=>?_) rfl
  ·simp only [aaO,List.length_cons];omega
  ·rw [acD];exact l2 k hk
end
theorem expr_hg (wild:Bool):∀ (d:Nat) (s:abd),ab_ s (acG wild d s) (2 * d+1)
 | 0,s=>by
  have h:=leaf_hg (s.nx % 60) s.tl;exact⟨h.ad.of rfl,h.ht⟩
 | d+1,s=>by
  have h:=expr_hg wild d;rw [acG];split
  ·have h:=leaf_hg s.nx s.tl;exact⟨h.ad.of rfl,h.ht.more (by omega)⟩
  split
  ·have h:=op_hg wild h s.nx s.tl;exact⟨h.ad.of rfl,h.ht.more (by omega)⟩
  ·have h:=comp_hg wild h s.nx s.tl;exact⟨h.ad.of rfl,h.ht.more (by omega)⟩
theorem kind_hg (wild:Bool):∀ (d:Nat) (s:abd),ab_ s (acI wild d s) (d+1):=by
 have leaf:∀ (s:abd) (p:Bs × Nat × Bs) (n:Nd),n.kids=[]→szL n=true→ab_ s (acP [p] s.tl n) 1:=fun s p n h1 h2 =>
  ab_.end_ (b:=0) (.same rfl) (by simp) (fun k hk=>by rw [h1] at hk;cases hk) h2
 intro d
 induction d with
 | zero =>
  intro s;rw [acI];split
  ·exact leaf _ _ _ rfl rfl
  split
  ·exact leaf _ _ _ rfl rfl
  ·exact leaf _ _ _ rfl rfl
 | succ d ih =>
  intro s;rw [acI];split
  ·exact (leaf _ _ _ rfl rfl).more (by omega)
  split
  ·exact (leaf _ _ _ rfl rfl).more (by omega)
  split
  ·exact (leaf _ _ _ rfl rfl).more (by omega)
  ·simp only
   have h1:=ih s.tl;refine ab_.end_ (b:=d+1) ((h1.ad.of (s:=s) rfl).on (by rw [acD];rfl)) ?_ (fun k hk=>?_) ?_
   ·simp only [aaO,List.length_cons];omega
   ·rw [List.mem_singleton.1 hk,acD];exact h1.ht
   ·have hr:(acI wild d s.tl).st.nx % 6 < 6:=Nat.mod_lt _ (by decide)
    generalize (acI wild d s.tl).st.nx % 6=r at hr ⊢
    show within ((1+r:Nat):Int) 1 6=true
    unfold within;rw [aaS,decide_eq_true_iff,decide_eq_true_iff];omega
theorem params_hg (wild:Bool)(s:abd):∀ (m:Nat) (r:aa'),ab9 s r.st r.pc.length→(∀ k ∈ r.ix,ab' r.st.ns 4 k)→ab9 s (acL wild m r).st (acL wild m r).pc.length∧(∀ k ∈ (acL wild m r).ix,ab' (acL wild m r).st.ns 4 k)
 | 0,r,ha,hk=>⟨ha,hk⟩
 | m+1,r,ha,hk=>by
  rw [acL];obtain⟨s0,hs0⟩:∃ s0,s0=if r.ix=[] then r.st else acC wild r.st:=⟨_,rfl⟩
  have hn0:s0.ns=r.st.ns:=by rw [hs0];split;rfl;exact acD wild r.st
  simp only [← hs0];have h1:=kind_hg wild 2 s0.tl;have e:(acC wild (acI wild 2 s0.tl).st).ns=(acI wild 2 s0.tl).st.ns:=acD wild _;have h2:ab9 r.st (acC wild (acI wild 2 s0.tl).st) (acI wild 2 s0.tl).pc.length:=(h1.ad.of hn0).on e;have h3:=h2.put (n:=⟨34,acH s0.nx,0,[(acI wild 2 s0.tl).ix],0⟩) rfl;refine params_hg wild s m _ ?_ ?_
  ·refine (ha.trans h3).le ?_
   show _≤(r.pc ++ _).length
   rw [aaO];split
   ·simp only [List.length_cons,on_length];omega
   ·simp only [List.length_cons,on_length];omega
  ·intro k hm;rcases List.mem_append.1 hm with hm | hm
   ·exact (hk k hm).ad h3
   ·rw [List.mem_singleton.1 hm];exact ab'.put fun k hk=>by rw [List.mem_singleton.1 hk,e];exact h1.ht
theorem params_ix (wild:Bool):∀ (m:Nat) (r:aa'),(acL wild m r).ix.length=r.ix.length+m
 | 0,r=>rfl
 | m+1,r=>by
  rw [acL,params_ix wild m]
  show (r.ix ++ [_]).length+m=_
  rw [aaO];simp only [aaT];omega
def acd (ns:List Nd)(x:Nd):Prop:=szL x=true∨(x.kind=40∧∃ (a c:Int) (p q:Nd),x.kids=[a,c]∧ns[a.toNat]? = some p∧ns[c.toNat]? = some q∧p.n≤q.n∧q.n≤p.n+11)
theorem acd.app {ns:List Nd}{x:Nd}(t:List Nd)(h:acd ns x):acd (ns ++ t) x:=by
 rcases h with h | ⟨h,a,c,p,q,e,e1,e2,e3⟩
 ·exact .inl h
 ·exact .inr ⟨h,a,c,p,q,e,by rw [List.getElem?_append_left (aaE.1 e1).1];exact e1,by rw [List.getElem?_append_left (aaE.1 e2).1];exact e2,e3⟩
structure Hi (s:abd) (r:abb):Prop where
 ad:∃ new,r.st.ns=s.ns ++ new∧new.length≤r.pc.length∧∀ x ∈ new,acd r.st.ns x
 ht:ab' r.st.ns 11 r.ix
theorem Hi.of {s:abd}{r:abb}{b:Nat}(h:ab_ s r b)(hb:b≤11):Hi s r:=by
 obtain⟨new,e,l,p⟩:=h.ad;exact⟨⟨new,e,l,fun x hx=>.inl (p x hx)⟩,h.ht.more hb⟩
theorem choose_hi (wild:Bool)(x:Bs)(s:abd):Hi s (chooseG wild x s):=by
 unfold chooseG;simp only
 obtain⟨low,hlow⟩:∃ low:Int,low=((s.nx % 30:Nat):Int) - 15:=⟨_,rfl⟩;rw [← hlow];have hz:∀ n,(acT n s.tl).st=s.tl.put ⟨1,[],n,[],0⟩:=fun n=>rfl
 obtain⟨k,hk⟩:∃ k,k=(acT low s.tl).st.nx % 12:=⟨_,rfl⟩;have hk12:k < 12:=by rw [hk];exact Nat.mod_lt _ (by decide)
 rw [← hk];obtain⟨s1,hs1⟩:∃ s1,s1=(acT (low+(k:Int)) (acT low s.tl).st.tl).st:=⟨_,rfl⟩;have hns:s1.ns=s.ns ++ [⟨1,[],low,[],0⟩] ++ [⟨1,[],low+(k:Int),[],0⟩]:=by rw [hs1];rfl
 rw [← hs1];have e:(acC wild (acC wild (acC wild s1))).ns=s1.ns:=by rw [acD,acD,acD]
 have i1:(acT low s.tl).ix=(s.ns.length:Int):=rfl
 have i2:(acT (low+(k:Int)) (acT low s.tl).st.tl).ix=((s.ns.length+1:Nat):Int):=by
  show (((s.ns ++ [_]).length:Nat):Int)=_
  rw [aaO];rfl
 have g1:s1.ns[s.ns.length]? = some ⟨1,[],low,[],0⟩:=by
  rw [hns,List.append_assoc,List.getElem?_append_right (aaJ _),Nat.sub_self];rfl
 have g2:s1.ns[s.ns.length+1]? = some ⟨1,[],low+(k:Int),[],0⟩:=by
  rw [hns,List.append_assoc,List.getElem?_append_right (by omega),show s.ns.length+1 - s.ns.length=1 by omega];rfl
 rw [i1,i2]
 refine⟨⟨[⟨1,[],low,[],0⟩,⟨1,[],low+(k:Int),[],0⟩,⟨40,x,0,[(s.ns.length:Int),((s.ns.length+1:Nat):Int)],0⟩],?_,?_,?_⟩,?_⟩
 ·show (acC wild (acC wild (acC wild s1))).ns ++ [_]=_
  rw [e,hns];simp only [List.append_assoc,List.cons_append,List.nil_append]
 ·show 3≤_
  unfold acP;simp only [List.length_cons,aaO,on_length];omega
 ·intro y hy;rcases List.mem_cons.1 hy with rfl | hy
  ·exact .inl rfl
  rcases List.mem_cons.1 hy with rfl | hy
  ·exact .inl rfl
  rw [List.mem_singleton.1 hy];exact acd.app _ (.inr ⟨rfl,(s.ns.length:Int),((s.ns.length+1:Nat):Int),⟨1,[],low,[],0⟩,⟨1,[],low+(k:Int),[],0⟩,rfl,by rw [e,aaQ];exact g1,by rw [e,aaQ];exact g2,by show low≤low+(k:Int);omega,by show low+(k:Int)≤low+11;omega⟩)
 ·refine ab'.more (ab'.put (b:=1) (s:=acC wild (acC wild (acC wild s1))) fun j hj=>?_) (by omega);rw [e];rcases List.mem_cons.1 hj with rfl | hj
  ·exact⟨by omega,_,by rw [aaQ];exact g1,fun k hk=>by cases hk⟩
  ·rw [List.mem_singleton.1 hj];exact⟨by omega,_,by rw [aaQ];exact g2,fun k hk=>by cases hk⟩
theorem item_hi (wild:Bool)(s:abd):Hi s (itemG0 wild s):=by
 unfold itemG0;simp only
 generalize hs:s.tl.tl=s'
 have hss:s'.ns=s.ns:=by rw [← hs];rfl
 generalize acH s.tl.nx=x
 refine (fun (q:Hi s' _)=>(⟨by rw [← hss];exact q.ad,q.ht⟩:Hi s _)) ?_;split
 ·exact choose_hi wild x s'
 split
 ·unfold typeG;simp only
  obtain⟨l1,l2⟩:=params_hg wild s' (1+s'.nx % 6) ⟨[],[],s'.tl⟩ (.same rfl) (fun k hk=>by cases hk);have l3:=params_ix wild (1+s'.nx % 6) ⟨[],[],s'.tl⟩;refine Hi.of (ab_.end_ (b:=4) l1 ?_ l2 ?_) (by omega)
  ·simp only [aaO,List.length_cons];omega
  ·show decide (_≤6)=true
   rw [decide_eq_true_iff,l3]
   show 0+_≤6
   omega
 split
 ·unfold funG;simp only
  obtain⟨l1,l2⟩:=params_hg wild s' (s'.nx % 5) ⟨[],[],s'.tl⟩ (.same rfl) (fun k hk=>by cases hk);have l3:=params_ix wild (s'.nx % 5) ⟨[],[],s'.tl⟩;have l3:(acL wild (s'.nx % 5) ⟨[],[],s'.tl⟩).ix.length≤4:=by rw [l3];show 0+_≤4;omega
  generalize acL wild (s'.nx % 5) ⟨[],[],s'.tl⟩=r at l1 l2 l3 ⊢
  have h1:=kind_hg wild 2 r.st
  generalize acI wild 2 r.st=t at h1 ⊢
  have hu:uptoN t.st≤8:=by unfold uptoN;split <;> omega
  generalize uptoN t.st=n at hu ⊢
  obtain⟨s1,hs1⟩:∃ s1,s1=if 0 < n then acC wild t.st.tl else t.st.tl:=⟨_,rfl⟩
  have e1:s1.ns=t.st.ns:=by rw [hs1];split;(rw [acD];rfl);rfl
  rw [← hs1];have h2:=expr_hg wild 4 s1
  generalize acG wild 4 s1=b at h2 ⊢
  have h2a:ab9 t.st b.st b.pc.length:=h2.ad.of e1;have e:(acC wild (acC wild (acC wild b.st))).ns=b.st.ns:=by simp only [acD]
  refine Hi.of (ab_.end_ (b:=9) ((l1.trans (h1.ad.trans h2a)).on e) ?_ (fun k hk=>?_) ?_) (by omega)
  ·simp only [aaO,List.length_cons];omega
  ·rw [e];rcases List.mem_append.1 hk with hk | hk
   ·exact ((l2 k hk).ad (h1.ad.trans h2a)).more (by omega)
   rcases List.mem_cons.1 hk with rfl | hk
   ·exact (h1.ht.ad h2a).more (by omega)
   ·rw [List.mem_singleton.1 hk];exact h2.ht
  ·show (decide ((((r.ix ++ [t.ix,b.ix]).length:Nat):Int) - 2≤4) && decide ((n:Int)≤8))=true
   rw [aaS,decide_eq_true_iff,decide_eq_true_iff,aaO]
   show (((r.ix.length+2:Nat):Int) - 2≤4)∧_
   omega
 split
 ·unfold letItemG;simp only
  have h1:=expr_hg wild 4 s';refine Hi.of (ab_.end_ (b:=9) (h1.ad.on (acD wild _)) ?_ (fun k hk=>?_) rfl) (by omega)
  ·simp only [List.length_cons,on_length];omega
  ·rw [List.mem_singleton.1 hk,acD];exact h1.ht
 split
 ·unfold observeG;simp only
  have h1:=expr_hg wild 4 s';refine Hi.of (ab_.end_ (b:=9) (h1.ad.on (acD wild _)) ?_ (fun k hk=>?_) rfl) (by omega)
  ·simp only [List.length_cons];omega
  ·rw [List.mem_singleton.1 hk,acD];exact h1.ht
 split
 ·unfold retractG;exact Hi.of (ab_.end_ (b:=0) (ab9.same (acD wild s')) (by simp) (fun k hk=>by cases hk) rfl) (by omega)
 ·unfold askG;simp only
  have hq:1+s'.nx % 8≤8:=by omega
  generalize 1+s'.nx % 8=q at hq ⊢
  obtain⟨m,hm⟩:∃ m,m=if q=7 then 0 else if q=8 then 1+s'.tl.nx % 4 else 1:=⟨_,rfl⟩
  have hm4:m≤4:=by rw [hm];split;omega;split <;> omega
  obtain⟨s1,hs1⟩:∃ s1,s1=if q=8 then s'.tl.tl else s'.tl:=⟨_,rfl⟩
  have e1:s1.ns=s'.ns:=by rw [hs1];split <;> rfl
  rw [← hm,← hs1];obtain⟨l1,l2⟩:=list_hg wild (expr_hg wild 3) s' m ⟨[],[],s1⟩ (.same e1) (fun k hk=>by cases hk);have l3:=listG_ix wild (acG wild 3) m ⟨[],[],s1⟩;refine Hi.of (ab_.end_ (b:=7) (l1.on (acD wild _)) ?_ (fun k hk=>?_) ?_) (by omega)
  ·simp only [List.length_cons,on_length];omega
  ·rw [acD];exact l2 k hk
  ·show (!(((q:Nat):Int) == 8) || decide (_≤4))=true
   rw [Bool.or_eq_true,decide_eq_true_iff,l3];right
   show 0+m≤4
   omega
theorem grow_hi (wild:Bool):∀ (m:Nat) (r:aa'),(r.st.ns.length≤r.pc.length∧(∀ x ∈ r.st.ns,acd r.st.ns x)∧∀ k ∈ r.ix,ab' r.st.ns 11 k) →
  (growG wild m r).st.ns.length≤(growG wild m r).pc.length∧(∀ x ∈ (growG wild m r).st.ns,acd (growG wild m r).st.ns x)∧∀ k ∈ (growG wild m r).ix,ab' (growG wild m r).st.ns 11 k
 | 0,r,h=>h
 | m+1,r,⟨h1,h2,h3⟩=>by
  rw [growG];split
  ·exact⟨h1,h2,h3⟩
  simp only
  obtain⟨⟨new,e,l,p⟩,ht⟩:=item_hi wild r.st;have e2:(itemG wild r.st).st.ns=(itemG0 wild r.st).st.ns:=acD wild _;have e3:(itemG wild r.st).pc.length=(itemG0 wild r.st).pc.length+1:=aaO;refine grow_hi wild m _ ⟨?_,?_,?_⟩
  ·show (itemG wild r.st).st.ns.length≤(r.pc ++ _).length
   rw [e2,e,aaO,aaO];split
   ·omega
   ·rw [on_length];omega
  ·show ∀ x ∈ (itemG wild r.st).st.ns,acd (itemG wild r.st).st.ns x
   rw [e2];intro x hx;rw [e] at hx
   rcases List.mem_append.1 hx with hx | hx
   ·rw [e];exact (h2 x hx).app new
   ·exact p x hx
  ·show ∀ k ∈ r.ix ++ [(itemG wild r.st).ix],ab' (itemG wild r.st).st.ns 11 k
   rw [e2];intro k hk;rcases List.mem_append.1 hk with hk | hk
   ·rw [e];exact (h3 k hk).app new
   ·rw [List.mem_singleton.1 hk];exact ht
structure GOk (wild:Bool) (b:Bs):Prop where
 few:(grownTree wild b).nodes.length≤(grown wild b).pc.length
 sz:∀ x ∈ (grownTree wild b).nodes,acd (grownTree wild b).nodes x
 ht:∀ k ∈ (grownTree wild b).items,ab' (grownTree wild b).nodes 11 k
theorem grown_small (wild:Bool)(b:Bs):GOk wild b:=by
 obtain⟨h1,h2,h3⟩:=grow_hi wild 12 ⟨[],[],⟨b,[]⟩⟩ ⟨aaJ _,fun x hx=>(nomatch hx),fun k hk=>(nomatch hk)⟩;exact⟨h1,h2,h3⟩
theorem acd.sized {T:Tr}{x:Nd}(h:acd T.nodes x):Mist.sized T x=true:=by
 rcases h with h | ⟨h,a,c,p,q,e,e1,e2,e3,e4⟩
 ·unfold szL at h
  unfold Mist.sized;split at h
  ·cases h
  rename_i rT
  rw [if_neg rT];exact h
 ·unfold Mist.sized;rw [if_pos h,e];have n1:(nd T a.toNat)=p:=by unfold nd;rw [aaH,e1];rfl
  have n2:(nd T c.toNat)=q:=by unfold nd;rw [aaH,e2];rfl
  show within ((nd T c.toNat).n - (nd T a.toNat).n+1) 1 12=true
  rw [n1,n2];unfold within;rw [aaS,decide_eq_true_iff,decide_eq_true_iff];omega
theorem acd.strip {ns:List Nd}{x:Nd}(h:acd (ns.map strip) (strip x)):acd ns x:=by
 rcases h with h | ⟨h,a,c,p,q,e,e1,e2,e3⟩
 ·exact .inl h
 ·rw [List.getElem?_map] at e1 e2
  obtain⟨p',f1,rfl⟩:=Option.map_eq_some_iff.1 e1;obtain⟨q',f2,rfl⟩:=Option.map_eq_some_iff.1 e2;exact .inr ⟨h,a,c,p',q',e,f1,f2,e3⟩
theorem ab'.strip {ns:List Nd}:∀ {b:Nat} {i:Int},ab' (ns.map strip) b i→ab' ns b i
 | 0,_,h=>h
 | b+1,i,⟨h0,x,hx,hk⟩=>by
  rw [List.getElem?_map] at hx
  obtain⟨y,f,rfl⟩:=Option.map_eq_some_iff.1 hx;exact⟨h0,y,f,fun k hm=>ab'.strip (hk k hm)⟩
end Mist
