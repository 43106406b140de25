/-
  A part of the proof.
-/
import Derived.Test.YtajfdjikimiapaaGreatDoorS32
set_option linter.all false
set_option maxRecDepth 100000
set_option maxHeartbeats 4000000
namespace Go.Proofs.YtajfdjikimiapaaGreatDoor
section
open Go.RowKit Mist
attribute [local go_sem] au aN aV aM aG
structure RowsIn (g:Nat) (w:World) (nv iv:Value) (xs:List NV) (its:List Int):Prop where
 own:w.ownsRow g 39 5 nv xs.length (jH xs)
 kids:∀ x ∈ xs,w.ownsRow g 3 1 x.2 x.1.kids.length (intCells x.1.kids)
 row:w.ownsRow g 3 1 iv its.length (intCells its)
 far:∀ x ∈ xs,x.2.ownBlock=none∨x.2.ownBlock ≠ iv.ownBlock
theorem RowsIn.below {g:Nat}{w c:World}{nv iv:Value}{xs:List NV}{a:List Int}(h:RowsIn g w nv iv xs a)(b:Below w.heap.size w c):RowsIn g c nv iv xs a :=
 ⟨own_below h.own b,fun x d=>own_below (h.kids x d) b,own_below h.row b,h.far⟩
theorem RowsIn.add {g:Nat}{w w1:World}{tb:Nat}{nv l7 iv:Value}{xs:List NV}{c:List Int}{x:NV}(h:RowsIn g w nv iv xs c)(i:aZ w tb 25 #[nv,iv])(f:w.grownBy w1 nv.ownBlock)(a:w1.ownsRow g 39 5 l7 (xs.length+1) (jH xs ++ gu x))(b:w.ownsRow g 3 1 x.2 x.1.kids.length (intCells x.1.kids))(j:x.2.ownBlock=none∨x.2.ownBlock ≠ iv.ownBlock) :
  RowsIn g (w1.setCell ⟨tb,0,none⟩ l7) l7 iv (xs ++ [x]) c∧aZ (w1.setCell ⟨tb,0,none⟩ l7) tb 25 #[l7,iv]:=by
 have d:=i.grown f (fun e=>bJ h.own i (by decide) e.symm)
 have keep:∀ {v:Value} {n:Nat} {cs:List Value},w.ownsRow g 3 1 v n cs→(w1.setCell ⟨tb,0,none⟩ l7).ownsRow g 3 1 v n cs:=fun b =>
  ownsRow_setCell_other (b.kept f (eT b h.own (by decide))) (bJ (b.kept f (eT b h.own (by decide))) d (by decide)) _
 refine⟨⟨?_,fun y hy=>?_,keep h.row,fun y hy=>?_⟩,?_⟩
 ·rw [aiA,rH];have e:jH [x]=gu x:=by simp [jH]
  rw [e];exact ownsRow_setCell_other a (bJ a d (by decide)) _
 ·rcases List.mem_append.1 hy with hy | hy
  ·exact keep (h.kids y hy)
  ·rw [List.mem_singleton.1 hy];exact keep b
 ·rcases List.mem_append.1 hy with hy | hy
  ·exact h.far y hy
  ·rw [List.mem_singleton.1 hy];exact j
 ·have:=d.jD 0 l7;simpa using this
theorem RowsIn.Qc {g:Nat}{w:World}{nv iv:Value}{xs:List NV}{a:List Int}{d i:Nat}{cs:Array Value}{u:Value}(h:RowsIn g w nv iv xs a)(b:aZ w d 25 cs):RowsIn g (w.setCell ⟨d,i,none⟩ u) nv iv xs a :=
 ⟨ownsRow_setCell_other h.own (bJ h.own b (by decide)) u,fun x c=>ownsRow_setCell_other (h.kids x c) (bJ (h.kids x c) b (by decide)) u,ownsRow_setCell_other h.row (bJ h.row b (by decide)) u,h.far⟩
theorem aap {w i:World}{v iv:Value}{b a e c s g n f:Nat}{xs j:List Value}(h:i.ownsRow b e s v n xs)(k:w.heap.size≤b)(hi:w.ownsRow a c g iv f j):v.ownBlock=none∨v.ownBlock ≠ iv.ownBlock:=by
 rcases h9:v.ownBlock with _ | q
 ·exact .inl rfl
 ·right
  intro d;have h1:=(h.lt q h9).1;have h2:=(hi.lt q d.symm).2;omega
theorem ad7 (A B:Option Addr)(c d:Nat)(xs:List NV)(f:List Int)(w:World)(hT:lJ w A B xs f)(hn:xs.length≤10000)(hm:f.length≤10000)(hr:∀ x ∈ xs,∀ k ∈ x.1.kids,j6≤k∧k≤gL) :
  Calls Tryz.prog 7 #[.agg #[.slice A xs.length c,.slice B f.length d]] w fun e w'=>Below w.heap.size w w'∧∃ nv iv ext,e=.returned (.agg #[nv,iv])∧RowsIn w.heap.size w' nv iv ext f∧aj ext=aj xs:=by
 obtain⟨n,hnn⟩:∃ n,n=xs.length:=⟨_,rfl⟩;obtain⟨m,Q⟩:∃ m,m=f.length:=⟨_,rfl⟩;rw [← hnn] at hn ⊢
 rw [← Q] at hm ⊢
 have U:=O (NQ hT.items);rw [← Q] at U
 have pU:=O hnn;clear hnn;have Ep:=O Q;clear Q;have HT:=O hT;clear hT;have HR:=O hr;clear hr;obtain⟨i0,hi0,hz0,hz1,hz2⟩:=info_parts FU;obtain⟨j0,hj0,hy0,hy1,hy2⟩:=info_parts mE;go_in
 have h0:=O (((Below.refl w.heap.size w).alloc (aiv _) (.cells #[.slice A n c,.slice B m d] 25)).alloc (by simp) (.cells #[.slice none 0 0,.slice none 0 0] 25));have h1:=O (h0.o.alloc (by simp;omega) (.cells #[] 3));have Fa:=O (World.ownsRow_made (base:=w.heap.size) (e:=3) (size:=1) ((w.alloc (.cells #[.slice A n c,.slice B m d] 25)).alloc (.cells #[.slice none 0 0,.slice none 0 0] 25)) #[] 0 (by simp;omega) (by simp [maxLen]) rfl);have hmb:m * 8≤140737488355328:=by omega
 have adQ:=O (U.o.below h1.o);go_wp2_with (at_builtin;go_loud (refine kH _ rfl (.tmp 5) (.tmp 7) 23 rfl w.heap.size 3 j0 _ 1 8 Tryz.underlying23 hj0 hy0 hy1 hy2 rfl (by decide) (.slice (some ⟨w.heap.size+1+1,0,none⟩) 0 0) 0 [] rfl (by simpa using Fa.o) w.heap.size B m d (intCells f) rfl adQ.o (by intro u hu;obtain⟨z,_,rfl⟩:=List.mem_map.1 hu;rfl) (by simp only [maxLen];omega) (by omega) (by simp;omega) ?_);intro v2 w2 a G _;rw [Nat.zero_add] at a;obtain⟨y,D,rfl⟩:=dh a)
 have HG2:=O G;have HOW:=O (show w2.ownsRow w.heap.size 3 1 (.slice y m D) m (intCells f) from by simpa using a);have S:=O (show Below w.heap.size w w2 from h1.o.grown G (by simp;omega) (fun k hk=>by have:=(Fa.o.lt k (by simpa using hk)).1;omega));have hBt:=(aZ.new w 25 #[.slice A n c,.slice B m d]).alloc (.cells #[.slice none 0 0,.slice none 0 0] 25);have HB2:=O ((hBt.alloc (.cells #[] 3)).grown G (fun e=>by first|(simp [Value.ownBlock] at e;done)|(simp [Value.ownBlock] at e;omega)));have hBz:=nI (W:=w.alloc (.cells #[.slice A n c,.slice B m d] 25)) (T:=25) (cs:=#[.slice none 0 0,.slice none 0 0]) (k:=w.heap.size+1) (by simp);have X:=O ((hBz.alloc (.cells #[] 3)).grown G (fun e=>by first|(simp [Value.ownBlock] at e;done)|(simp [Value.ownBlock] at e;omega)));have J:=S.o.size;have agj:w.heap.size+1 < w2.heap.size:=X.o.lt;clear a G HG2 hBt hBz Fa h0 h1 U adQ hmb
 have pF:=O (show RowsIn w.heap.size (w2.alloc (.cells #[.slice none 0 0,.slice y m D] 25)) (.slice none 0 0) (.slice y m D) [] f from
  ⟨World.ownsRow_nil _ _ _ _,(fun x t=>by cases t),by rw [← Ep.o];exact HOW.o.alloc _,(fun x t=>by cases t)⟩)
 have M:=O (aZ.new w2 25 #[.slice none 0 0,.slice y m D]);have R:=O (HB2.o.alloc (.cells #[.slice none 0 0,.slice y m D] 25));have V:=O (X.o.alloc (.cells #[.slice none 0 0,.slice y m D] 25));have gN:=O (aF S.o J (o:=.cells #[.slice none 0 0,.slice y m D] 25));clear HB2 X S HOW
 generalize w2.alloc (.cells #[.slice none 0 0,.slice y m D] 25)=w4 at pF M R V gN ⊢
 generalize w2.heap.size=tb at M J agj ⊢
 go_loopw [4] (fun i wr=>∃ (k:Nat) (nv:Value) (ext:List NV),k≤n∧i=.int .i64 k∧ext.length=k∧Hid (aj ext=(aj xs).take k)∧Hid (RowsIn w.heap.size wr nv (.slice y m D) ext f)∧Hid (aZ wr tb 25 #[nv,.slice y m D])∧Hid (aZ wr w.heap.size 25 #[.slice A n c,.slice B m d])∧Hid (aZ wr (w.heap.size+1) 25 #[.slice none 0 0,.slice none 0 0])∧Hid (Below w.heap.size w wr)) (fun i _=>n - (intOf i).toNat)
 case atStart=>exact⟨0,_,[],aix _,rfl,rfl,O rfl,pF,M,R,V,gN⟩
 case round =>
  clear pF M R V gN;obtain⟨wo,rfl⟩:∃ wo:World,wo=wr:=⟨_,rfl⟩;obtain⟨k,nv,ext,hk,rfl,r,mg,l,P,HB,N,L⟩:=hrel;have t0:=HB.o.cell 0;have t1:=HB.o.cell 1;by_cases hkn:k < n
  ·have i3:decide (k < n)=true:=aiG hkn;obtain⟨An,cn,rfl⟩:=dh l.o.own;rw [r] at P
   have j:=O r;have u0:=P.o.cell 0;have u1:=P.o.cell 1;have uf:=P.o.frozen 0;obtain⟨b,o,rfl,C⟩:=HT.o.nodes (by rw [← pU.o];omega);obtain⟨x,t⟩:∃ x,xs[k]? = some x:=iG (by rw [← pU.o];exact hkn);have c0:=(L.o.cell (p:=⟨b,o+k * 5,none⟩) C.lt).trans (C.c0 k x t);have c1:=(L.o.cell (p:=⟨b,o+k * 5+1,none⟩) C.lt).trans (C.c1 k x t);have c2:=(L.o.cell (p:=⟨b,o+k * 5+2,none⟩) C.lt).trans (C.c2 k x t);have c3:=(L.o.cell (p:=⟨b,o+k * 5+3,none⟩) C.lt).trans (C.c3 k x t);have c4:=(L.o.cell (p:=⟨b,o+k * 5+4,none⟩) C.lt).trans (C.c4 k x t);obtain⟨Ka,ca,hxe,hxl,hxk⟩:=C.kid t;rw [hxe] at c3
   have BG:=O (hxk.below L.o);have HXR:=O (HR.o x (aiy t));have HXG:=O (jd t);clear C t hxe hxk r;obtain⟨⟨kd,tx,K,ks,at_⟩,xv⟩:=x;simp only at c0 c1 c2 c3 c4 hxl BG HXR HXG
   obtain⟨h,hnk⟩:∃ h,h=ks.length:=⟨_,rfl⟩;rw [← hnk] at c3 hxl
   have gW:=O hnk;clear hnk;have z0:(0:Int)≤(k:Int):=by omega
   have z1:(k:Int) < (n:Int):=by omega
   have HXD:=O (show IntsIn wo.drew Ka ks from BG.o.below (Below.drew (Below.refl _ _)));have hlo:=L.o.size;have htl:=P.o.lt;have htg:w.heap.size≤tb:=J;go_wp2_with fail
   go_region_law ((first
    | (guard_target =~ ((if Region.wanted _ _=true then _ else _:Prop));refine step_append_lies _ (by rfl) _ _ _ (by rfl) w.heap.size 39 i0 _ 5 64 Tryz.underlying22 hi0 hz0 hz1 hz2 rfl (by omega) _ k (jH ext) (by rfl) (g.o.alloc _) ⟨w5.heap.size,0,none⟩ 1 1 (gu (⟨kd,tx,K,ks,at_⟩,.slice E h F)) (by rfl) (by rfl) (h_ _ _ _) (by intro u hu;simp [gu] at hu;rcases hu with rfl | rfl | rfl | rfl | rfl <;> rfl) (by omega) (by simp only [maxLen];omega) (by omega) (by simp;omega) (w5.heap.size+1) (by simp) ?_;intro gg cap w6 I U1 aay aek;have kk:=(UZ.o.alloc (.cells #[.int .u8 kd,.string (aU tx),.int .i64 K,.slice E h F,.int .i64 at_] 39)).grown U1 (fun e=>bJ g.o UZ.o (by decide) e.symm);have c3':=kk.cell 0;have f3':=kk.frozen 0;clear kk)
    | (go_simp;go_at_call 21;go_loud (refine (SY kd tx K at_ 0 Ka ca h ks _ gW.o HXD.o hxl (fun q hq=>by have h9:=HXR.o q hq;unfold j6 gL at h9;omega)).mono ?_;rintro e w5⟨hb5,kv,rfl,H⟩;rw [show ks.map (·+(0:Int))=ks by simp] at H;obtain⟨E,F,rfl⟩:=dh H;have Z:=O ((Below.drew (Below.refl wo.heap.size wo)).trans (hb5.mono (aiv _)));have uM:=O (l.o.below Z.o);have UZ:=O (P.o.below Z.o P.o.lt);have HK5:=O (vL H (show w.heap.size≤_ by first|(simp;done)|(simp;omega)));have HFA:=O (aap H (show wo.heap.size≤_ by first|(simp;done)|(simp;omega)) l.o.row);have g:=O (show w5.ownsRow w.heap.size 39 5 (.slice An k cn) k (jH ext) from by have h9:=uM.o.own;rw [j.o] at h9;exact h9);have u5:=UZ.o.cell 0;have tl5:=UZ.o.lt;have f5:=UZ.o.frozen 0;have hs5:=Z.o.size;clear hb5 H))))
   all_goals
    have Ez:=uM.o.below (aF (Below.refl w5.heap.size w5) (aiv _) (o:=.cells #[.int .u8 kd,.string (aU tx),.int .i64 K,.slice E h F,.int .i64 at_] 39));have HTA:=UZ.o.alloc (.cells #[.int .u8 kd,.string (aU tx),.int .i64 K,.slice E h F,.int .i64 at_] 39);obtain⟨HRX,Zc⟩:=RowsIn.add (x:=(⟨kd,tx,K,ks,at_⟩,.slice E h F)) (l7:=.slice (some ⟨gg,0,none⟩) (k+1) cap) Ez (by rw [j.o];exact HTA) (by rw [j.o];exact U1) (by rw [j.o];exact I) (by show World.ownsRow _ _ _ 1 (.slice E h F) ks.length (intCells ks);rw [← gW.o];exact HK5.o.alloc _) HFA.o;have b_:=HB.o.below Z.o HB.o.lt;have Y:=N.o.below Z.o N.o.lt;have HBX:=O (((b_.alloc (.cells #[.int .u8 kd,.string (aU tx),.int .i64 K,.slice E h F,.int .i64 at_] 39)).grown U1 (fun e=>bJ g.o b_ (by decide) e.symm)).far (p:=⟨tb,0,none⟩) (by show w.heap.size ≠ tb;omega) (.slice (some ⟨gg,0,none⟩) (k+1) cap));have HZX:=O (((Y.alloc (.cells #[.int .u8 kd,.string (aU tx),.int .i64 K,.slice E h F,.int .i64 at_] 39)).grown U1 (fun e=>bJ g.o Y (by decide) e.symm)).far (p:=⟨tb,0,none⟩) (by show w.heap.size+1 ≠ tb;omega) (.slice (some ⟨gg,0,none⟩) (k+1) cap));have hl5:=(L.o.trans (Z.o.mono hlo)).size;have Zu:=O (dS (b:=tb) (i:=0) (u:=.slice (some ⟨gg,0,none⟩) (k+1) cap) ((aF (L.o.trans (Z.o.mono hlo)) hl5 (o:=.cells #[.int .u8 kd,.string (aU tx),.int .i64 K,.slice E h F,.int .i64 at_] 39)).grown U1 (by simp;omega) (fun q hq=>by have:=(g.o.lt q hq).1;omega)) htg)
    have afl:=O (show aj (ext ++ [(⟨kd,tx,K,ks,at_⟩,.slice E h F)])=(aj xs).take (k+1) by
     rw [DI,mg.o,List.take_add_one,HXG.o];rfl)
    have afz:=O HRX;have afB:=O Zc;clear HRX Zc Ez HTA b_ Y U1 I aay c3' f3' u5 f5;go_wp2_with fail;exact⟨⟨k+1,_,ext ++ [(⟨kd,tx,K,ks,at_⟩,.slice E h F)],by omega,by go_num,by rw [aiA,j.o];rfl,afl,afz,afB,HBX,HZX,Zu⟩,by simp [intOf];omega⟩
  ·have i3:decide (k < n)=false:=aiH hkn;have vD:=O (show aj ext=aj xs by rw [mg.o,aiz (by rw [bW,← pU.o];omega)]);have u0:=P.o.cell 0;have u1:=P.o.cell 1;obtain⟨An,cn,rfl⟩:=dh l.o.own;rw [r] at u0 l
   have v0:=N.o.cell 0;have v1:=N.o.cell 1;have g0:=N.o.frozen 0;have g1:=N.o.frozen 1;have j:=O r;clear r;go_wp2_with fail;have HZ9:=(N.o.jD 0 (.slice An k cn)).jD 1 (.slice y m D);have r0:=HZ9.cell 0;have r1:=HZ9.cell 1;refine bodyPost_ret (v:=.agg #[.slice An k cn,.slice y m D]) (by simp [results,Tryz.f7,go_sem,r0,r1]) rfl ?_;exact⟨dS (dS L.o (by omega)) (by omega),_,_,ext,rfl,(l.o.Qc N.o).Qc (N.o.jD 0 _),vD.o⟩
def dV (x:Nd):Nd:=⟨x.kind,x.text,x.n,x.kids,0⟩
theorem yL {c:Type}{l r:List c}{k:Nat}{a b:c}(h1:l[k]? = some a)(h2:r[k]? = some b)(h:a ≠ b):l ≠ r:=by
 rintro rfl;exact h (aiB (h1.symm.trans h2))
theorem QJ {c:Type}{l r:List c}{k:Nat}{a b:c}(h1:l[k]? = some a)(h2:r[k]? = some b)(h:a=b)(d:l.take k=r.take k):l.take (k+1)=r.take (k+1):=by
 rw [List.take_add_one,List.take_add_one,h1,h2,h,d]
theorem Gc {b:Type}{l r:List b}{k:Nat}(h1:l.length≤k)(h2:r.length≤k)(a:l.take k=r.take k):l=r:=by
 rwa [aiz h1,aiz h2] at a
theorem Rk (A B A' B':Option Addr)(c d c' d':Nat)(xs F:List NV)(g M:List Int)(w:World)(hT:lJ w A B xs g)(hU:lJ w A' B' F M)(Q:xs.length≤100000)(hy:F.length≤100000)(hi:g.length≤100000)(hj:M.length≤100000) :
  Calls Tryz.prog 31 #[.agg #[.slice A xs.length c,.slice B g.length d],.agg #[.slice A' F.length c',.slice B' M.length d']] w fun e w'=>Below w.heap.size w w'∧∃ r:Bool,e=.returned (.bool r)∧(r=true↔(aj xs).map dV=(aj F).map dV∧g=M):=by
 obtain⟨n,hnn⟩:∃ n,n=xs.length:=⟨_,rfl⟩;obtain⟨n',NJ⟩:∃ n,n=F.length:=⟨_,rfl⟩;obtain⟨m,hmm⟩:∃ m,m=g.length:=⟨_,rfl⟩;obtain⟨m',L⟩:∃ m,m=M.length:=⟨_,rfl⟩;rw [← hnn] at Q ⊢
 rw [← NJ] at hy ⊢
 rw [← hmm] at hi ⊢
 rw [← L] at hj ⊢
 have HT:=O hT;clear hT;have HU:=O hU;clear hU;have HN:=O hnn;clear hnn;have UU:=O NJ;clear NJ;have HM:=O hmm;clear hmm;have R:=O L;clear L;have gN:=O (aF (aF (Below.refl w.heap.size w) (aiv _) (o:=.cells #[.slice A n c,.slice B m d] 25)) (by simp) (o:=.cells #[.slice A' n' c',.slice B' m' d'] 25));have HX0:=O ((aZ.new w 25 #[.slice A n c,.slice B m d]).alloc (.cells #[.slice A' n' c',.slice B' m' d'] 25));have HY0:=O (nI (W:=w.alloc (.cells #[.slice A n c,.slice B m d] 25)) (T:=25) (cs:=#[.slice A' n' c',.slice B' m' d']) (k:=w.heap.size+1) (by simp));by_cases hn:n=n'
 case neg =>
  have q1:((n:Int) != (n':Int))=true:=by simp;omega
  have C:=O (show ¬ ((aj xs).map dV=(aj F).map dV∧g=M) from fun h=>hn (by have:=congrArg List.length h.1;simp only [List.length_map,bW] at this;rw [HN.o,UU.o];exact this));clear hn;go_in
  go_wp2_with fail;go_ret;exact⟨gN.o,false,rfl,by simp only [Bool.false_eq_true,false_iff];exact C.o⟩
 subst hn;have q1:((n:Int) != (n:Int))=false:=by simp
 by_cases hm:m=m'
 case neg =>
  have q2:((m:Int) != (m':Int))=true:=by simp;omega
  have C:=O (show ¬ ((aj xs).map dV=(aj F).map dV∧g=M) from fun h=>hm (by rw [HM.o,R.o,h.2]));clear hm;go_in
  go_wp2_with fail;go_ret;exact⟨gN.o,false,rfl,by simp only [Bool.false_eq_true,false_iff];exact C.o⟩
 subst hm;have q2:((m:Int) != (m:Int))=false:=by simp
 clear hy hj;go_in
 go_wp2_with fail;go_loopw [5] (fun i wr=>∃ k:Nat,k≤m∧i=.int .i64 k∧Hid (g.take k=M.take k)∧Hid (aZ wr w.heap.size 25 #[.slice A n c,.slice B m d])∧Hid (aZ wr (w.heap.size+1) 25 #[.slice A' n c',.slice B' m d'])∧Hid (Below w.heap.size w wr)) (fun i _=>m - (intOf i).toNat)
 case atStart=>exact⟨0,aix _,rfl,O rfl,HX0,HY0,gN⟩
 case round =>
  obtain⟨k,hk,rfl,HK,D,E,a⟩:=hrel;clear gN HX0 HY0;have x0:=D.o.cell 0;have x1:=D.o.cell 1;have y0:=E.o.cell 0;have y1:=E.o.cell 1;by_cases Y:k < m
  ·have i3:decide (k < m)=true:=aiG Y;obtain⟨b,o,rfl,hbl,hc⟩:=HT.o.items.ex (by rw [← HM.o];omega);obtain⟨V,o',rfl,af8,hc'⟩:=HU.o.items.ex (by rw [← R.o];omega);obtain⟨p,hp⟩:∃ p,g[k]? = some p:=⟨_,aip (by rw [← HM.o];exact Y)⟩;obtain⟨q,hq⟩:∃ p,M[k]? = some p:=⟨_,aip (by rw [← R.o];exact Y)⟩;have cp:=(a.o.cell (p:=⟨b,o+k,none⟩) (by exact hbl)).trans (hc k p hp);have cq:=(a.o.cell (p:=⟨V,o'+k,none⟩) (by exact af8)).trans (hc' k q hq);have z0:(0:Int)≤(k:Int):=by omega
   have z1:(k:Int) < (m:Int):=by omega
   by_cases f:p=q
   ·have yT:=O (QJ hp hq f HK.o);have e1:(p != q)=false:=by simp [f]
    clear hc hc' hp hq f;go_wp2_with fail;go_quiet (fail)
    go_wp2_with fail;exact⟨⟨k+1,by omega,by go_num,yT,O (D.o.drewN _),O (E.o.drewN _),O (jJ a.o _)⟩,by simp [intOf];omega⟩
   ·have C:=O (show ¬ ((aj xs).map dV=(aj F).map dV∧g=M) from fun h=>yL hp hq f h.2);have e1:(p != q)=true:=by simp [f]
    clear hc hc' hp hq f;go_wp2_with fail;go_quiet (fail)
    go_wp2_with fail;go_ret;exact⟨jJ a.o _,false,rfl,by simp only [Bool.false_eq_true,false_iff];exact C.o⟩
  ·have i3:decide (k < m)=false:=aiH Y;have HIT:=O (Gc (by rw [← HM.o];omega) (by rw [← R.o];omega) HK.o);clear HK;go_wp2_with fail;clear x0 x1 y0 y1;go_loopw [6] (fun i wr=>∃ k:Nat,k≤n∧i=.int .i64 k∧Hid (((aj xs).take k).map dV=((aj F).take k).map dV)∧Hid (aZ wr w.heap.size 25 #[.slice A n c,.slice B m d])∧Hid (aZ wr (w.heap.size+1) 25 #[.slice A' n c',.slice B' m d'])∧Hid (Below w.heap.size w wr)) (fun i _=>n - (intOf i).toNat)
   case atStart=>exact⟨0,aix _,rfl,O rfl,D,E,a⟩
   case round =>
    clear D E a;obtain⟨wo,rfl⟩:∃ wo:World,wo=wr:=⟨_,rfl⟩;obtain⟨k,hk,rfl,HK,D,E,a⟩:=hrel;have x0:=D.o.cell 0;have x1:=D.o.cell 1;have y0:=E.o.cell 0;have y1:=E.o.cell 1;by_cases Z:k < n
    ·have i3:decide (k < n)=true:=aiG Z;obtain⟨b,o,rfl,H⟩:=HT.o.nodes (by rw [← HN.o];omega);obtain⟨V,o',rfl,I⟩:=HU.o.nodes (by rw [← UU.o];omega);obtain⟨x,Q⟩:∃ x,xs[k]? = some x:=iG (by rw [← HN.o];exact Z);obtain⟨y,hy⟩:∃ y,F[k]? = some y:=iG (by rw [← UU.o];exact Z);have c0:=(a.o.cell (p:=⟨b,o+k * 5,none⟩) H.lt).trans (H.c0 k x Q);have c1:=(a.o.cell (p:=⟨b,o+k * 5+1,none⟩) H.lt).trans (H.c1 k x Q);have c2:=(a.o.cell (p:=⟨b,o+k * 5+2,none⟩) H.lt).trans (H.c2 k x Q);have c3:=(a.o.cell (p:=⟨b,o+k * 5+3,none⟩) H.lt).trans (H.c3 k x Q);have c4:=(a.o.cell (p:=⟨b,o+k * 5+4,none⟩) H.lt).trans (H.c4 k x Q);have d0:=(a.o.cell (p:=⟨V,o'+k * 5,none⟩) I.lt).trans (I.c0 k y hy);have d1:=(a.o.cell (p:=⟨V,o'+k * 5+1,none⟩) I.lt).trans (I.c1 k y hy);have d2:=(a.o.cell (p:=⟨V,o'+k * 5+2,none⟩) I.lt).trans (I.c2 k y hy);have d3:=(a.o.cell (p:=⟨V,o'+k * 5+3,none⟩) I.lt).trans (I.c3 k y hy);have d4:=(a.o.cell (p:=⟨V,o'+k * 5+4,none⟩) I.lt).trans (I.c4 k y hy);obtain⟨Ka,ca,hxe,hxl,hxk⟩:=H.kid Q;obtain⟨Kb,cb,hye,hyl,hyk⟩:=I.kid hy;rw [hxe] at c3
     rw [hye] at d3
     have BG:=O hxk;have HYK:=O hyk;have HXG:=O (jd Q);have HYG:=O (jd hy);have hl1:=D.o.lt;have hl2:=E.o.lt;have hb1:b < wo.heap.size:=aiI H.lt a.o.size;have hb2:V < wo.heap.size:=aiI I.lt a.o.size;clear H I Q hy hxe hye hxk hyk;have z0:(0:Int)≤(k:Int):=by omega
     have z1:(k:Int) < (n:Int):=by omega
     have VB:=O (show dV x.1 ≠ dV y.1→¬ ((aj xs).map dV=(aj F).map dV∧g=M) from fun h h2=>by
      refine yL (l:=(aj xs).map dV) (r:=(aj F).map dV) (k:=k) ?_ ?_ h h2.1
      ·rw [List.getElem?_map,HXG.o];rfl
      ·rw [List.getElem?_map,HYG.o];rfl)
     go_upto_region 11 with (fail)
     go_cut [7,8] from 44 to 106 (fun u v wx=>∃ p q:Nat,u=.pointer (some ⟨p,0,none⟩)∧v=.pointer (some ⟨q,0,none⟩)∧Hid (aZ wx p 39 #[.int .u8 x.1.kind,.string (aU x.1.text),.int .i64 x.1.n,.slice Ka x.1.kids.length ca,.int .i64 x.1.at_])∧Hid (aZ wx q 39 #[.int .u8 y.1.kind,.string (aU y.1.text),.int .i64 y.1.n,.slice Kb y.1.kids.length cb,.int .i64 y.1.at_])∧Hid (Below wo.heap.size wo wx))
     case first =>
      go_region
      all_goals
       go_wp2_with fail;go_meet
       refine⟨_,_,rfl,rfl,O (aZ.drew ?_),O (aZ.drew ?_),O (Below.drew (aF (aF (Below.refl _ _) (aiv _)) (by simp)))⟩
       ·first | exact (aZ.new wo _ _).alloc _ | exact nI (by simp)
       ·first | exact (aZ.new wo _ _).alloc _ | exact nI (by simp)
     case rest =>
      obtain⟨p,q,rfl,rfl,N,P,Mt⟩:=hcut;have G:=O (a.o.trans (Mt.o.mono a.o.size));have S:=O (D.o.below Mt.o D.o.lt);have U:=O (E.o.below Mt.o E.o.lt);clear D E a Mt x0 x1 y0 y1 c0 c1 c2 c3 c4 d0 d1 d2 d3 d4;have x0:=S.o.cell 0;have x1:=S.o.cell 1;have y0:=U.o.cell 0;have y1:=U.o.cell 1;have c0:=N.o.cell 0;have c1:=N.o.cell 1;have c2:=N.o.cell 2;have c3:=N.o.cell 3;have d0:=P.o.cell 0;have d1:=P.o.cell 1;have d2:=P.o.cell 2;have d3:=P.o.cell 3;by_cases h1:x.1.kind=y.1.kind
      case neg =>
       have e1:((x.1.kind:Int) != (y.1.kind:Int))=true:=by simp;omega
       have C:=O (VB.o fun h=>h1 (show x.1.kind=y.1.kind from by have h9:=congrArg Nd.kind h;exact h9));clear h1;go_wp2_with fail;go_ret;exact⟨G.o,false,rfl,by simp only [Bool.false_eq_true,false_iff];exact C.o⟩
      have e1:((x.1.kind:Int) != (y.1.kind:Int))=false:=by simp;omega
      by_cases h2:x.1.text=y.1.text
      case neg =>
       have e2:(x.1.text != y.1.text)=true:=by simpa using h2
       have C:=O (VB.o fun h=>h2 (show x.1.text=y.1.text from by have h9:=congrArg Nd.text h;exact h9));have H1:=O h1;clear h1;go_wp2_with fail;go_ret;exact⟨G.o,false,rfl,by simp only [Bool.false_eq_true,false_iff];exact C.o⟩
      have e2:(x.1.text != y.1.text)=false:=by simpa using h2
      by_cases h3:x.1.n=y.1.n
      case neg =>
       have e3:(x.1.n != y.1.n)=true:=by simpa using h3
       have C:=O (VB.o fun h=>h3 (show x.1.n=y.1.n from by have h9:=congrArg Nd.n h;exact h9));have H1:=O h1;have H2:=O h2;clear h1 h2 h3;go_wp2_with fail;go_ret;exact⟨G.o,false,rfl,by simp only [Bool.false_eq_true,false_iff];exact C.o⟩
      have e3:(x.1.n != y.1.n)=false:=by simpa using h3
      obtain⟨t,hnk⟩:∃ t,t=x.1.kids.length:=⟨_,rfl⟩;obtain⟨nk',ac2⟩:∃ t,t=y.1.kids.length:=⟨_,rfl⟩;have H1:=O h1;have H2:=O h2;have H3:=O h3;clear h1 h2 h3;rw [← hnk] at c3 hxl N
      rw [← ac2] at d3 hyl P
      have IK:=O hnk;have yT:=O ac2;clear hnk ac2;by_cases h4:t=nk'
      case neg =>
       have e4:((t:Int) != (nk':Int))=true:=by simp;omega
       have C:=O (VB.o fun h=>h4 (by rw [IK.o,yT.o];have h9:=congrArg (fun z=>z.kids.length) h;exact h9));clear h4;go_wp2_with fail;go_ret;exact⟨G.o,false,rfl,by simp only [Bool.false_eq_true,false_iff];exact C.o⟩
      subst h4;have e4:((t:Int) != (t:Int))=false:=by simp
      go_wp2_with fail;go_loopw [9] (fun i wr=>∃ j:Nat,j≤t∧i=.int .i64 j∧Hid (x.1.kids.take j=y.1.kids.take j)∧Hid (aZ wr p 39 #[.int .u8 x.1.kind,.string (aU x.1.text),.int .i64 x.1.n,.slice Ka t ca,.int .i64 x.1.at_])∧Hid (aZ wr q 39 #[.int .u8 y.1.kind,.string (aU y.1.text),.int .i64 y.1.n,.slice Kb t cb,.int .i64 y.1.at_])∧Hid (aZ wr w.heap.size 25 #[.slice (some ⟨b,o,none⟩) n c,.slice B m d])∧Hid (aZ wr (w.heap.size+1) 25 #[.slice (some ⟨V,o',none⟩) n c',.slice B' m d'])∧Hid (Below w.heap.size w wr)) (fun i _=>t - (intOf i).toNat)
      case atStart=>exact⟨0,aix _,rfl,O rfl,N,P,S,U,G⟩
      case round =>
       clear N P S U G x0 x1 y0 y1 c0 c1 c2 c3 d0 d1 d2 d3;obtain⟨j,hj,rfl,HJ,N,P,D,E,a⟩:=hrel;have c3:=N.o.cell 3;have d3:=P.o.cell 3;by_cases X:j < t
       ·have i4:decide (j < t)=true:=aiG X;obtain⟨bk,ok,rfl,hbk,hck⟩:=BG.o.ex (by rw [← IK.o];omega);obtain⟨bl,ol,rfl,hbl,hcl⟩:=HYK.o.ex (by rw [← yT.o];omega);obtain⟨kp,J⟩:∃ kp,x.1.kids[j]? = some kp:=⟨_,aip (by rw [← IK.o];exact X)⟩;obtain⟨kq,K⟩:∃ kp,y.1.kids[j]? = some kp:=⟨_,aip (by rw [← yT.o];exact X)⟩;have cj:=(a.o.cell (p:=⟨bk,ok+j,none⟩) hbk).trans (hck j kp J);have dj:=(a.o.cell (p:=⟨bl,ol+j,none⟩) hbl).trans (hcl j kq K);have z2:(0:Int)≤(j:Int):=by omega
        have z3:(j:Int) < (t:Int):=by omega
        by_cases f:kp=kq
        ·have HJ2:=O (QJ J K f HJ.o);have e5:(kp != kq)=false:=by simp [f]
         clear hck hcl J K f;go_wp2_with fail;go_quiet (fail)
         go_wp2_with fail;exact⟨⟨j+1,by omega,by go_num,HJ2,O (N.o.drewN _),O (P.o.drewN _),O (D.o.drewN _),O (E.o.drewN _),O (jJ a.o _)⟩,by simp [intOf];omega⟩
        ·have C:=O (VB.o fun h=>yL J K f (show x.1.kids=y.1.kids from by have h9:=congrArg Nd.kids h;exact h9));have e5:(kp != kq)=true:=by simp [f]
         clear hck hcl J K f;go_wp2_with fail;go_quiet (fail)
         go_wp2_with fail;go_ret;exact⟨jJ a.o _,false,rfl,by simp only [Bool.false_eq_true,false_iff];exact C.o⟩
       ·have i4:decide (j < t)=false:=aiH X;have HKK:=O (Gc (by rw [← IK.o];omega) (by rw [← yT.o];omega) HJ.o)
        have HNX:=O (show ((aj xs).take (k+1)).map dV=((aj F).take (k+1)).map dV by
         rw [List.take_add_one,List.take_add_one,HXG.o,HYG.o,List.map_append,List.map_append,HK.o];simp [dV,H1.o,H2.o,H3.o,HKK.o])
        go_wp2_with fail;exact⟨⟨k+1,by omega,by go_num,HNX,D,E,a⟩,by simp [intOf];omega⟩
    ·have i3:decide (k < n)=false:=aiH Z
     have HEQ:=O (show (aj xs).map dV=(aj F).map dV by
      have h9:=HK.o
      rwa [aiz (by rw [bW,← HN.o];omega),aiz (by rw [bW,← UU.o];omega)] at h9)
     go_wp2_with fail;go_ret;exact⟨a.o,true,rfl,by simp only [true_iff];exact⟨HEQ.o,HIT.o⟩⟩
theorem ae7 (A B j B':Option Addr)(c d D E:Nat)(xs G:List NV)(a:List Int)(w:World)(P:lJ w A B xs a)(Q:lJ w j B' G a)(N:aj xs=aj G)(F:xs.length≤100000)(hi:a.length≤100000) :
  Calls Tryz.prog 10 #[.agg #[.slice A xs.length c,.slice B a.length d],.agg #[.slice j G.length D,.slice B' a.length E]] w fun e w'=>Below w.heap.size w w'∧e=.returned (.bool true):=by
 have K:G.length=xs.length:=by rw [← bW,← bW,N]
 have I:=O fun W (X:Below w.heap.size w W)=>Rk A B j B' c d D E xs G a a W (P.below X) (Q.below X) F (by omega) hi hi
 rw [K] at I ⊢
 obtain⟨n,h⟩:∃ n,n=xs.length:=⟨_,rfl⟩;obtain⟨m,H⟩:∃ m,m=a.length:=⟨_,rfl⟩;rw [← h,← H] at I ⊢
 rw [← h] at F K
 have S:=O h;clear h;have U:=O K.symm;clear K;have R:=O N;clear N;have Z:=O P;clear P;have HU:=O Q;clear Q;clear H hi;have J:=O (aF (aF (Below.refl w.heap.size w) (aiv _) (o:=.cells #[.slice A n c,.slice B m d] 25)) (by simp) (o:=.cells #[.slice j n D,.slice B' m E] 25));have q:=O ((aZ.new w 25 #[.slice A n c,.slice B m d]).alloc (.cells #[.slice j n D,.slice B' m E] 25));have t:=O (nI (W:=w.alloc (.cells #[.slice A n c,.slice B m d] 25)) (T:=25) (cs:=#[.slice j n D,.slice B' m E]) (k:=w.heap.size+1) (by simp));go_in
 go_wp2_with fail;refine (I.o _ J.o).mono ?_;rintro e w1⟨f,r,rfl,Y⟩;obtain rfl:r=true:=Y.2 ⟨by rw [R.o],by trivial⟩;clear Y;have u:=O (q.o.below f q.o.lt);have C:=O (t.o.below f t.o.lt);have l:=O (J.o.trans (f.mono J.o.size));clear q t J f I;go_wp2_with fail;go_loopw [5] (fun i wr=>∃ k:Nat,k≤n∧i=.int .i64 k∧Hid (aZ wr w.heap.size 25 #[.slice A n c,.slice B m d])∧Hid (aZ wr (w.heap.size+1) 25 #[.slice j n D,.slice B' m E])∧Hid (Below w.heap.size w wr)) (fun i _=>n - (intOf i).toNat)
 case atStart=>exact⟨0,aix _,rfl,u,C,l⟩
 case round =>
  clear u C l;obtain⟨k,hk,rfl,u,C,l⟩:=hrel;have x0:=u.o.cell 0;have x1:=u.o.cell 1;have y0:=C.o.cell 0;have y1:=C.o.cell 1;by_cases g:k < n
  ·have i3:decide (k < n)=true:=aiG g;obtain⟨b,o,rfl,L⟩:=Z.o.nodes (by rw [← S.o];omega);obtain⟨b',o',rfl,M⟩:=HU.o.nodes (by rw [← U.o];omega);obtain⟨x,F⟩:∃ x,xs[k]? = some x:=iG (by rw [← S.o];exact g);obtain⟨y,hy⟩:∃ y,G[k]? = some y:=iG (by rw [← U.o];exact g);have c4:=(l.o.cell (p:=⟨b,o+k * 5+4,none⟩) L.lt).trans (L.c4 k x F);have d4:=(l.o.cell (p:=⟨b',o'+k * 5+4,none⟩) M.lt).trans (M.c4 k y hy)
   have V:y.1=x.1:=by
    have h1:=jd F;have h2:=jd hy;rw [R.o] at h1
    exact aiB (h2.symm.trans h1)
   rw [V] at d4
   clear L M F hy V;have z0:(0:Int)≤(k:Int):=by omega
   have z1:(k:Int) < (n:Int):=by omega
   have e2:(x.1.at_ != x.1.at_)=false:=by simp
   go_wp2_with fail;go_quiet (fail)
   go_wp2_with fail;exact⟨⟨k+1,by omega,by go_num,O (u.o.drewN _),O (C.o.drewN _),O (jJ l.o _)⟩,by simp [intOf];omega⟩
  ·have i3:decide (k < n)=false:=aiH g;go_wp2_with fail;go_ret;exact⟨l.o,rfl⟩
end
section
open Go.RowKit Mist
theorem JS.put {g:Nat}{w:World}{tb:Nat}{nv iv:Value}{xs:List NV}{a:List Int}(h:JS g w tb nv iv xs a)(i:Nat)(u:Value)(b:(#[nv,iv]:Array Value).setIfInBounds i u=#[nv,iv]):JS g (w.setCell ⟨tb,i,none⟩ u) tb nv iv xs a :=
 ⟨by have:=h.blk.jD i u;rwa [b] at this,h.lo,ownsRow_setCell_other h.own (bJ h.own h.blk (by decide)) _,fun y hy=>ownsRow_setCell_other (h.kids y hy) (bJ (h.kids y hy) h.blk (by decide)) _,ownsRow_setCell_other h.row (bJ h.row h.blk (by decide)) _,h.far⟩
end
section
open Go.RowKit Mist
attribute [local go_sem] au aN aV aM aG
theorem qA.set {g b i:Nat}{u:Value}{w:World}{v:Value}{xs:List NV}{a:List Int}(h:qA g w v xs a)(c:b < g):qA g (w.setCell ⟨b,i,none⟩ u) v xs a:=by
 obtain⟨⟨nv,iv,q,rfl,h1,rfl,h2⟩,d⟩:=h;exact⟨⟨nv,iv,_,rfl,je h1 c,rfl,je h2 (by omega)⟩,fun x e=>je (d x e) (by omega)⟩
theorem qA.below {g:Nat}{w c:World}{v:Value}{xs:List NV}{a:List Int}(h:qA g w v xs a)(b:Below w.heap.size w c):qA g c v xs a:=by
 obtain⟨⟨nv,iv,q,rfl,h1,rfl,h2⟩,d⟩:=h;exact⟨⟨nv,iv,_,rfl,own_below h1 b,rfl,own_below h2 b⟩,fun x e=>own_below (d x e) b⟩
structure z_ (T:Tr):Prop where
 wf:Wf T.nodes
 choose:∀ x ∈ T.nodes,ow T x
 kids:∀ x ∈ T.nodes,x.kids.length≤1000000
 len:T.nodes.length≤1000
def iN (T:Tr):Int × Int :=
 if Mist.large T=true∨30 < oH T then (0,5)
 else if 0≤outT T then ((nd T (outT T).toNat).at_,3) else (0,0)
def ZX (T:Tr)(w:World)(e:Ending)(w':World):Prop :=
 Below w.heap.size w w'∧((iN T).2 ≠ 0∧e=.returned (.tuple #[.agg #[.slice none 0 0,.slice none 0 0],.int .i64 (iN T).1,.int .i64 (iN T).2]) ∨
  (iN T).2=0∧∃ v xs g,e=.returned (.tuple #[v,.int .i64 0,.int .i64 0])∧aj xs=T.nodes∧w.heap.size≤g∧qA g w' v xs T.items)
theorem aaW {T:Tr}(h:0≤outT T):outT T < (T.nodes.length:Int):=by
 unfold outT vG at h ⊢
 rcases a:T.nodes.findIdx? (fun x=>!Mist.sized T x) with _ | i
 ·rw [a] at h;exact absurd h (by decide)
 ·rw [List.findIdx?_eq_some_iff_getElem] at a
  obtain⟨b,_⟩:=a
  show (i:Int) < (T.nodes.length:Int)
  omega
theorem Tm (s:Bs)(l:List Tok)(n f k:Nat)(T:Tr)(w:World)(hr:Mist.read s=(l,0,0))(hF:PF l)(hp:prog l (s.length:Int) n f 0 [] []=some (.ok T.items k T.nodes))(hE:Env w)(hl:s.length≤100000000)(hG:z_ T) :
  Calls Tryz.prog 18 #[.string (aU s)] w (ZX T w):=by
 have HR:=O hr;clear hr;have HP:=O hp;clear hp;have HE:=O hE;clear hE;have HG:=O hG;clear hG;go_in
 go_wp2_with fail;refine (Yz s _ (HE.o.alloc _) hl).mono ?_;rintro e w2⟨v,rfl,ht,U⟩;rw [HR.o] at ht ⊢
 have G:=O (gB U);have H:=O ((aF (Below.refl w.heap.size w) (aiv _) (o:=.cells #[.slice none 0 0,.slice none 0 0] 25)).trans (U.mono (by simp)));have yO:=O ht;clear U ht;simp only
 go_wp2_with fail;refine (Tn hF (en:=(s.length:Int)) n f w2 _ yO.o (HE.o.below H.o) HP.o).mono ?_;rintro e w3⟨v,xs,rfl,hxs,htr,V⟩;have F:=O hxs;clear hxs;have S:=O htr;clear htr;have W:∀ x ∈ xs,x.1.kids.length≤1000000:=fun x hx=>HG.o.kids x.1 (by rw [← F.o];exact List.mem_map_of_mem hx)
 obtain⟨A,B,c,d,rfl,_⟩:=S.o.tAt W;have IL:=O W;clear W;have q:=O (G.o.below V G.o.lt);have kE:=O (H.o.trans (V.mono H.o.size));have j:=G.o.lt;clear V;have r:=q.o.cell 0;have t:=q.o.cell 1;have r0:=q.o.frozen 0;have r1:=q.o.frozen 1;have mh:=O (show aZ ((w3.setCell ⟨w.heap.size,0,none⟩ (.slice A xs.length c)).setCell ⟨w.heap.size,1,none⟩ (.slice B T.items.length d)) w.heap.size 25 #[.slice A xs.length c,.slice B T.items.length d] from by have h9:=(q.o.jD 0 (.slice A xs.length c)).jD 1 (.slice B T.items.length d);simpa using h9);have BF:=O (show Below w.heap.size w ((w3.setCell ⟨w.heap.size,0,none⟩ (.slice A xs.length c)).setCell ⟨w.heap.size,1,none⟩ (.slice B T.items.length d)) from dS (dS kE.o (aiv _)) (aiv _));have VK:=O ((S.o.set (i:=0) (u:=.slice A xs.length c) j).set (i:=1) (u:=.slice B T.items.length d) j);clear S q kE G H yO HE HR HP;have f_:=O (show (aj xs).length=xs.length from bW xs);have hn1:xs.length≤1000:=by rw [← f_.o,F.o];exact HG.o.len
 obtain⟨n,Y⟩:∃ n,n=xs.length:=⟨_,rfl⟩;obtain⟨m,X⟩:∃ m,m=T.items.length:=⟨_,rfl⟩;rw [← Y] at mh BF VK hn1 ⊢
 rw [← X] at mh BF VK ⊢
 have M:=O Y;clear Y;have Ep:=O X;clear X;have Zb:=O (show m_ n m=Mist.large T by unfold m_ Mist.large;rw [M.o,Ep.o,← f_.o,F.o]);have Zc:=O (show (⟨aj xs,T.items⟩:Tr)=T by rw [F.o]);go_wp2_with fail
 generalize ((w3.setCell ⟨w.heap.size,0,none⟩ (.slice A n c)).setCell ⟨w.heap.size,1,none⟩ (.slice B m d))=w4 at mh BF VK ⊢
 refine (FM A B n m c d _).mono ?_;rintro e w5⟨rfl,J⟩;rw [Zb.o];have I:=O (mh.o.below J mh.o.lt);have kI:=O (BF.o.trans (J.mono BF.o.size));have UZ:=O (VK.o.below J);clear J r t r0 r1;have r:=I.o.cell 0;have t:=I.o.cell 1;have r0:=I.o.frozen 0;have r1:=I.o.frozen 1;have hq5:=I.o.lt
 cases Sv:Mist.large T
 case true =>
  have L:=O (show iN T=(0,5) by unfold iN;rw [if_pos (Or.inl Sv)]);clear Sv;go_wp2_with fail;refine bodyPost_ret (v:=.tuple #[.agg #[.slice none 0 0,.slice none 0 0],.int .i64 0,.int .i64 5]) (by simp [results,Tryz.f18,go_sem,r,t]) rfl ⟨?_,.inl ⟨by rw [L.o];decide,by rw [L.o]⟩⟩
  repeat (first|(with_reducible exact kI.o)|(with_reducible refine dS ?_ ?_) | omega)
 have Zu:=O Sv;clear Sv
 have LJ:=O (by
  have h9:=wT A B c m d xs T.items w5 (by
   obtain⟨A',B',c',d',hv,h8⟩:=UZ.o.tAt IL.o;injection hv with hv
   injection hv with hv
   injection hv with C a
   injection C with hA
   injection a with a _
   injection a with hB
   subst hA;subst hB;exact h8) (by rw [← M.o];omega) (by rw [F.o];exact HG.o.wf)
  rw [← M.o,show iT (aj xs)=oH T by unfold oH;rw [F.o]] at h9
  exact h9)
 obtain⟨D,hD⟩:∃ D,D=oH T:=⟨_,rfl⟩;rw [← hD] at LJ
 have Zo:=O hD;clear hD;by_cases Ah:30 < D
 ·have e30:decide (30 < D)=true:=aiG Ah;have L:=O (show iN T=(0,5) by unfold iN;rw [if_pos (Or.inr (by rw [← Zo.o];exact Ah))]);go_wp2_with fail;refine LJ.o.mono ?_;rintro e w6⟨rfl,h⟩;have y:=O (I.o.below h I.o.lt);have Z:=O (kI.o.trans (h.mono kI.o.size));clear h r t r0 r1;have r:=y.o.cell 0;have t:=y.o.cell 1;have r0:=y.o.frozen 0;have r1:=y.o.frozen 1;go_wp2_with fail;refine bodyPost_ret (v:=.tuple #[.agg #[.slice none 0 0,.slice none 0 0],.int .i64 0,.int .i64 5]) (by simp [results,Tryz.f18,go_sem,r,t]) rfl ⟨?_,.inl ⟨by rw [L.o];decide,by rw [L.o]⟩⟩
  repeat (first|(with_reducible exact Z.o)|(with_reducible refine dS ?_ ?_) | omega)
 have e30:decide (30 < D)=false:=aiH Ah;have H30:=O (show oH T≤30 by rw [← Zo.o];omega);clear Ah;go_wp2_with fail;refine LJ.o.mono ?_;rintro e w6⟨rfl,h⟩;have y:=O (I.o.below h I.o.lt);have Z:=O (kI.o.trans (h.mono kI.o.size));have Q:=O (UZ.o.below h);clear h r t r0 r1;have r:=y.o.cell 0;have t:=y.o.cell 1
 have P:=O (by
  have h9:=yj xs T.items A c B m d w6 (by
   obtain⟨A',B',c',d',hv,h8⟩:=Q.o.tAt IL.o;injection hv with hv
   injection hv with hv
   injection hv with C a
   injection C with hA
   injection a with a _
   injection a with hB
   subst hA;subst hB;exact h8) (by rw [← M.o];omega) (by rw [F.o];exact HG.o.choose)
  rw [← M.o,Zc.o] at h9
  exact h9)
 obtain⟨g,hO⟩:∃ g,g=outT T:=⟨_,rfl⟩;rw [← hO] at P
 have Zx:=O hO;clear hO;have L:=O (show iN T=if 0≤g then ((nd T g.toNat).at_,3) else (0,0) by unfold iN;rw [if_neg (by rw [Zu.o];have h9:=H30.o;simp;omega),← Zx.o]);by_cases h0:0≤g
 ·have e0:decide (0≤g)=true:=aiG h0;go_wp2_with fail;refine P.o.mono ?_;rintro e w7⟨rfl,K⟩;have E:=O (y.o.below K y.o.lt);have N:=O (Z.o.trans (K.mono Z.o.size));have R:=O (Q.o.below K);clear K r t;have r:=E.o.cell 0;have t:=E.o.cell 1;have r0:=E.o.frozen 0;have r1:=E.o.frozen 1;have hol:=aaW (T:=T) (by rw [← Zx.o];exact h0);rw [← Zx.o,← F.o,f_.o,← M.o] at hol
  obtain⟨On,hOn⟩:∃ On:Nat,g=(On:Int):=⟨g.toNat,by omega⟩;obtain⟨x,hx⟩:∃ x,xs[On]? = some x:=iG (by rw [← M.o];omega)
  have ZV:=O (show iN T=(x.1.at_,3) by
   rw [L.o,if_pos h0,hOn,aiC];have h9:=aY T.items hx;rw [F.o] at h9
   rw [← h9])
  have hT7:lJ w7 A B xs T.items:=by
   obtain⟨A',B',c',d',hv,h8⟩:=R.o.tAt IL.o;injection hv with hv
   injection hv with hv
   injection hv with C a
   injection C with hA
   injection a with a _
   injection a with hB
   subst hA;subst hB;exact h8
  obtain⟨b,o,rfl,hN⟩:=hT7.nodes (by rw [← M.o];omega);have c4:=hN.c4 On x hx;have hbl:=hN.lt;subst hOn;have i1:(0:Int)≤(On:Int):=by omega
  clear hN hT7 hx;go_wp2_with fail;go_region
  all_goals
   go_wp2_with fail;have hz:=(E.o.jD 0 (.slice none 0 0)).jD 1 (.slice none 0 0);have z0:=hz.cell 0;have z1:=hz.cell 1;refine bodyPost_ret (v:=.tuple #[.agg #[.slice none 0 0,.slice none 0 0],.int .i64 x.1.at_,.int .i64 3]) (by simp [results,Tryz.f18,go_sem,z0,z1]) rfl ⟨?_,.inl ⟨by rw [ZV.o];show (3:Int) ≠ 0;decide,by rw [ZV.o]⟩⟩
   repeat (first|(with_reducible exact N.o)|(with_reducible refine dS ?_ ?_)|(with_reducible refine Below.drew ?_) | omega)
 ·have e0:decide (0≤g)=false:=aiH h0;have Fe:=O (show iN T=(0,0) by rw [L.o,if_neg h0]);go_wp2_with fail;refine P.o.mono ?_;rintro e w7⟨rfl,K⟩;have E:=O (y.o.below K y.o.lt);have N:=O (Z.o.trans (K.mono Z.o.size));have R:=O (Q.o.below K);clear K r t;have r:=E.o.cell 0;have t:=E.o.cell 1;have r0:=E.o.frozen 0;have r1:=E.o.frozen 1;go_wp2_with fail;have hz:=(E.o.jD 0 (.slice A n c)).jD 1 (.slice B m d);have z0:=hz.cell 0;have z1:=hz.cell 1;have HTF:=O ((R.o.set (i:=0) (u:=.slice A n c) j).set (i:=1) (u:=.slice B m d) j);refine bodyPost_ret (v:=.tuple #[.agg #[.slice A n c,.slice B m d],.int .i64 0,.int .i64 0]) (by simp [results,Tryz.f18,go_sem,z0,z1]) rfl ⟨?_,.inr ⟨by rw [Fe.o],_,xs,w2.heap.size,rfl,F.o,by omega,HTF.o⟩⟩
  repeat (first|(with_reducible exact N.o)|(with_reducible refine dS ?_ ?_) | omega)
end
section
open Go.RowKit Mist
def kb:Bs:=[108,101,116,32,115,32,61,32,49,32,60,32,50,32,60,32,51,59]
def kc:Bs:=[99,104,111,111,115,101,32,100,58,32,51,46,46,49,59]
def kd:Bs:=[108,101,116,32,97,32,61,32,49,59,32,97,115,107,32,98,108,97,109,101,59]
def lb:List Tok:=[⟨3,[108,101,116],0⟩,⟨1,[115],4⟩,⟨4,[61],6⟩,⟨2,[49],8⟩,⟨4,[60],10⟩,⟨2,[50],12⟩,⟨4,[60],14⟩,⟨2,[51],16⟩,⟨4,[59],17⟩]
def abH (T:Tr):Bool :=
 decide (T.nodes.length≤1000) && (List.range T.nodes.length).all (fun i=>(nd T i).kids.all (fun c=>decide (0≤c) && decide (c < (i:Int)))) && T.nodes.all (fun x=>decide (x.kids.length≤1000000)) &&
 T.nodes.all (fun x=>x.kind != 40 || (match x.kids with
  | [a,b]=>decide (0≤a) && decide (0≤b) && decide (a.toNat < T.nodes.length) && decide (b.toNat < T.nodes.length) && decide (-9999≤(nd T a.toNat).n∧(nd T a.toNat).n≤9999) && decide (-9999≤(nd T b.toNat).n∧(nd T b.toNat).n≤9999)
  | _=>false))
theorem yu {T:Tr}(h:abH T=true):z_ T:=by
 unfold abH at h
 rw [aiE,aiE,aiE] at h
 obtain⟨⟨⟨h1,h2⟩,h3⟩,h4⟩:=h;rw [aiD] at h2 h3 h4
 refine⟨?_,?_,fun x d=>of_decide_eq_true (h3 x d),of_decide_eq_true h1⟩
 ·intro i x d c f
  have:=h2 i (List.mem_range.2 (aiq.1 d).1)
  rw [jX d,aiD] at this
  have:=this c f
  simpa using this
 ·intro x d o
  have:=h4 x d
  rw [o] at this
  rcases e:x.kids with _ | ⟨a,_ | ⟨b,_ | ⟨c,r⟩⟩⟩
  ·rw [e] at this;simp at this
  ·rw [e] at this;simp at this
  ·rw [e] at this
   simp only [bne_self_eq_false,Bool.false_or,aiE,decide_eq_true_eq] at this
   obtain⟨⟨⟨⟨⟨g,j⟩,k⟩,l⟩,m⟩,n⟩:=this
   refine⟨a.toNat,b.toNat,?_,k,l,m,n⟩
   rw [Int.toNat_of_nonneg g,Int.toNat_of_nonneg j]
  ·rw [e] at this;simp at this
def Wq (n:Nd):Bool:=decide (n.kind < 256) && decide (n.text.length≤100000000) && decide (j6≤n.n∧n.n≤gL) && decide (j6≤n.at_∧n.at_≤gL) && n.kids.all (fun c=>decide (j6≤c∧c≤gL))
theorem IB {ns:List Nd}(h:ns.all Wq=true):ED ns:=by
 intro n a
 have:=aiD.1 h n a
 unfold Wq at this
 simp only [aiE,decide_eq_true_eq,aiD] at this
 obtain⟨⟨⟨⟨h1,h2⟩,h3⟩,h4⟩,h5⟩:=this;exact⟨h1,h2,h3,h4,h5⟩
def pfB (l:List Tok):Bool:=decide (l.length≤1000) && l.all (fun t=>(Mist.kind t.text == t.kind) && decide (t.text.length≤2000))
theorem Qw {l:List Tok}(h:pfB l=true):PF l:=by
 unfold pfB at h
 rw [aiE,aiD] at h
 refine⟨of_decide_eq_true h.1,fun t a=>?_,fun t a=>?_⟩
 ·have:=h.2 t a
  rw [aiE] at this
  exact eq_of_beq this.1
 ·have:=h.2 t a
  rw [aiE] at this
  exact of_decide_eq_true this.2
theorem aaH {s:Bs}{l:List Tok}{n f k:Nat}{T:Tr}(w:World)(J:Mist.read s=(l,0,0))(hF:PF l)(I:prog l (s.length:Int) n f 0 [] []=some (.ok T.items k T.nodes))(E:Env w)(H:s.length≤100000000)(t:z_ T)(G:iN T=(0,0)) :
  Calls Tryz.prog 18 #[.string (aU s)] w fun e o=>Below w.heap.size w o∧∃ A B c d xs,e=.returned (.tuple #[.agg #[.slice A T.nodes.length c,.slice B T.items.length d],.int .i64 0,.int .i64 0])∧aj xs=T.nodes∧xs.length=T.nodes.length∧T.nodes.length≤c∧lJ o A B xs T.items:=by
 refine (Tm s l n f k T w J hF I E H t).mono ?_;rintro e o ⟨F,⟨h1,_⟩ | ⟨_,v,xs,g,rfl,j,P,u⟩⟩
 ·rw [G] at h1;exact absurd rfl h1
 ·have b:xs.length=T.nodes.length:=by rw [← j,bW]
  have h:∀ x ∈ xs,x.1.kids.length≤1000000:=fun x m=>t.kids x.1 (by rw [← j];exact List.mem_map_of_mem m)
  obtain⟨A,B,c,d,hv,D⟩:=u.tAt h;obtain⟨⟨nv,iv,q,a,y,_,_⟩,_⟩:=u;rw [hv] at a
  injection a with h1
  injection h1 with h2
  injection h2 with i _
  rw [← i] at y
  have N:xs.length≤c:=by
   rcases y.2 with ⟨r,K⟩ | ⟨M,cap,C,r,_,_,h3,_⟩
   ·omega
   ·injection r with _ _ L
    omega
  exact⟨F,A,B,c,d,xs,by rw [hv,b],j,b,by omega,D⟩
end
section
open Go.RowKit Mist
def sM (T:Tr)(X E:Int)(w:World)(e:Ending)(w':World):Prop :=
 Below w.heap.size w w'∧∃ (A B:Option Addr) (c d:Nat) (xs:List NV),e=.returned (.tuple #[.agg #[.slice A xs.length c,.slice B T.items.length d],.int .i64 X,.int .i64 E])∧aj xs=T.nodes∧lJ w' A B xs T.items
end
set_option linter.all false
section
open Go.RowKit Mist
attribute [local go_sem] au aN aV aM aG
def oo (T:Tr)(X E:Int):Bs × Int × Int:=if E ≠ 0 then ([],X,E) else ((yw T).1,0,((yw T).2:Nat))
def Parsed (T:Tr)(X E:Int):Prop:=E ≠ 0∨E=0∧X=0∧eP T=0∧ED T.nodes
theorem IE {T:Tr}{xs:List NV}(h:aj xs=T.nodes):T=⟨aj xs,T.items⟩:=by cases T;simp at h;rw [h]
theorem V5 {W:World}{s:Bs}{T:Tr}{X E:Int}(q:∀ w,Env w→Calls Tryz.prog 18 #[.string (aU s)] w (sM T X E w))(R:Parsed T X E)(K:Env W)(S:Pow W) :
  Calls Tryz.prog 17 #[.string (aU s)] W fun e W'=>e=.returned (.tuple #[.string (aU (oo T X E).1),.int .i64 (oo T X E).2.1,.int .i64 (oo T X E).2.2])∧Below W.heap.size W W':=by
 have V:=O (q W K);have U:=O K;have Z:=O S;have Y:=O R;clear q K S R;go_in
 go_wp2_with fail;refine V.o.mono ?_;rintro e w1⟨a,A,B,c,d,xs,rfl,l,J⟩;have u:=O J;have r:=O a;have Q:=O (aZ.new w1 25 #[.slice A xs.length c,.slice B T.items.length d]);have t:=O (a.alloc a.size (.cells #[.slice A xs.length c,.slice B T.items.length d] 25));have N:=O ((Below.refl w1.heap.size w1).alloc (aiv _) (.cells #[.slice A xs.length c,.slice B T.items.length d] 25));have F:=O (IE l);obtain⟨g,b⟩:∃ g,g=T.items:=⟨_,rfl⟩;obtain⟨n,C⟩:∃ n,n=xs.length:=⟨_,rfl⟩;obtain⟨m,y⟩:∃ m,m=g.length:=⟨_,rfl⟩;rw [← b] at F u Q t N ⊢
 rw [← C,← y] at Q t N ⊢
 by_cases h0:E=0
 ·have L:oo T X E=((yw T).1,0,(((yw T).2:Nat):Int)):=by unfold oo;rw [if_neg (by simp [h0])]
  have M:X=0∧eP T=0∧ED T.nodes:=by rcases Y.o with h | h;exact absurd h0 h;exact h.2
  have f:=M.2;rw [F.o] at f
  have KX:MX w1 A B xs g:=⟨u.o,f.2,U.o.below r.o,Z.o.on r.o⟩;have D:=KX.wx f.1;have i:=O D;have HX0:=O M.1;have HN:=O C;have HM:=O y;obtain⟨P,q⟩:∃ P,P=yw T:=⟨_,rfl⟩;have j:=q;rw [F.o] at j
  have k:=TI (c:=c) (d:=d) (i.o.1.below N.o) rfl i.o.2.2 (by have:=i.o.2.1;omega);rw [← C,← y,← j] at k
  rw [← q] at L
  have I:=O L;have H:=O k;subst h0;clear a l J b C y L M f KX D k q j F;go_wp2_with fail;refine H.o.mono ?_;rintro e w3⟨rfl,x⟩;have G:=O (t.o.trans (x.mono t.o.size));clear x;go_wp2_with fail;go_ret3
  exact⟨by rw [I.o];rfl,G.o⟩
 ·have I:=O (show oo T X E=([],X,E) from by unfold oo;rw [if_pos h0]);have z:(E != 0)=true:=by simpa using h0
  clear a l J b C y h0;go_wp2_with fail;go_ret3
  exact⟨by rw [I.o];rfl,t.o⟩
end
