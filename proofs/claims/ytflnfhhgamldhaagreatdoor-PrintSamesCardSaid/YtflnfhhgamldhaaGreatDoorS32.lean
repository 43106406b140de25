/-
  A part of the proof.
-/
import Derived.Test.YtflnfhhgamldhaaGreatDoorS31
set_option linter.all false
set_option maxRecDepth 100000
set_option maxHeartbeats 2000000
namespace Go.Proofs.YtflnfhhgamldhaaGreatDoor
section
open Go.RowKit Mist
attribute [local go_sem] ah aM aV au ak
theorem QS.lI {g:Nat}{tv:Value}{l:List Tok}{iv:Value}{w:World}{s:RS}{xs:List NV}{nv:Value}(h:QS g tv l iv w s xs nv){b:Nat}{cs:Array Value}(d:bf w b 50 cs)(a:g < b)(f:some b ≠ nv.ownBlock)(i:Nat)(u:Value):QS g tv l iv (w.setCell ⟨b,i,none⟩ u) s xs nv :=
 ⟨h.blk.far (p:=⟨b,i,none⟩) (Nat.ne_of_lt a) u,ownsRow_setCell_other h.own (fun e=>f e.symm) u,fun x c=>ownsRow_setCell_other (h.kids x c) (bD (h.kids x c) d (by decide)) u,h.toks.below (eF (Below.refl _ _) (ak1 a)),h.ns,h.le⟩
theorem dD.below {w a:World}{v:Value}{ks:List Int}(h:dD w v ks)(b:Below w.heap.size w a):dD a v ks:=own_below h b
theorem dD.alloc {w:World}{v:Value}{ks:List Int}(h:dD w v ks)(o:Obj):dD (w.alloc o) v ks:=World.ownsRow.alloc h o
theorem dD.vP {w:World}{v:Value}{ks:List Int}(h:dD w v ks){b:Nat}{cs:Array Value}(a:bf w b 50 cs)(i:Nat)(u:Value):dD (w.setCell ⟨b,i,none⟩ u) v ks:=ownsRow_setCell_other h (bD h a (by decide)) u
theorem QS.xR {g:Nat}{tv:Value}{l:List Tok}{iv:Value}{w:World}{s:RS}{xs:List NV}{nv:Value}(d:QS g tv l iv w s xs nv){b:Nat}{T:TypeId}{cs:Array Value}(a:bf w b T cs)(c:g < b):bf (w.setCell ⟨g,1,none⟩ (.int .i64 ((s.k:Int)+1))) b T cs:=a.far (p:=⟨g,1,none⟩) (Nat.ne_of_gt c) _
theorem QS.D_ {g:Nat}{tv:Value}{l:List Tok}{iv:Value}{w:World}{s:RS}{xs:List NV}{nv:Value}(c:QS g tv l iv w s xs nv)(ks:List Int)(k:Nat)(a:w.heap.size=k)(b:ks.length≤1000:=by first|(simp;done)|(simp;omega)):dD (w.alloc (.cells (intCells ks).toArray 3)) (.slice (some ⟨k,0,none⟩) ks.length ks.length) ks:=by
 subst a;exact ku w ks b
theorem bf.upd {w:World}{b:Nat}{T:TypeId}{cs cs':Array Value}(h:bf w b T cs)(i:Nat)(v:Value)(e:cs.setIfInBounds i v=cs'):bf (w.setCell ⟨b,i,none⟩ v) b T cs':=e ▸ h.g_ i v
theorem ag9 (l:List Tok)(B:l.length≤1000)(hT:∀ t ∈ l,t.text.length≤100000000)(n:Nat)(C:QC 118 l n .typ):QC 118 l (n+1) .typ:=by
 intro g tv iv w s xs nv qs s' D hn h;have H:=O h;have X:=O (Mw.refl (g:=g) (w:=w) (xs:=xs) (nv:=nv));have hle:=h.le;clear h;rw [bH] at D
 by_cases P:s.next l=[105,110,116]
 ·rw [if_pos P] at D
  obtain⟨rfl,rfl⟩:=bG D;have hb3:s.ns.length≤100000:=by simp only [RS.put,RS.dU,ak5,ak_] at hn;omega
  have Q:=(dM (l:=l) (s:=s) (by rw [P];simp)).2;have e0:(s.next l == [105,110,116])=true:=by rw [P];rfl
  clear D P;go_enter Tryz.func118,Tryz.ntmps118
  go_wp2_with fail;refine (dh g tv l iv _ _ _ _ H.o B).mono ?_;rintro e w1⟨rfl,f⟩;have r:=O (H.o.below f);have G:=O (X.o.aU f);clear f H X;have d:=O (bf.new w1 50 #[.int .u8 0,.string (aH []),.int .i64 0,.slice none 0 0,.int .i64 (s.place l)]);have q:g < w1.heap.size:=r.o.lt;have j:some w1.heap.size ≠ nv.ownBlock:=fun e=>by have:=r.o.iU _ e.symm;omega
  have S:w.heap.size≤w1.heap.size:=G.o.size;have E:=O (r.o.alloc (.cells #[.int .u8 0,.string (aH []),.int .i64 0,.slice none 0 0,.int .i64 (s.place l)] 50));have K:=O (G.o.dK (o:=.cells #[.int .u8 0,.string (aH []),.int .i64 0,.slice none 0 0,.int .i64 (s.place l)] 50));clear r G;go_wp2_with fail;refine (aX g tv l iv _ _ _ _ E.o B).mono ?_;rintro e w3⟨rfl,f⟩;have y:=O (E.o.below f);have L:=O (K.o.aU f)
  replace d:=O (d.o.below f d.o.lt)
  clear f E K;have n1:¬ w1.heap.size=g:=Nat.ne_of_gt q;have n2:¬ g=w1.heap.size:=Nat.ne_of_lt q;have z0:=d.o.frozen 0;have U:=d.o.cell 0;have b1:=d.o.cell 1;have b2:=d.o.cell 2;have V:=d.o.cell 3;have Z:=d.o.cell 4;have hk4:=Q;have c1:=y.o.blk.cell 1;have f1:=y.o.blk.frozen 1;have A:=O (y.o.dU hk4);have M:=O (L.o.jU y.o.sP)
  replace d:=O (y.o.xR d.o q)
  clear y L;have F:=O (A.o.lI d.o q j 0 (.int .u8 30));have N:=O (M.o.jV (i:=0) (u:=.int .u8 30) S)
  replace d:=O (d.o.upd 0 (.int .u8 30) (cs':=#[.int .u8 30,.string (aH []),.int .i64 0,.slice none 0 0,.int .i64 (s.place l)]) rfl)
  clear A M;go_wp2_with fail;refine (dZ g tv l iv _ _ _ _ 30 _ [] 0 _ [] F.o (dD.none_ _) (by show s.ns.length≤1000000;omega)).mono ?_;rintro e w6⟨rfl,nv6,h,m⟩;have I:=O h;have R:=O (N.o.gy I.o m kS);have k:=m.ne d.o.lt j
  replace d:=O (m.blk d.o (Nat.ne_of_gt q) j)
  clear j;have j:=k;clear k;clear h m F N;clear U b1 b2 V Z z0;clear c1 f1;go_wp2_with fail;go_ret;exact⟨rfl,_,_,I.o,R.o⟩
 rw [if_neg P] at D
 by_cases c1:s.next l=[98,111,111,108]
 ·rw [if_pos c1] at D
  obtain⟨rfl,rfl⟩:=bG D;have hb3:s.ns.length≤100000:=by simp only [RS.put,RS.dU,ak5,ak_] at hn;omega
  have Q:=(dM (l:=l) (s:=s) (by rw [c1];simp)).2;have e0:(s.next l == [105,110,116])=false:=by simpa using P
  have e1:(s.next l == [98,111,111,108])=true:=by rw [c1];rfl
  clear D P c1;go_enter Tryz.func118,Tryz.ntmps118
  go_wp2_with fail;refine (dh g tv l iv _ _ _ _ H.o B).mono ?_;rintro e w1⟨rfl,f⟩;have r:=O (H.o.below f);have G:=O (X.o.aU f);clear f H X;have d:=O (bf.new w1 50 #[.int .u8 0,.string (aH []),.int .i64 0,.slice none 0 0,.int .i64 (s.place l)]);have q:g < w1.heap.size:=r.o.lt;have j:some w1.heap.size ≠ nv.ownBlock:=fun e=>by have:=r.o.iU _ e.symm;omega
  have S:w.heap.size≤w1.heap.size:=G.o.size;have E:=O (r.o.alloc (.cells #[.int .u8 0,.string (aH []),.int .i64 0,.slice none 0 0,.int .i64 (s.place l)] 50));have K:=O (G.o.dK (o:=.cells #[.int .u8 0,.string (aH []),.int .i64 0,.slice none 0 0,.int .i64 (s.place l)] 50));clear r G;go_wp2_with fail;refine (aX g tv l iv _ _ _ _ E.o B).mono ?_;rintro e w3⟨rfl,f⟩;have y:=O (E.o.below f);have L:=O (K.o.aU f)
  replace d:=O (d.o.below f d.o.lt)
  clear f E K;go_wp2_with fail;refine (aX g tv l iv _ _ _ _ y.o B).mono ?_;rintro e w4⟨rfl,f⟩;have A:=O (y.o.below f);have M:=O (L.o.aU f)
  replace d:=O (d.o.below f d.o.lt)
  clear f y L;have n1:¬ w1.heap.size=g:=Nat.ne_of_gt q;have n2:¬ g=w1.heap.size:=Nat.ne_of_lt q;have z0:=d.o.frozen 0;have U:=d.o.cell 0;have b1:=d.o.cell 1;have b2:=d.o.cell 2;have V:=d.o.cell 3;have Z:=d.o.cell 4;have hk5:=Q;have c1:=A.o.blk.cell 1;have f1:=A.o.blk.frozen 1;have F:=O (A.o.dU hk5);have N:=O (M.o.jU A.o.sP)
  replace d:=O (A.o.xR d.o q)
  clear A M;have I:=O (F.o.lI d.o q j 0 (.int .u8 31));have R:=O (N.o.jV (i:=0) (u:=.int .u8 31) S)
  replace d:=O (d.o.upd 0 (.int .u8 31) (cs':=#[.int .u8 31,.string (aH []),.int .i64 0,.slice none 0 0,.int .i64 (s.place l)]) rfl)
  clear F N;go_wp2_with fail;refine (dZ g tv l iv _ _ _ _ 31 _ [] 0 _ [] I.o (dD.none_ _) (by show s.ns.length≤1000000;omega)).mono ?_;rintro e T⟨rfl,nv7,h,m⟩;have W:=O h;have Y:=O (R.o.gy W.o m kS);have k:=m.ne d.o.lt j
  replace d:=O (m.blk d.o (Nat.ne_of_gt q) j)
  clear j;have j:=k;clear k;clear h m I R;clear U b1 b2 V Z z0;clear c1 f1;go_wp2_with fail;go_ret;exact⟨rfl,_,_,W.o,Y.o⟩
 rw [if_neg c1] at D
 by_cases c2:s.next l=[91]
 ·rw [if_pos c2] at D
  obtain⟨a,t1,r1,D⟩:=aN D;obtain⟨rfl,rfl⟩:=bG D;have hb3:(((t1.take l [59]).word l 2).2.take l [93]).ns.length≤100000:=by simp only [RS.put,ak5,ak_] at hn;omega
  have hb1:=((((To.refl (s:=t1)).take (l:=l) (x:=[59]) (by simp)).word (c:=2) (by simp)).take (x:=[93]) (by simp)).few;have Q:=(dM (l:=l) (s:=s) (by rw [c2];simp)).2;have e0:(s.next l == [105,110,116])=false:=by simpa using P
  have e1:(s.next l == [98,111,111,108])=false:=by simpa using c1
  have e2:(s.next l == [91])=true:=by rw [c2];rfl
  have HR1:=O r1;clear D r1 P c1 c2;go_enter Tryz.func118,Tryz.ntmps118
  go_wp2_with fail;refine (dh g tv l iv _ _ _ _ H.o B).mono ?_;rintro e w1⟨rfl,f⟩;have r:=O (H.o.below f);have G:=O (X.o.aU f);clear f H X;have d:=O (bf.new w1 50 #[.int .u8 0,.string (aH []),.int .i64 0,.slice none 0 0,.int .i64 (s.place l)]);have q:g < w1.heap.size:=r.o.lt;have j:some w1.heap.size ≠ nv.ownBlock:=fun e=>by have:=r.o.iU _ e.symm;omega
  have S:w.heap.size≤w1.heap.size:=G.o.size;have E:=O (r.o.alloc (.cells #[.int .u8 0,.string (aH []),.int .i64 0,.slice none 0 0,.int .i64 (s.place l)] 50));have K:=O (G.o.dK (o:=.cells #[.int .u8 0,.string (aH []),.int .i64 0,.slice none 0 0,.int .i64 (s.place l)] 50));clear r G;go_wp2_with fail;refine (aX g tv l iv _ _ _ _ E.o B).mono ?_;rintro e w3⟨rfl,f⟩;have y:=O (E.o.below f);have L:=O (K.o.aU f)
  replace d:=O (d.o.below f d.o.lt)
  clear f E K;go_wp2_with fail;refine (aX g tv l iv _ _ _ _ y.o B).mono ?_;rintro e w4⟨rfl,f⟩;have A:=O (y.o.below f);have M:=O (L.o.aU f)
  replace d:=O (d.o.below f d.o.lt)
  clear f y L;go_wp2_with fail;refine (aX g tv l iv _ _ _ _ A.o B).mono ?_;rintro e w5⟨rfl,f⟩;have F:=O (A.o.below f);have N:=O (M.o.aU f)
  replace d:=O (d.o.below f d.o.lt)
  clear f A M;have hk6:=Q;have c1:=F.o.blk.cell 1;have f1:=F.o.blk.frozen 1;have I:=O (F.o.dU hk6);have R:=O (N.o.jU F.o.sP)
  replace d:=O (F.o.xR d.o q)
  clear F N;go_wp2_with fail;clear c1 f1;go_wp2_with fail;refine (C g tv iv _ _ _ _ _ _ HR1.o (by omega) I.o).mono ?_;rintro e T⟨rfl,xs7,nv7,h,m⟩;have W:=O h;have Y:=O (R.o.trans m);have k:=m.ne d.o.lt j
  replace d:=O (m.blk d.o (Nat.ne_of_gt q) j)
  clear j;have j:=k;clear k;clear h m I R;have n1:¬ T.heap.size=w1.heap.size:=Nat.ne_of_gt d.o.lt;have n2:¬ w1.heap.size=T.heap.size:=Nat.ne_of_lt d.o.lt;have hz:=d.o.lt;have z0:=d.o.frozen 0;have z3:=d.o.frozen 3;have U:=d.o.cell 0;have V:=d.o.cell 3;have H8:=O (W.o.lI d.o q j 0 (.int .u8 33));have M8:=O (Y.o.jV (i:=0) (u:=.int .u8 33) S)
  replace d:=O (d.o.upd 0 (.int .u8 33) (cs':=#[.int .u8 33,.string (aH []),.int .i64 0,.slice none 0 0,.int .i64 (s.place l)]) rfl)
  clear W Y;have H9:=O (H8.o.lI d.o q j 3 (.slice (some ⟨T.heap.size,0,none⟩) 1 1));have M9:=O (M8.o.jV (i:=3) (u:=.slice (some ⟨T.heap.size,0,none⟩) 1 1) S)
  replace d:=O (d.o.upd 3 (.slice (some ⟨T.heap.size,0,none⟩) 1 1) (cs':=#[.int .u8 33,.string (aH []),.int .i64 0,.slice (some ⟨T.heap.size,0,none⟩) 1 1,.int .i64 (s.place l)]) rfl)
  clear H8 M8;have J:=O (H9.o.D_ [hd a] T.heap.size (by simp));have Yr:∀ b,(Value.slice (some ⟨T.heap.size,0,none⟩) ([hd a]:List Int).length ([hd a]:List Int).length).ownBlock=some b→w.heap.size≤b:=lZ (by have h9:=M9.o.size;simpa using h9)
  replace d:=O (d.o.alloc (.cells (intCells [hd a]).toArray 3))
  have zx:=O (H9.o.alloc (.cells (intCells [hd a]).toArray 3));have Cm:=O (M9.o.dK (o:=(.cells (intCells [hd a]).toArray 3)));clear H9 M9;go_wp2_with fail;refine (eT g tv l iv _ _ _ _ [59] (by simp) zx.o B).mono ?_;rintro e AX⟨rfl,h,m⟩;have kF:=O h;have M11:=O (Cm.o.jU m);have k:=m.ne d.o.lt j
  replace d:=O (m.blk d.o (Nat.ne_of_gt q) j)
  clear j;have j:=k;clear k
  replace J:=O (zx.o.kZ m J.o)
  clear h m zx Cm;clear U V z0 z3;clear n1 n2 hz;go_wp2_with fail;refine (m_ g tv l iv _ _ _ _ hT kF.o B).mono ?_;rintro e tC⟨rfl,h,m⟩;have lG:=O h;have pJ:=O (M11.o.jU m);have k:=m.ne d.o.lt j
  replace d:=O (m.blk d.o (Nat.ne_of_gt q) j)
  clear j;have j:=k;clear k
  replace J:=O (kF.o.kZ m J.o)
  clear h m kF M11;have z2:=d.o.frozen 2;have b2:=d.o.cell 2;have vV:=O (lG.o.lI d.o q j 2 (.int .i64 (kH ((t1.take l [59]).word l 2).1)));have Dn:=O (pJ.o.jV (i:=2) (u:=.int .i64 (kH ((t1.take l [59]).word l 2).1)) S)
  replace J:=O (dD.vP J.o d.o 2 (.int .i64 (kH ((t1.take l [59]).word l 2).1)))
  replace d:=O (d.o.upd 2 (.int .i64 (kH ((t1.take l [59]).word l 2).1)) (cs':=#[.int .u8 33,.string (aH []),.int .i64 (kH ((t1.take l [59]).word l 2).1),.slice (some ⟨T.heap.size,0,none⟩) 1 1,.int .i64 (s.place l)]) rfl)
  clear lG pJ;go_wp2_with fail;refine (eT g tv l iv _ _ _ _ [93] (by simp) vV.o B).mono ?_;rintro e Rm⟨rfl,h,m⟩;have Iz:=O h;have Oc:=O (Dn.o.jU m);have k:=m.ne d.o.lt j
  replace d:=O (m.blk d.o (Nat.ne_of_gt q) j)
  clear j;have j:=k;clear k
  replace J:=O (vV.o.kZ m J.o)
  clear h m vV Dn;clear b2 z2;have U:=d.o.cell 0;have b1:=d.o.cell 1;have b2:=d.o.cell 2;have V:=d.o.cell 3;have Z:=d.o.cell 4;go_wp2_with fail;refine (dZ g tv l iv _ _ _ _ 33 _ [] _ _ [hd a] Iz.o J.o (by omega)).mono ?_;rintro e Gm⟨rfl,aah,h,m⟩;have WI:=O h;have M15:=O (Oc.o.gy WI.o m Yr);have k:=m.ne d.o.lt j
  replace d:=O (m.blk d.o (Nat.ne_of_gt q) j)
  clear j;have j:=k;clear k
  replace J:=O (Iz.o.kZ m J.o)
  clear h m Iz Oc;clear U b1 b2 V Z;go_wp2_with fail;go_ret;exact⟨rfl,_,_,WI.o,M15.o⟩
 rw [if_neg c2] at D
 obtain⟨rfl,rfl⟩:=bG D;have hb3:(s.word l 1).2.ns.length≤100000:=by simp only [RS.put,ak5,ak_] at hn;omega
 have e0:(s.next l == [105,110,116])=false:=by simpa using P
 have e1:(s.next l == [98,111,111,108])=false:=by simpa using c1
 have e2:(s.next l == [91])=false:=by simpa using c2
 clear D P c1 c2;go_enter Tryz.func118,Tryz.ntmps118
 go_wp2_with fail;refine (dh g tv l iv _ _ _ _ H.o B).mono ?_;rintro e w1⟨rfl,f⟩;have r:=O (H.o.below f);have G:=O (X.o.aU f);clear f H X;have d:=O (bf.new w1 50 #[.int .u8 0,.string (aH []),.int .i64 0,.slice none 0 0,.int .i64 (s.place l)]);have q:g < w1.heap.size:=r.o.lt;have j:some w1.heap.size ≠ nv.ownBlock:=fun e=>by have:=r.o.iU _ e.symm;omega
 have S:w.heap.size≤w1.heap.size:=G.o.size;have E:=O (r.o.alloc (.cells #[.int .u8 0,.string (aH []),.int .i64 0,.slice none 0 0,.int .i64 (s.place l)] 50));have K:=O (G.o.dK (o:=.cells #[.int .u8 0,.string (aH []),.int .i64 0,.slice none 0 0,.int .i64 (s.place l)] 50));clear r G;go_wp2_with fail;refine (aX g tv l iv _ _ _ _ E.o B).mono ?_;rintro e w3⟨rfl,f⟩;have y:=O (E.o.below f);have L:=O (K.o.aU f)
 replace d:=O (d.o.below f d.o.lt)
 clear f E K;go_wp2_with fail;refine (aX g tv l iv _ _ _ _ y.o B).mono ?_;rintro e w4⟨rfl,f⟩;have A:=O (y.o.below f);have M:=O (L.o.aU f)
 replace d:=O (d.o.below f d.o.lt)
 clear f y L;go_wp2_with fail;refine (aX g tv l iv _ _ _ _ A.o B).mono ?_;rintro e w5⟨rfl,f⟩;have F:=O (A.o.below f);have N:=O (M.o.aU f)
 replace d:=O (d.o.below f d.o.lt)
 clear f A M;go_wp2_with fail;refine (iF g tv l iv _ _ _ _ 1 (by simp) (by simp) F.o B).mono ?_;rintro e w6⟨rfl,h,m⟩;have I:=O h;have R:=O (N.o.jU m);have k:=m.ne d.o.lt j
 replace d:=O (m.blk d.o (Nat.ne_of_gt q) j)
 clear j;have j:=k;clear k;clear h m F N;have z0:=d.o.frozen 0;have z1:=d.o.frozen 1;have U:=d.o.cell 0;have b1:=d.o.cell 1;have b2:=d.o.cell 2;have V:=d.o.cell 3;have Z:=d.o.cell 4;have W:=O (I.o.lI d.o q j 0 (.int .u8 32));have Y:=O (R.o.jV (i:=0) (u:=.int .u8 32) S)
 replace d:=O (d.o.upd 0 (.int .u8 32) (cs':=#[.int .u8 32,.string (aH []),.int .i64 0,.slice none 0 0,.int .i64 (s.place l)]) rfl)
 clear I R;have H8:=O (W.o.lI d.o q j 1 (.string (aH (s.word l 1).1)));have M8:=O (Y.o.jV (i:=1) (u:=.string (aH (s.word l 1).1)) S)
 replace d:=O (d.o.upd 1 (.string (aH (s.word l 1).1)) (cs':=#[.int .u8 32,.string (aH (s.word l 1).1),.int .i64 0,.slice none 0 0,.int .i64 (s.place l)]) rfl)
 clear W Y;go_wp2_with fail;refine (dZ g tv l iv _ _ _ _ 32 _ _ 0 _ [] H8.o (dD.none_ _) (by omega)).mono ?_;rintro e w9⟨rfl,nv9,h,m⟩;have H9:=O h;have M9:=O (M8.o.gy H9.o m kS);have k:=m.ne d.o.lt j
 replace d:=O (m.blk d.o (Nat.ne_of_gt q) j)
 clear j;have j:=k;clear k;clear h m H8 M8;clear U b1 b2 V Z z0 z1;go_wp2_with fail;go_ret;exact⟨rfl,_,_,H9.o,M9.o⟩
end
section
open Go.RowKit Mist
structure LR (w0 w:World) (xs:List NV) (v:Value) (ks:List Int):Prop where
 row:dD w v ks
 lo:∀ b,v.ownBlock=some b→w0.heap.size≤b
 far:∀ x ∈ xs,x.2.ownBlock=none∨x.2.ownBlock ≠ v.ownBlock
section
variable {g:Nat} {tv:Value} {l:List Tok} {iv:Value} {w0 w w1:World} {s:RS} {xs xs1:List NV} {nv gT:Value} {v:Value} {ks:List Int}
theorem dD.lt (h:dD w v ks):∀ b,v.ownBlock=some b→b < w.heap.size:=fun b a=>(World.ownsRow.lt h b a).2
theorem LR.below (h:LR w0 w xs v ks)(a:Below w.heap.size w w1):LR w0 w1 xs v ks:=⟨dD.below h.row a,h.lo,h.far⟩
theorem LR.alloc (h:LR w0 w xs v ks)(o:Obj):LR w0 (w.alloc o) xs v ks:=⟨dD.alloc h.row o,h.lo,h.far⟩
theorem LR.mv (h:LR w0 w xs v ks)(q:QS g tv l iv w s xs nv)(m:Mv g nv.ownBlock w gT.ownBlock w1):LR w0 w1 xs v ks:=⟨q.kZ m h.row,h.lo,h.far⟩
theorem LR.mw (h:LR w0 w xs v ks)(q:QS g tv l iv w s xs nv)(m:Mw g w xs nv w1 xs1 gT):LR w0 w1 xs1 v ks:=by
 refine⟨q.kZ m.mv h.row,h.lo,fun x a=>?_⟩
 obtain⟨c,rfl,hy⟩:=m.new;rcases List.mem_append.1 a with a | a
 ·exact h.far x a
 ·rcases h9:x.2.ownBlock with _ | b
  ·exact .inl rfl
  ·right
   intro e;have h1:=hy x a b h9;have h2:=dD.lt h.row b e.symm;omega
theorem LR.put (h:LR w0 w xs v ks)(q:QS g tv l iv w s xs nv){x:NV}{c:RS}(a:QS g tv l iv w1 c (xs ++ [x]) gT)(m:Mv g nv.ownBlock w gT.ownBlock w1)(b:x.2.ownBlock=none∨x.2.ownBlock ≠ v.ownBlock):LR w0 w1 (xs ++ [x]) v ks:=by
 refine⟨q.kZ m h.row,h.lo,fun y hy=>?_⟩
 rcases List.mem_append.1 hy with hy | hy
 ·exact h.far y hy
 ·rw [List.mem_singleton.1 hy];exact b
theorem LR.vP (h:LR w0 w xs v ks){b:Nat}{cs:Array Value}(a:bf w b 50 cs)(i:Nat)(u:Value):LR w0 (w.setCell ⟨b,i,none⟩ u) xs v ks:=⟨dD.vP h.row a i u,h.lo,h.far⟩
theorem LR.nil (w0 w:World)(xs:List NV):LR w0 w xs (.slice none 0 0) []:=⟨dD.none_ _,fun b a=>by simp [Value.ownBlock] at a,fun x c=>by
 rcases h9:x.2.ownBlock with _ | b
 ·exact .inl rfl
 ·right;simp [Value.ownBlock]⟩
theorem LR.made (q:QS g tv l iv w s xs nv){k n c:Nat}(f:w.heap.size=k)(h0:w0.heap.size≤k)(h:dD (w.alloc (.cells (intCells ks).toArray 3)) (.slice (some ⟨k,0,none⟩) n c) ks):LR w0 (w.alloc (.cells (intCells ks).toArray 3)) xs (.slice (some ⟨k,0,none⟩) n c) ks:=by
 refine⟨h,fun b a=>by simp [Value.ownBlock] at a;omega,fun x d=>?_⟩
 rcases h9:x.2.ownBlock with _ | b
 ·exact .inl rfl
 ·right
  intro e;have h1:=dD.lt (q.kids x d) b h9;simp [Value.ownBlock] at e
  omega
theorem LR.empty (q:QS g tv l iv w s xs nv){k:Nat}(a:w.heap.size=k)(h0:w0.heap.size≤k):LR w0 (w.alloc (.cells #[] 3)) xs (.slice (some ⟨k,0,none⟩) 0 0) []:=by
 subst a;exact LR.made (ks:=[]) (n:=0) (c:=0) q rfl h0 (World.ownsRow_lit (base:=0) (e:=3) (size:=1) w #[] 0 (ak2 _) (by simp [maxLen]) rfl)
theorem LR.apart (h:LR w0 w xs v ks){k n c:Nat}(a:w.heap.size≤k):(Value.slice (some ⟨k,0,none⟩) n c).ownBlock=none∨(Value.slice (some ⟨k,0,none⟩) n c).ownBlock ≠ v.ownBlock:=by
 right
 intro e
 have:=dD.lt h.row k (by rw [← e];rfl)
 omega
theorem LR.grow (h:LR w0 w xs v ks){a cap:Nat}{k:Int}(q:QS g tv l iv w s xs nv)(d:w1.ownsRow 0 3 1 (.slice (some ⟨a,0,none⟩) (ks.length+1) cap) (ks.length+1) (intCells ks ++ [.int .i64 k]))(c:v.ownBlock=some a∨a=w.heap.size)(h0:w0.heap.size≤w.heap.size):LR w0 w1 xs (.slice (some ⟨a,0,none⟩) (ks.length+1) cap) (ks ++ [k]):=by
 refine⟨?_,fun b f=>?_,fun x i=>?_⟩
 ·unfold dD;rw [ak5,fU];exact d
 ·have f:a=b:=by simpa [Value.ownBlock] using f
  subst f;rcases c with e | e
  ·exact h.lo _ e
  ·omega
 ·rcases c with e | e
  ·have:=h.far x i
   rw [e] at this
   simpa [Value.ownBlock] using this
  ·rcases h9:x.2.ownBlock with _ | b
   ·exact .inl rfl
   ·right
    intro j;have h1:=dD.lt (q.kids x i) b h9;simp [Value.ownBlock] at j
    omega
theorem QS.grow (q:QS g tv l iv w s xs nv)(h:LR w0 w xs v ks)(a:w.grownBy w1 v.ownBlock)(h0:∀ b,v.ownBlock=some b→g≤b):QS g tv l iv w1 s xs nv :=
 ⟨q.blk.grown a (fun e=>bD h.row q.blk (by decide) e.symm),q.own.kept a (eY q.own h.row (by decide)),fun x c=>World.ownsRow.kept (q.kids x c) a (h.far x c),q.toks.below ((Below.refl _ _).grown a (ak1 q.lt) h0),q.ns,q.le⟩
theorem Mw.grow (m:Mw g w0 xs nv w xs1 gT)(h:LR w0 w xs1 v ks)(a:w.grownBy w1 v.ownBlock):Mw g w0 xs nv w1 xs1 gT :=
 ⟨⟨a.os.trans m.mv.os,a.tape.trans m.mv.tape,a.output.trans m.mv.output,Nat.le_trans m.size a.size,fun b d c f=>(a.block b (alb d m.size) (fun e=>by have:=h.lo b e.symm;omega)).trans (m.mv.block b d c f),m.mv.tgt⟩,m.new⟩
theorem LR.blk (h:LR w0 w xs v ks){b:Nat}{cs:Array Value}(a:bf w b 50 cs)(c:w.grownBy w1 v.ownBlock):bf w1 b 50 cs:=a.grown c (fun e=>bD h.row a (by decide) e.symm)
end
end
section
open Go.RowKit Mist
attribute [local go_sem] ah aM aV au ak
def QL (F:Nat)(l:List Tok)(n:Nat)(j:Job):Prop :=
 ∀ (g:Nat) (tv iv:Value) (w:World) (s:RS) (xs:List NV) (nv:Value) (qs:List Int) (s':RS),bH l n j s=some (qs,s')→s'.ns.length≤100000→QS g tv l iv w s xs nv →
  Calls Tryz.prog F #[.pointer (some ⟨g,0,none⟩)] w fun e w'=>∃ A c xs' gB,e=.returned (.slice A qs.length c)∧LR w w' xs' (.slice A qs.length c) qs∧QS g tv l iv w' s' xs' gB∧Mw g w xs nv w' xs' gB
theorem LR.base {w0 w1 w:World}{xs:List NV}{v:Value}{ks:List Int}(h:LR w1 w xs v ks)(a:w0.heap.size≤w1.heap.size):LR w0 w xs v ks:=⟨h.row,fun b c=>Nat.le_trans a (h.lo b c),h.far⟩
theorem acX (l:List Tok)(hl:l.length≤1000)(n:Nat)(C:∀ m,m≤n→QC 120 l m .expr):QL 220 l (n+1) (.list .expr):=by
 intro g tv iv w s xs nv qs s' d hn h;have i:=O h;have y:=O (Mw.refl (g:=g) (w:=w) (xs:=xs) (nv:=nv));have hle:=h.le;clear h;have S:=i.o.lt;obtain⟨j0,T,W,X,Y⟩:=info_parts kR;rw [bH] at d
 obtain⟨J,t1,r1,d⟩:=aN d;have hb1:=(bQ _ _ _ _ _ d).few;have x:=O d;have AY:=O r1;clear d r1;go_enter Tryz.func220,Tryz.ntmps220
 go_wp2_with fail;refine (C n (ak0 _) g tv iv _ _ _ _ _ _ AY.o (by omega) i.o).mono ?_;rintro e w1⟨rfl,xs1,gT,h,m⟩;have K:=O h;have P:=O (y.o.trans m);clear h m i y;have I:=P.o.size;have HL:=O (LR.made (w0:=w) K.o rfl I (ku w1 [hd J]));have E:=O (K.o.alloc (.cells #[.int .i64 (hd J)] 3));have F:=O (P.o.dK (o:=.cells #[.int .i64 (hd J)] 3));go_wp2_with fail;go_loopw [3] (fun v wr=>∃ (m:Nat) (a:List Int) (A:Option Addr) (c:Nat) (t:RS) (xs1:List NV) (gT:Value),v=.slice A a.length c∧m≤n∧a.length≤t.k+1∧Hid (bH l m (.gQ .expr a) t=some (qs,s'))∧Hid (LR w wr xs1 (.slice A a.length c) a)∧Hid (QS g tv l iv wr t xs1 gT)∧Hid (Mw g w xs nv wr xs1 gT)) (fun _ wr=>WS l g wr)
 case atStart=>exact⟨n,[hd J],_,_,t1,xs1,gT,rfl,ak0 _,by simp,x,HL,E,F⟩
 case round =>
  clear x AY K P E F HL I;obtain⟨wo,rfl⟩:∃ wo:World,wo=wr:=⟨_,rfl⟩;obtain⟨m,a,A,c,t,xs1,gT,rfl,hm,hac,x,L,i,y⟩:=hrel;have HW:=i;have d:=x.o;have hle1:=i.o.le;clear x;rcases m with _ | m
  ·exact absurd d (by simp [bH])
  rw [bH] at d
  by_cases B:t.next l=[44]
  ·rw [if_pos B] at d
   obtain⟨b,t2,r2,d⟩:=aN d;have hb2:=(bQ _ _ _ _ _ d).few;have hk2:t.k+1≤t2.k:=(bQ _ _ _ _ _ r2).k;have U:=(dM (l:=l) (s:=t) (by rw [B];simp)).2;have e0:(t.next l == [44])=true:=by rw [B];rfl
   have x:=O d;have N:=O r2;clear d r2 B;go_wp2_with fail;refine (aX g tv l iv _ _ _ _ i.o hl).mono ?_;rintro e AX⟨rfl,j⟩;have r:=O (i.o.below j);have q:=O (y.o.aU j)
   replace L:=O (L.o.below j)
   clear j i y;have R:=U;have c1:=r.o.blk.cell 1;have f1:=r.o.blk.frozen 1;have Z:=O (r.o.dU R);have pJ:=O (q.o.jU r.o.sP)
   replace L:=O (L.o.mv r.o r.o.sP)
   clear r q;go_wp2_with fail;clear c1 f1;go_wp2_with fail;refine (C m (by omega) g tv iv _ _ _ _ _ _ N.o (by omega) Z.o).mono ?_;rintro e w13⟨rfl,akM,aku,h,m⟩;have vV:=O h;have Dn:=O (pJ.o.trans m)
   replace L:=O (L.o.mw Z.o m)
   clear h m Z pJ;have D:=O (L.o.alloc (.cells #[.int .i64 (hd b)] 3));have M:=O (vV.o.alloc (.cells #[.int .i64 (hd b)] 3));have Q:=O (Dn.o.dK (o:=(.cells #[.int .i64 (hd b)] 3)));have H:=Q.o.size;go_wp2_with (at_builtin;go_loud (refine wpList_append_lies _ rfl (.tmp 17) (.tmp 20) 30 rfl 0 3 j0 (.int .i64 0) 1 8 Tryz.underlying30 T W X Y rfl (by decide) _ (a).length (intCells (a)) rfl D.o.row ⟨w13.heap.size,0,none⟩ 1 1 [.int .i64 (hd b)] rfl rfl (cell_one_new _ _ _) (by simp [Value.oneCell']) (by omega) (by simp only [maxLen];omega) (by omega) (ak2 _) _ rfl ?_);intro ajZ ajk Rm u f G V;have L2:=O (D.o.grow M.o u G H);have Iz:=O (M.o.grow D.o f (fun b j=>ak1 (alb S (D.o.lo b j))));have Oc:=O (Q.o.grow D.o f);clear u f G V)
   clear D M Q H L vV Dn;exact⟨⟨m,a ++ [hd b],_,_,t2,_,_,by rw [ak5];rfl,by omega,by rw [ak5];simp;omega,x,by rw [ak5];exact L2,Iz,Oc⟩,by rw [iB Iz.o,iB HW.o];omega⟩
  rw [if_neg B] at d
  have e0:(t.next l == [44])=false:=by simpa using B
  obtain⟨rfl,rfl⟩:=dX d;clear d B;go_wp2_with fail;refine (aX g tv l iv _ _ _ _ i.o hl).mono ?_;rintro e AX⟨rfl,j⟩;have r:=O (i.o.below j);have q:=O (y.o.aU j)
  replace L:=O (L.o.below j)
  clear j i y;go_wp2_with fail;go_ret;exact⟨A,c,xs1,gT,rfl,L.o,r.o,q.o⟩
theorem aaL (l:List Tok)(hl:l.length≤1000)(hT:∀ t ∈ l,t.text.length≤100000000)(n:Nat)(C:∀ m,m < n→QC 118 l m .typ):QL 117 l n (.list .param):=by
 intro g tv iv w s xs nv qs s' D hn h;have H:=O h;have M0:=O (Mw.refl (g:=g) (w:=w) (xs:=xs) (nv:=nv));have hle:=h.le;clear h;have hg0:=H.o.lt;obtain⟨j0,hj0,hy0,hy1,hy2⟩:=info_parts kR;rcases n with _ | n
 ·exact absurd D (by simp [bH])
 rw [bH] at D
 obtain⟨a1,t1,r1,D⟩:=aN D;have N:=O D;have AY:=O r1;clear D r1;go_enter Tryz.func117,Tryz.ntmps117
 have HL:=O (LR.empty (w0:=w) H.o rfl (ak0 _));have H0A:=O (H.o.alloc (.cells #[] 3));have M0A:=O (M0.o.dK (o:=.cells #[] 3));go_wp2_with fail;go_loopw [3,4] (fun v _ wr=>∃ (m r:Nat) (j:List Int) (A:Option Addr) (c:Nat) (B:RS) (xs1:List NV) (gT:Value) (b:List Int) (t:RS),v=.slice A j.length c∧m≤n∧r≤n∧j.length≤B.k∧Hid (bH l m .param B=some (b,t))∧Hid (bH l r (.gQ .param (j ++ [hd b])) t=some (qs,s'))∧Hid (LR w wr xs1 (.slice A j.length c) j)∧Hid (QS g tv l iv wr B xs1 gT)∧Hid (Mw g w xs nv wr xs1 gT)) (fun _ _ wr=>WS l g wr)
 case atStart=>exact⟨n,n,[],_,_,s,xs,nv,a1,t1,rfl,ak0 _,ak0 _,ak2 _,AY,N,HL,H0A,M0A⟩
 case round =>
  clear N AY H M0 H0A M0A HL;obtain⟨wo,rfl⟩:∃ wo:World,wo=wr:=⟨_,rfl⟩;obtain⟨m,r,j,A,c,B,xs1,gT,b,t,rfl,hm,hrn,hac,HP,N,L,H,M0⟩:=hrel;have HW:=H;have Z:=HP.o;have hle1:=H.o.le;rcases m with _ | m
  ·exact absurd Z (by simp [bH])
  rw [bH] at Z
  obtain⟨d,I,r2,Z⟩:=aN Z;obtain⟨rfl,rfl⟩:=bG Z;have hb2:=(bQ _ _ _ _ _ N.o).few;have hb3:I.ns.length≤100000:=by simp only [RS.put,ak5,ak_] at hb2;omega
  have hk2:B.k≤I.k:=((((To.refl (s:=B)).word (c:=1) (by simp)).take (x:=[58]) (by simp)).trans (bQ _ _ _ _ _ r2)).k;have HR2:=O r2;clear r2 Z HP;go_wp2_with fail;refine (dh g tv l iv _ _ _ _ H.o hl).mono ?_;rintro e AX⟨rfl,y⟩;have kF:=O (H.o.below y);have M11:=O (M0.o.aU y)
  replace L:=O (L.o.below y)
  clear y H M0;go_wp2_with fail;refine (iF g tv l iv _ _ _ _ 1 (by simp) (by simp) kF.o hl).mono ?_;rintro e tC⟨rfl,h,m⟩;have lG:=O h;have pJ:=O (M11.o.jU m)
  replace L:=O (L.o.mv kF.o m)
  clear h m kF M11;have a:=O (bf.new tC 50 #[.int .u8 34,.string (aH (B.word l 1).1),.int .i64 0,.slice none 0 0,.int .i64 (B.place l)]);have fQ:g < tC.heap.size:=lG.o.lt;have F:some tC.heap.size ≠ gT.ownBlock:=fun e=>by have:=lG.o.iU _ e.symm;omega
  have nH:w.heap.size≤tC.heap.size:=pJ.o.size
  replace L:=O (L.o.alloc (.cells #[.int .u8 34,.string (aH (B.word l 1).1),.int .i64 0,.slice none 0 0,.int .i64 (B.place l)] 50))
  have vV:=O (lG.o.alloc (.cells #[.int .u8 34,.string (aH (B.word l 1).1),.int .i64 0,.slice none 0 0,.int .i64 (B.place l)] 50));have Dn:=O (pJ.o.dK (o:=.cells #[.int .u8 34,.string (aH (B.word l 1).1),.int .i64 0,.slice none 0 0,.int .i64 (B.place l)] 50));clear lG pJ;go_wp2_with fail;refine (eT g tv l iv _ _ _ _ [58] (by simp) vV.o hl).mono ?_;rintro e Rm⟨rfl,h,m⟩;have Iz:=O h;have Oc:=O (Dn.o.jU m);have S:=m.ne a.o.lt F
  replace a:=O (m.blk a.o (Nat.ne_of_gt fQ) F)
  clear F;have F:=S;clear S
  replace L:=O (L.o.mv vV.o m)
  clear h m vV Dn;go_wp2_with fail;refine (C m (by omega) g tv iv _ _ _ _ _ _ HR2.o hb3 Iz.o).mono ?_;rintro e G⟨rfl,akO,aah,h,m⟩;have WI:=O h;have M15:=O (Oc.o.trans m);have S:=m.ne a.o.lt F
  replace a:=O (m.blk a.o (Nat.ne_of_gt fQ) F)
  clear F;have F:=S;clear S
  replace L:=O (L.o.mw Iz.o m)
  clear h m Iz Oc;have n1:¬ G.heap.size=tC.heap.size:=Nat.ne_of_gt a.o.lt;have n2:¬ tC.heap.size=G.heap.size:=Nat.ne_of_lt a.o.lt;have hz:=a.o.lt;have z3:=a.o.frozen 3;have b0:=a.o.cell 0;have b1:=a.o.cell 1;have b2:=a.o.cell 2;have b3:=a.o.cell 3;have b4:=a.o.cell 4;have U:=O (WI.o.lI a.o fQ F 3 (.slice (some ⟨G.heap.size,0,none⟩) 1 1));have W:=O (M15.o.jV (i:=3) (u:=.slice (some ⟨G.heap.size,0,none⟩) 1 1) nH)
  replace L:=O (L.o.vP a.o 3 (.slice (some ⟨G.heap.size,0,none⟩) 1 1))
  replace a:=O (a.o.upd 3 (.slice (some ⟨G.heap.size,0,none⟩) 1 1) (cs':=#[.int .u8 34,.string (aH (B.word l 1).1),.int .i64 0,.slice (some ⟨G.heap.size,0,none⟩) 1 1,.int .i64 (B.place l)]) rfl)
  clear WI M15;have KA:=O (U.o.D_ [hd d] G.heap.size (by simp));have Yr:∀ b,(Value.slice (some ⟨G.heap.size,0,none⟩) ([hd d]:List Int).length ([hd d]:List Int).length).ownBlock=some b→w.heap.size≤b:=lZ (by have h9:=W.o.size;simpa using h9);have adZ:=L.o.apart (k:=G.heap.size) (n:=([hd d]:List Int).length) (c:=([hd d]:List Int).length) (by simp)
  replace a:=O (a.o.alloc (.cells (intCells [hd d]).toArray 3))
  replace L:=O (L.o.alloc (.cells (intCells [hd d]).toArray 3))
  have K:=O (U.o.alloc (.cells (intCells [hd d]).toArray 3));have M17:=O (W.o.dK (o:=(.cells (intCells [hd d]).toArray 3)));clear U W;go_wp2_with fail;refine (dZ g tv l iv _ _ _ _ 34 _ _ 0 _ [hd d] K.o KA.o (by omega)).mono ?_;rintro e w18⟨rfl,agS,h,m⟩;have M:=O h;have M18:=O (M17.o.gy M.o m Yr);have S:=m.ne a.o.lt F
  replace a:=O (m.blk a.o (Nat.ne_of_gt fQ) F)
  clear F;have F:=S;clear S
  replace KA:=O (K.o.kZ m KA.o)
  replace L:=O (L.o.put K.o M.o m adZ)
  clear h m K M17;clear b0 b1 b2 b3 b4 z3 n1 n2 hz;have V:=O (L.o.alloc (.cells #[.int .i64 ((I.ns.length:Int))] 3));have HA:=O (M.o.alloc (.cells #[.int .i64 ((I.ns.length:Int))] 3));have MA:=O (M18.o.dK (o:=(.cells #[.int .i64 ((I.ns.length:Int))] 3)))
  replace a:=O (a.o.alloc (.cells #[.int .i64 ((I.ns.length:Int))] 3))
  have hms:=MA.o.size;go_wp2_with (at_builtin;go_loud (refine wpList_append_lies _ rfl (.tmp 17) (.tmp 21) 30 rfl 0 3 j0 (.int .i64 0) 1 8 Tryz.underlying30 hj0 hy0 hy1 hy2 rfl (by decide) _ (j).length (intCells (j)) rfl V.o.row ⟨w18.heap.size,0,none⟩ 1 1 [.int .i64 ((I.ns.length:Int))] rfl rfl (cell_one_new _ _ _) (by simp [Value.oneCell']) (by omega) (by simp only [maxLen];omega) (by omega) (ak2 _) _ rfl ?_);intro aj0 ajl w19 T q hat hlt;have R:=O (V.o.grow HA.o T hat hms);have E:=O (HA.o.grow V.o q (fun b y=>ak1 (alb hg0 (V.o.lo b y))));have P:=O (MA.o.grow V.o q);replace a:=O (V.o.blk a.o q);clear KA;clear T q hat hlt)
  clear V HA MA hms L M M18;rcases r with _ | r
  ·exact absurd N.o (by simp [bH])
  have D:=N.o;rw [bH] at D
  clear N;obtain⟨J,Y⟩:∃ J,J=(I.put ⟨34,(B.word l 1).1,0,[hd d],B.place l⟩).2:=⟨_,rfl⟩;have BX:=O (show J.k=I.k by rw [Y];rfl);rw [← Y] at D E
  clear Y;by_cases X:J.next l=[44]
  ·rw [if_pos X] at D
   obtain⟨b4,t4,r4,D⟩:=aN D;have hk4:=(dM (l:=l) (s:=J) (by rw [X];simp)).2;have e0:(J.next l == [44])=true:=by rw [X];rfl
   have N:=O D;have HR4:=O r4;clear D r4 X;go_wp2_with fail;refine (aX g tv l iv _ _ _ _ E.o hl).mono ?_;rintro e w20⟨rfl,y⟩;have f:=O (E.o.below y);have Q:=O (P.o.aU y)
   replace a:=O (a.o.below y a.o.lt)
   replace R:=O (R.o.below y)
   clear y E P;have air:=hk4;have c1:=f.o.blk.cell 1;have f1:=f.o.blk.frozen 1;have H21:=O (f.o.dU air);have M21:=O (Q.o.jU f.o.sP)
   replace a:=O (f.o.xR a.o fQ)
   replace R:=O (R.o.mv f.o f.o.sP)
   clear f Q;go_wp2_with fail;clear c1 f1;exact⟨⟨r,r,j ++ [(I.ns.length:Int)],_,_,J.dU,_,_,b4,t4,by rw [ak5];rfl,by omega,by omega,by rw [ak5];show j.length+1≤J.k+1;have:=BX.o;omega,HR4,N,by rw [ak5];exact R,H21,M21⟩,by rw [iB H21.o,iB HW.o];show l.length - (J.k+1) < _;have:=BX.o;omega⟩
  rw [if_neg X] at D
  have e0:(J.next l == [44])=false:=by simpa using X
  obtain⟨rfl,rfl⟩:=dX D;clear D X;go_wp2_with fail;refine (aX g tv l iv _ _ _ _ E.o hl).mono ?_;rintro e w20⟨rfl,y⟩;have f:=O (E.o.below y);have Q:=O (P.o.aU y)
  replace a:=O (a.o.below y a.o.lt)
  replace R:=O (R.o.below y)
  clear y E P;go_wp2_with fail;go_ret;exact⟨_,_,_,_,by rw [ak5];rfl,by rw [ak5];exact R.o,f.o,Q.o⟩
def uX (l:List Tok)(n:Nat)(s:RS):Option (List Int × RS) :=
 if (s.word l 1).2.next l=[40] then
  if (s.word l 1).2.dU.next l=[41] then some (((s.word l 1).2.dU.take l [41]).put ⟨21,(s.word l 1).1,0,[],s.place l⟩)
  else jF (bH l n (.list .expr) (s.word l 1).2.dU) fun qs s1=>some ((s1.take l [41]).put ⟨21,(s.word l 1).1,0,qs,s.place l⟩)
 else if (s.word l 1).2.next l=[123] then
  jF (bH l n (.list .put) (s.word l 1).2.dU) fun qs s1=>some ((s1.take l [125]).put ⟨24,(s.word l 1).1,0,qs,s.place l⟩)
 else some ((s.word l 1).2.put ⟨3,(s.word l 1).1,0,[],s.place l⟩)
def sU (l:List Tok)(s:RS):Bool:=s.next l == [44]
def DF (l:List Tok)(s:RS):RS:=if s.next l=[44] then s.dU else s
theorem QF (g:Nat)(tv:Value)(l:List Tok)(iv:Value)(w:World)(s:RS)(xs:List NV)(nv:Value)(h:QS g tv l iv w s xs nv)(r:l.length≤1000) :
  Calls Tryz.prog 226 #[.pointer (some ⟨g,0,none⟩)] w fun e t=>e=.returned (.bool (sU l s))∧QS g tv l iv t (DF l s) xs nv∧Mv g nv.ownBlock w nv.ownBlock t:=by
 have d:=O h;have f:=O (Mw.refl (g:=g) (w:=w) (xs:=xs) (nv:=nv));have A:=h.le;clear h;by_cases b:s.next l=[44]
 ·have q:=(dM (l:=l) (s:=s) (by rw [b];simp)).2;have k:=O (show DF l s=s.dU from if_pos b);have m:(s.next l == [44])=true:=by rw [b];rfl
  have j:=O (show sU l s=true from m);clear b;go_in
  go_wp2_with fail;refine (aX g tv l iv _ _ _ _ d.o r).mono ?_;rintro e w1⟨rfl,c⟩;have a:=O (d.o.below c);have i:=O (f.o.aU c);clear c d f;have n:=q;have c1:=a.o.blk.cell 1;have y:=a.o.blk.frozen 1;have u:=O (a.o.dU n);have x:=O (i.o.jU a.o.sP);clear a i;go_wp2_with fail;clear c1 y;go_ret;exact⟨by rw [j.o];rfl,by rw [k.o];exact u.o,x.o.mv⟩
 ·have k:=O (show DF l s=s from if_neg b);have m:(s.next l == [44])=false:=by simpa using b
  have j:=O (show sU l s=false from m);clear b;go_in
  go_wp2_with fail;refine (aX g tv l iv _ _ _ _ d.o r).mono ?_;rintro e w1⟨rfl,c⟩;have a:=O (d.o.below c);have i:=O (f.o.aU c);clear c d f;go_wp2_with fail;go_ret;exact⟨by rw [j.o];rfl,by rw [k.o];exact a.o,i.o.mv⟩
theorem afq (l:List Tok)(u:l.length≤1000)(n:Nat)(g:Nat)(tv iv:Value)(w:World)(s:RS)(xs:List NV)(nv:Value)(H:List Int)(x:RS)(t:¬ (s.word l 1).2.next l=[40])(c1:¬ (s.word l 1).2.next l=[123])(i:uX l n s=some (H,x))(R:x.ns.length≤100000)(h:QS g tv l iv w s xs nv) :
  Calls Tryz.prog 221 #[.pointer (some ⟨g,0,none⟩)] w fun e I=>e=.returned (.int .i64 (hd H))∧∃ c gB,QS g tv l iv I x c gB∧Mw g w xs nv I c gB:=by
 have k:=O h;have C:=O (Mw.refl (g:=g) (w:=w) (xs:=xs) (nv:=nv));have Q:=h.le;clear h;unfold uX at i
 rw [if_neg t,if_neg c1] at i
 obtain⟨rfl,rfl⟩:=bG i;have P:(s.word l 1).2.ns.length≤100000:=by simp only [RS.put,ak5,ak_] at R;omega
 have T:((s.word l 1).2.next l == [40])=false:=by simpa using t
 have U:((s.word l 1).2.next l == [123])=false:=by simpa using c1
 clear i t c1;go_in
 go_wp2_with fail;refine (dh g tv l iv _ _ _ _ k.o u).mono ?_;rintro e w1⟨rfl,b⟩;have y:=O (k.o.below b);have D:=O (C.o.aU b);clear b k C;go_wp2_with fail;refine (iF g tv l iv _ _ _ _ 1 (by simp) (by simp) y.o u).mono ?_;rintro e j⟨rfl,h,m⟩;have d:=O h;have r:=O (D.o.jU m);clear h m y D;have a:=O (bf.new j 50 #[.int .u8 3,.string (aH (s.word l 1).1),.int .i64 0,.slice none 0 0,.int .i64 (s.place l)]);have N:g < j.heap.size:=d.o.lt;have f:some j.heap.size ≠ nv.ownBlock:=fun e=>by have:=d.o.iU _ e.symm;omega
 have V:w.heap.size≤j.heap.size:=r.o.size;have q:=O (d.o.alloc (.cells #[.int .u8 3,.string (aH (s.word l 1).1),.int .i64 0,.slice none 0 0,.int .i64 (s.place l)] 50));have E:=O (r.o.dK (o:=.cells #[.int .u8 3,.string (aH (s.word l 1).1),.int .i64 0,.slice none 0 0,.int .i64 (s.place l)] 50));clear d r;go_wp2_with fail;refine (aX g tv l iv _ _ _ _ q.o u).mono ?_;rintro e W⟨rfl,b⟩;have A:=O (q.o.below b);have F:=O (E.o.aU b)
 replace a:=O (a.o.below b a.o.lt)
 clear b q E;have K:=a.o.cell 0;have b1:=a.o.cell 1;have b2:=a.o.cell 2;have L:=a.o.cell 3;have M:=a.o.cell 4;go_wp2_with fail;refine (dZ g tv l iv _ _ _ _ 3 _ _ 0 _ [] A.o (dD.none_ _) (by omega)).mono ?_;rintro e X⟨rfl,S,h,m⟩;have B:=O h;have J:=O (F.o.gy B.o m kS);have G:=m.ne a.o.lt f
 replace a:=O (m.blk a.o (Nat.ne_of_gt N) f)
 clear f;have f:=G;clear G;clear h m A F;clear K b1 b2 L M;go_wp2_with fail;go_ret;exact⟨rfl,_,_,B.o,J.o⟩
theorem afn (l:List Tok)(r:l.length≤1000)(n:Nat)(C:QL 220 l n (.list .expr))(g:Nat)(tv iv:Value)(w:World)(s:RS)(xs:List NV)(nv:Value)(qs:List Int)(s':RS)(X:(s.word l 1).2.next l=[40])(t:uX l n s=some (qs,s'))(hn:s'.ns.length≤100000)(h:QS g tv l iv w s xs nv) :
  Calls Tryz.prog 221 #[.pointer (some ⟨g,0,none⟩)] w fun e w'=>e=.returned (.int .i64 (hd qs))∧∃ xs' gB,QS g tv l iv w' s' xs' gB∧Mw g w xs nv w' xs' gB:=by
 have G:=O h;have M0:=O (Mw.refl (g:=g) (w:=w) (xs:=xs) (nv:=nv));have hle:=h.le;clear h;unfold uX at t
 rw [if_pos X] at t
 have Z:=(dM (l:=l) (s:=(s.word l 1).2) (by rw [X];simp)).2;have e0:((s.word l 1).2.next l == [40])=true:=by rw [X];rfl
 by_cases c1:(s.word l 1).2.dU.next l=[41]
 ·rw [if_pos c1] at t
  obtain⟨rfl,rfl⟩:=bG t;have hb3:((s.word l 1).2.dU.take l [41]).ns.length≤100000:=by simp only [RS.put,ak5,ak_] at hn;omega
  have e1:((s.word l 1).2.dU.next l == [41])=true:=by rw [c1];rfl
  clear t X c1;go_in
  go_wp2_with fail;refine (dh g tv l iv _ _ _ _ G.o r).mono ?_;rintro e w1⟨rfl,c⟩;have K:=O (G.o.below c);have Q:=O (M0.o.aU c);clear c G M0;go_wp2_with fail;refine (iF g tv l iv _ _ _ _ 1 (by simp) (by simp) K.o r).mono ?_;rintro e q⟨rfl,h,m⟩;have y:=O h;have D:=O (Q.o.jU m);clear h m K Q;have a:=O (bf.new q 50 #[.int .u8 3,.string (aH (s.word l 1).1),.int .i64 0,.slice none 0 0,.int .i64 (s.place l)]);have f:g < q.heap.size:=y.o.lt;have d:some q.heap.size ≠ nv.ownBlock:=fun e=>by have:=y.o.iU _ e.symm;omega
  have nH:w.heap.size≤q.heap.size:=D.o.size;have A:=O (y.o.alloc (.cells #[.int .u8 3,.string (aH (s.word l 1).1),.int .i64 0,.slice none 0 0,.int .i64 (s.place l)] 50));have R:=O (D.o.dK (o:=.cells #[.int .u8 3,.string (aH (s.word l 1).1),.int .i64 0,.slice none 0 0,.int .i64 (s.place l)] 50));clear y D;go_wp2_with fail;refine (aX g tv l iv _ _ _ _ A.o r).mono ?_;rintro e w4⟨rfl,c⟩;have k:=O (A.o.below c);have S:=O (R.o.aU c)
  replace a:=O (a.o.below c a.o.lt)
  clear c A R;have n1:¬ q.heap.size=g:=Nat.ne_of_gt f;have n2:¬ g=q.heap.size:=Nat.ne_of_lt f;have z0:=a.o.frozen 0;have E:=a.o.cell 0;have F:=Z;have c1:=k.o.blk.cell 1;have f1:=k.o.blk.frozen 1;have M:=O (k.o.dU F);have T:=O (S.o.jU k.o.sP)
  replace a:=O (k.o.xR a.o f)
  clear k S;have B:=O (M.o.lI a.o f d 0 (.int .u8 21));have U:=O (T.o.jV (i:=0) (u:=.int .u8 21) nH)
  replace a:=O (a.o.upd 0 (.int .u8 21) (cs':=#[.int .u8 21,.string (aH (s.word l 1).1),.int .i64 0,.slice none 0 0,.int .i64 (s.place l)]) rfl)
  clear M T;go_wp2_with fail;refine (aX g tv l iv _ _ _ _ B.o r).mono ?_;rintro e w7⟨rfl,c⟩;have N:=O (B.o.below c);have I:=O (U.o.aU c)
  replace a:=O (a.o.below c a.o.lt)
  clear c B U;clear E z0;clear c1 f1 n1 n2;go_wp2_with fail;refine (eT g tv l iv _ _ _ _ [41] (by simp) N.o r).mono ?_;rintro e w8⟨rfl,h,m⟩;have P:=O h;have V:=O (I.o.jU m);have j:=m.ne a.o.lt d
  replace a:=O (m.blk a.o (Nat.ne_of_gt f) d)
  clear d;have d:=j;clear j;clear h m N I;have E:=a.o.cell 0;have b1:=a.o.cell 1;have b2:=a.o.cell 2;have W:=a.o.cell 3;have b4:=a.o.cell 4;go_wp2_with fail;refine (dZ g tv l iv _ _ _ _ 21 _ _ 0 _ [] P.o (dD.none_ _) (by omega)).mono ?_;rintro e w9⟨rfl,nv9,h,m⟩;have H:=O h;have M9:=O (V.o.gy H.o m kS);have j:=m.ne a.o.lt d
  replace a:=O (m.blk a.o (Nat.ne_of_gt f) d)
  clear d;have d:=j;clear j;clear h m P V;clear E b1 b2 W b4;go_wp2_with fail;go_ret;exact⟨rfl,_,_,H.o,M9.o⟩
 ·rw [if_neg c1] at t
  obtain⟨b,t2,r2,t⟩:=aN t;obtain⟨rfl,rfl⟩:=bG t;have hb3:(t2.take l [41]).ns.length≤100000:=by simp only [RS.put,ak5,ak_] at hn;omega
  have hb2:=((To.refl (s:=t2)).take (l:=l) (x:=[41]) (by simp)).few;have e1:((s.word l 1).2.dU.next l == [41])=false:=by simpa using c1
  have HR2:=O r2;clear t r2 X c1;go_in
  go_wp2_with fail;refine (dh g tv l iv _ _ _ _ G.o r).mono ?_;rintro e w1⟨rfl,c⟩;have K:=O (G.o.below c);have Q:=O (M0.o.aU c);clear c G M0;go_wp2_with fail;refine (iF g tv l iv _ _ _ _ 1 (by simp) (by simp) K.o r).mono ?_;rintro e q⟨rfl,h,m⟩;have y:=O h;have D:=O (Q.o.jU m);clear h m K Q;have a:=O (bf.new q 50 #[.int .u8 3,.string (aH (s.word l 1).1),.int .i64 0,.slice none 0 0,.int .i64 (s.place l)]);have f:g < q.heap.size:=y.o.lt;have d:some q.heap.size ≠ nv.ownBlock:=fun e=>by have:=y.o.iU _ e.symm;omega
  have nH:w.heap.size≤q.heap.size:=D.o.size;have A:=O (y.o.alloc (.cells #[.int .u8 3,.string (aH (s.word l 1).1),.int .i64 0,.slice none 0 0,.int .i64 (s.place l)] 50));have R:=O (D.o.dK (o:=.cells #[.int .u8 3,.string (aH (s.word l 1).1),.int .i64 0,.slice none 0 0,.int .i64 (s.place l)] 50));clear y D;go_wp2_with fail;refine (aX g tv l iv _ _ _ _ A.o r).mono ?_;rintro e w4⟨rfl,c⟩;have k:=O (A.o.below c);have S:=O (R.o.aU c)
  replace a:=O (a.o.below c a.o.lt)
  clear c A R;have n1:¬ q.heap.size=g:=Nat.ne_of_gt f;have n2:¬ g=q.heap.size:=Nat.ne_of_lt f;have z0:=a.o.frozen 0;have E:=a.o.cell 0;have F:=Z;have c1:=k.o.blk.cell 1;have f1:=k.o.blk.frozen 1;have M:=O (k.o.dU F);have T:=O (S.o.jU k.o.sP)
  replace a:=O (k.o.xR a.o f)
  clear k S;have B:=O (M.o.lI a.o f d 0 (.int .u8 21));have U:=O (T.o.jV (i:=0) (u:=.int .u8 21) nH)
  replace a:=O (a.o.upd 0 (.int .u8 21) (cs':=#[.int .u8 21,.string (aH (s.word l 1).1),.int .i64 0,.slice none 0 0,.int .i64 (s.place l)]) rfl)
  clear M T;go_wp2_with fail;refine (aX g tv l iv _ _ _ _ B.o r).mono ?_;rintro e w7⟨rfl,c⟩;have N:=O (B.o.below c);have I:=O (U.o.aU c)
  replace a:=O (a.o.below c a.o.lt)
  clear c B U;clear E z0;clear c1 f1 n1 n2;go_wp2_with fail;refine (C g tv iv _ _ _ _ _ _ HR2.o (by omega) N.o).mono ?_;rintro e w8⟨J,Y,xs8,U7,rfl,hL,h,m⟩;have L:=O (hL.base I.o.size);clear hL;have P:=O h;have V:=O (I.o.trans m);have j:=m.ne a.o.lt d
  replace a:=O (m.blk a.o (Nat.ne_of_gt f) d)
  clear d;have d:=j;clear j;clear h m N I;have z3:=a.o.frozen 3;have W:=a.o.cell 3;have H:=O (P.o.lI a.o f d 3 (.slice J b.length Y));have M9:=O (V.o.jV (i:=3) (u:=.slice J b.length Y) nH)
  replace L:=O (L.o.vP a.o 3 (.slice J b.length Y))
  replace a:=O (a.o.upd 3 (.slice J b.length Y) (cs':=#[.int .u8 21,.string (aH (s.word l 1).1),.int .i64 0,.slice J b.length Y,.int .i64 (s.place l)]) rfl)
  clear P V;go_wp2_with fail;refine (eT g tv l iv _ _ _ _ [41] (by simp) H.o r).mono ?_;rintro e Og⟨rfl,h,m⟩;have zx:=O h;have Cm:=O (M9.o.jU m);have j:=m.ne a.o.lt d
  replace a:=O (m.blk a.o (Nat.ne_of_gt f) d)
  clear d;have d:=j;clear j
  replace L:=O (L.o.mv H.o m)
  clear h m H M9;clear W z3;have E:=a.o.cell 0;have b1:=a.o.cell 1;have b2:=a.o.cell 2;have W:=a.o.cell 3;have b4:=a.o.cell 4;have LK:=O L.o.row;have TD:=L.o.lo;clear L;go_wp2_with fail;refine (dZ g tv l iv _ _ _ _ 21 _ _ 0 _ b zx.o LK.o (by omega)).mono ?_;rintro e AX⟨rfl,agQ,h,m⟩;have kF:=O h;have M11:=O (Cm.o.gy kF.o m TD);have j:=m.ne a.o.lt d
  replace a:=O (m.blk a.o (Nat.ne_of_gt f) d)
  clear d;have d:=j;clear j;clear h m zx Cm;clear E b1 b2 W b4;go_wp2_with fail;go_ret;exact⟨rfl,_,_,kF.o,M11.o⟩
end
