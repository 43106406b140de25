/-
  A part of the proof.
-/
import Derived.Test.YtflnfhhgamldhaaGreatDoorS33
set_option linter.all false
set_option maxRecDepth 100000
set_option maxHeartbeats 2000000
namespace Go.Proofs.YtflnfhhgamldhaaGreatDoor
open Go.RowKit Mist
attribute [local go_sem] ah aM aV au ak
theorem JU (l:List Tok)(k:l.length≤1000)(hT:∀ t ∈ l,t.text.length≤100000000)(n:Nat)(Q:KO l n)(g:Nat)(tv iv:Value)(w:World)(s:RS)(xs:List NV)(nv:Value)(P:List Int)(D:RS)(y:s.kind l=3)(b:s.next l=[114,101,116,114,97,99,116])(C:fG l n (s.place l) (s.dU.word l 1).1 .mD (s.dU.word l 1).2=some (P,D))(hn:D.ns.length≤100000)(h:QS g tv l iv w s xs nv) :
  Calls Tryz.prog 68 #[.pointer (some ⟨g,0,none⟩)] w fun e R=>e=.returned (.int .i64 (hd P))∧∃ f gB,QS g tv l iv R D f gB∧Mw g w xs nv R f gB:=by
 have r:=O h;have H:=O (Mw.refl (g:=g) (w:=w) (xs:=xs) (nv:=nv));have hle:=h.le;have hg0:=h.lt;clear h;unfold fG at C
 obtain⟨rfl,rfl⟩:=bG C;have Z:(s.dU.word l 1).2.ns.length≤100000:=by simp only [RS.put,ak5,ak_] at hn;omega
 clear C;have A:=(dM (l:=l) (s:=s) (by rw [b];simp)).2;have ek:(s.kind l == 3)=true:=by rw [y];rfl
 have W:((s.kind l:Int) == 3)=true:=by rw [y];rfl
 have e0:(s.next l == [99,104,111,111,115,101])=false:=by rw [b];rfl
 have e1:(s.next l == [116,121,112,101])=false:=by rw [b];rfl
 have e2:(s.next l == [102,117,110])=false:=by rw [b];rfl
 have e3:(s.next l == [108,101,116])=false:=by rw [b];rfl
 have e4:(s.next l == [111,98,115,101,114,118,101])=false:=by rw [b];rfl
 have e5:(s.next l == [114,101,116,114,97,99,116])=true:=by rw [b];rfl
 have e6:(s.next l == [97,115,107])=false:=by rw [b];rfl
 clear b y;go_in
 go_wp2_with fail;refine (aX g tv l iv _ _ _ _ r.o k).mono ?_;rintro e w1⟨rfl,a⟩;have u:=O (r.o.below a);have I:=O (H.o.aU a);clear a r H;go_wp2_with fail;refine (dh g tv l iv _ _ _ _ u.o k).mono ?_;rintro e w2⟨rfl,a⟩;have v:=O (u.o.below a);have J:=O (I.o.aU a);clear a u I;go_wp2_with fail;refine (iE g tv l iv _ _ _ _ v.o k).mono ?_;rintro e w3⟨rfl,a⟩;have d:=O (v.o.below a);have K:=O (J.o.aU a);clear a v J;have B:=A;have c1:=d.o.blk.cell 1;have X:=d.o.blk.frozen 1;have E:=O (d.o.dU B);have L:=O (K.o.jU d.o.sP);clear d K;go_wp2_with fail;clear c1 X;go_wp2_with fail;refine (iF g tv l iv _ _ _ _ 1 (by simp) (by simp) E.o k).mono ?_;rintro e q⟨rfl,h,m⟩;have i:=O h;have x:=O (L.o.jU m);clear h m E L;have c:=O (bf.new q 50 #[.int .u8 45,.string (aH (s.dU.word l 1).1),.int .i64 0,.slice none 0 0,.int .i64 (s.place l)]);have Y:g < q.heap.size:=i.o.lt;have j:some q.heap.size ≠ nv.ownBlock:=fun e=>by have:=i.o.iU _ e.symm;omega
 have nH:w.heap.size≤q.heap.size:=x.o.size;have F:=O (i.o.alloc (.cells #[.int .u8 45,.string (aH (s.dU.word l 1).1),.int .i64 0,.slice none 0 0,.int .i64 (s.place l)] 50));have M:=O (x.o.dK (o:=.cells #[.int .u8 45,.string (aH (s.dU.word l 1).1),.int .i64 0,.slice none 0 0,.int .i64 (s.place l)] 50));clear i x;have T:=c.o.cell 0;have b1:=c.o.cell 1;have b2:=c.o.cell 2;have U:=c.o.cell 3;have V:=c.o.cell 4;go_wp2_with fail;refine (dZ g tv l iv _ _ _ _ 45 _ _ 0 _ [] F.o (dD.none_ _) (by omega)).mono ?_;rintro e w7⟨rfl,nv7,h,m⟩;have G:=O h;have S:=O (M.o.gy G.o m kS);have N:=m.ne c.o.lt j
 replace c:=O (m.blk c.o (Nat.ne_of_gt Y) j)
 clear j;have j:=N;clear N;clear h m F M;clear T b1 b2 U V;go_wp2_with fail;go_ret;exact⟨rfl,_,_,G.o,S.o⟩
theorem aaK (l:List Tok)(A:l.length≤1000)(hT:∀ t ∈ l,t.text.length≤100000000)(n:Nat)(Q:KO l n)(g:Nat)(tv iv:Value)(w:World)(s:RS)(xs:List NV)(nv:Value)(qs:List Int)(S:RS)(L:s.kind l=3)(j:s.next l=[108,101,116])(B:fG l n (s.place l) (s.dU.word l 1).1 .Az (s.dU.word l 1).2=some (qs,S))(hn:S.ns.length≤100000)(h:QS g tv l iv w s xs nv) :
  Calls Tryz.prog 68 #[.pointer (some ⟨g,0,none⟩)] w fun e w'=>e=.returned (.int .i64 (hd qs))∧∃ C gB,QS g tv l iv w' S C gB∧Mw g w xs nv w' C gB:=by
 have F:=O h;have Z:=O (Mw.refl (g:=g) (w:=w) (xs:=xs) (nv:=nv));have hle:=h.le;have hg0:=h.lt;clear h;unfold fG at B
 obtain⟨a,t1,r1,B⟩:=aN B;obtain⟨rfl,rfl⟩:=bG B;have M:t1.ns.length≤100000:=by simp only [RS.put,ak5,ak_] at hn;omega
 have I:=O r1;clear B r1;have N:=(dM (l:=l) (s:=s) (by rw [j];simp)).2;have ek:(s.kind l == 3)=true:=by rw [L];rfl
 have ek':((s.kind l:Int) == 3)=true:=by rw [L];rfl
 have e0:(s.next l == [99,104,111,111,115,101])=false:=by rw [j];rfl
 have e1:(s.next l == [116,121,112,101])=false:=by rw [j];rfl
 have e2:(s.next l == [102,117,110])=false:=by rw [j];rfl
 have e3:(s.next l == [108,101,116])=true:=by rw [j];rfl
 have e4:(s.next l == [111,98,115,101,114,118,101])=false:=by rw [j];rfl
 have e5:(s.next l == [114,101,116,114,97,99,116])=false:=by rw [j];rfl
 have e6:(s.next l == [97,115,107])=false:=by rw [j];rfl
 clear j L;go_in
 go_wp2_with fail;refine (aX g tv l iv _ _ _ _ F.o A).mono ?_;rintro e w1⟨rfl,f⟩;have G:=O (F.o.below f);have M1:=O (Z.o.aU f);clear f F Z;go_wp2_with fail;refine (dh g tv l iv _ _ _ _ G.o A).mono ?_;rintro e w2⟨rfl,f⟩;have H:=O (G.o.below f);have M2:=O (M1.o.aU f);clear f G M1;go_wp2_with fail;refine (iE g tv l iv _ _ _ _ H.o A).mono ?_;rintro e w3⟨rfl,f⟩;have v:=O (H.o.below f);have M3:=O (M2.o.aU f);clear f H M2;have P:=N;have c1:=v.o.blk.cell 1;have f1:=v.o.blk.frozen 1;have U:=O (v.o.dU P);have M4:=O (M3.o.jU v.o.sP);clear v M3;go_wp2_with fail;clear c1 f1;go_wp2_with fail;refine (iF g tv l iv _ _ _ _ 1 (by simp) (by simp) U.o A).mono ?_;rintro e r⟨rfl,h,m⟩;have D:=O h;have K:=O (M4.o.jU m);clear h m U M4;have c:=O (bf.new r 50 #[.int .u8 0,.string (aH (s.dU.word l 1).1),.int .i64 0,.slice none 0 0,.int .i64 (s.place l)]);have y:g < r.heap.size:=D.o.lt;have d:some r.heap.size ≠ nv.ownBlock:=fun e=>by have:=D.o.iU _ e.symm;omega
 have nH:w.heap.size≤r.heap.size:=K.o.size;have V:=O (D.o.alloc (.cells #[.int .u8 0,.string (aH (s.dU.word l 1).1),.int .i64 0,.slice none 0 0,.int .i64 (s.place l)] 50));have M6:=O (K.o.dK (o:=.cells #[.int .u8 0,.string (aH (s.dU.word l 1).1),.int .i64 0,.slice none 0 0,.int .i64 (s.place l)] 50));clear D K;go_wp2_with fail;refine (eT g tv l iv _ _ _ _ [61] (by simp) V.o A).mono ?_;rintro e w7⟨rfl,h,m⟩;have W:=O h;have M7:=O (M6.o.jU m);have k:=m.ne c.o.lt d
 replace c:=O (m.blk c.o (Nat.ne_of_gt y) d)
 clear d;have d:=k;clear k;clear h m V M6;go_wp2_with fail;refine (Q.expr g tv iv _ _ _ _ _ _ I.o M W.o).mono ?_;rintro e q⟨rfl,xs8,U7,h,m⟩;have X:=O h;have M8:=O (M7.o.trans m);have k:=m.ne c.o.lt d
 replace c:=O (m.blk c.o (Nat.ne_of_gt y) d)
 clear d;have d:=k;clear k;clear h m W M7;have n1:¬ q.heap.size=r.heap.size:=Nat.ne_of_gt c.o.lt;have n2:¬ r.heap.size=q.heap.size:=Nat.ne_of_lt c.o.lt;have hz:=c.o.lt;have z0:=c.o.frozen 0;have z3:=c.o.frozen 3;have b0:=c.o.cell 0;have b1:=c.o.cell 1;have b2:=c.o.cell 2;have b3:=c.o.cell 3;have b4:=c.o.cell 4;have Y:=O (X.o.lI c.o y d 0 (.int .u8 43));have M9:=O (M8.o.jV (i:=0) (u:=.int .u8 43) nH)
 replace c:=O (c.o.upd 0 (.int .u8 43) (cs':=#[.int .u8 43,.string (aH (s.dU.word l 1).1),.int .i64 0,.slice none 0 0,.int .i64 (s.place l)]) rfl)
 clear X M8;have T:=O (Y.o.lI c.o y d 3 (.slice (some ⟨q.heap.size,0,none⟩) 1 1));have E:=O (M9.o.jV (i:=3) (u:=.slice (some ⟨q.heap.size,0,none⟩) 1 1) nH)
 replace c:=O (c.o.upd 3 (.slice (some ⟨q.heap.size,0,none⟩) 1 1) (cs':=#[.int .u8 43,.string (aH (s.dU.word l 1).1),.int .i64 0,.slice (some ⟨q.heap.size,0,none⟩) 1 1,.int .i64 (s.place l)]) rfl)
 clear Y M9;have J:=O (T.o.D_ [hd a] q.heap.size (by simp));have Yr:∀ b,(Value.slice (some ⟨q.heap.size,0,none⟩) ([hd a]:List Int).length ([hd a]:List Int).length).ownBlock=some b→w.heap.size≤b:=lZ (by have h9:=E.o.size;simpa using h9)
 replace c:=O (c.o.alloc (.cells (intCells [hd a]).toArray 3))
 have R:=O (T.o.alloc (.cells (intCells [hd a]).toArray 3));have x:=O (E.o.dK (o:=(.cells (intCells [hd a]).toArray 3)));clear T E;go_wp2_with fail;refine (dZ g tv l iv _ _ _ _ 43 _ _ 0 _ [hd a] R.o J.o (by omega)).mono ?_;rintro e tC⟨rfl,rM,h,m⟩;have lG:=O h;have pJ:=O (x.o.gy lG.o m Yr);have k:=m.ne c.o.lt d
 replace c:=O (m.blk c.o (Nat.ne_of_gt y) d)
 clear d;have d:=k;clear k
 replace J:=O (R.o.kZ m J.o)
 clear h m R x;clear b0 b1 b2 b3 b4 z0 z3;go_wp2_with fail;go_ret;exact⟨rfl,_,_,lG.o,pJ.o⟩
theorem JR (l:List Tok)(A:l.length≤1000)(hT:∀ t ∈ l,t.text.length≤100000000)(n:Nat)(Q:KO l n)(g:Nat)(tv iv:Value)(w:World)(s:RS)(xs:List NV)(nv:Value)(qs:List Int)(S:RS)(L:s.kind l=3)(j:s.next l=[111,98,115,101,114,118,101])(B:fG l n (s.place l) (s.dU.word l 1).1 .observe (s.dU.word l 1).2=some (qs,S))(hn:S.ns.length≤100000)(h:QS g tv l iv w s xs nv) :
  Calls Tryz.prog 68 #[.pointer (some ⟨g,0,none⟩)] w fun e w'=>e=.returned (.int .i64 (hd qs))∧∃ C gB,QS g tv l iv w' S C gB∧Mw g w xs nv w' C gB:=by
 have F:=O h;have Z:=O (Mw.refl (g:=g) (w:=w) (xs:=xs) (nv:=nv));have hle:=h.le;have hg0:=h.lt;clear h;unfold fG at B
 obtain⟨a,t1,r1,B⟩:=aN B;obtain⟨rfl,rfl⟩:=bG B;have M:t1.ns.length≤100000:=by simp only [RS.put,ak5,ak_] at hn;omega
 have I:=O r1;clear B r1;have N:=(dM (l:=l) (s:=s) (by rw [j];simp)).2;have ek:(s.kind l == 3)=true:=by rw [L];rfl
 have ek':((s.kind l:Int) == 3)=true:=by rw [L];rfl
 have e0:(s.next l == [99,104,111,111,115,101])=false:=by rw [j];rfl
 have e1:(s.next l == [116,121,112,101])=false:=by rw [j];rfl
 have e2:(s.next l == [102,117,110])=false:=by rw [j];rfl
 have e3:(s.next l == [108,101,116])=false:=by rw [j];rfl
 have e4:(s.next l == [111,98,115,101,114,118,101])=true:=by rw [j];rfl
 have e5:(s.next l == [114,101,116,114,97,99,116])=false:=by rw [j];rfl
 have e6:(s.next l == [97,115,107])=false:=by rw [j];rfl
 clear j L;go_in
 go_wp2_with fail;refine (aX g tv l iv _ _ _ _ F.o A).mono ?_;rintro e w1⟨rfl,f⟩;have G:=O (F.o.below f);have M1:=O (Z.o.aU f);clear f F Z;go_wp2_with fail;refine (dh g tv l iv _ _ _ _ G.o A).mono ?_;rintro e w2⟨rfl,f⟩;have H:=O (G.o.below f);have M2:=O (M1.o.aU f);clear f G M1;go_wp2_with fail;refine (iE g tv l iv _ _ _ _ H.o A).mono ?_;rintro e w3⟨rfl,f⟩;have v:=O (H.o.below f);have M3:=O (M2.o.aU f);clear f H M2;have P:=N;have c1:=v.o.blk.cell 1;have f1:=v.o.blk.frozen 1;have U:=O (v.o.dU P);have M4:=O (M3.o.jU v.o.sP);clear v M3;go_wp2_with fail;clear c1 f1;go_wp2_with fail;refine (iF g tv l iv _ _ _ _ 1 (by simp) (by simp) U.o A).mono ?_;rintro e r⟨rfl,h,m⟩;have D:=O h;have K:=O (M4.o.jU m);clear h m U M4;have c:=O (bf.new r 50 #[.int .u8 0,.string (aH (s.dU.word l 1).1),.int .i64 0,.slice none 0 0,.int .i64 (s.place l)]);have y:g < r.heap.size:=D.o.lt;have d:some r.heap.size ≠ nv.ownBlock:=fun e=>by have:=D.o.iU _ e.symm;omega
 have nH:w.heap.size≤r.heap.size:=K.o.size;have V:=O (D.o.alloc (.cells #[.int .u8 0,.string (aH (s.dU.word l 1).1),.int .i64 0,.slice none 0 0,.int .i64 (s.place l)] 50));have M6:=O (K.o.dK (o:=.cells #[.int .u8 0,.string (aH (s.dU.word l 1).1),.int .i64 0,.slice none 0 0,.int .i64 (s.place l)] 50));clear D K;go_wp2_with fail;refine (eT g tv l iv _ _ _ _ [58] (by simp) V.o A).mono ?_;rintro e w7⟨rfl,h,m⟩;have W:=O h;have M7:=O (M6.o.jU m);have k:=m.ne c.o.lt d
 replace c:=O (m.blk c.o (Nat.ne_of_gt y) d)
 clear d;have d:=k;clear k;clear h m V M6;go_wp2_with fail;refine (Q.expr g tv iv _ _ _ _ _ _ I.o M W.o).mono ?_;rintro e q⟨rfl,xs8,U7,h,m⟩;have X:=O h;have M8:=O (M7.o.trans m);have k:=m.ne c.o.lt d
 replace c:=O (m.blk c.o (Nat.ne_of_gt y) d)
 clear d;have d:=k;clear k;clear h m W M7;have n1:¬ q.heap.size=r.heap.size:=Nat.ne_of_gt c.o.lt;have n2:¬ r.heap.size=q.heap.size:=Nat.ne_of_lt c.o.lt;have hz:=c.o.lt;have z0:=c.o.frozen 0;have z3:=c.o.frozen 3;have b0:=c.o.cell 0;have b1:=c.o.cell 1;have b2:=c.o.cell 2;have b3:=c.o.cell 3;have b4:=c.o.cell 4;have Y:=O (X.o.lI c.o y d 0 (.int .u8 44));have M9:=O (M8.o.jV (i:=0) (u:=.int .u8 44) nH)
 replace c:=O (c.o.upd 0 (.int .u8 44) (cs':=#[.int .u8 44,.string (aH (s.dU.word l 1).1),.int .i64 0,.slice none 0 0,.int .i64 (s.place l)]) rfl)
 clear X M8;have T:=O (Y.o.lI c.o y d 3 (.slice (some ⟨q.heap.size,0,none⟩) 1 1));have E:=O (M9.o.jV (i:=3) (u:=.slice (some ⟨q.heap.size,0,none⟩) 1 1) nH)
 replace c:=O (c.o.upd 3 (.slice (some ⟨q.heap.size,0,none⟩) 1 1) (cs':=#[.int .u8 44,.string (aH (s.dU.word l 1).1),.int .i64 0,.slice (some ⟨q.heap.size,0,none⟩) 1 1,.int .i64 (s.place l)]) rfl)
 clear Y M9;have J:=O (T.o.D_ [hd a] q.heap.size (by simp));have Yr:∀ b,(Value.slice (some ⟨q.heap.size,0,none⟩) ([hd a]:List Int).length ([hd a]:List Int).length).ownBlock=some b→w.heap.size≤b:=lZ (by have h9:=E.o.size;simpa using h9)
 replace c:=O (c.o.alloc (.cells (intCells [hd a]).toArray 3))
 have R:=O (T.o.alloc (.cells (intCells [hd a]).toArray 3));have x:=O (E.o.dK (o:=(.cells (intCells [hd a]).toArray 3)));clear T E;go_wp2_with fail;refine (dZ g tv l iv _ _ _ _ 44 _ _ 0 _ [hd a] R.o J.o (by omega)).mono ?_;rintro e tC⟨rfl,rM,h,m⟩;have lG:=O h;have pJ:=O (x.o.gy lG.o m Yr);have k:=m.ne c.o.lt d
 replace c:=O (m.blk c.o (Nat.ne_of_gt y) d)
 clear d;have d:=k;clear k
 replace J:=O (R.o.kZ m J.o)
 clear h m R x;clear b0 b1 b2 b3 b4 z0 z3;go_wp2_with fail;go_ret;exact⟨rfl,_,_,lG.o,pJ.o⟩
theorem VI (l:List Tok)(k:l.length≤1000)(hT:∀ t ∈ l,t.text.length≤100000000)(n:Nat)(Q:KO l n)(g:Nat)(tv iv:Value)(w:World)(s:RS)(xs:List NV)(nv:Value)(qs:List Int)(S:RS)(N:s.kind l=3)(j:s.next l=[116,121,112,101])(B:fG l n (s.place l) (s.dU.word l 1).1 .record (s.dU.word l 1).2=some (qs,S))(hn:S.ns.length≤100000)(h:QS g tv l iv w s xs nv) :
  Calls Tryz.prog 68 #[.pointer (some ⟨g,0,none⟩)] w fun e w'=>e=.returned (.int .i64 (hd qs))∧∃ C gB,QS g tv l iv w' S C gB∧Mw g w xs nv w' C gB:=by
 have F:=O h;have M0:=O (Mw.refl (g:=g) (w:=w) (xs:=xs) (nv:=nv));have hle:=h.le;have hg0:=h.lt;clear h;unfold fG at B
 obtain⟨a,t1,r1,B⟩:=aN B;obtain⟨rfl,rfl⟩:=bG B;have hb3:(t1.take l [125]).ns.length≤100000:=by simp only [RS.put,ak5,ak_] at hn;omega
 have hb1:=((To.refl (s:=t1)).take (l:=l) (x:=[125]) (by simp)).few;have I:=O r1;clear B r1;have P:=(dM (l:=l) (s:=s) (by rw [j];simp)).2;have ek:(s.kind l == 3)=true:=by rw [N];rfl
 have ek':((s.kind l:Int) == 3)=true:=by rw [N];rfl
 have e0:(s.next l == [99,104,111,111,115,101])=false:=by rw [j];rfl
 have e1:(s.next l == [116,121,112,101])=true:=by rw [j];rfl
 have e2:(s.next l == [102,117,110])=false:=by rw [j];rfl
 have e3:(s.next l == [108,101,116])=false:=by rw [j];rfl
 have e4:(s.next l == [111,98,115,101,114,118,101])=false:=by rw [j];rfl
 have e5:(s.next l == [114,101,116,114,97,99,116])=false:=by rw [j];rfl
 have e6:(s.next l == [97,115,107])=false:=by rw [j];rfl
 clear j N;go_in
 go_wp2_with fail;refine (aX g tv l iv _ _ _ _ F.o k).mono ?_;rintro e w1⟨rfl,f⟩;have G:=O (F.o.below f);have M1:=O (M0.o.aU f);clear f F M0;go_wp2_with fail;refine (dh g tv l iv _ _ _ _ G.o k).mono ?_;rintro e w2⟨rfl,f⟩;have H:=O (G.o.below f);have M2:=O (M1.o.aU f);clear f G M1;go_wp2_with fail;refine (iE g tv l iv _ _ _ _ H.o k).mono ?_;rintro e w3⟨rfl,f⟩;have v:=O (H.o.below f);have M3:=O (M2.o.aU f);clear f H M2;have R:=P;have c1:=v.o.blk.cell 1;have f1:=v.o.blk.frozen 1;have V:=O (v.o.dU R);have M4:=O (M3.o.jU v.o.sP);clear v M3;go_wp2_with fail;clear c1 f1;go_wp2_with fail;refine (iF g tv l iv _ _ _ _ 1 (by simp) (by simp) V.o k).mono ?_;rintro e E⟨rfl,h,m⟩;have D:=O h;have J:=O (M4.o.jU m);clear h m V M4;have b:=O (bf.new E 50 #[.int .u8 41,.string (aH (s.dU.word l 1).1),.int .i64 0,.slice none 0 0,.int .i64 (s.place l)]);have q:g < E.heap.size:=D.o.lt;have c:some E.heap.size ≠ nv.ownBlock:=fun e=>by have:=D.o.iU _ e.symm;omega
 have nH:w.heap.size≤E.heap.size:=J.o.size;have W:=O (D.o.alloc (.cells #[.int .u8 41,.string (aH (s.dU.word l 1).1),.int .i64 0,.slice none 0 0,.int .i64 (s.place l)] 50));have M6:=O (J.o.dK (o:=.cells #[.int .u8 41,.string (aH (s.dU.word l 1).1),.int .i64 0,.slice none 0 0,.int .i64 (s.place l)] 50));clear D J;go_wp2_with fail;refine (eT g tv l iv _ _ _ _ [61] (by simp) W.o k).mono ?_;rintro e w7⟨rfl,h,m⟩;have X:=O h;have M7:=O (M6.o.jU m);have d:=m.ne b.o.lt c
 replace b:=O (m.blk b.o (Nat.ne_of_gt q) c)
 clear c;have c:=d;clear d;clear h m W M6;go_wp2_with fail;refine (eT g tv l iv _ _ _ _ [123] (by simp) X.o k).mono ?_;rintro e w8⟨rfl,h,m⟩;have Y:=O h;have K:=O (M7.o.jU m);have d:=m.ne b.o.lt c
 replace b:=O (m.blk b.o (Nat.ne_of_gt q) c)
 clear c;have c:=d;clear d;clear h m X M7;go_wp2_with fail;refine (Q.param g tv iv _ _ _ _ _ _ I.o (by omega) Y.o).mono ?_;rintro e w9⟨r,A,xs9,nv9,rfl,hL,h,m⟩;have L:=O (hL.base K.o.size);clear hL;have Z:=O h;have M9:=O (K.o.trans m);have d:=m.ne b.o.lt c
 replace b:=O (m.blk b.o (Nat.ne_of_gt q) c)
 clear c;have c:=d;clear d;clear h m Y K;have z3:=b.o.frozen 3;have M:=b.o.cell 3;have T:=O (Z.o.lI b.o q c 3 (.slice r a.length A));have U:=O (M9.o.jV (i:=3) (u:=.slice r a.length A) nH)
 replace L:=O (L.o.vP b.o 3 (.slice r a.length A))
 replace b:=O (b.o.upd 3 (.slice r a.length A) (cs':=#[.int .u8 41,.string (aH (s.dU.word l 1).1),.int .i64 0,.slice r a.length A,.int .i64 (s.place l)]) rfl)
 clear Z M9;go_wp2_with fail;refine (eT g tv l iv _ _ _ _ [125] (by simp) T.o k).mono ?_;rintro e AX⟨rfl,h,m⟩;have kF:=O h;have y:=O (U.o.jU m);have d:=m.ne b.o.lt c
 replace b:=O (m.blk b.o (Nat.ne_of_gt q) c)
 clear c;have c:=d;clear d
 replace L:=O (L.o.mv T.o m)
 clear h m T U;clear M z3;have b0:=b.o.cell 0;have b1:=b.o.cell 1;have b2:=b.o.cell 2;have M:=b.o.cell 3;have b4:=b.o.cell 4;have LK:=O L.o.row;have TD:=L.o.lo;clear L;go_wp2_with fail;refine (dZ g tv l iv _ _ _ _ 41 _ _ 0 _ a kF.o LK.o (by omega)).mono ?_;rintro e tC⟨rfl,rM,h,m⟩;have lG:=O h;have pJ:=O (y.o.gy lG.o m TD);have d:=m.ne b.o.lt c
 replace b:=O (m.blk b.o (Nat.ne_of_gt q) c)
 clear c;have c:=d;clear d;clear h m kF y;clear b0 b1 b2 M b4;go_wp2_with fail;go_ret;exact⟨rfl,_,_,lG.o,pJ.o⟩
theorem MO (l:List Tok)(A:l.length≤1000)(hT:∀ t ∈ l,t.text.length≤100000000)(n:Nat)(Q:KO l n)(g:Nat)(tv iv:Value)(w:World)(s:RS)(xs:List NV)(nv:Value)(qs:List Int)(s':RS)(X:s.kind l=3)(v:s.next l=[99,104,111,111,115,101])(F:fG l n (s.place l) (s.dU.word l 1).1 .choose (s.dU.word l 1).2=some (qs,s'))(hn:s'.ns.length≤100000)(h:QS g tv l iv w s xs nv) :
  Calls Tryz.prog 68 #[.pointer (some ⟨g,0,none⟩)] w fun e w'=>e=.returned (.int .i64 (hd qs))∧∃ K gB,QS g tv l iv w' s' K gB∧Mw g w xs nv w' K gB:=by
 have M:=O h;have M0:=O (Mw.refl (g:=g) (w:=w) (xs:=xs) (nv:=nv));have hle:=h.le;have hg0:=h.lt;clear h;unfold fG at F
 obtain⟨a,t1,r1,F⟩:=aN F;obtain⟨b,t2,r2,F⟩:=aN F;obtain⟨rfl,rfl⟩:=bG F;have Y:t2.ns.length≤100000:=by simp only [RS.put,ak5,ak_] at hn;omega
 obtain⟨rfl,rfl⟩:a=(rO l ((s.dU.word l 1).2.take l [58])).1∧t1=(rO l ((s.dU.word l 1).2.take l [58])).2:=by injection r1 with r1;rw [r1];exact⟨rfl,rfl⟩
 obtain⟨G,E⟩:∃ T,T=(rO l ((s.dU.word l 1).2.take l [58])).2:=⟨_,rfl⟩;rw [← E] at r2
 obtain⟨rfl,rfl⟩:b=(rO l (G.take l [46,46])).1∧t2=(rO l (G.take l [46,46])).2:=by injection r2 with r2;rw [r2];exact⟨rfl,rfl⟩
 have hb2:=Nat.le_trans ((To.refl (s:=G)).take (l:=l) (x:=[46,46]) (by simp)).few (SC (l:=l) (G.take l [46,46])).few;have j:=O E;clear F r1 r2 E;have Z:=(dM (l:=l) (s:=s) (by rw [v];simp)).2;have ek:(s.kind l == 3)=true:=by rw [X];rfl
 have ek':((s.kind l:Int) == 3)=true:=by rw [X];rfl
 have e0:(s.next l == [99,104,111,111,115,101])=true:=by rw [v];rfl
 have e1:(s.next l == [116,121,112,101])=false:=by rw [v];rfl
 have e2:(s.next l == [102,117,110])=false:=by rw [v];rfl
 have e3:(s.next l == [108,101,116])=false:=by rw [v];rfl
 have e4:(s.next l == [111,98,115,101,114,118,101])=false:=by rw [v];rfl
 have e5:(s.next l == [114,101,116,114,97,99,116])=false:=by rw [v];rfl
 have e6:(s.next l == [97,115,107])=false:=by rw [v];rfl
 clear v X;go_in
 go_wp2_with fail;refine (aX g tv l iv _ _ _ _ M.o A).mono ?_;rintro e w1⟨rfl,k⟩;have N:=O (M.o.below k);have M1:=O (M0.o.aU k);clear k M M0;go_wp2_with fail;refine (dh g tv l iv _ _ _ _ N.o A).mono ?_;rintro e w2⟨rfl,k⟩;have P:=O (N.o.below k);have M2:=O (M1.o.aU k);clear k N M1;go_wp2_with fail;refine (iE g tv l iv _ _ _ _ P.o A).mono ?_;rintro e w3⟨rfl,k⟩;have I:=O (P.o.below k);have M3:=O (M2.o.aU k);clear k P M2;have hk4:=Z;have c1:=I.o.blk.cell 1;have f1:=I.o.blk.frozen 1;have H4:=O (I.o.dU hk4);have M4:=O (M3.o.jU I.o.sP);clear I M3;go_wp2_with fail;clear c1 f1;go_wp2_with fail;refine (iF g tv l iv _ _ _ _ 1 (by simp) (by simp) H4.o A).mono ?_;rintro e H⟨rfl,h,m⟩;have L:=O h;have W:=O (M4.o.jU m);clear h m H4 M4;have c:=O (bf.new H 50 #[.int .u8 0,.string (aH (s.dU.word l 1).1),.int .i64 0,.slice none 0 0,.int .i64 (s.place l)]);have B:g < H.heap.size:=L.o.lt;have d:some H.heap.size ≠ nv.ownBlock:=fun e=>by have:=L.o.iU _ e.symm;omega
 have nH:w.heap.size≤H.heap.size:=W.o.size;have H6:=O (L.o.alloc (.cells #[.int .u8 0,.string (aH (s.dU.word l 1).1),.int .i64 0,.slice none 0 0,.int .i64 (s.place l)] 50));have M6:=O (W.o.dK (o:=.cells #[.int .u8 0,.string (aH (s.dU.word l 1).1),.int .i64 0,.slice none 0 0,.int .i64 (s.place l)] 50));clear L W;go_wp2_with fail;refine (eT g tv l iv _ _ _ _ [58] (by simp) H6.o A).mono ?_;rintro e w7⟨rfl,h,m⟩;have H7:=O h;have M7:=O (M6.o.jU m);have f:=m.ne c.o.lt d
 replace c:=O (m.blk c.o (Nat.ne_of_gt B) d)
 clear d;have d:=f;clear f;clear h m H6 M6;go_wp2_with fail;refine (MP g tv l iv _ ((s.dU.word l 1).2.take l [58]) _ _ hT H7.o (by rw [← j.o];omega) A).mono ?_;rintro e w8⟨rfl,xs8,U7,h,m⟩;have R:=O h;have M8:=O (M7.o.trans m);have f:=m.ne c.o.lt d
 replace c:=O (m.blk c.o (Nat.ne_of_gt B) d)
 clear d;have d:=f;clear f;clear h m H7 M7;rw [← j.o] at R
 obtain⟨q,C⟩:∃ q,q=hd (rO l ((s.dU.word l 1).2.take l [58])).1:=⟨_,rfl⟩;rw [← C];have S:=O C;clear C;go_wp2_with fail;refine (eT g tv l iv _ _ _ _ [46,46] (by simp) R.o A).mono ?_;rintro e w9⟨rfl,h,m⟩;have H9:=O h;have M9:=O (M8.o.jU m);have f:=m.ne c.o.lt d
 replace c:=O (m.blk c.o (Nat.ne_of_gt B) d)
 clear d;have d:=f;clear f;clear h m R M8;go_wp2_with fail;refine (MP g tv l iv _ (G.take l [46,46]) _ _ hT H9.o Y A).mono ?_;rintro e y⟨rfl,akK,acB,h,m⟩;have zx:=O h;have Cm:=O (M9.o.trans m);have f:=m.ne c.o.lt d
 replace c:=O (m.blk c.o (Nat.ne_of_gt B) d)
 clear d;have d:=f;clear f;clear h m H9 M9;obtain⟨r,D⟩:∃ r,r=hd (rO l (G.take l [46,46])).1:=⟨_,rfl⟩;rw [← D];have U:=O D;clear D;have n1:¬ y.heap.size=H.heap.size:=Nat.ne_of_gt c.o.lt;have n2:¬ H.heap.size=y.heap.size:=Nat.ne_of_lt c.o.lt;have hz:=c.o.lt;have z0:=c.o.frozen 0;have z3:=c.o.frozen 3;have b0:=c.o.cell 0;have b1:=c.o.cell 1;have b2:=c.o.cell 2;have b3:=c.o.cell 3;have b4:=c.o.cell 4;have kF:=O (zx.o.lI c.o B d 0 (.int .u8 40));have J:=O (Cm.o.jV (i:=0) (u:=.int .u8 40) nH)
 replace c:=O (c.o.upd 0 (.int .u8 40) (cs':=#[.int .u8 40,.string (aH (s.dU.word l 1).1),.int .i64 0,.slice none 0 0,.int .i64 (s.place l)]) rfl)
 clear zx Cm;have lG:=O (kF.o.lI c.o B d 3 (.slice (some ⟨y.heap.size,0,none⟩) 2 2));have pJ:=O (J.o.jV (i:=3) (u:=.slice (some ⟨y.heap.size,0,none⟩) 2 2) nH)
 replace c:=O (c.o.upd 3 (.slice (some ⟨y.heap.size,0,none⟩) 2 2) (cs':=#[.int .u8 40,.string (aH (s.dU.word l 1).1),.int .i64 0,.slice (some ⟨y.heap.size,0,none⟩) 2 2,.int .i64 (s.place l)]) rfl)
 clear kF J;have V:=O (lG.o.D_ [q,r] y.heap.size (by simp));have Yr:∀ b,(Value.slice (some ⟨y.heap.size,0,none⟩) ([q,r]:List Int).length ([q,r]:List Int).length).ownBlock=some b→w.heap.size≤b:=lZ (by have h9:=pJ.o.size;simpa using h9)
 replace c:=O (c.o.alloc (.cells (intCells [q,r]).toArray 3))
 have vV:=O (lG.o.alloc (.cells (intCells [q,r]).toArray 3));have Dn:=O (pJ.o.dK (o:=(.cells (intCells [q,r]).toArray 3)));clear lG pJ;go_wp2_with fail;refine (dZ g tv l iv _ _ _ _ 40 _ _ 0 _ [q,r] vV.o V.o (by omega)).mono ?_;rintro e Rm⟨rfl,agR,h,m⟩;have Iz:=O h;have Oc:=O (Dn.o.gy Iz.o m Yr);have f:=m.ne c.o.lt d
 replace c:=O (m.blk c.o (Nat.ne_of_gt B) d)
 clear d;have d:=f;clear f
 replace V:=O (vV.o.kZ m V.o)
 clear h m vV Dn;clear b0 b1 b2 b3 b4 z0 z3;go_wp2_with fail;go_ret;have h8:=Iz.o;have h9:=Oc.o;rw [S.o,U.o] at h8 h9
 exact⟨by first | rfl|(rw [j.o];rfl),_,_,by first | exact h8|(rw [j.o] at h8 ⊢;exact h8),by first | exact h9|(rw [j.o] at h9 ⊢;exact h9)⟩
theorem Fh {l:List Tok}:∀ (n:Nat) (q:El) (b:List Int) (s d:RS) (c:List Int),bH l n (.gQ q b) s=some (c,d)→c.length+s.k≤b.length+d.k
 | 0,_,_,_,_,_,h=>by cases h
 | n+1,q,b,s,d,c,h=>by
  rw [bH] at h
  split at h
  ·obtain⟨a,t,r,h⟩:=aN h;have h1:=Fh n q _ _ _ _ h;have h2:=(bQ _ _ _ _ _ r).k;have h3:s.dU.k=s.k+1:=rfl;rw [ak5,ak_] at h1
   omega
  ·obtain⟨rfl,rfl⟩:=dX h;omega
theorem VR {l:List Tok}(n:Nat)(q:El)(s c:RS)(b:List Int)(h:bH l n (.list q) s=some (b,c)):b.length≤c.k+1:=by
 rcases n with _ | n
 ·cases h
 ·rw [bH] at h
  obtain⟨a,t,r,h⟩:=aN h;have h1:=Fh n q _ _ _ _ h;rw [ak_] at h1
  omega
theorem aa4 {l:List Tok}(s:RS):To l s (rup l s).2:=by
 unfold rup;split
 ·rename_i e
  split
  ·exact ((To.refl.dU e (by simp)).fail).word (c:=2) (by simp)
  ·exact (To.refl.dU e (by simp)).word (c:=2) (by simp)
 ·exact To.refl
theorem QS.adE {g:Nat}{tv:Value}{l:List Tok}{iv:Value}{w:World}{s:RS}{xs:List NV}{nv:Value}(d:QS g tv l iv w s xs nv){b:Nat}{T:TypeId}{cs:Array Value}(a:bf w b T cs)(c:g < b):bf (w.setCell ⟨g,4,none⟩ (.bool true)) b T cs:=a.far (p:=⟨g,4,none⟩) (Nat.ne_of_gt c) _
theorem ag_ {l:List Tok}{s:RS}(h:s.next l=[117,112,116,111])(h0:s.dU.next l=[48]):rup l s=(kH (s.dU.fail.word l 2).1,(s.dU.fail.word l 2).2):=by unfold rup;rw [if_pos h,if_pos h0]
theorem ag' {l:List Tok}{s:RS}(h:s.next l=[117,112,116,111])(h0:¬ s.dU.next l=[48]):rup l s=(kH (s.dU.word l 2).1,(s.dU.word l 2).2):=by unfold rup;rw [if_pos h,if_neg h0]
theorem aha {l:List Tok}{s:RS}(h:¬ s.next l=[117,112,116,111]):rup l s=(0,s):=by unfold rup;rw [if_neg h]
theorem aaJ (l:List Tok)(F:l.length≤1000)(hT:∀ t ∈ l,t.text.length≤100000000)(n:Nat)(Q:KO l n)(g:Nat)(tv iv:Value)(w:World)(s:RS)(xs:List NV)(nv:Value)(qs:List Int)(s':RS)(ck:s.kind l=3)(V:s.next l=[102,117,110])(G:fG l n (s.place l) (s.dU.word l 1).1 .zY (s.dU.word l 1).2=some (qs,s'))(hn:s'.ns.length≤100000)(h:QS g tv l iv w s xs nv) :
  Calls Tryz.prog 68 #[.pointer (some ⟨g,0,none⟩)] w fun e w'=>e=.returned (.int .i64 (hd qs))∧∃ xs' gB,QS g tv l iv w' s' xs' gB∧Mw g w xs nv w' xs' gB:=by
 have H:=O h;have M0:=O (Mw.refl (g:=g) (w:=w) (xs:=xs) (nv:=nv));have hle:=h.le;have hg0:=h.lt;clear h;unfold fG at G
 dsimp only at G
 obtain⟨j0,hj0,hy0,hy1,hy2⟩:=info_parts kR
 obtain⟨ps,t0,hP,G⟩:∃ ps t0,((((s.dU.word l 1).2.take l [40]).next l=[41]∧ps=[]∧t0=((s.dU.word l 1).2.take l [40]))∨(¬ ((s.dU.word l 1).2.take l [40]).next l=[41]∧bH l n (.list .param) ((s.dU.word l 1).2.take l [40])=some (ps,t0)))∧kT l n (s.dU.word l 1).1 (s.place l) ps t0=some (qs,s'):=by
  split at G
  ·rename_i h1;exact⟨_,_,.inl ⟨h1,rfl,rfl⟩,G⟩
  ·rename_i h1;obtain⟨ps,t0,h2,h3⟩:=aN G;exact⟨_,_,.inr ⟨h1,h2⟩,h3⟩
 unfold kT at G
 obtain⟨t,j,r1,G⟩:=aN G;obtain⟨b,t2,r2,G⟩:=aN G;obtain⟨rfl,rfl⟩:=bG G;have hb2:t2.ns.length≤100000:=by simp only [RS.put,ak5,ak_] at hn;omega
 have hbu:(rup l j).2.ns.length≤100000:=Nat.le_trans (((To.refl (s:=(rup l j).2)).take (l:=l) (x:=[61]) (by simp)).trans (bQ _ _ _ _ _ r2)).few hb2;have hb1:j.ns.length≤100000:=Nat.le_trans (aa4 j).few hbu;have hb0:t0.ns.length≤100000:=Nat.le_trans ((((To.refl (s:=t0)).take (l:=l) (x:=[41]) (by simp)).take (x:=[58]) (by simp)).trans (bQ _ _ _ _ _ r1)).few hb1
 have hps:ps.length≤1001:=by
  rcases hP with ⟨_,rfl,_⟩ | ⟨_,h1⟩
  ·simp
  ·have h2:=VR _ _ _ _ _ h1;have h3:=(((((To.refl (s:=s)).dU V (by simp)).word (c:=1) (by simp)).take (x:=[40]) (by simp)).trans (bQ _ _ _ _ _ h1)).le hle;omega
 have HP:=O hP;have J:=O r1;have K:=O r2;clear G r1 r2 hP;have hk3:=(dM (l:=l) (s:=s) (by rw [V];simp)).2;have ek:(s.kind l == 3)=true:=by rw [ck];rfl
 have ek':((s.kind l:Int) == 3)=true:=by rw [ck];rfl
 have e0:(s.next l == [99,104,111,111,115,101])=false:=by rw [V];rfl
 have e1:(s.next l == [116,121,112,101])=false:=by rw [V];rfl
 have e2:(s.next l == [102,117,110])=true:=by rw [V];rfl
 have e3:(s.next l == [108,101,116])=false:=by rw [V];rfl
 have e4:(s.next l == [111,98,115,101,114,118,101])=false:=by rw [V];rfl
 have e5:(s.next l == [114,101,116,114,97,99,116])=false:=by rw [V];rfl
 have e6:(s.next l == [97,115,107])=false:=by rw [V];rfl
 clear V ck;go_in
 go_wp2_with fail;refine (aX g tv l iv _ _ _ _ H.o F).mono ?_;rintro e w1⟨rfl,f⟩;have H1:=O (H.o.below f);have M1:=O (M0.o.aU f);clear f H M0;go_wp2_with fail;refine (dh g tv l iv _ _ _ _ H1.o F).mono ?_;rintro e w2⟨rfl,f⟩;have H2:=O (H1.o.below f);have M2:=O (M1.o.aU f);clear f H1 M1;go_wp2_with fail;refine (iE g tv l iv _ _ _ _ H2.o F).mono ?_;rintro e w3⟨rfl,f⟩;have H3:=O (H2.o.below f);have M3:=O (M2.o.aU f);clear f H2 M2;have hk4:=hk3;have c1:=H3.o.blk.cell 1;have f1:=H3.o.blk.frozen 1;have H4:=O (H3.o.dU hk4);have M4:=O (M3.o.jU H3.o.sP);clear H3 M3;go_wp2_with fail;clear c1 f1;go_wp2_with fail;refine (iF g tv l iv _ _ _ _ 1 (by simp) (by simp) H4.o F).mono ?_;rintro e w5⟨rfl,h,m⟩;have I:=O h;have N:=O (M4.o.jU m);clear h m H4 M4;have a:=O (bf.new w5 50 #[.int .u8 42,.string (aH (s.dU.word l 1).1),.int .i64 0,.slice none 0 0,.int .i64 (s.place l)]);have v:g < w5.heap.size:=I.o.lt;have d:some w5.heap.size ≠ nv.ownBlock:=fun e=>by have:=I.o.iU _ e.symm;omega
 have nH:w.heap.size≤w5.heap.size:=N.o.size;have H6:=O (I.o.alloc (.cells #[.int .u8 42,.string (aH (s.dU.word l 1).1),.int .i64 0,.slice none 0 0,.int .i64 (s.place l)] 50));have M6:=O (N.o.dK (o:=.cells #[.int .u8 42,.string (aH (s.dU.word l 1).1),.int .i64 0,.slice none 0 0,.int .i64 (s.place l)] 50));clear I N;go_wp2_with fail;refine (eT g tv l iv _ _ _ _ [40] (by simp) H6.o F).mono ?_;rintro e w7⟨rfl,h,m⟩;have H7:=O h;have M7:=O (M6.o.jU m);have k:=m.ne a.o.lt d
 replace a:=O (m.blk a.o (Nat.ne_of_gt v) d)
 clear d;have d:=k;clear k;clear h m H6 M6;have HL:=O (LR.nil w _ xs:LR w w7 xs (.slice none 0 0) []);obtain⟨nb,hnb⟩:∃ nb,nb=w5.heap.size:=⟨_,rfl⟩;go_wp2_with fail;refine (aX g tv l iv _ _ _ _ H7.o F).mono ?_;rintro e w8⟨rfl,f⟩;have H8:=O (H7.o.below f);have M8:=O (M7.o.aU f)
 replace a:=O (a.o.below f a.o.lt)
 replace HL:=O (HL.o.below f)
 clear f H7 M7;rw [← hnb] at a v d nH
 go_upto_if 79 with (fail)
 rw [← hnb];clear hnb;go_cut [] from 79 to 82 (fun wx=>∃ (A:Option Addr) (c:Nat) (x1:List NV) (n1:Value),some nb ≠ n1.ownBlock∧Hid (bf wx nb 50 #[.int .u8 42,.string (aH (s.dU.word l 1).1),.int .i64 (0),.slice A (ps.length) c,.int .i64 (s.place l)])∧Hid (LR w wx x1 (.slice A ps.length c) ps)∧Hid (QS g tv l iv wx t0 x1 n1)∧Hid (Mw g w xs nv wx x1 n1))
 case first =>
  rcases HP.o with ⟨h1,rfl,rfl⟩ | ⟨h1,r1⟩
  ·clear HP J K;have k1:(((s.dU.word l 1).2.take l [40]).next l == [41])=true:=by rw [h1];rfl
   clear h1;rw [k1,Bool.not_true];go_wp2_with fail;go_meet
   exact⟨none,0,xs,nv,d,a,HL,H8,M8⟩
  ·have qV:=O r1;clear HP J K r1;have k1:(((s.dU.word l 1).2.take l [40]).next l == [41])=false:=by simpa using h1
   clear h1 HL;rw [k1,Bool.not_false];go_wp2_with fail;refine (Q.param g tv iv _ _ _ _ _ _ qV.o hb0 H8.o).mono ?_;rintro e w9⟨AL,cL,xs9,nv9,rfl,hL,h,m⟩;have L:=O (hL.base M8.o.size);clear hL;have H9:=O h;have M9:=O (M8.o.trans m);have k:=m.ne a.o.lt d
   replace a:=O (m.blk a.o (Nat.ne_of_gt v) d)
   clear d;have d:=k;clear k;clear h m H8 M8;have z3:=a.o.frozen 3;have b3:=a.o.cell 3;have zx:=O (H9.o.lI a.o v d 3 (.slice AL ps.length cL));have Cm:=O (M9.o.jV (i:=3) (u:=.slice AL ps.length cL) nH)
   replace L:=O (L.o.vP a.o 3 (.slice AL ps.length cL))
   replace a:=O (a.o.upd 3 (.slice AL ps.length cL) (cs':=#[.int .u8 42,.string (aH (s.dU.word l 1).1),.int .i64 0,.slice AL ps.length cL,.int .i64 (s.place l)]) rfl)
   clear H9 M9;go_wp2_with fail;go_meet
   exact⟨AL,cL,_,_,d,a,L,zx,Cm⟩
 case rest =>
  clear HL a d H8 M8 HP;obtain⟨A,c,xs1,gT,d,a,L,H,M0⟩:=hcut;go_wp2_with fail;refine (eT g tv l iv _ _ _ _ [41] (by simp) H.o F).mono ?_;rintro e w61⟨rfl,h,m⟩;have Gp:=O h;have WO:=O (M0.o.jU m);have k:=m.ne a.o.lt d
  replace a:=O (m.blk a.o (Nat.ne_of_gt v) d)
  clear d;have d:=k;clear k
  replace L:=O (L.o.mv H.o m)
  clear h m H M0;go_wp2_with fail;refine (eT g tv l iv _ _ _ _ [58] (by simp) Gp.o F).mono ?_;rintro e w62⟨rfl,h,m⟩;have Xe:=O h;have P:=O (WO.o.jU m);have k:=m.ne a.o.lt d
  replace a:=O (m.blk a.o (Nat.ne_of_gt v) d)
  clear d;have d:=k;clear k
  replace L:=O (L.o.mv Gp.o m)
  clear h m Gp WO;have d3:=a.o.cell 3;have dz:=a.o.frozen 3;have hz2:=a.o.lt;go_upto_region 38 with (fail)
  have HD:=O Xe.o.drew;have LD:=O (L.o.below (Below.drew (Below.refl _ _)));have ND:=O a.o.drew;have MD:=O (P.o.aU (Below.drew (Below.refl _ _)));clear L a Xe P
  go_region_law ((first
   | (guard_target =~ ((if Region.wanted _ _=true then _ else _:Prop));refine step_append_lies _ (by rfl) _ _ _ (by rfl) 0 3 j0 _ 1 8 Tryz.underlying30 hj0 hy0 hy1 hy2 rfl (by omega) _ (ps).length (intCells (ps)) (by first | rfl|(simp only [ak5,ak_];rfl)) (y.o.alloc _).row ⟨w50.heap.size,0,none⟩ 1 1 [.int .i64 (hd t)] (by rfl) (by rfl) (cell_one_new _ _ _) (by simp [Value.oneCell']) (by omega) (by simp only [maxLen];omega) (by omega) (ak2 _) _ rfl ?_;intro C cap w6 q W yA Jo;have B:=O ((y.o.alloc (.cells #[.int .i64 (hd t)] 3)).blk (S.o.alloc _) W);have hms:=N.o.size;have L6:=O ((y.o.alloc (.cells #[.int .i64 (hd t)] 3)).grow (I.o.alloc _) q yA (Nat.le_trans hms (by simp)));have H6:=O ((I.o.alloc _).grow (y.o.alloc (.cells #[.int .i64 (hd t)] 3)) W (fun b f=>ak1 (alb hg0 (y.o.lo b f))));have M6:=O (N.o.dK.grow (y.o.alloc (.cells #[.int .i64 (hd t)] 3)) W);clear q W yA Jo;have e6:=B.o.cell 3;have f6:=B.o.frozen 3;have Zw:=B.o.lt)
   | (go_simp;go_at_call 118;go_loud (refine (Q.typ g tv iv _ _ _ _ _ _ J.o hb1 HD.o).mono ?_;rintro e w50⟨rfl,ahe,aff,h,m⟩;have I:=O h;have N:=O (MD.o.trans m);have R5:=m.ne ND.o.lt d;have S:=O (m.blk ND.o (Nat.ne_of_gt v) d);have y:=O (LD.o.mw HD.o m);clear h m;have e5:=S.o.cell 3;have f5:=S.o.frozen 3;have Zv:=S.o.lt))))
  all_goals
   have a:=O (B.o.upd 3 (.slice (some ⟨C,0,none⟩) (ps.length+1) cap) (cs':=#[.int .u8 42,.string (aH (s.dU.word l 1).1),.int .i64 0,.slice (some ⟨C,0,none⟩) (ps.length+1) cap,.int .i64 (s.place l)]) rfl);have D:=O (H6.o.lI B.o v R5 3 (.slice (some ⟨C,0,none⟩) (ps.length+1) cap));have Z:=O (M6.o.jV (i:=3) (u:=.slice (some ⟨C,0,none⟩) (ps.length+1) cap) nH);have L:=O (L6.o.vP B.o 3 (.slice (some ⟨C,0,none⟩) (ps.length+1) cap));clear d;have d:=R5;clear B H6 M6 L6 e6 f6 e5 f5 S y I N Zv Zw R5;go_wp2_with fail;refine (aX g tv l iv _ _ _ _ D.o F).mono ?_;rintro e w64⟨rfl,f⟩;have r:=O (D.o.below f);have M64:=O (Z.o.aU f)
   replace a:=O (a.o.below f a.o.lt)
   replace L:=O (L.o.below f)
   clear f D Z;go_upto_if 96 with (fail)
   go_cut [] from 96 to 112 (fun wx=>∃ (A:Option Addr) (c:Nat) (x1:List NV) (n1:Value),some nb ≠ n1.ownBlock∧Hid (bf wx nb 50 #[.int .u8 42,.string (aH (s.dU.word l 1).1),.int .i64 ((rup l j).1),.slice A (ps.length+1) c,.int .i64 (s.place l)])∧Hid (LR w wx x1 (.slice A (ps.length+1) c) (ps ++ [hd t]))∧Hid (QS g tv l iv wx (rup l j).2 x1 n1)∧Hid (Mw g w xs nv wx x1 n1))
   case first =>
    clear J K;by_cases h1:j.next l=[117,112,116,111]
    ·have k1:(j.next l == [117,112,116,111])=true:=by rw [h1];rfl
     have hk3:=(dM (l:=l) (s:=j) (by rw [h1];simp)).2;have X:=O h1;clear h1;rw [k1];have ait:=hk3;have c1:=r.o.blk.cell 1;have f1:=r.o.blk.frozen 1;have H65:=O (r.o.dU ait);have M65:=O (M64.o.jU r.o.sP)
     replace a:=O (r.o.xR a.o v)
     replace L:=O (L.o.mv r.o r.o.sP)
     clear r M64;go_wp2_with fail;clear c1 f1;go_wp2_with fail;refine (aX g tv l iv _ _ _ _ H65.o F).mono ?_;rintro e w66⟨rfl,f⟩;have T:=O (H65.o.below f);have M66:=O (M65.o.aU f)
     replace a:=O (a.o.below f a.o.lt)
     replace L:=O (L.o.below f)
     clear f H65 M65;by_cases h2:j.dU.next l=[48]
     ·have k2:(j.dU.next l == [48])=true:=by rw [h2];rfl
      have M:=O (ag_ X.o h2);clear h2 k1 X;have c4:=T.o.blk.cell 4;have f4:=T.o.blk.frozen 4;have E:=O T.o.fail;have R:=O (M66.o.jU (T.o.mv4 (.bool true)))
      replace a:=O (T.o.adE a.o v)
      replace L:=O (L.o.mv T.o (T.o.mv4 (.bool true)))
      clear T M66;go_wp2_with fail;clear c4 f4;go_wp2_with fail;refine (m_ g tv l iv _ _ _ _ hT E.o F).mono ?_;rintro e w68⟨rfl,h,m⟩;have Y:=O h;have M68:=O (R.o.jU m);have k:=m.ne a.o.lt d
      replace a:=O (m.blk a.o (Nat.ne_of_gt v) d)
      clear d;have d:=k;clear k
      replace L:=O (L.o.mv E.o m)
      clear h m E R;have z2:=a.o.frozen 2;have b2:=a.o.cell 2;have H69:=O (Y.o.lI a.o v d 2 (.int .i64 (kH (j.dU.fail.word l 2).1)));have M69:=O (M68.o.jV (i:=2) (u:=.int .i64 (kH (j.dU.fail.word l 2).1)) nH)
      replace L:=O (L.o.vP a.o 2 (.int .i64 (kH (j.dU.fail.word l 2).1)))
      replace a:=O (a.o.upd 2 (.int .i64 (kH (j.dU.fail.word l 2).1)) (cs':=#[.int .u8 42,.string (aH (s.dU.word l 1).1),.int .i64 (kH (j.dU.fail.word l 2).1),.slice (some ⟨C,0,none⟩) (ps.length+1) cap,.int .i64 (s.place l)]) rfl)
      clear Y M68;go_wp2_with fail;go_meet
      rw [M.o];exact⟨_,_,_,_,d,a,L,H69,M69⟩
     ·have k2:(j.dU.next l == [48])=false:=by simpa using h2
      have M:=O (ag' X.o h2);clear h2 k1 X;go_wp2_with fail;refine (m_ g tv l iv _ _ _ _ hT T.o F).mono ?_;rintro e w67⟨rfl,h,m⟩;have E:=O h;have R:=O (M66.o.jU m);have k:=m.ne a.o.lt d
      replace a:=O (m.blk a.o (Nat.ne_of_gt v) d)
      clear d;have d:=k;clear k
      replace L:=O (L.o.mv T.o m)
      clear h m T M66;have z2:=a.o.frozen 2;have b2:=a.o.cell 2;have Y:=O (E.o.lI a.o v d 2 (.int .i64 (kH (j.dU.word l 2).1)));have M68:=O (R.o.jV (i:=2) (u:=.int .i64 (kH (j.dU.word l 2).1)) nH)
      replace L:=O (L.o.vP a.o 2 (.int .i64 (kH (j.dU.word l 2).1)))
      replace a:=O (a.o.upd 2 (.int .i64 (kH (j.dU.word l 2).1)) (cs':=#[.int .u8 42,.string (aH (s.dU.word l 1).1),.int .i64 (kH (j.dU.word l 2).1),.slice (some ⟨C,0,none⟩) (ps.length+1) cap,.int .i64 (s.place l)]) rfl)
      clear E R;go_wp2_with fail;go_meet
      rw [M.o];exact⟨_,_,_,_,d,a,L,Y,M68⟩
    ·have k1:(j.next l == [117,112,116,111])=false:=by simpa using h1
     have M:=O (aha h1);clear h1;rw [k1];go_wp2_with fail;go_meet
     rw [M.o];exact⟨_,_,_,_,d,a,L,r,M64⟩
   case rest =>
    clear a d L r M64 J;obtain⟨A2,c2,xs2,Oe,d,a,L,H,M0⟩:=hcut;obtain⟨U,hU⟩:∃ U,U=rup l j:=⟨_,rfl⟩;have hR:=K.o;rw [← hU] at a H hR hbu
    have HU:=O hU;have HR:=O hR;clear hU hR K;go_wp2_with fail;refine (eT g tv l iv _ _ _ _ [61] (by simp) H.o F).mono ?_;rintro e w61⟨rfl,h,m⟩;have Gp:=O h;have WO:=O (M0.o.jU m);have k:=m.ne a.o.lt d
    replace a:=O (m.blk a.o (Nat.ne_of_gt v) d)
    clear d;have d:=k;clear k
    replace L:=O (L.o.mv H.o m)
    clear h m H M0;have hkl:(ps ++ [hd t]).length≤1002:=by rw [ak5,ak_];omega
    have d3:=a.o.cell 3;have dz:=a.o.frozen 3;have hz2:=a.o.lt;go_upto_region 45 with (fail)
    have HD:=O Gp.o.drew;have LD:=O (L.o.below (Below.drew (Below.refl _ _)));have ND:=O a.o.drew;have MD:=O (WO.o.aU (Below.drew (Below.refl _ _)));clear L a Gp WO
    go_region_law ((first
     | (guard_target =~ ((if Region.wanted _ _=true then _ else _:Prop));refine step_append_lies _ (by rfl) _ _ _ (by rfl) 0 3 j0 _ 1 8 Tryz.underlying30 hj0 hy0 hy1 hy2 rfl (by omega) _ (ps ++ [hd t]).length (intCells (ps ++ [hd t])) (by first | rfl|(simp only [ak5,ak_];rfl)) (y.o.alloc _).row ⟨w50.heap.size,0,none⟩ 1 1 [.int .i64 (hd b)] (by rfl) (by rfl) (cell_one_new _ _ _) (by simp [Value.oneCell']) (by omega) (by simp only [maxLen];omega) (by omega) (ak2 _) _ rfl ?_;intro C cap w6 q W yA Jo;have B:=O ((y.o.alloc (.cells #[.int .i64 (hd b)] 3)).blk (S.o.alloc _) W);have hms:=N.o.size;have L6:=O ((y.o.alloc (.cells #[.int .i64 (hd b)] 3)).grow (I.o.alloc _) q yA (Nat.le_trans hms (by simp)));have H6:=O ((I.o.alloc _).grow (y.o.alloc (.cells #[.int .i64 (hd b)] 3)) W (fun b f=>ak1 (alb hg0 (y.o.lo b f))));have M6:=O (N.o.dK.grow (y.o.alloc (.cells #[.int .i64 (hd b)] 3)) W);clear q W yA Jo;have e6:=B.o.cell 3;have f6:=B.o.frozen 3;have Zw:=B.o.lt)
     | (go_simp;go_at_call 120;go_loud (refine (Q.expr g tv iv _ _ _ _ _ _ HR.o hb2 HD.o).mono ?_;rintro e w50⟨rfl,ahe,aff,h,m⟩;have I:=O h;have N:=O (MD.o.trans m);have R5:=m.ne ND.o.lt d;have S:=O (m.blk ND.o (Nat.ne_of_gt v) d);have y:=O (LD.o.mw HD.o m);clear h m;have e5:=S.o.cell 3;have f5:=S.o.frozen 3;have Zv:=S.o.lt))))
    all_goals
     have a:=O (B.o.upd 3 (.slice (some ⟨C,0,none⟩) (ps.length+1+1) cap) (cs':=#[.int .u8 42,.string (aH (s.dU.word l 1).1),.int .i64 U.1,.slice (some ⟨C,0,none⟩) (ps.length+1+1) cap,.int .i64 (s.place l)]) rfl);have Xe:=O (H6.o.lI B.o v R5 3 (.slice (some ⟨C,0,none⟩) (ps.length+1+1) cap));have P:=O (M6.o.jV (i:=3) (u:=.slice (some ⟨C,0,none⟩) (ps.length+1+1) cap) nH);have L:=O (L6.o.vP B.o 3 (.slice (some ⟨C,0,none⟩) (ps.length+1+1) cap));clear d;have d:=R5;clear B H6 M6 L6 e6 f6 e5 f5 S y I N Zv Zw R5;have b0:=a.o.cell 0;have b1:=a.o.cell 1;have b2:=a.o.cell 2;have b3:=a.o.cell 3;have b4:=a.o.cell 4;have LK:=O (show dD _ (.slice (some ⟨C,0,none⟩) (ps.length+1+1) cap) (ps ++ [hd t] ++ [hd b]) by have h9:=L.o.row;simpa only [ak5,ak_] using h9);have TD:=L.o.lo;clear L;go_wp2_with fail;refine (dZ g tv l iv _ _ _ _ 42 _ _ _ _ (ps ++ [hd t] ++ [hd b]) Xe.o LK.o (by omega)).mono ?_;rintro e w63⟨rfl,akJ,h,m⟩;have D:=O h;have Z:=O (P.o.gy D.o m TD);have k:=m.ne a.o.lt d
     replace a:=O (m.blk a.o (Nat.ne_of_gt v) d)
     clear d;have d:=k;clear k;clear h m Xe P;go_wp2_with fail;go_ret;have h8:=D.o;have h9:=Z.o;rw [HU.o] at h8 h9
     exact⟨rfl,_,_,h8,h9⟩
