/-
  A part of the proof.
-/
import Derived.Test.YtalghggmkojblaaGreatDoorS44
set_option linter.all false
set_option maxRecDepth 100000
set_option maxHeartbeats 4000000
namespace Go.Proofs.YtalghggmkojblaaGreatDoor
open Go.RowKit Mist
attribute [local go_sem] ak aN aV aF aj
theorem aeT {b:Bool}{g:Nat}{iv:Value}{w0 w:World}{s:Gs}{xs:List NV}{nv lv:Value}{i:List Int}(H:Hid (PL g b iv w s xs nv lv))(d:Hid (LG w0 w xs iv i))(hw:w0.heap.size≤w.heap.size)(hg:g < w0.heap.size)(hil:i.length≤1000)(hn:s.ns.length≤100000)(N:s.nx % 7=3) :
  Calls Tryz.prog 10 #[.pointer (some ⟨g,0,none⟩)] w (nI g b w0 w i (iF b s)):=by
 obtain⟨Ai,ci,A⟩:=dA d.o.row;subst A;obtain⟨j0,B,C,D,F⟩:=info_parts jq;have V:=O fun (row:Option Nat) (w':World) (m:Mv g nv.ownBlock w row w')=>H.o.low m
 have M:=O (Gw.refl (g:=g) (w:=w) (xs:=xs) (nv:=nv));have Uz:=O (dw.lt d.o.row);obtain⟨E,L⟩:∃ E,Hid (dx b 4=E):=⟨_,O rfl⟩;have X:=O (adq b);rw [L.o] at X
 have Xr:Int.tmod (s.nx:Int) 7=3:=by rw [Int.tmod_eq_emod_of_nonneg (by omega)];omega
 have J:=O (show gI b s=qG b (dD s.tl.nx) s.tl.tl by unfold gI;simp only;rw [if_neg (by omega),if_neg (by omega),if_neg (by omega),if_pos N]);have Mt:=O (show iY s=[] from if_neg (fun h=>by omega));go_in
 go_wp2_with fail;refine (BK H M).mono ?_;clear H M;rintro e w1⟨oH,rfl,q1,H,M,R⟩
 replace d:=kp R d
 clear R;go_wp2_with fail;refine (BK H M).mono ?_;clear H M;rintro e w2⟨EW,rfl,q2,H,M,R⟩
 replace d:=kp R d
 clear R;go_wp2_with fail;refine (YZ (s.tl.nx) _).mono ?_;rintro e w3⟨x,rfl,Hx,lx,rfl⟩;rw [Hx.o] at J
 clear N;go_wp2_with fail;refine (Qu H M X (by omega)).mono ?_;clear H M;rintro e w4⟨c,y,xs4,Ed,Tc,rfl,iw,KH,O4,tl4,bn4,H,M,R⟩
 replace d:=kp R d
 clear R;have sO:¬ 9223372036854775807 < 4+x.length:=by omega
 have vH:¬ 9223372036854775807 < 4+x.length+1:=by omega
 go_wp2_with fail;refine (xD H M).mono ?_;clear H M;rintro e w5⟨l,lv5,rfl,U,gl5,q5,H,M,R⟩
 replace d:=kp R d
 clear R;clear sO vH;have NQ:¬ 9223372036854775807 < 4+x.length:=by omega
 have NR:¬ 9223372036854775807 < 4+x.length+1:=by omega
 have Qt:¬ 9223372036854775807 < 4+x.length+1+l.length:=by omega
 have RN:¬ 9223372036854775807 < 4+x.length+1+l.length+y.length:=by omega
 go_wp2_with fail;obtain⟨Y,v⟩:∃ Y:Bs,Hid ([108,101,116,32] ++ x ++ [61] ++ l ++ y=Y):=⟨_,O rfl⟩;rw [show (⟨#[108,101,116,32]⟩:ByteArray) ++ aG (x) ++ (⟨#[61]⟩:ByteArray) ++ aG (l) ++ aG (y)=aG Y from by rw [← v.o] <;> (simp only [← aj];rfl)];have lY:Y.length≤10000000:=by rw [← v.o];simp only [amQ,List.length_cons,List.length_nil];omega
 refine (ptH H M [c.ix] (by simp) (by omega)).mono ?_;clear H M;rintro e w6⟨xs6,Tn,rfl,H,M,R⟩
 replace d:=kp R d
 clear R
 have Z:=O (show qG b x s.tl.tl=d9 (([],3,[108,101,116]) :: ([32],1,x) :: gu [61] :: eO.on l c.pc) (aM b (c.st)) ⟨43,x,0,[c.ix],0⟩ from by
  unfold qG
  try simp only
  rw [L.o,iw.o,U.o] <;> rfl)
 have I:ah (([],3,[108,101,116]) :: ([32],1,x) :: gu [61] :: eO.on l c.pc) ++ iY s=Y:=by
  rw [Mt.o,List.append_nil];simp only [ah,aX,gu];rw [O4.o,← v.o] <;> simp only [List.nil_append,List.append_nil,List.append_assoc,List.cons_append]
 have Q8:=O I;clear I;obtain⟨id,Q⟩:∃ id,Hid (Gs.id (aM b (c.st))=id):=⟨_,O rfl⟩;rw [Q.o];have k:=(d.o.alloc (.cells #[.int .i64 id] 3)).row;have t:=O k;have cI:=H.o.blk.cell 2;clear k;go_wp2_with (at_builtin;go_loud (refine wpList_append_lies _ rfl (.tmp 234) (.tmp 236) 26 rfl 0 3 j0 (.int .i64 0) 1 8 Tryz.underlying26 B C D F rfl (by decide) _ i.length (intCells i) rfl t.o ⟨w6.heap.size,0,none⟩ 1 1 [.int .i64 id] rfl rfl (cell_one_new _ _ _) (by intro u P;simp at P;subst P;rfl) (by omega) (by simp only [maxLen];omega) (by omega) (amN _) _ rfl ?_);intro gg cap x9 j f n hlt;obtain⟨r,q,L9,T⟩:=itB H M rfl V d hw hg j f n;have c14:=r.cell 2;have f14:=r.frozen 2;clear j f n r)
 refine (iC g b _ _ ((aM b (c.st)).put ⟨43,x,0,[c.ix],0⟩) _ _ _ q.o).mono ?_;rintro e w99⟨rfl,Td,h,m⟩;have W:=O h;have L5:=O (L9.o.mv q.o m);have S:=O (T.o.trans (q.o.low m));clear h m;have MG:=iR b ((aM b (c.st)).put ⟨43,x,0,[c.ix],0⟩);obtain⟨G,K⟩:∃ G,Hid (dQ b ((aM b (c.st)).put ⟨43,x,0,[c.ix],0⟩)=G):=⟨_,O rfl⟩;rw [K.o] at MG ⊢
 have cz0:¬ 9223372036854775807 < Y.length+G.length:=by omega
 have cz1:¬ 9223372036854775807 < Y.length+G.length+1:=by omega
 go_wp2_with fail;go_ret;exact itE (a:=d9 (([],3,[108,101,116]) :: ([32],1,x) :: gu [61] :: eO.on l c.pc) (aM b (c.st)) ⟨43,x,0,[c.ix],0⟩) (J.o.trans Z.o) Q8.o K.o Q.o (by first|(rw [← aj];rfl)|(rw [← aj,← aj];rfl)) W.o L5.o S.o
theorem Tw {b:Bool}{g:Nat}{iv:Value}{w0 w:World}{s:Gs}{xs:List NV}{nv lv:Value}{i:List Int}(H:Hid (PL g b iv w s xs nv lv))(d:Hid (LG w0 w xs iv i))(hw:w0.heap.size≤w.heap.size)(hg:g < w0.heap.size)(hil:i.length≤1000)(hn:s.ns.length≤100000)(N:s.nx % 7=4) :
  Calls Tryz.prog 10 #[.pointer (some ⟨g,0,none⟩)] w (nI g b w0 w i (iF b s)):=by
 obtain⟨Ai,ci,A⟩:=dA d.o.row;subst A;obtain⟨j0,B,C,D,F⟩:=info_parts jq;have V:=O fun (row:Option Nat) (w':World) (m:Mv g nv.ownBlock w row w')=>H.o.low m
 have M:=O (Gw.refl (g:=g) (w:=w) (xs:=xs) (nv:=nv));have Uz:=O (dw.lt d.o.row);obtain⟨E,L⟩:∃ E,Hid (dx b 4=E):=⟨_,O rfl⟩;have X:=O (adq b);rw [L.o] at X
 have Xr:Int.tmod (s.nx:Int) 7=4:=by rw [Int.tmod_eq_emod_of_nonneg (by omega)];omega
 have J:=O (show gI b s=qJ b (dD s.tl.nx) s.tl.tl by unfold gI;simp only;rw [if_neg (by omega),if_neg (by omega),if_neg (by omega),if_neg (by omega),if_pos N]);have Mt:=O (show iY s=[] from if_neg (fun h=>by omega));go_in
 go_wp2_with fail;refine (BK H M).mono ?_;clear H M;rintro e w1⟨oH,rfl,q1,H,M,R⟩
 replace d:=kp R d
 clear R;go_wp2_with fail;refine (BK H M).mono ?_;clear H M;rintro e w2⟨EW,rfl,q2,H,M,R⟩
 replace d:=kp R d
 clear R;go_wp2_with fail;refine (YZ (s.tl.nx) _).mono ?_;rintro e w3⟨x,rfl,Hx,lx,rfl⟩;rw [Hx.o] at J
 clear N;go_wp2_with fail;refine (Qu H M X (by omega)).mono ?_;clear H M;rintro e w4⟨c,y,xs4,Ed,Tc,rfl,iw,KH,O4,tl4,bn4,H,M,R⟩
 replace d:=kp R d
 clear R;have sO:¬ 9223372036854775807 < 8+x.length:=by omega
 go_wp2_with fail;refine (xD H M).mono ?_;clear H M;rintro e w5⟨j,lv5,rfl,U,gl5,q5,H,M,R⟩
 replace d:=kp R d
 clear R;clear sO;have NQ:¬ 9223372036854775807 < 8+x.length:=by omega
 have NR:¬ 9223372036854775807 < 8+x.length+j.length:=by omega
 have Qt:¬ 9223372036854775807 < 8+x.length+j.length+1:=by omega
 have RN:¬ 9223372036854775807 < 8+x.length+j.length+1+y.length:=by omega
 go_wp2_with fail;obtain⟨Y,v⟩:∃ Y:Bs,Hid ([111,98,115,101,114,118,101,32] ++ x ++ j ++ [58] ++ y=Y):=⟨_,O rfl⟩;rw [show (⟨#[111,98,115,101,114,118,101,32]⟩:ByteArray) ++ aG (x) ++ aG (j) ++ (⟨#[58]⟩:ByteArray) ++ aG (y)=aG Y from by rw [← v.o] <;> (simp only [← aj];rfl)];have lY:Y.length≤10000000:=by rw [← v.o];simp only [amQ,List.length_cons,List.length_nil];omega
 refine (ptH H M [c.ix] (by simp) (by omega)).mono ?_;clear H M;rintro e w6⟨xs6,Tn,rfl,H,M,R⟩
 replace d:=kp R d
 clear R
 have Z:=O (show qJ b x s.tl.tl=d9 (([],3,[111,98,115,101,114,118,101]) :: ([32],1,x) :: (j,4,[58]) :: c.pc) (aM b (c.st)) ⟨44,x,0,[c.ix],0⟩ from by
  unfold qJ
  try simp only
  rw [L.o,iw.o,U.o] <;> rfl)
 have I:ah (([],3,[111,98,115,101,114,118,101]) :: ([32],1,x) :: (j,4,[58]) :: c.pc) ++ iY s=Y:=by
  rw [Mt.o,List.append_nil];simp only [ah,aX,gu];rw [KH.o,← v.o] <;> simp only [List.nil_append,List.append_nil,List.append_assoc,List.cons_append]
 have Q8:=O I;clear I;obtain⟨id,Q⟩:∃ id,Hid (Gs.id (aM b (c.st))=id):=⟨_,O rfl⟩;rw [Q.o];have l:=(d.o.alloc (.cells #[.int .i64 id] 3)).row;have t:=O l;have cI:=H.o.blk.cell 2;clear l;go_wp2_with (at_builtin;go_loud (refine wpList_append_lies _ rfl (.tmp 234) (.tmp 236) 26 rfl 0 3 j0 (.int .i64 0) 1 8 Tryz.underlying26 B C D F rfl (by decide) _ i.length (intCells i) rfl t.o ⟨w6.heap.size,0,none⟩ 1 1 [.int .i64 id] rfl rfl (cell_one_new _ _ _) (by intro u P;simp at P;subst P;rfl) (by omega) (by simp only [maxLen];omega) (by omega) (amN _) _ rfl ?_);intro gg cap x9 k f n hlt;obtain⟨r,q,L9,T⟩:=itB H M rfl V d hw hg k f n;have c14:=r.cell 2;have f14:=r.frozen 2;clear k f n r)
 refine (iC g b _ _ ((aM b (c.st)).put ⟨44,x,0,[c.ix],0⟩) _ _ _ q.o).mono ?_;rintro e w99⟨rfl,Td,h,m⟩;have W:=O h;have L5:=O (L9.o.mv q.o m);have S:=O (T.o.trans (q.o.low m));clear h m;have MG:=iR b ((aM b (c.st)).put ⟨44,x,0,[c.ix],0⟩);obtain⟨G,K⟩:∃ G,Hid (dQ b ((aM b (c.st)).put ⟨44,x,0,[c.ix],0⟩)=G):=⟨_,O rfl⟩;rw [K.o] at MG ⊢
 have cz0:¬ 9223372036854775807 < Y.length+G.length:=by omega
 have cz1:¬ 9223372036854775807 < Y.length+G.length+1:=by omega
 go_wp2_with fail;go_ret;exact itE (a:=d9 (([],3,[111,98,115,101,114,118,101]) :: ([32],1,x) :: (j,4,[58]) :: c.pc) (aM b (c.st)) ⟨44,x,0,[c.ix],0⟩) (J.o.trans Z.o) Q8.o K.o Q.o (by first|(rw [← aj];rfl)|(rw [← aj,← aj];rfl)) W.o L5.o S.o
theorem Tx {b:Bool}{g:Nat}{iv:Value}{w0 w:World}{s:Gs}{xs:List NV}{nv lv:Value}{f:List Int}(H:Hid (PL g b iv w s xs nv lv))(c:Hid (LG w0 w xs iv f))(hw:w0.heap.size≤w.heap.size)(hg:g < w0.heap.size)(hil:f.length≤1000)(hn:s.ns.length≤100000)(I:s.nx % 7=5) :
  Calls Tryz.prog 10 #[.pointer (some ⟨g,0,none⟩)] w (nI g b w0 w f (iF b s)):=by
 obtain⟨Ai,ci,v⟩:=dA c.o.row;subst v;obtain⟨j0,y,A,B,C⟩:=info_parts jq;have P:=O fun (row:Option Nat) (w':World) (m:Mv g nv.ownBlock w row w')=>H.o.low m
 have M:=O (Gw.refl (g:=g) (w:=w) (xs:=xs) (nv:=nv));have Uz:=O (dw.lt c.o.row);have Xr:Int.tmod (s.nx:Int) 7=5:=by rw [Int.tmod_eq_emod_of_nonneg (by omega)];omega
 have E:=O (show gI b s=qN b (dD s.tl.nx) s.tl.tl by unfold gI;simp only;rw [if_neg (by omega),if_neg (by omega),if_neg (by omega),if_neg (by omega),if_neg (by omega),if_pos I]);have Z:=O (show iY s=[] from if_neg (fun h=>by omega));go_in
 go_wp2_with fail;refine (BK H M).mono ?_;clear H M;rintro e w1⟨oH,rfl,q1,H,M,R⟩
 replace c:=kp R c
 clear R;go_wp2_with fail;refine (BK H M).mono ?_;clear H M;rintro e w2⟨EW,rfl,q2,H,M,R⟩
 replace c:=kp R c
 clear R;go_wp2_with fail;refine (YZ (s.tl.nx) _).mono ?_;rintro e w3⟨x,rfl,T,lx,rfl⟩;rw [T.o] at E
 clear I;go_wp2_with fail;refine (xD H M).mono ?_;clear H M;rintro e w4⟨k,Tc,rfl,U,Zb,q4,H,M,R⟩
 replace c:=kp R c
 clear R;have NQ:¬ 9223372036854775807 < 7+k.length:=by omega
 have NR:¬ 9223372036854775807 < 7+k.length+x.length:=by omega
 go_wp2_with fail;obtain⟨Y,t⟩:∃ Y:Bs,Hid ([114,101,116,114,97,99,116] ++ k ++ x=Y):=⟨_,O rfl⟩;rw [show (⟨#[114,101,116,114,97,99,116]⟩:ByteArray) ++ aG (k) ++ aG (x)=aG Y from by rw [← t.o] <;> (simp only [← aj];rfl)];have lY:Y.length≤10000000:=by rw [← t.o];simp only [amQ,List.length_cons,List.length_nil];omega
 refine (ptN H M (by omega)).mono ?_;clear H M;rintro e w5⟨xs5,Qx,rfl,H,M,R⟩
 replace c:=kp R c
 clear R
 have S:=O (show qN b x s.tl.tl=d9 [([],3,[114,101,116,114,97,99,116]),(k,1,x)] (aM b (s.tl.tl)) ⟨45,x,0,[],0⟩ from by
  unfold qN
  try simp only
  rw [U.o] <;> rfl)
 have D:ah [([],3,[114,101,116,114,97,99,116]),(k,1,x)] ++ iY s=Y:=by
  rw [Z.o,List.append_nil];simp only [ah,aX,gu];rw [← t.o] <;> simp only [List.nil_append,List.append_nil,List.append_assoc,List.cons_append]
 have Q8:=O D;clear D;obtain⟨id,K⟩:∃ id,Hid (Gs.id (aM b (s.tl.tl))=id):=⟨_,O rfl⟩;rw [K.o];have j:=(c.o.alloc (.cells #[.int .i64 id] 3)).row;have r:=O j;have cI:=H.o.blk.cell 2;clear j;go_wp2_with (at_builtin;go_loud (refine wpList_append_lies _ rfl (.tmp 234) (.tmp 236) 26 rfl 0 3 j0 (.int .i64 0) 1 8 Tryz.underlying26 y A B C rfl (by decide) _ f.length (intCells f) rfl r.o ⟨w5.heap.size,0,none⟩ 1 1 [.int .i64 id] rfl rfl (cell_one_new _ _ _) (by intro u J;simp at J;subst J;rfl) (by omega) (by simp only [maxLen];omega) (by omega) (amN _) _ rfl ?_);intro gg cap x9 i d l hlt;obtain⟨q,n,W,N⟩:=itB H M rfl P c hw hg i d l;have c14:=q.cell 2;have f14:=q.frozen 2;clear i d l q)
 refine (iC g b _ _ ((aM b (s.tl.tl)).put ⟨45,x,0,[],0⟩) _ _ _ n.o).mono ?_;rintro e w99⟨rfl,Td,h,m⟩;have Q:=O h;have V:=O (W.o.mv n.o m);have L:=O (N.o.trans (n.o.low m));clear h m;have X:=iR b ((aM b (s.tl.tl)).put ⟨45,x,0,[],0⟩);obtain⟨G,F⟩:∃ G,Hid (dQ b ((aM b (s.tl.tl)).put ⟨45,x,0,[],0⟩)=G):=⟨_,O rfl⟩;rw [F.o] at X ⊢
 have cz0:¬ 9223372036854775807 < Y.length+G.length:=by omega
 have cz1:¬ 9223372036854775807 < Y.length+G.length+1:=by omega
 go_wp2_with fail;go_ret;exact itE (a:=d9 [([],3,[114,101,116,114,97,99,116]),(k,1,x)] (aM b (s.tl.tl)) ⟨45,x,0,[],0⟩) (E.o.trans S.o) Q8.o F.o K.o (by first|(rw [← aj];rfl)|(rw [← aj,← aj];rfl)) Q.o V.o L.o
theorem X6 {b:Bool}{g:Nat}{iv:Value}{w0 w:World}{s:Gs}{xs:List NV}{nv lv:Value}{t:List Int}(H:Hid (PL g b iv w s xs nv lv))(c:Hid (LG w0 w xs iv t))(hw:w0.heap.size≤w.heap.size)(hg:g < w0.heap.size)(hil:t.length≤1000)(hn:s.ns.length≤100000)(hb:s.nx % 7=0) :
  Calls Tryz.prog 10 #[.pointer (some ⟨g,0,none⟩)] w (nI g b w0 w t (iF b s)):=by
 obtain⟨Ai,ci,L⟩:=dA c.o.row;subst L;obtain⟨j0,N,S,T,U⟩:=info_parts jq;have Ev:=O fun (row:Option Nat) (w':World) (m:Mv g nv.ownBlock w row w')=>H.o.low m
 have M:=O (Gw.refl (g:=g) (w:=w) (xs:=xs) (nv:=nv));have Uz:=O (dw.lt c.o.row);have Xr:Int.tmod (s.nx:Int) 7=0:=by rw [Int.tmod_eq_emod_of_nonneg (by omega)];omega
 have X:=O (show gI b s=rH b (dD s.tl.nx) s.tl.tl by unfold gI;simp only;rw [if_pos hb]);have Mt:=O (show iY s=[] from if_neg (fun h=>by omega));go_in
 go_wp2_with fail;refine (BK H M).mono ?_;clear H M;rintro e w1⟨oH,rfl,q1,H,M,R⟩
 replace c:=kp R c
 clear R;go_wp2_with fail;refine (BK H M).mono ?_;clear H M;rintro e w2⟨EW,rfl,q2,H,M,R⟩
 replace c:=kp R c
 clear R;go_wp2_with fail;refine (YZ (s.tl.nx) _).mono ?_;rintro e w3⟨x,rfl,Hx,lx,rfl⟩;rw [Hx.o] at X
 clear hb;obtain⟨q,Q⟩:∃ m,m=(s.tl.tl).nx % 30:=⟨_,rfl⟩;have zq:Int.tmod ((s.tl.tl).nx:Int) 30=(q:Int):=by rw [Int.tmod_eq_emod_of_nonneg (by omega),Q];omega
 have Hq:=O Q.symm;have bq:q≤29:=by omega
 clear Q;obtain⟨low,r⟩:∃ low:Int,low=(q:Int) - 15:=⟨_,rfl⟩;have zl:IntKind.i64.wrap ((q:Int) - 15)=low:=by rw [IntWalk.i64_in _ (by omega),r]
 have yj:=O r.symm;have hl1:-15≤low:=by omega
 have hl2:low≤14:=by omega
 clear r;go_wp2_with fail;refine (BK H M).mono ?_;clear H M;rintro e w4⟨Tc,rfl,q4,H,M,R⟩
 replace c:=kp R c
 clear R;go_wp2_with fail;refine (nbH H M (n:=low) (by omega) (by omega) (by omega)).mono ?_;clear H M;rintro e w5⟨k,j,xs5,Qx,lv5,rfl,kR,KI,O5,tl5,bn5,H,M,R⟩
 replace c:=kp R c
 clear R;obtain⟨p,P⟩:∃ m,m=(k.st).nx % 12:=⟨_,rfl⟩;have zp:Int.tmod ((k.st).nx:Int) 12=(p:Int):=by rw [Int.tmod_eq_emod_of_nonneg (by omega),P];omega
 have Hp:=O P.symm;have bp:p≤11:=by omega
 clear P;have zl2:IntKind.i64.wrap (low+(p:Int))=low+(p:Int):=IntWalk.i64_in _ (by omega);go_wp2_with fail;refine (BK H M).mono ?_;clear H M;rintro e w6⟨lv6,rfl,q6,H,M,R⟩
 replace c:=kp R c
 clear R;go_wp2_with fail;refine (nbH H M (n:=low+(p:Int)) (by omega) (by omega) (by omega)).mono ?_;clear H M;rintro e w7⟨f,K,xs7,nv7,lv7,rfl,sG,HT7,O7,tl7,bn7,H,M,R⟩
 replace c:=kp R c
 clear R;have sO:¬ 9223372036854775807 < 7+x.length:=by omega
 have vH:¬ 9223372036854775807 < 7+x.length+1:=by omega
 go_wp2_with fail;refine (xD H M).mono ?_;clear H M;rintro e w8⟨d,lv8,rfl,D,gl8,q8,H,M,R⟩
 replace c:=kp R c
 clear R;clear sO vH;have zM:¬ 9223372036854775807 < 7+x.length:=by omega
 have zN:¬ 9223372036854775807 < 7+x.length+1:=by omega
 have NJ:¬ 9223372036854775807 < 7+x.length+1+d.length:=by omega
 have NK:¬ 9223372036854775807 < 7+x.length+1+d.length+j.length:=by omega
 go_wp2_with fail;refine (xD H M).mono ?_;clear H M;rintro e w9⟨i,lv9,rfl,E,MG,q9,H,M,R⟩
 replace c:=kp R c
 clear R;clear zM zN NJ NK;have zO:¬ 9223372036854775807 < 7+x.length:=by omega
 have zP:¬ 9223372036854775807 < 7+x.length+1:=by omega
 have zQ:¬ 9223372036854775807 < 7+x.length+1+d.length:=by omega
 have zR:¬ 9223372036854775807 < 7+x.length+1+d.length+j.length:=by omega
 have FU:¬ 9223372036854775807 < 7+x.length+1+d.length+j.length+i.length:=by omega
 have NM:¬ 9223372036854775807 < 7+x.length+1+d.length+j.length+i.length+2:=by omega
 go_wp2_with fail;refine (xD H M).mono ?_;clear H M;rintro e w10⟨A,agL,rfl,ZO,ad2,q10,H,M,R⟩
 replace c:=kp R c
 clear R;clear zO zP zQ zR FU NM;have NQ:¬ 9223372036854775807 < 7+x.length:=by omega
 have NR:¬ 9223372036854775807 < 7+x.length+1:=by omega
 have Qt:¬ 9223372036854775807 < 7+x.length+1+d.length:=by omega
 have RN:¬ 9223372036854775807 < 7+x.length+1+d.length+j.length:=by omega
 have cq4:¬ 9223372036854775807 < 7+x.length+1+d.length+j.length+i.length:=by omega
 have cq5:¬ 9223372036854775807 < 7+x.length+1+d.length+j.length+i.length+2:=by omega
 have cq6:¬ 9223372036854775807 < 7+x.length+1+d.length+j.length+i.length+2+A.length:=by omega
 have cq7:¬ 9223372036854775807 < 7+x.length+1+d.length+j.length+i.length+2+A.length+K.length:=by omega
 go_wp2_with fail;obtain⟨Y,J⟩:∃ Y:Bs,Hid ([99,104,111,111,115,101,32] ++ x ++ [58] ++ d ++ j ++ i ++ [46,46] ++ A ++ K=Y):=⟨_,O rfl⟩;rw [show (⟨#[99,104,111,111,115,101,32]⟩:ByteArray) ++ aG (x) ++ (⟨#[58]⟩:ByteArray) ++ aG (d) ++ aG (j) ++ aG (i) ++ (⟨#[46,46]⟩:ByteArray) ++ aG (A) ++ aG (K)=aG Y from by rw [← J.o] <;> (simp only [← aj];rfl)];have lY:Y.length≤10000000:=by rw [← J.o];simp only [amQ,List.length_cons,List.length_nil];omega
 refine (ptH H M [k.ix,f.ix] (by simp) (by omega)).mono ?_;clear H M;rintro e V⟨amy,akx,rfl,H,M,R⟩
 replace c:=kp R c
 clear R
 have HF:=O (show rH b x s.tl.tl=d9 (([],3,[99,104,111,111,115,101]) :: ([32],1,x) :: gu [58] :: (eO.on d k.pc ++ (i,4,[46,46]) :: eO.on A f.pc)) (aM b (aM b (aM b (f.st)))) ⟨40,x,0,[k.ix,f.ix],0⟩ from by
  unfold rH
  try simp only
  rw [Hq.o,yj.o,kR.o,Hp.o,sG.o,D.o,E.o,ZO.o] <;> rfl)
 have W:ah (([],3,[99,104,111,111,115,101]) :: ([32],1,x) :: gu [58] :: (eO.on d k.pc ++ (i,4,[46,46]) :: eO.on A f.pc)) ++ iY s=Y:=by
  rw [Mt.o,List.append_nil];simp only [ah,aX,gu];rw [O5.o,O7.o,← J.o] <;> simp only [List.nil_append,List.append_nil,List.append_assoc,List.cons_append]
 have Q8:=O W;clear W;obtain⟨id,sM⟩:∃ id,Hid (Gs.id (aM b (aM b (aM b (f.st))))=id):=⟨_,O rfl⟩;rw [sM.o];have y:=(c.o.alloc (.cells #[.int .i64 id] 3)).row;have I:=O y;have cI:=H.o.blk.cell 2;clear y;go_wp2_with (at_builtin;go_loud (refine wpList_append_lies _ rfl (.tmp 234) (.tmp 236) 26 rfl 0 3 j0 (.int .i64 0) 1 8 Tryz.underlying26 N S T U rfl (by decide) _ t.length (intCells t) rfl I.o ⟨V.heap.size,0,none⟩ 1 1 [.int .i64 id] rfl rfl (cell_one_new _ _ _) (by intro u hu;simp at hu;subst hu;rfl) (by omega) (by simp only [maxLen];omega) (by omega) (amN _) _ rfl ?_);intro gg cap x9 v l B hlt;obtain⟨F,C,L9,B9⟩:=itB H M rfl Ev c hw hg v l B;have c14:=F.cell 2;have f14:=F.frozen 2;clear v l B F)
 refine (iC g b _ _ ((aM b (aM b (aM b (f.st)))).put ⟨40,x,0,[k.ix,f.ix],0⟩) _ _ _ C.o).mono ?_;rintro e w99⟨rfl,Td,h,m⟩;have H5:=O h;have L5:=O (L9.o.mv C.o m);have B5:=O (B9.o.trans (C.o.low m));clear h m;have MG:=iR b ((aM b (aM b (aM b (f.st)))).put ⟨40,x,0,[k.ix,f.ix],0⟩);obtain⟨G,Z⟩:∃ G,Hid (dQ b ((aM b (aM b (aM b (f.st)))).put ⟨40,x,0,[k.ix,f.ix],0⟩)=G):=⟨_,O rfl⟩;rw [Z.o] at MG ⊢
 have cz0:¬ 9223372036854775807 < Y.length+G.length:=by omega
 have cz1:¬ 9223372036854775807 < Y.length+G.length+1:=by omega
 go_wp2_with fail;go_ret;exact itE (a:=d9 (([],3,[99,104,111,111,115,101]) :: ([32],1,x) :: gu [58] :: (eO.on d k.pc ++ (i,4,[46,46]) :: eO.on A f.pc)) (aM b (aM b (aM b (f.st)))) ⟨40,x,0,[k.ix,f.ix],0⟩) (X.o.trans HF.o) Q8.o Z.o sM.o (by first|(rw [← aj];rfl)|(rw [← aj,← aj];rfl)) H5.o L5.o B5.o
theorem aeU {b:Bool}{g:Nat}{iv:Value}{w0 w:World}{s:Gs}{xs:List NV}{nv lv:Value}{i:List Int}(H:Hid (PL g b iv w s xs nv lv))(c:Hid (LG w0 w xs iv i))(hw:w0.heap.size≤w.heap.size)(hg:g < w0.heap.size)(hil:i.length≤1000)(hn:s.ns.length≤100000)(N:s.nx % 7=1) :
  Calls Tryz.prog 10 #[.pointer (some ⟨g,0,none⟩)] w (nI g b w0 w i (iF b s)):=by
 obtain⟨Ai,ci,C⟩:=dA c.o.row;subst C;obtain⟨j0,D,E,F,I⟩:=info_parts jq;have U:=O fun (row:Option Nat) (w':World) (m:Mv g nv.ownBlock w row w')=>H.o.low m
 have M:=O (Gw.refl (g:=g) (w:=w) (xs:=xs) (nv:=nv));have Uz:=O (dw.lt c.o.row);have Xr:Int.tmod (s.nx:Int) 7=1:=by rw [Int.tmod_eq_emod_of_nonneg (by omega)];omega
 have K:=O (show gI b s=Ig b (dD s.tl.nx) s.tl.tl by unfold gI;simp only;rw [if_neg (by omega),if_pos N]);have Mt:=O (show iY s=[] from if_neg (fun h=>by omega));go_in
 go_wp2_with fail;refine (BK H M).mono ?_;clear H M;rintro e w1⟨oH,rfl,q1,H,M,R⟩
 replace c:=kp R c
 clear R;go_wp2_with fail;refine (BK H M).mono ?_;clear H M;rintro e w2⟨EW,rfl,q2,H,M,R⟩
 replace c:=kp R c
 clear R;go_wp2_with fail;refine (YZ (s.tl.nx) _).mono ?_;rintro e w3⟨x,rfl,X,lx,rfl⟩;rw [X.o] at K
 clear N;obtain⟨q,l⟩:∃ m,m=(s.tl.tl).nx % 6:=⟨_,rfl⟩;have zm6:Int.tmod ((s.tl.tl).nx:Int) 6=(q:Int):=by rw [Int.tmod_eq_emod_of_nonneg (by omega),l];omega
 have B:=O l.symm;have bm6:q≤5:=by omega
 clear l;have ym6:IntKind.i64.wrap (1+(q:Int))=((1+q:Nat):Int):=by rw [IntWalk.i64_in _ (by omega)];omega
 go_wp2_with fail;refine (BK H M).mono ?_;clear H M;rintro e w4⟨Tc,rfl,q4,H,M,R⟩
 replace c:=kp R c
 clear R;go_wp2_with fail;refine (prH H M (m:=1+q) (by omega) (by omega)).mono ?_;clear H M;rintro e w5⟨d,r,A5,c5,xs5,Qx,lv5,rfl,kR,Z,tl5,bn5,aj_,LL,H,M,R⟩
 replace c:=kp R c
 clear R;have NQ:¬ 9223372036854775807 < 5+x.length:=by omega
 have NR:¬ 9223372036854775807 < 5+x.length+2:=by omega
 have Qt:¬ 9223372036854775807 < 5+x.length+2+r.length:=by omega
 have RN:¬ 9223372036854775807 < 5+x.length+2+r.length+1:=by omega
 go_wp2_with fail;obtain⟨Y,A⟩:∃ Y:Bs,Hid ([116,121,112,101,32] ++ x ++ [61,123] ++ r ++ [125]=Y):=⟨_,O rfl⟩;rw [show (⟨#[116,121,112,101,32]⟩:ByteArray) ++ aG (x) ++ (⟨#[61,123]⟩:ByteArray) ++ aG (r) ++ (⟨#[125]⟩:ByteArray)=aG Y from by rw [← A.o] <;> (simp only [← aj];rfl)];have lY:Y.length≤10000000:=by rw [← A.o];simp only [amQ,List.length_cons,List.length_nil];omega
 refine (ptL H M LL (by omega)).mono ?_;clear H M;rintro e w6⟨xs6,Tn,rfl,H,M,R⟩
 replace c:=O (R.o _ _ _ Uz.o c.o)
 clear R
 have W:=O (show Ig b x s.tl.tl=d9 (([],3,[116,121,112,101]) :: ([32],1,x) :: gu [61] :: gu [123] :: (d.pc ++ [gu [125]])) (d.st) ⟨41,x,0,d.ix,0⟩ from by
  unfold Ig
  try simp only
  rw [B.o,kR.o] <;> rfl)
 have J:ah (([],3,[116,121,112,101]) :: ([32],1,x) :: gu [61] :: gu [123] :: (d.pc ++ [gu [125]])) ++ iY s=Y:=by
  rw [Mt.o,List.append_nil];simp only [ah,aX,gu];rw [Z.o,← A.o] <;> simp only [List.nil_append,List.append_nil,List.append_assoc,List.cons_append]
 have Q8:=O J;clear J;obtain⟨id,Q⟩:∃ id,Hid (Gs.id (d.st)=id):=⟨_,O rfl⟩;rw [Q.o];have k:=(c.o.alloc (.cells #[.int .i64 id] 3)).row;have y:=O k;have cI:=H.o.blk.cell 2;clear k;go_wp2_with (at_builtin;go_loud (refine wpList_append_lies _ rfl (.tmp 234) (.tmp 236) 26 rfl 0 3 j0 (.int .i64 0) 1 8 Tryz.underlying26 D E F I rfl (by decide) _ i.length (intCells i) rfl y.o ⟨w6.heap.size,0,none⟩ 1 1 [.int .i64 id] rfl rfl (cell_one_new _ _ _) (by intro u P;simp at P;subst P;rfl) (by omega) (by simp only [maxLen];omega) (by omega) (amN _) _ rfl ?_);intro gg cap x9 j f n hlt;obtain⟨v,t,L9,T⟩:=itB H M rfl U c hw hg j f n;have c14:=v.cell 2;have f14:=v.frozen 2;clear j f n v)
 refine (iC g b _ _ ((d.st).put ⟨41,x,0,d.ix,0⟩) _ _ _ t.o).mono ?_;rintro e w99⟨rfl,Td,h,m⟩;have V:=O h;have L5:=O (L9.o.mv t.o m);have S:=O (T.o.trans (t.o.low m));clear h m;have MG:=iR b ((d.st).put ⟨41,x,0,d.ix,0⟩);obtain⟨G,L⟩:∃ G,Hid (dQ b ((d.st).put ⟨41,x,0,d.ix,0⟩)=G):=⟨_,O rfl⟩;rw [L.o] at MG ⊢
 have cz0:¬ 9223372036854775807 < Y.length+G.length:=by omega
 have cz1:¬ 9223372036854775807 < Y.length+G.length+1:=by omega
 go_wp2_with fail;go_ret;exact itE (a:=d9 (([],3,[116,121,112,101]) :: ([32],1,x) :: gu [61] :: gu [123] :: (d.pc ++ [gu [125]])) (d.st) ⟨41,x,0,d.ix,0⟩) (K.o.trans W.o) Q8.o L.o Q.o (by first|(rw [← aj];rfl)|(rw [← aj,← aj];rfl)) V.o L5.o S.o
def Uw (g:Nat)(wild:Bool)(iv:Value)(w:World)(xs:List NV)(nv:Value)(q:Nat)(r:Gr)(e:Ending)(w':World):Prop :=
 e=.returned (.tuple #[.string (aG (ah r.pc ++ (if q=7 then [32] else []))),.int .i64 r.ix])∧∃ xs' gY nH,PL g wild iv w' r.st xs' gY nH∧Gw g w xs nv w' xs' gY
theorem acp {a:Bool}{q:Nat}(B:1≤q)(C:q≤8)(n:q=7){g:Nat}{iv:Value}{w:World}{s:Gs}{xs:List NV}{nv lv:Value}(H:Hid (PL g a iv w s xs nv lv))(V:s.ns.length≤600000) :
  Calls Tryz.prog 35 #[.pointer (some ⟨g,0,none⟩),.int .i64 (q:Int)] w (Uw g a iv w xs nv q (sw a q s)):=by
 have M:=O (Gw.refl (g:=g) (w:=w) (xs:=xs) (nv:=nv));have X:=O (adp a);have x:=O (abI a);subst n;have t:=vY 7 (by omega);rw [show ((7:Nat):Int)=7 from rfl] at t
 have D:=Ce 7 (by omega);obtain⟨b,d⟩:∃ b,Hid (sg mV 7=b):=⟨_,O rfl⟩;rw [d.o] at t D
 have I:(0:Int)≤((7:Nat):Int):=by omega
 have J:((7:Nat):Int) < 9:=by omega
 go_in
 go_wp2_with fail;refine (lsH H M X x (m:=0) (by omega) (by omega)).mono ?_;clear H M;rintro e w1⟨r1,l,K,c1,F,W,oH,rfl,f,i,S,y,E,A,k,H,M,-⟩;go_wp2_with fail;refine (xD H M).mono ?_;clear H M;rintro e w2⟨c,L,rfl,h,uV,q2,H,M,R⟩
 replace k:=kp R k
 clear R;have P:¬ 9223372036854775807 < 3+c.length:=by omega
 have Q:¬ 9223372036854775807 < 3+c.length+b.length:=by omega
 have T:¬ 9223372036854775807 < 3+c.length+b.length+1:=by omega
 have U:¬ 9223372036854775807 < 3+c.length+b.length+1+l.length:=by omega
 go_wp2_with fail;obtain⟨Y,j⟩:∃ Y:Bs,Hid ([97,115,107] ++ c ++ b ++ [32] ++ l=Y):=⟨_,O rfl⟩;rw [show (⟨#[97,115,107]⟩:ByteArray) ++ aG (c) ++ aG (b) ++ (⟨#[32]⟩:ByteArray) ++ aG (l)=aG Y from by rw [← j.o] <;> (simp only [← aj];rfl)];have Z:Y.length≤10000000:=by rw [← j.o];simp only [amQ,List.length_cons,List.length_nil];omega
 refine (ptL H M k (by omega)).mono ?_;clear H M;rintro e w3⟨G,N,rfl,H,M,-⟩;go_wp2_with fail;go_ret2
 have u:=O (show sw a 7 s=d9 (([],3,[97,115,107]) :: (c,3,b) :: eO.on [32] r1.pc) (aM a (r1.st)) ⟨46,[],((7:Nat):Int),r1.ix,0⟩ from by
  unfold sw;simp only [↓reduceIte,Nat.reduceEqDiff];rw [f.o,d.o,h.o] <;> rfl)
 rw [u.o]
 refine⟨?_,_,_,_,H.o,M.o⟩
 show _=Ending.returned (.tuple #[.string (aG (ah (([],3,[97,115,107]) :: (c,3,b) :: eO.on [32] r1.pc) ++ _)),.int .i64 (aM a (r1.st)).id])
 have v:ah (([],3,[97,115,107]) :: (c,3,b) :: eO.on [32] r1.pc) ++ (if 7=7 then [32] else [])=Y:=by
  have r:=i.o;rw [y.o (by first | rfl | trivial)] at r ⊢
  rw [if_pos rfl,← j.o,← r];simp only [ah,eO.on];simp only [List.nil_append,List.append_nil,List.append_assoc,List.cons_append]
 rw [v];rfl
theorem aeP {a:Bool}{q:Nat}(E:1≤q)(F:q≤8)(t:q=8){g:Nat}{iv:Value}{w:World}{s:Gs}{xs:List NV}{nv lv:Value}(H:Hid (PL g a iv w s xs nv lv))(hn:s.ns.length≤600000) :
  Calls Tryz.prog 35 #[.pointer (some ⟨g,0,none⟩),.int .i64 (q:Int)] w (Uw g a iv w xs nv q (sw a q s)):=by
 have M:=O (Gw.refl (g:=g) (w:=w) (xs:=xs) (nv:=nv));have X:=O (adp a);have A:=O (abI a);subst t;obtain⟨f,l⟩:∃ m,m=(s).nx % 4:=⟨_,rfl⟩;have Q:Int.tmod ((s).nx:Int) 4=(f:Int):=by rw [Int.tmod_eq_emod_of_nonneg (by omega),l];omega
 have k:=O l.symm;have C:f≤3:=by omega
 clear l;have L:IntKind.i64.wrap (1+(f:Int))=((1+f:Nat):Int):=by rw [IntWalk.i64_in _ (by omega)];omega
 have u:=vY 8 (by omega);rw [show ((8:Nat):Int)=8 from rfl] at u
 have G:=Ce 8 (by omega);obtain⟨b,d⟩:∃ b,Hid (sg mV 8=b):=⟨_,O rfl⟩;rw [d.o] at u G
 have N:(0:Int)≤((8:Nat):Int):=by omega
 have P:((8:Nat):Int) < 9:=by omega
 go_in
 go_wp2_with fail;refine (BK H M).mono ?_;clear H M;rintro e w1⟨oH,rfl,q1,H,M,-⟩;go_wp2_with fail;refine (lsH H M X A (m:=1+f) (by omega) (by omega)).mono ?_;clear H M;rintro e w2⟨r2,r,S,c2,J,T,U,rfl,h,y,B,Z2,I,D,n,H,M,-⟩;go_wp2_with fail;refine (xD H M).mono ?_;clear H M;rintro e w3⟨c,XH,rfl,i,Za,q3,H,M,R⟩
 replace n:=kp R n
 clear R;have W:¬ 9223372036854775807 < 3+c.length:=by omega
 have Z:¬ 9223372036854775807 < 3+c.length+b.length:=by omega
 have Qt:¬ 9223372036854775807 < 3+c.length+b.length+1:=by omega
 have RN:¬ 9223372036854775807 < 3+c.length+b.length+1+r.length:=by omega
 go_wp2_with fail;obtain⟨Y,j⟩:∃ Y:Bs,Hid ([97,115,107] ++ c ++ b ++ [32] ++ r=Y):=⟨_,O rfl⟩;rw [show (⟨#[97,115,107]⟩:ByteArray) ++ aG (c) ++ aG (b) ++ (⟨#[32]⟩:ByteArray) ++ aG (r)=aG Y from by rw [← j.o] <;> (simp only [← aj];rfl)];have lY:Y.length≤10000000:=by rw [← j.o];simp only [amQ,List.length_cons,List.length_nil];omega
 refine (ptL H M n (by omega)).mono ?_;clear H M;rintro e w4⟨K,V,rfl,H,M,-⟩;go_wp2_with fail;go_ret2
 have v:=O (show sw a 8 s=d9 (([],3,[97,115,107]) :: (c,3,b) :: eO.on [32] r2.pc) (aM a (r2.st)) ⟨46,[],((8:Nat):Int),r2.ix,0⟩ from by
  unfold sw;simp only [↓reduceIte,Nat.reduceEqDiff];rw [k.o,h.o,d.o,i.o] <;> rfl)
 rw [v.o]
 refine⟨?_,_,_,_,H.o,M.o⟩
 show _=Ending.returned (.tuple #[.string (aG (ah (([],3,[97,115,107]) :: (c,3,b) :: eO.on [32] r2.pc) ++ _)),.int .i64 (aM a (r2.st)).id])
 have x:ah (([],3,[97,115,107]) :: (c,3,b) :: eO.on [32] r2.pc) ++ (if 8=7 then [32] else [])=Y:=by
  rw [if_neg (by omega),List.append_nil,← j.o];simp only [ah];rw [B.o (by omega)];simp only [List.nil_append,List.append_nil,List.append_assoc,List.cons_append]
 rw [x];rfl
theorem agR {a:Bool}{q:Nat}(A:1≤q)(B:q≤8)(n:¬ q=7)(f:¬ q=8){g:Nat}{iv:Value}{w:World}{s:Gs}{xs:List NV}{nv lv:Value}(H:Hid (PL g a iv w s xs nv lv))(V:s.ns.length≤600000) :
  Calls Tryz.prog 35 #[.pointer (some ⟨g,0,none⟩),.int .i64 (q:Int)] w (Uw g a iv w xs nv q (sw a q s)):=by
 have M:=O (Gw.refl (g:=g) (w:=w) (xs:=xs) (nv:=nv));have X:=O (adp a);have v:=O (abI a);have z7:¬ (q:Int)=7:=by omega
 have z8:¬ (q:Int)=8:=by omega
 have E:=vY q (by omega);have C:=Ce q (by omega);obtain⟨b,d⟩:∃ b,Hid (sg mV q=b):=⟨_,O rfl⟩;rw [d.o] at E C
 have I:(0:Int)≤((q:Nat):Int):=by omega
 have J:((q:Nat):Int) < 9:=by omega
 go_in
 go_wp2_with fail;refine (lsH H M X v (m:=1) (by omega) (by omega)).mono ?_;clear H M;rintro e w1⟨r1,l,K,c1,F,W,oH,rfl,h,u,x,U,D,y,k,H,M,-⟩;go_wp2_with fail;refine (xD H M).mono ?_;clear H M;rintro e w2⟨c,L,rfl,i,uV,q2,H,M,R⟩
 replace k:=kp R k
 clear R;have P:¬ 9223372036854775807 < 3+c.length:=by omega
 have Q:¬ 9223372036854775807 < 3+c.length+b.length:=by omega
 have S:¬ 9223372036854775807 < 3+c.length+b.length+1:=by omega
 have T:¬ 9223372036854775807 < 3+c.length+b.length+1+l.length:=by omega
 go_wp2_with fail;obtain⟨Y,j⟩:∃ Y:Bs,Hid ([97,115,107] ++ c ++ b ++ [32] ++ l=Y):=⟨_,O rfl⟩;rw [show (⟨#[97,115,107]⟩:ByteArray) ++ aG (c) ++ aG (b) ++ (⟨#[32]⟩:ByteArray) ++ aG (l)=aG Y from by rw [← j.o] <;> (simp only [← aj];rfl)];have Z:Y.length≤10000000:=by rw [← j.o];simp only [amQ,List.length_cons,List.length_nil];omega
 refine (ptL H M k (by omega)).mono ?_;clear H M;rintro e w3⟨G,N,rfl,H,M,-⟩;go_wp2_with fail;go_ret2
 have r:=O (show sw a q s=d9 (([],3,[97,115,107]) :: (c,3,b) :: eO.on [32] r1.pc) (aM a (r1.st)) ⟨46,[],((q:Nat):Int),r1.ix,0⟩ from by
  unfold sw;simp only
  rw [if_neg n,if_neg f,if_neg f,h.o,d.o,i.o] <;> rfl)
 rw [r.o]
 refine⟨?_,_,_,_,H.o,M.o⟩
 show _=Ending.returned (.tuple #[.string (aG (ah (([],3,[97,115,107]) :: (c,3,b) :: eO.on [32] r1.pc) ++ _)),.int .i64 (aM a (r1.st)).id])
 have t:ah (([],3,[97,115,107]) :: (c,3,b) :: eO.on [32] r1.pc) ++ (if q=7 then [32] else [])=Y:=by
  rw [if_neg (by omega),List.append_nil,← j.o];simp only [ah];rw [x.o (by omega)];simp only [List.nil_append,List.append_nil,List.append_assoc,List.cons_append]
 rw [t];rfl
theorem akH {g:Nat}{b:Bool}{iv l nv lv:Value}{w0 w:World}{s:Gs}{n xs:List NV}(H:Hid (PL g b iv w s xs nv lv))(M:Hid (Gw g w0 n l w xs nv)){q:Nat}(f:1≤q)(d:q≤8)(j:s.ns.length≤600000):Calls Tryz.prog 35 #[.pointer (some ⟨g,0,none⟩),.int .i64 (q:Int)] w fun e i=>∃ a Y c gY k,e=.returned (.tuple #[.string (aG Y),.int .i64 a.ix])∧Hid (sw b q s=a)∧Hid (ah a.pc ++ (if q=7 then [32] else [])=Y)∧Y.length≤20000∧Hid (PL g b iv i a.st c gY k)∧Hid (Gw g w0 n l i c gY)∧Hid (Kp w xs i c):=by
 have r:Calls Tryz.prog 35 #[.pointer (some ⟨g,0,none⟩),.int .i64 (q:Int)] w (Uw g b iv w xs nv q (sw b q s)):=by
  by_cases h7:q=7
  ·exact acp f d h7 H j
  by_cases h8:q=8
  ·exact aeP f d h8 H j
  ·exact agR f d h7 h8 H j
 refine r.mono ?_;rintro e i ⟨rfl,c,gY,k,h,m⟩
 refine⟨_,_,c,gY,k,rfl,O rfl,O rfl,?_,O h,O (M.o.trans m),O fun w1 v ks L=>L.mw H.o m⟩
 have h1:(ah (sw b q s).pc).length≤11000:=(aaq b q d s).1;have h2:(if q=7 then [32] else ([]:Bs)).length≤1:=by split <;> simp
 rw [amQ];omega
