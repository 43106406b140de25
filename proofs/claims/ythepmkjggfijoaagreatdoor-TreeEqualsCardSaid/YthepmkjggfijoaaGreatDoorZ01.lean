/-
  A part of the proof.
-/
import Derived.Test.YthepmkjggfijoaaGreatDoorSA
import Derived.Deep.QuietTactic
import Derived.Test.YthepmkjggfijoaaGreatDoorS21
import Derived.Test.YthepmkjggfijoaaGreatDoorS32
import Derived.Test.YthepmkjggfijoaaGreatDoorS30
import Derived.Test.YthepmkjggfijoaaGreatDoorS04
set_option linter.all false
set_option maxRecDepth 100000
set_option maxHeartbeats 2000000
namespace Go.Proofs.YthepmkjggfijoaaGreatDoor
open Go.RowKit Mist
attribute [local go_sem] aj aH aS aB ak
theorem Zc {W:World}{cs:Array Value}{T:TypeId}{k:Nat}(a:W.heap.size=k):aC (W.alloc (.cells cs T)) k T cs:=by subst a;exact aC.new W T cs
theorem R3 {w:World}{A:Option Addr}{ks:List Int}(h:IntsIn w A ks):Reads w w.heap.size 1 A ks.length (intCells ks):=by
 refine⟨by rw [rG,Nat.mul_one],fun h0=>?_⟩
 obtain⟨b,o,rfl,f,d⟩:=h.ex h0
 refine⟨⟨b,o,none⟩,rfl,f,fun j u a=>?_⟩
 rw [sj];have c:j < ks.length:=by have:=(aaE.1 a).1;rwa [rG] at this
 have e:u=.int .i64 ks[j]:=by
  have h9:(intCells ks)[j]? = some (.int .i64 ks[j]):=by simp [intCells,c]
  rw [h9] at a;exact (aaP a).symm
 rw [e];exact d j _ (aaD c)
theorem Kw (kd:Nat)(tx:Bs)(r at_ h:Int)(A:Option Addr)(c d:Nat)(ks:List Int)(w:World)(K:d=ks.length)(hI:IntsIn w A ks)(hl:d≤1000000)(hr:∀ k ∈ ks,-9223372036854775808≤k+h∧k+h≤9223372036854775807) :
  Calls Tryz.prog 60 #[.agg #[.int .u8 kd,.string (aM tx),.int .i64 r,.slice A d c,.int .i64 at_],.int .i64 h] w fun e w'=>Below w.heap.size w w'∧∃ kv,e=.returned (.agg #[.int .u8 kd,.string (aM tx),.int .i64 r,kv,.int .i64 at_])∧w'.ownsRow (w.heap.size+2) 3 1 kv d (intCells (ks.map (·+h))):=by
 have HI:=O hI;clear hI;have nu:=O K;clear K;have HR:=O hr;clear hr;obtain⟨n,P⟩:∃ n,n=ks.map (·+h):=⟨_,rfl⟩;rw [← P];have TI:=O (show n.length=d by rw [P,List.length_map,nu.o]);have R:=O P;clear P;obtain⟨i0,X,Z,a0,a1⟩:=info_parts gN;go_in
 go_wp2_with fail;have F:=O (((aC.new w 50 #[.int .u8 kd,.string (aM tx),.int .i64 r,.slice A d c,.int .i64 at_]).alloc (.cells #[.int .u8 0,.string ⟨#[]⟩,.int .i64 0,.slice none 0 0,.int .i64 0] 50)).alloc (.cells #[] 3));have J:=O ((Zc (W:=w.alloc (.cells #[.int .u8 kd,.string (aM tx),.int .i64 r,.slice A d c,.int .i64 at_] 50)) (T:=50) (cs:=#[.int .u8 0,.string ⟨#[]⟩,.int .i64 0,.slice none 0 0,.int .i64 0]) (k:=w.heap.size+1) (by simp)).alloc (.cells #[] 3));have eH:=O (ah (ah (ah (Below.refl w.heap.size w) (aaJ _) (o:=.cells #[.int .u8 kd,.string (aM tx),.int .i64 r,.slice A d c,.int .i64 at_] 50)) (by simp) (o:=.cells #[.int .u8 0,.string ⟨#[]⟩,.int .i64 0,.slice none 0 0,.int .i64 0] 50)) (by simp;omega) (o:=.cells #[] 3));have cO:=O (World.ownsRow_made (base:=w.heap.size+2) (e:=3) (size:=1) ((w.alloc (.cells #[.int .u8 kd,.string (aM tx),.int .i64 r,.slice A d c,.int .i64 at_] 50)).alloc (.cells #[.int .u8 0,.string ⟨#[]⟩,.int .i64 0,.slice none 0 0,.int .i64 0] 50)) #[] 0 (by simp) (by simp [maxLen]) rfl);go_loopw [5,6] (fun v i wr=>∃ j:Nat,j≤d∧i=.int .i64 j∧Hid (wr.ownsRow (w.heap.size+2) 3 1 v j (intCells (n.take j)))∧Hid (aC wr w.heap.size 50 #[.int .u8 kd,.string (aM tx),.int .i64 r,.slice A d c,.int .i64 at_])∧Hid (aC wr (w.heap.size+1) 50 #[.int .u8 0,.string ⟨#[]⟩,.int .i64 0,.slice none 0 0,.int .i64 0])∧Hid (Below w.heap.size w wr)) (fun _ i _=>d - (intOf i).toNat)
 case atStart=>exact⟨0,aaL _,rfl,O (by simpa [intCells] using cO.o),F,J,eH⟩
 case round =>
  obtain⟨j,hj,rfl,y,m,I,G⟩:=hrel;clear F J eH cO;have q0:=m.o.cell 0;have q1:=m.o.cell 1;have q2:=m.o.cell 2;have Q:=m.o.cell 3;have q4:=m.o.cell 4;obtain⟨x,B,rfl⟩:=dh y.o;by_cases E:j < d
  ·have i3:decide (j < d)=true:=aaU E;obtain⟨l,q⟩:∃ l,ks[j]? = some l:=⟨_,aaD (by rw [← nu.o];exact E)⟩;obtain⟨b,o,rfl,C,hc⟩:=HI.o.ex (by rw [← nu.o];omega);have cj:=(G.o.cell (p:=⟨b,o+j,none⟩) (by exact C)).trans (hc j l q);have Ar:=HR.o l (aaM q);have uM:=O (show intCells (n.take (j+1))=intCells (n.take j) ++ [.int .i64 (l+h)] by rw [List.take_add_one,R.o,List.getElem?_map,q];simp [intCells]);have wv:IntKind.i64.wrap (l+h)=l+h:=IntWalk.i64_in _ (by omega);have z0:(0:Int)≤(j:Int):=by omega
   have z1:(j:Int) < (d:Int):=by omega
   clear hc q;go_wp2_with (at_builtin;refine wpList_append_own _ rfl (.tmp 15) (.tmp 23) 24 rfl (w.heap.size+2) 3 i0 _ 1 8 Tryz.underlying24 X Z a0 a1 rfl (by decide) _ j (intCells (n.take j)) rfl (y.o.alloc _) ⟨wr.heap.size,0,none⟩ 1 1 [.int .i64 (l+h)] rfl rfl ?c1 ?c2 ?c3 ?c4 ?c5 ?_)
   case c1=>exact World.news_of_block (cs:=#[.int .i64 (l+h)]) (t:=3) (fr:=(0,0)) (heap_alloc_new wr _)
   case c2=>intro u hu;rcases List.mem_singleton.1 hu with rfl;rfl
   case c3=>simp only [maxLen];omega
   case c4=>omega
   case c5=>simp;have:=G.o.size;have:=I.o.lt;omega
   intro v2 w3 f D _;have a2:=I.o.lt;have V:Below w.heap.size w w3:=(G.o.alloc G.o.size _).grown D (by simp;omega) (fun k hk=>by have:=(y.o.lt k hk).1;omega);have S:=(m.o.alloc (.cells #[.int .i64 (l+h)] 3)).grown D (fun e=>by have:=(y.o.lt _ e.symm).1;omega);have U:=(I.o.alloc (.cells #[.int .i64 (l+h)] 3)).grown D (fun e=>by have:=(y.o.lt _ e.symm).1;omega);rw [← uM.o] at f
   have N:=O f;clear f;go_wp2;exact⟨⟨j+1,by omega,by go_num,N,O S,O U,O V⟩,by simp [intOf];omega⟩
  ·have i3:decide (j < d)=false:=aaV E;have Y:j=d:=by omega
   subst Y;have uM:=O (show n.take j=n from aaN (by rw [TI.o];exact aaJ _));rw [uM.o] at y
   have q5:=m.o.frozen 3;have C:=m.o.lt;have M:=I.o.lt;have g:=m.o.d_ 3 (.slice x j B);have a:=I.o.far (p:=⟨w.heap.size,3,none⟩) (by simp) (.slice x j B);have N:=jZ (i:=3) (b:=w.heap.size) (u:=.slice x j B) y.o (by omega);have H:=dx (b:=w.heap.size) (i:=3) (u:=.slice x j B) G.o (aaJ _);clear q0 q1 q2 Q q4;have Q:=m.o.cell 3;go_upto_region 7 with (fail)
   have tH:=O N;clear N;have qj:=O H;clear H
   generalize wr.setCell ⟨w.heap.size,3,none⟩ (.slice x j B)=w6 at g a tH qj ⊢
   clear Q q5 C M;have q0:=g.cell 0;have q1:=g.cell 1;have q2:=g.cell 2;have Q:=g.cell 3;have q4:=g.cell 4;have p0:=a.cell 0;have p1:=a.cell 1;have p2:=a.cell 2;have p3:=a.cell 3;have p4:=a.cell 4;have r0:=a.frozen 0;have r1:=a.frozen 1;have r2:=a.frozen 2;have r3:=a.frozen 3;have r4:=a.frozen 4;have M:=a.lt;go_wp2_with fail;have L:=((((a.d_ 0 (.int .u8 kd)).d_ 1 (.string (aM tx))).d_ 2 (.int .i64 r)).d_ 3 (.slice x j B)).d_ 4 (.int .i64 at_);have z0:=L.cell 0;have z1:=L.cell 1;have z2:=L.cell 2;have z3:=L.cell 3;have z4:=L.cell 4;refine bodyPost_ret (v:=.agg #[.int .u8 kd,.string (aM tx),.int .i64 r,.slice x j B,.int .i64 at_]) (by simp [results,Tryz.f60,go_sem,z0,z1,z2,z3,z4]) rfl ⟨?_,_,rfl,?_⟩
   ·repeat (first|(with_reducible exact qj.o)|(with_reducible refine dx ?_ ?_) | omega)
   ·repeat (first|(with_reducible exact tH.o)|(with_reducible refine jZ ?_ ?_) | omega)
theorem Mk {sz:List Int}{i:Nat}(h:i < sz.length):(intCells sz)[i]? = some (.int .i64 (sz.getD i 0)):=by
 simp [intCells,aaH,h]
theorem Iu {w:World}{base n:Nat}{v:Value}{sz:List Int}(h:w.ownsRow base 3 1 v n (intCells sz))(d:sz.length=n)(h0:0 < n):∃ g cap,v=.slice (some ⟨g,0,none⟩) n cap∧base≤g∧g < w.heap.size∧∀ i,i < n→w.cell? ⟨g,i,none⟩=some (.int .i64 (sz.getD i 0)):=by
 obtain⟨g,cap,rfl,b,a⟩:=h.form h0
 refine⟨g,cap,rfl,b,a,fun i c=>?_⟩
 have:=h.cells (g:=g) rfl i _ (Mk (by omega))
 rwa [sj,Nat.zero_add] at this
theorem KR (A B:Option Addr)(c m d:Nat)(xs:List NV)(its:List Int)(w:World)(hT:mq w A B xs its)(hn:xs.length≤10000) :
  Calls Tryz.prog 68 #[.agg #[.slice A xs.length c,.slice B m d]] w fun e w'=>Below w.heap.size w w'∧((jM (aA xs) xs.length=none∧e=.returned (.slice none 0 0))∨∃ sz v,jM (aA xs) xs.length=some sz∧e=.returned v∧w'.ownsRow w.heap.size 3 1 v xs.length (intCells sz)):=by
 obtain⟨n,C⟩:∃ n,n=xs.length:=⟨_,rfl⟩;rw [← C] at hn ⊢
 have qc:=O (show (aA xs).length=n by rw [aD,C]);have pF:=O C;clear C;have HT:=O hT;clear hT
 have Xq:=O (show ∀ k,k≤n→jM (aA xs) k=none→jM (aA xs) n=none from fun k R h=>by
  have h9:=PE (T:=⟨aA xs,its⟩) (k:=k) (by show k≤(aA xs).length;rw [qc.o];exact R) h;rw [← qN] at h9
  rw [← qc.o];exact h9)
 obtain⟨i0,a4,a8,a9,b0⟩:=info_parts gN;go_in
 go_wp2_with fail;have M:=O ((aC.new w 26 #[.slice A n c,.slice B m d]).alloc (.cells #[] 3));have eH:=O (ah (ah (Below.refl w.heap.size w) (aaJ _) (o:=.cells #[.slice A n c,.slice B m d] 26)) (by simp) (o:=.cells #[] 3));have cO:=O (World.ownsRow_made (base:=w.heap.size+1) (e:=3) (size:=1) (w.alloc (.cells #[.slice A n c,.slice B m d] 26)) #[] 0 (by simp) (by simp [maxLen]) rfl);go_loopw [3,4] (fun v i wr=>∃ (k:Nat) (sz:List Int),k≤n∧i=.int .i64 k∧Hid (jM (aA xs) k=some sz)∧Hid (wr.ownsRow (w.heap.size+1) 3 1 v k (intCells sz))∧Hid (aC wr w.heap.size 26 #[.slice A n c,.slice B m d])∧Hid (Below w.heap.size w wr)) (fun _ i _=>n - (intOf i).toNat)
 case atStart=>exact⟨0,[],aaL _,rfl,O rfl,O (by simpa [intCells] using cO.o),M,eH⟩
 case round =>
  obtain⟨wo,rfl⟩:∃ wo:World,wo=wr:=⟨_,rfl⟩;obtain⟨k,sz,R,rfl,HS,J,L,D⟩:=hrel;clear M eH cO;have t0:=L.o.cell 0;have t1:=L.o.cell 1;obtain⟨Av,cv,rfl⟩:=dh J.o;by_cases G:k < n
  ·have i3:decide (k < n)=true:=aaU G;obtain⟨b,o,rfl,Y⟩:=HT.o.nodes (by rw [← pF.o];omega);obtain⟨x,Z⟩:∃ x,xs[k]? = some x:=jD (by rw [← pF.o];exact G);obtain⟨K,ck,W,S,I⟩:=Y.kid Z;have c3:=(D.o.cell (p:=⟨b,o+k * 5+3,none⟩) Y.lt).trans (Y.c3 k x Z);rw [W] at c3
   have Ng:=O (zH (by rw [qc.o];exact R) HS.o);have X:=O (Na (gP Z) HS.o);rw [Ng.o.1] at X
   clear Y W Z;obtain⟨ks,U⟩:∃ q,q=x.1.kids:=⟨_,rfl⟩;rw [← U] at c3 S I X
   obtain⟨nk,H⟩:∃ q,q=ks.length:=⟨_,rfl⟩;rw [← H] at c3 S
   have nu:=O H;clear H;have tK:=O I;clear I;clear U;have z0:(0:Int)≤(k:Int):=by omega
   have z1:(k:Int) < (n:Int):=by omega
   go_wp2_with fail;go_loopw [6,7] (fun a i wr=>∃ (j:Nat) (at_:Int),wr=wo∧j≤nk∧i=.int .i64 ((j:Int) - 1)∧a=.int .i64 at_∧-1≤at_∧at_≤(k:Int) - 1∧Hid (lT sz (ks.drop j) ((k:Int) - 1)=some at_)) (fun _ i _=>(intOf i+1).toNat)
   case atStart=>exact⟨nk,(k:Int) - 1,rfl,aaJ _,rfl,rfl,by omega,by omega,O (by rw [List.drop_of_length_le (by rw [← nu.o];exact aaJ _)];rfl)⟩
   case round =>
    obtain⟨j,at_,rfl,hj,rfl,rfl,ha,b3,sI⟩:=hrel;by_cases b5:0 < j
    ·obtain⟨j,rfl⟩:∃ q,j=q+1:=⟨j - 1,by omega⟩;obtain⟨b2,o2,rfl,a3,hc⟩:=tK.o.ex (by rw [← nu.o];omega);obtain⟨r,F⟩:∃ r,ks[j]? = some r:=⟨_,aaD (by rw [← nu.o];omega)⟩;have cj:=(D.o.cell (p:=⟨b2,o2+j,none⟩) (by exact a3)).trans (hc j r F);have y:=O (Jt (out:=sz) (b:=(k:Int) - 1) F);rw [sI.o] at y
     clear hc F;have e1:((j+1:Nat):Int) - 1=(j:Int):=by omega
     rw [e1];have y0:(0:Int)≤(j:Int):=by omega
     have y1:(j:Int) < (nk:Int):=by omega
     by_cases E:r=at_
     ·by_cases h0:at_ < 0
      ·have d1:(r != at_)=false:=by simp [E]
       have d2:decide (at_ < 0)=true:=aaU h0
       have HN:=O (show jM (aA xs) n=none from Xq.o (k+1) (by omega) (by
        rw [X.o,uG (j:=j) (by rw [y.o];show (if r ≠ at_∨at_ < 0 then none else _)=none;rw [if_pos (Or.inr h0)])];rfl))
       clear E h0;go_wp2_with fail;go_ret;exact⟨D.o,.inl ⟨HN.o,rfl⟩⟩
      ·obtain⟨f,rfl⟩:∃ q:Nat,at_=(q:Int):=⟨at_.toNat,by omega⟩;have N:f < k:=by omega
       obtain⟨g,b1,hv,_,b4,P⟩:=Iu J.o Ng.o.1 (by omega);injection hv with a6 _ a7
       subst a6;subst a7;have cg:=P f N;have a2:=Ng.o.2 f N
       have YG:=O (show lT sz (ks.drop j) ((k:Int) - 1)=some ((f:Int) - sz.getD f 0) by
        rw [y.o]
        show (if r ≠ (f:Int)∨(f:Int) < 0 then none else some ((f:Int) - sz.getD ((f:Int)).toNat 0))=_
        rw [if_neg (by rw [E];simp),aaQ])
       have d1:(r != (f:Int))=false:=by simp [E]
       have d2:decide ((f:Int) < 0)=false:=aaV (by omega);obtain⟨sa,V⟩:∃ q,q=sz.getD f 0:=⟨_,rfl⟩;rw [← V] at cg a2 YG
       clear E V h0 P;have x0:(0:Int)≤(f:Int):=by omega
       have x1:(f:Int) < (k:Int):=by omega
       go_wp2_with fail;exact⟨⟨j,(f:Int) - sa,by first | rfl | trivial,by omega,by go_num,by go_num,by omega,by omega,YG⟩,by simp [intOf]⟩
     ·have d1:(r != at_)=true:=by simp [E]
      have HN:=O (show jM (aA xs) n=none from Xq.o (k+1) (by omega) (by
       rw [X.o,uG (j:=j) (by rw [y.o];show (if r ≠ at_∨at_ < 0 then none else _)=none;rw [if_pos (Or.inl E)])];rfl))
      clear E;go_wp2_with fail;go_ret;exact⟨D.o,.inl ⟨HN.o,rfl⟩⟩
    ·obtain rfl:j=0:=by omega
     have JV:=O (show jM (aA xs) (k+1)=some (sz ++ [(k:Int) - at_]) by
      rw [X.o];have h9:=sI.o;rw [List.drop_zero] at h9
      rw [h9];rfl)
     have wv:IntKind.i64.wrap ((k:Int) - at_)=(k:Int) - at_:=IntWalk.i64_in _ (by omega);have wz:=O (show intCells (sz ++ [(k:Int) - at_])=intCells sz ++ [.int .i64 ((k:Int) - at_)] by simp [intCells]);go_wp2_with (at_builtin;refine wpList_append_own _ rfl (.tmp 47) (.tmp 51) 24 rfl (w.heap.size+1) 3 i0 _ 1 8 Tryz.underlying24 a4 a8 a9 b0 rfl (by decide) _ k (intCells sz) rfl (J.o.alloc _) ⟨wr.heap.size,0,none⟩ 1 1 [.int .i64 ((k:Int) - at_)] rfl rfl ?c1 ?c2 ?c3 ?c4 ?c5 ?_)
     case c1=>exact World.news_of_block (cs:=#[.int .i64 ((k:Int) - at_)]) (t:=3) (fr:=(0,0)) (heap_alloc_new wr _)
     case c2=>intro u hu;rcases List.mem_singleton.1 hu with rfl;rfl
     case c3=>simp only [maxLen];omega
     case c4=>omega
     case c5=>simp;have:=D.o.size;have:=L.o.lt;omega
     intro v2 w3 l Q _;have b6:=L.o.lt;have a1:Below w.heap.size w w3:=(D.o.alloc D.o.size _).grown Q (by simp;omega) (fun k R=>by have:=(J.o.lt k R).1;omega);have a0:=(L.o.alloc (.cells #[.int .i64 ((k:Int) - at_)] 3)).grown Q (fun e=>by have:=(J.o.lt _ e.symm).1;omega);rw [← wz.o] at l
     have Ew:=O l;clear l;go_wp2;exact⟨⟨k+1,sz ++ [(k:Int) - at_],by omega,by go_num,JV,Ew,O a0,O a1⟩,by simp [intOf];omega⟩
  ·have i3:decide (k < n)=false:=aaV G;have a5:k=n:=by omega
   subst a5;go_wp2_with fail;go_ret;exact⟨D.o,.inr ⟨sz,_,HS.o,rfl,sS J.o (by omega)⟩⟩
theorem rb {a b:Bool}(h:a=b):Ending.returned (Value.bool a)=Ending.returned (Value.bool b):=by rw [h]
theorem bS (k:Nat):nK k=lq k:=by
 rfl
theorem aO (k:Nat)(w:World):Calls Tryz.prog 71 #[.int .u8 k] w fun e a=>e=.returned (.bool (lq k))∧a=w:=by
 have h:=XC k w;rw [bS] at h
 exact h
def manyN (k:Nat)(n:Int)(m:Nat):Bool :=
 if [1,2,3,30,31,32,45].contains k then m == 0
 else if [4,5,22,25,33,34,43,44].contains k then m == 1
 else if k=19 then m == 3
 else if k=21 then true
 else if [24,26,41].contains k then decide (1≤m)
 else if k=42 then decide (2≤m)
 else if k=46 then (if n=7 then m == 0 else if n=8 then decide (1≤m) else m == 1)
 else m == 2
theorem vB (x:Nd):jC x=manyN x.kind x.n x.kids.length:=rfl
def MH (k:Nat)(n:Int):Bool :=
 if k=1 then within n (-9999) 9999
 else if k=2 then within n 0 1
 else if k=42 then decide (0≤n)
 else if k=33 then true
 else if k=46 then within n 1 8
 else n == 0
theorem bH (x:Nd):gu x=MH x.kind x.n:=rfl
def aF (k m i q:Nat):Bool :=
 if k=24 then decide (q=25)
 else if k=41 then decide (q=34)
 else if k=34∨k=33 then iH q
 else if k=40 then decide (q=1)
 else if k=42 then (if i+1=m then lq q else if i+2=m then iH q else decide (q=34))
 else lq q
theorem dM (x:Nd)(i q:Nat):mJ x i q=aF x.kind x.kids.length i q:=rfl
theorem aN (k:Nat)(w:World):Calls Tryz.prog 168 #[.int .u8 k] w fun e d=>e=.returned (.bool (iH k))∧d=w:=by
 go_in
 by_cases h1:30≤k
 ·have b:decide ((30:Int)≤(k:Int))=true:=aaU (by omega);by_cases h2:k≤33
  ·have c:decide ((k:Int)≤33)=true:=aaU (by omega);have a:=O (show iH k=true by simp [iH];omega);go_wp2;go_ret;exact⟨(by rw [a.o];rfl),rfl⟩
  ·have c:decide ((k:Int)≤33)=false:=aaV (by omega);have a:=O (show iH k=false by simp [iH];omega);go_wp2;go_ret;exact⟨(by rw [a.o];rfl),rfl⟩
 ·have b:decide ((30:Int)≤(k:Int))=false:=aaV (by omega);have a:=O (show iH k=false by simp [iH];omega);go_wp2;go_ret;exact⟨(by rw [a.o];rfl),rfl⟩
theorem KO (k:Nat)(w:World):Calls Tryz.prog 109 #[.int .u8 k] w fun e d=>e=.returned (.bool (eP k))∧d=w:=by
 go_in
 by_cases h1:40≤k
 ·have b:decide ((40:Int)≤(k:Int))=true:=aaU (by omega);by_cases h2:k≤46
  ·have c:decide ((k:Int)≤46)=true:=aaU (by omega);have a:=O (show eP k=true by simp [eP];omega);go_wp2;go_ret;exact⟨(by rw [a.o];rfl),rfl⟩
  ·have c:decide ((k:Int)≤46)=false:=aaV (by omega);have a:=O (show eP k=false by simp [eP];omega);go_wp2;go_ret;exact⟨(by rw [a.o];rfl),rfl⟩
 ·have b:decide ((40:Int)≤(k:Int))=false:=aaV (by omega);have a:=O (show eP k=false by simp [eP];omega);go_wp2;go_ret;exact⟨(by rw [a.o];rfl),rfl⟩
theorem IK (k:Nat)(w:World):Calls Tryz.prog 169 #[.int .u8 k] w fun e y=>e=.returned (.bool (ig k))∧y=w:=by
 by_cases h3:k=3
 ·subst h3;go_in
  go_wp2;go_ret;exact⟨rfl,rfl⟩
 by_cases h20:k=20
 ·subst h20;go_in
  go_wp2;go_ret;exact⟨rfl,rfl⟩
 by_cases h21:k=21
 ·subst h21;go_in
  go_wp2;go_ret;exact⟨rfl,rfl⟩
 by_cases h22:k=22
 ·subst h22;go_in
  go_wp2;go_ret;exact⟨rfl,rfl⟩
 by_cases c:k=24
 ·subst c;go_in
  go_wp2;go_ret;exact⟨rfl,rfl⟩
 by_cases b:k=25
 ·subst b;go_in
  go_wp2;go_ret;exact⟨rfl,rfl⟩
 by_cases h32:k=32
 ·subst h32;go_in
  go_wp2;go_ret;exact⟨rfl,rfl⟩
 by_cases a:k=34
 ·subst a;go_in
  go_wp2;go_ret;exact⟨rfl,rfl⟩
 by_cases f:k=40
 ·subst f;go_in
  go_wp2;go_ret;exact⟨rfl,rfl⟩
 by_cases h41:k=41
 ·subst h41;go_in
  go_wp2;go_ret;exact⟨rfl,rfl⟩
 by_cases h42:k=42
 ·subst h42;go_in
  go_wp2;go_ret;exact⟨rfl,rfl⟩
 by_cases h43:k=43
 ·subst h43;go_in
  go_wp2;go_ret;exact⟨rfl,rfl⟩
 by_cases d:k=44
 ·subst d;go_in
  go_wp2;go_ret;exact⟨rfl,rfl⟩
 by_cases h45:k=45
 ·subst h45;go_in
  go_wp2;go_ret;exact⟨rfl,rfl⟩
 have g:=O (show ig k=false by simp [ig];omega);have A:((k:Int) == 3)=false:=by simp;omega
 have h:((k:Int) == 20)=false:=by simp;omega
 have i:((k:Int) == 21)=false:=by simp;omega
 have j:((k:Int) == 22)=false:=by simp;omega
 have l:((k:Int) == 24)=false:=by simp;omega
 have m:((k:Int) == 25)=false:=by simp;omega
 have n:((k:Int) == 32)=false:=by simp;omega
 have o:((k:Int) == 34)=false:=by simp;omega
 have q:((k:Int) == 40)=false:=by simp;omega
 have r:((k:Int) == 41)=false:=by simp;omega
 have t:((k:Int) == 42)=false:=by simp;omega
 have u:((k:Int) == 43)=false:=by simp;omega
 have v:((k:Int) == 44)=false:=by simp;omega
 have x:((k:Int) == 45)=false:=by simp;omega
 clear h3 h20 h21 h22 c b h32 a f h41 h42 h43 d h45;go_in
 go_wp2;go_ret;exact⟨by rw [g.o];rfl,rfl⟩
theorem bK (k:Nat)(tx:Bs)(d at_:Int)(A:Option Addr)(a c:Nat)(w:World) :
  Calls Tryz.prog 171 #[.agg #[.int .u8 k,.string (aM tx),.int .i64 d,.slice A a c,.int .i64 at_]] w fun e H=>e=.returned (.bool (manyN k d a))∧Below w.heap.size w H:=by
 by_cases h1:k=1
 ·subst h1;have b:=O (show manyN 1 d a=(a == 0) by first | rfl | simp [manyN]);go_in
  go_wp2;go_ret;exact⟨by rw [b.o];first | rfl|(refine rb ?_;rw [aaI];simp <;> omega),ah (Below.refl _ _) (aaJ _)⟩
 by_cases h2:k=2
 ·subst h2;have b:=O (show manyN 2 d a=(a == 0) by first | rfl | simp [manyN]);go_in
  go_wp2;go_ret;exact⟨by rw [b.o];first | rfl|(refine rb ?_;rw [aaI];simp <;> omega),ah (Below.refl _ _) (aaJ _)⟩
 by_cases h3:k=3
 ·subst h3;have b:=O (show manyN 3 d a=(a == 0) by first | rfl | simp [manyN]);go_in
  go_wp2;go_ret;exact⟨by rw [b.o];first | rfl|(refine rb ?_;rw [aaI];simp <;> omega),ah (Below.refl _ _) (aaJ _)⟩
 by_cases f:k=30
 ·subst f;have b:=O (show manyN 30 d a=(a == 0) by first | rfl | simp [manyN]);go_in
  go_wp2;go_ret;exact⟨by rw [b.o];first | rfl|(refine rb ?_;rw [aaI];simp <;> omega),ah (Below.refl _ _) (aaJ _)⟩
 by_cases h31:k=31
 ·subst h31;have b:=O (show manyN 31 d a=(a == 0) by first | rfl | simp [manyN]);go_in
  go_wp2;go_ret;exact⟨by rw [b.o];first | rfl|(refine rb ?_;rw [aaI];simp <;> omega),ah (Below.refl _ _) (aaJ _)⟩
 by_cases h32:k=32
 ·subst h32;have b:=O (show manyN 32 d a=(a == 0) by first | rfl | simp [manyN]);go_in
  go_wp2;go_ret;exact⟨by rw [b.o];first | rfl|(refine rb ?_;rw [aaI];simp <;> omega),ah (Below.refl _ _) (aaJ _)⟩
 by_cases h45:k=45
 ·subst h45;have b:=O (show manyN 45 d a=(a == 0) by first | rfl | simp [manyN]);go_in
  go_wp2;go_ret;exact⟨by rw [b.o];first | rfl|(refine rb ?_;rw [aaI];simp <;> omega),ah (Below.refl _ _) (aaJ _)⟩
 by_cases h4:k=4
 ·subst h4;have b:=O (show manyN 4 d a=(a == 1) by first | rfl | simp [manyN]);go_in
  go_wp2;go_ret;exact⟨by rw [b.o];first | rfl|(refine rb ?_;rw [aaI];simp <;> omega),ah (Below.refl _ _) (aaJ _)⟩
 by_cases h5:k=5
 ·subst h5;have b:=O (show manyN 5 d a=(a == 1) by first | rfl | simp [manyN]);go_in
  go_wp2;go_ret;exact⟨by rw [b.o];first | rfl|(refine rb ?_;rw [aaI];simp <;> omega),ah (Below.refl _ _) (aaJ _)⟩
 by_cases h22:k=22
 ·subst h22;have b:=O (show manyN 22 d a=(a == 1) by first | rfl | simp [manyN]);go_in
  go_wp2;go_ret;exact⟨by rw [b.o];first | rfl|(refine rb ?_;rw [aaI];simp <;> omega),ah (Below.refl _ _) (aaJ _)⟩
 by_cases h:k=25
 ·subst h;have b:=O (show manyN 25 d a=(a == 1) by first | rfl | simp [manyN]);go_in
  go_wp2;go_ret;exact⟨by rw [b.o];first | rfl|(refine rb ?_;rw [aaI];simp <;> omega),ah (Below.refl _ _) (aaJ _)⟩
 by_cases h33:k=33
 ·subst h33;have b:=O (show manyN 33 d a=(a == 1) by first | rfl | simp [manyN]);go_in
  go_wp2;go_ret;exact⟨by rw [b.o];first | rfl|(refine rb ?_;rw [aaI];simp <;> omega),ah (Below.refl _ _) (aaJ _)⟩
 by_cases g:k=34
 ·subst g;have b:=O (show manyN 34 d a=(a == 1) by first | rfl | simp [manyN]);go_in
  go_wp2;go_ret;exact⟨by rw [b.o];first | rfl|(refine rb ?_;rw [aaI];simp <;> omega),ah (Below.refl _ _) (aaJ _)⟩
 by_cases h43:k=43
 ·subst h43;have b:=O (show manyN 43 d a=(a == 1) by first | rfl | simp [manyN]);go_in
  go_wp2;go_ret;exact⟨by rw [b.o];first | rfl|(refine rb ?_;rw [aaI];simp <;> omega),ah (Below.refl _ _) (aaJ _)⟩
 by_cases j:k=44
 ·subst j;have b:=O (show manyN 44 d a=(a == 1) by first | rfl | simp [manyN]);go_in
  go_wp2;go_ret;exact⟨by rw [b.o];first | rfl|(refine rb ?_;rw [aaI];simp <;> omega),ah (Below.refl _ _) (aaJ _)⟩
 by_cases h19:k=19
 ·subst h19;have b:=O (show manyN 19 d a=(a == 3) by first | rfl | simp [manyN]);go_in
  go_wp2;go_ret;exact⟨by rw [b.o];first | rfl|(refine rb ?_;rw [aaI];simp <;> omega),ah (Below.refl _ _) (aaJ _)⟩
 by_cases h21:k=21
 ·subst h21;have b:=O (show manyN 21 d a=true by first | rfl | simp [manyN]);go_in
  go_wp2;go_ret;exact⟨by rw [b.o];first | rfl|(refine rb ?_;rw [aaI];simp <;> omega),ah (Below.refl _ _) (aaJ _)⟩
 by_cases i:k=24
 ·subst i;have b:=O (show manyN 24 d a=decide (1≤a) by first | rfl | simp [manyN]);go_in
  go_wp2;go_ret;exact⟨by rw [b.o];first | rfl|(refine rb ?_;rw [aaI];simp <;> omega),ah (Below.refl _ _) (aaJ _)⟩
 by_cases h26:k=26
 ·subst h26;have b:=O (show manyN 26 d a=decide (1≤a) by first | rfl | simp [manyN]);go_in
  go_wp2;go_ret;exact⟨by rw [b.o];first | rfl|(refine rb ?_;rw [aaI];simp <;> omega),ah (Below.refl _ _) (aaJ _)⟩
 by_cases h41:k=41
 ·subst h41;have b:=O (show manyN 41 d a=decide (1≤a) by first | rfl | simp [manyN]);go_in
  go_wp2;go_ret;exact⟨by rw [b.o];first | rfl|(refine rb ?_;rw [aaI];simp <;> omega),ah (Below.refl _ _) (aaJ _)⟩
 by_cases h42:k=42
 ·subst h42;have b:=O (show manyN 42 d a=decide (2≤a) by first | rfl | simp [manyN]);go_in
  go_wp2;go_ret;exact⟨by rw [b.o];first | rfl|(refine rb ?_;rw [aaI];simp <;> omega),ah (Below.refl _ _) (aaJ _)⟩
 by_cases h46:k=46
 ·subst h46;have b:=O (show manyN 46 d a=(if d=7 then a == 0 else if d=8 then decide (1≤a) else a == 1) by first | rfl | simp [manyN]);go_in
  by_cases h7:d=7
  ·subst h7;go_wp2;go_ret;exact⟨by rw [b.o];first | rfl|(refine rb ?_;rw [aaI];simp <;> omega),ah (Below.refl _ _) (aaJ _)⟩
  by_cases h8:d=8
  ·subst h8;go_wp2;go_ret;exact⟨by rw [b.o];first | rfl|(refine rb ?_;rw [aaI];simp <;> omega),ah (Below.refl _ _) (aaJ _)⟩
  rw [if_neg h7,if_neg h8] at b
  have N:(d == 7)=false:=by simp;omega
  have P:(d == 8)=false:=by simp;omega
  clear h7 h8;go_wp2;go_ret;exact⟨by rw [b.o];first | rfl|(refine rb ?_;rw [aaI];simp <;> omega),ah (Below.refl _ _) (aaJ _)⟩
 have b:=O (show manyN k d a=(a == 2) by simp [manyN,h1,h2,h3,f,h31,h32,h45,h4,h5,h22,h,h33,g,h43,j,h19,h21,i,h26,h41,h42,h46]);have I:((k:Int) == 1)=false:=by simp;omega
 have J:((k:Int) == 2)=false:=by simp;omega
 have K:((k:Int) == 3)=false:=by simp;omega
 have t:((k:Int) == 30)=false:=by simp;omega
 have u:((k:Int) == 31)=false:=by simp;omega
 have v:((k:Int) == 32)=false:=by simp;omega
 have F:((k:Int) == 45)=false:=by simp;omega
 have L:((k:Int) == 4)=false:=by simp;omega
 have M:((k:Int) == 5)=false:=by simp;omega
 have n:((k:Int) == 22)=false:=by simp;omega
 have q:((k:Int) == 25)=false:=by simp;omega
 have x:((k:Int) == 33)=false:=by simp;omega
 have y:((k:Int) == 34)=false:=by simp;omega
 have D:((k:Int) == 43)=false:=by simp;omega
 have E:((k:Int) == 44)=false:=by simp;omega
 have l:((k:Int) == 19)=false:=by simp;omega
 have m:((k:Int) == 21)=false:=by simp;omega
 have o:((k:Int) == 24)=false:=by simp;omega
 have r:((k:Int) == 26)=false:=by simp;omega
 have B:((k:Int) == 41)=false:=by simp;omega
 have C:((k:Int) == 42)=false:=by simp;omega
 have G:((k:Int) == 46)=false:=by simp;omega
 clear h1 h2 h3 f h31 h32 h45 h4 h5 h22 h h33 g h43 j h19 h21 i h26 h41 h42 h46;go_in
 go_wp2;go_ret;exact⟨by rw [b.o];first | rfl|(refine rb ?_;rw [aaI];simp <;> omega),ah (Below.refl _ _) (aaJ _)⟩
theorem bA (k:Nat)(tx:Bs)(a at_:Int)(A:Option Addr)(j c:Nat)(w:World) :
  Calls Tryz.prog 172 #[.agg #[.int .u8 k,.string (aM tx),.int .i64 a,.slice A j c,.int .i64 at_]] w fun e l=>e=.returned (.bool (MH k a))∧Below w.heap.size w l:=by
 by_cases h1:k=1
 ·subst h1;have b:=O (show MH 1 a=within a (-9999) 9999 by first | rfl | simp [MH]);go_in
  by_cases d:-9999≤a
  ·have f:decide (-9999≤a)=true:=aaU d;go_wp2;go_ret;exact⟨by rw [b.o];first | rfl|(refine rb ?_;rw [aaI];simp [within] <;> omega),ah (Below.refl _ _) (aaJ _)⟩
  ·have f:decide (-9999≤a)=false:=aaV d;go_wp2;go_ret;exact⟨by rw [b.o];first | rfl|(refine rb ?_;rw [aaI];simp [within] <;> omega),ah (Below.refl _ _) (aaJ _)⟩
 by_cases h2:k=2
 ·subst h2;have b:=O (show MH 2 a=within a 0 1 by first | rfl | simp [MH]);go_in
  by_cases d:a=0
  ·subst d;go_wp2;go_ret;exact⟨by rw [b.o];rfl,ah (Below.refl _ _) (aaJ _)⟩
  ·have f:(a == 0)=false:=by simp;omega
   go_wp2;go_ret;exact⟨by rw [b.o];refine rb ?_;rw [aaI];simp [within] <;> omega,ah (Below.refl _ _) (aaJ _)⟩
 by_cases h42:k=42
 ·subst h42;have b:=O (show MH 42 a=decide (0≤a) by first | rfl | simp [MH]);go_in
  go_wp2;go_ret;exact⟨by rw [b.o];first | rfl|(refine rb ?_;rw [aaI];simp <;> omega),ah (Below.refl _ _) (aaJ _)⟩
 by_cases h33:k=33
 ·subst h33;have b:=O (show MH 33 a=true by first | rfl | simp [MH]);go_in
  go_wp2;go_ret;exact⟨by rw [b.o];first | rfl|(refine rb ?_;rw [aaI];simp <;> omega),ah (Below.refl _ _) (aaJ _)⟩
 by_cases h46:k=46
 ·subst h46;have b:=O (show MH 46 a=within a 1 8 by first | rfl | simp [MH]);go_in
  by_cases d:1≤a
  ·have f:decide (1≤a)=true:=aaU d;go_wp2;go_ret;exact⟨by rw [b.o];first | rfl|(refine rb ?_;rw [aaI];simp [within] <;> omega),ah (Below.refl _ _) (aaJ _)⟩
  ·have f:decide (1≤a)=false:=aaV d;go_wp2;go_ret;exact⟨by rw [b.o];first | rfl|(refine rb ?_;rw [aaI];simp [within] <;> omega),ah (Below.refl _ _) (aaJ _)⟩
 have b:=O (show MH k a=(a == 0) by simp [MH,h1,h2,h42,h33,h46]);have m:((k:Int) == 1)=false:=by simp;omega
 have n:((k:Int) == 2)=false:=by simp;omega
 have h:((k:Int) == 42)=false:=by simp;omega
 have g:((k:Int) == 33)=false:=by simp;omega
 have i:((k:Int) == 46)=false:=by simp;omega
 clear h1 h2 h42 h33 h46;go_in
 go_wp2;go_ret;exact⟨by rw [b.o];first | rfl|(refine rb ?_;rw [aaI];simp <;> omega),ah (Below.refl _ _) (aaJ _)⟩
theorem C_ (k:Nat)(tx:Bs)(B at_:Int)(A:Option Addr)(b c i q:Nat)(w:World)(hi:i < b)(y:b≤1000000) :
  Calls Tryz.prog 173 #[.agg #[.int .u8 k,.string (aM tx),.int .i64 B,.slice A b c,.int .i64 at_],.int .i64 i,.int .u8 q] w fun e C=>e=.returned (.bool (aF k b i q))∧Below w.heap.size w C:=by
 by_cases g:k=24
 ·subst g;have a:=O (show aF 24 b i q=decide (q=25) by first | rfl | simp [aF]);go_in
  go_wp2;go_ret;exact⟨by rw [a.o];first | rfl|(refine rb ?_;rw [aaI];simp <;> omega),ah (Below.refl _ _) (aaJ _)⟩
 by_cases h41:k=41
 ·subst h41;have a:=O (show aF 41 b i q=decide (q=34) by first | rfl | simp [aF]);go_in
  go_wp2;go_ret;exact⟨by rw [a.o];first | rfl|(refine rb ?_;rw [aaI];simp <;> omega),ah (Below.refl _ _) (aaJ _)⟩
 by_cases f:k=34
 ·subst f;have a:=O (show aF 34 b i q=iH q by first | rfl | simp [aF]);go_in
  go_wp2_with fail;refine (aN q _).mono ?_;rintro e d⟨rfl,rfl⟩;go_wp2;go_ret;exact⟨by rw [a.o];rfl,ah (Below.refl _ _) (aaJ _)⟩
 by_cases h33:k=33
 ·subst h33;have a:=O (show aF 33 b i q=iH q by first | rfl | simp [aF]);go_in
  go_wp2_with fail;refine (aN q _).mono ?_;rintro e d⟨rfl,rfl⟩;go_wp2;go_ret;exact⟨by rw [a.o];rfl,ah (Below.refl _ _) (aaJ _)⟩
 by_cases h:k=40
 ·subst h;have a:=O (show aF 40 b i q=decide (q=1) by first | rfl | simp [aF]);go_in
  go_wp2;go_ret;exact⟨by rw [a.o];first | rfl|(refine rb ?_;rw [aaI];simp <;> omega),ah (Below.refl _ _) (aaJ _)⟩
 by_cases h42:k=42
 ·subst h42;have a:=O (show aF 42 b i q=(if i+1=b then lq q else if i+2=b then iH q else decide (q=34)) by first | rfl | simp [aF]);go_in
  by_cases j:i+1=b
  ·rw [if_pos j] at a
   have m:((i:Int) == (b:Int) - 1)=true:=by simp;omega
   go_wp2_with fail;refine (aO q _).mono ?_;rintro e d⟨rfl,rfl⟩;go_wp2;go_ret;exact⟨by rw [a.o];rfl,ah (Below.refl _ _) (aaJ _)⟩
  rw [if_neg j] at a
  have m:((i:Int) == (b:Int) - 1)=false:=by simp;omega
  by_cases l:i+2=b
  ·rw [if_pos l] at a
   have n:((i:Int) == (b:Int) - 2)=true:=by simp;omega
   go_wp2_with fail;refine (aN q _).mono ?_;rintro e d⟨rfl,rfl⟩;go_wp2;go_ret;exact⟨by rw [a.o];rfl,ah (Below.refl _ _) (aaJ _)⟩
  rw [if_neg l] at a
  have n:((i:Int) == (b:Int) - 2)=false:=by simp;omega
  go_wp2;go_ret;exact⟨by rw [a.o];first | rfl|(refine rb ?_;rw [aaI];simp <;> omega),ah (Below.refl _ _) (aaJ _)⟩
 have a:=O (show aF k b i q=lq q by simp [aF,g,h41,f,h33,h,h42]);have o:((k:Int) == 24)=false:=by simp;omega
 have v:((k:Int) == 41)=false:=by simp;omega
 have t:((k:Int) == 34)=false:=by simp;omega
 have r:((k:Int) == 33)=false:=by simp;omega
 have u:((k:Int) == 40)=false:=by simp;omega
 have x:((k:Int) == 42)=false:=by simp;omega
 clear g h41 f h33 h h42;go_in
 go_wp2_with fail;refine (aO q _).mono ?_;rintro e d⟨rfl,rfl⟩;go_wp2;go_ret;exact⟨by rw [a.o];rfl,ah (Below.refl _ _) (aaJ _)⟩
end Go.Proofs.YthepmkjggfijoaaGreatDoor
