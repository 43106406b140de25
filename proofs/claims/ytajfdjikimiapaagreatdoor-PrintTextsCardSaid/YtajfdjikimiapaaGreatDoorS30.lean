/-
  A part of the proof.
-/
import Derived.Test.YtajfdjikimiapaaGreatDoorS18
import Derived.Test.YtajfdjikimiapaaGreatDoorS29
set_option linter.all false
set_option maxRecDepth 100000
set_option maxHeartbeats 2000000
set_option linter.all false
namespace Go.Proofs.YtajfdjikimiapaaGreatDoor
section
open Go.RowKit Mist
attribute [local go_sem] au aN aV aM aG
theorem Pf (l:List Pz)(p:Pz):dW (l ++ [p])=dW l ++ ((if p.blank then [32] else []) ++ p.text):=by
 induction l with
 | nil=>simp [dW]
 | cons a l b=>simp [dW,b,List.append_assoc]
theorem abu {l:List Pz}{v:Value}{w:World}(G:l.length≤10000000)(B:(dW l).length≤9223372036854775807)(h:kJ (.bits l) v w):Calls Tryz.prog 82 #[v] w fun e J=>e=.returned (.string (aU (dW l)))∧J=w:=by
 obtain⟨A,c,rfl,y⟩:=h;obtain⟨k,q⟩:∃ k,k=l.length:=⟨_,rfl⟩;rw [← q] at G ⊢
 have g:=O q;clear q;have u:=O y;clear y;have x:=O B;clear B;go_in
 go_wp2_with fail;go_loopw [3,4] (fun v i wr=>∃ j:Nat,j≤k∧i=.int .i64 j∧v=.string (aU (dW (l.take j)))∧wr=w) (fun _ i _=>k - (intOf i).toNat)
 case atStart=>exact⟨0,aix _,rfl,rfl,rfl⟩
 case round =>
  obtain⟨j,L,rfl,rfl,rfl⟩:=hrel;by_cases d:j < k
  ·have I:decide (j < k)=true:=aiG d;obtain⟨p,f⟩:∃ p,l[j]? = some p:=⟨_,aip (by rw [← g.o];exact d)⟩;obtain⟨b,o,rfl,H,m⟩:=u.o.ex (by rw [← g.o];omega);have E:=m _ _ (Fj l j 0 p (.string (aU p.text)) f rfl);have c1:=m _ _ (Fj l j 1 p (.bool p.blank) f rfl);rw [Nat.add_zero] at E
   rw [← Nat.add_assoc] at c1
   have r:=O (show dW (l.take (j+1))=dW (l.take j) ++ ((if p.blank then [32] else []) ++ p.text) by rw [List.take_add_one,f];exact Pf _ _);have M:(0:Int)≤(j:Int):=by omega
   have N:(j:Int) < (k:Int):=by omega
   clear f m
   have a:(dW (l.take (j+1))).length≤9223372036854775807:=by
    have h1:=x.o;have h2:=congrArg List.length (zW (l.take (j+1)) (l.drop (j+1)));rw [List.take_append_drop,aiA] at h2
    omega
   rw [r.o] at a
   clear x u
   generalize p.text=t at *
   generalize p.blank=D at *
   cases D
   ·have F:¬ 9223372036854775807 < (dW (l.take j)).length+t.length:=by simp at a;omega
    clear a;go_wp2_with fail;exact⟨⟨j+1,by omega,by go_num,by rw [r.o];simp,trivial⟩,by simp [intOf];omega⟩
   ·have F:¬ 9223372036854775807 < (dW (l.take j)).length+1:=by simp at a;omega
    have K:¬ 9223372036854775807 < (dW (l.take j)).length+1+t.length:=by simp at a;omega
    clear a;go_wp2_with fail;exact⟨⟨j+1,by omega,by go_num,by rw [r.o,show ({ data:=#[32] }:ByteArray)=aU [32] from rfl,aG,aG];simp,trivial⟩,by simp [intOf];omega⟩
  ·have I:decide (j < k)=false:=aiH d;have n:j=k:=by omega
   subst n;have C:=O (show l.take j=l from aiz (by rw [g.o];exact aiv _));rw [C.o];go_wp2_with fail;go_ret;exact⟨rfl,rfl⟩
theorem afh {l:List Pz}{v:Value}{w:World}(m:l.length≤10000000)(u:(dW l).length≤9223372036854775807)(h:kJ (.bits l) v w):Calls Tryz.prog 41 #[v] w fun e g=>e=.returned (.tuple #[.string (aU (jA (dW l) l.length).1),.int .i64 ((jA (dW l) l.length).2:Nat)])∧g=w:=by
 have f:=O (abu m u h);obtain⟨A,c,rfl,r⟩:=h;obtain⟨k,i⟩:∃ k,k=l.length:=⟨_,rfl⟩;rw [← i] at f m
 have a:=O (show jA (dW l) k=if 2000 < (dW l).length∨800 < k then ([],5) else (dW l,0) from rfl);rw [← i];clear i r
 generalize dW l=t at *
 generalize jA t k=z at *
 obtain⟨q,j⟩:∃ q,q=t.length:=⟨_,rfl⟩;rw [← j] at a
 have d:=O j;clear j;by_cases h1:2000 < q
 ·have x:decide ((2000:Int) < ((t.length:Nat):Int))=true:=aiG (by rw [← d.o];omega);have n:decide (2000 < t.length)=true:=by rw [← d.o];exact aiG h1
  have b:=O (show z=([],5) by rw [a.o,if_pos (.inl h1)]);clear a h1;rw [b.o];go_in
  go_wp2_with (go_at_call 82;refine f.o.mono ?_;rintro e g ⟨rfl,rfl⟩)
  go_ret2
  exact⟨rfl,rfl⟩
 ·have x:decide (2000 < t.length)=false:=by rw [← d.o];exact aiH h1
  have B:decide ((2000:Int) < ((t.length:Nat):Int))=false:=aiH (by rw [← d.o];omega);by_cases h2:800 < k
  ·have n:decide (800 < k)=true:=aiG h2;have y:decide ((800:Int) < ((k:Nat):Int))=true:=aiG (by omega);have b:=O (show z=([],5) by rw [a.o,if_pos (.inr h2)]);clear a h1 h2;rw [b.o];go_in
   go_wp2_with (go_at_call 82;refine f.o.mono ?_;rintro e g ⟨rfl,rfl⟩)
   go_ret2
   exact⟨rfl,rfl⟩
  ·have n:decide (800 < k)=false:=aiH h2;have y:decide ((800:Int) < ((k:Nat):Int))=false:=aiH (by omega);have b:=O (show z=(t,0) by rw [a.o,if_neg (by omega)]);clear a h1 h2;rw [b.o];go_in
   go_wp2_with (go_at_call 82;refine f.o.mono ?_;rintro e g ⟨rfl,rfl⟩)
   go_ret2
   exact⟨rfl,rfl⟩
theorem nI {W:World}{cs:Array Value}{T:TypeId}{k:Nat}(a:W.heap.size=k):aZ (W.alloc (.cells cs T)) k T cs:=by subst a;exact aZ.new W T cs
theorem Wp {W:World}{cs:Array Value}{T:TypeId}{k:Nat}(a:W.heap.size=k):aZ (W.alloc (.cells cs T)) k T cs:=by subst a;exact aZ.new W T cs
theorem NQ {w:World}{A:Option Addr}{ks:List Int}(h:IntsIn w A ks):Reads w w.heap.size 1 A ks.length (intCells ks):=by
 refine⟨by rw [w_,Nat.mul_one],fun h0=>?_⟩
 obtain⟨b,o,rfl,f,d⟩:=h.ex h0
 refine⟨⟨b,o,none⟩,rfl,f,fun j u a=>?_⟩
 rw [qH];have c:j < ks.length:=by have:=(aiq.1 a).1;rwa [w_] at this
 have e:u=.int .i64 ks[j]:=by
  have h9:(intCells ks)[j]? = some (.int .i64 ks[j]):=by simp [intCells,c]
  rw [h9] at a;exact (aiB a).symm
 rw [e];exact d j _ (aip c)
theorem SY (kd:Nat)(tx:Bs)(x at_ h:Int)(A:Option Addr)(c d:Nat)(ks:List Int)(w:World)(M:d=ks.length)(hI:IntsIn w A ks)(hl:d≤1000000)(hr:∀ k ∈ ks,-9223372036854775808≤k+h∧k+h≤9223372036854775807) :
  Calls Tryz.prog 21 #[.agg #[.int .u8 kd,.string (aU tx),.int .i64 x,.slice A d c,.int .i64 at_],.int .i64 h] w fun e w'=>Below w.heap.size w w'∧∃ kv,e=.returned (.agg #[.int .u8 kd,.string (aU tx),.int .i64 x,kv,.int .i64 at_])∧w'.ownsRow (w.heap.size+2) 3 1 kv d (intCells (ks.map (·+h))):=by
 have HI:=O hI;clear hI;have U:=O M;clear M;have HR:=O hr;clear hr;obtain⟨n,q⟩:∃ n,n=ks.map (·+h):=⟨_,rfl⟩;rw [← q];have IL:=O (show n.length=d by rw [q,List.length_map,U.o]);have S:=O q;clear q;obtain⟨i0,Z,hz0,hz1,hz2⟩:=info_parts mE;go_in
 go_wp2_with fail;have G:=O (((aZ.new w 39 #[.int .u8 kd,.string (aU tx),.int .i64 x,.slice A d c,.int .i64 at_]).alloc (.cells #[.int .u8 0,.string ⟨#[]⟩,.int .i64 0,.slice none 0 0,.int .i64 0] 39)).alloc (.cells #[] 3));have L:=O ((Wp (W:=w.alloc (.cells #[.int .u8 kd,.string (aU tx),.int .i64 x,.slice A d c,.int .i64 at_] 39)) (T:=39) (cs:=#[.int .u8 0,.string ⟨#[]⟩,.int .i64 0,.slice none 0 0,.int .i64 0]) (k:=w.heap.size+1) (by simp)).alloc (.cells #[] 3));have gN:=O (aF (aF (aF (Below.refl w.heap.size w) (aiv _) (o:=.cells #[.int .u8 kd,.string (aU tx),.int .i64 x,.slice A d c,.int .i64 at_] 39)) (by simp) (o:=.cells #[.int .u8 0,.string ⟨#[]⟩,.int .i64 0,.slice none 0 0,.int .i64 0] 39)) (by simp;omega) (o:=.cells #[] 3));have Fa:=O (World.ownsRow_made (base:=w.heap.size+2) (e:=3) (size:=1) ((w.alloc (.cells #[.int .u8 kd,.string (aU tx),.int .i64 x,.slice A d c,.int .i64 at_] 39)).alloc (.cells #[.int .u8 0,.string ⟨#[]⟩,.int .i64 0,.slice none 0 0,.int .i64 0] 39)) #[] 0 (by simp) (by simp [maxLen]) rfl);go_loopw [5,6] (fun v i wr=>∃ j:Nat,j≤d∧i=.int .i64 j∧Hid (wr.ownsRow (w.heap.size+2) 3 1 v j (intCells (n.take j)))∧Hid (aZ wr w.heap.size 39 #[.int .u8 kd,.string (aU tx),.int .i64 x,.slice A d c,.int .i64 at_])∧Hid (aZ wr (w.heap.size+1) 39 #[.int .u8 0,.string ⟨#[]⟩,.int .i64 0,.slice none 0 0,.int .i64 0])∧Hid (Below w.heap.size w wr)) (fun _ i _=>d - (intOf i).toNat)
 case atStart=>exact⟨0,aix _,rfl,O (by simpa [intCells] using Fa.o),G,L,gN⟩
 case round =>
  obtain⟨j,hj,rfl,B,m,K,H⟩:=hrel;clear G L gN Fa;have q0:=m.o.cell 0;have q1:=m.o.cell 1;have q2:=m.o.cell 2;have R:=m.o.cell 3;have q4:=m.o.cell 4;obtain⟨y,C,rfl⟩:=dh B.o;by_cases F:j < d
  ·have i3:decide (j < d)=true:=aiG F;obtain⟨l,r⟩:∃ l,ks[j]? = some l:=⟨_,aip (by rw [← U.o];exact F)⟩;obtain⟨b,o,rfl,D,hc⟩:=HI.o.ex (by rw [← U.o];omega);have cj:=(H.o.cell (p:=⟨b,o+j,none⟩) (by exact D)).trans (hc j l r);have hrj:=HR.o l (aiy r);have yO:=O (show intCells (n.take (j+1))=intCells (n.take j) ++ [.int .i64 (l+h)] by rw [List.take_add_one,S.o,List.getElem?_map,r];simp [intCells]);have wv:IntKind.i64.wrap (l+h)=l+h:=IntWalk.i64_in _ (by omega);have z0:(0:Int)≤(j:Int):=by omega
   have z1:(j:Int) < (d:Int):=by omega
   clear hc r;go_wp2_with (at_builtin;refine wpList_append_own _ rfl (.tmp 15) (.tmp 23) 23 rfl (w.heap.size+2) 3 i0 _ 1 8 Tryz.underlying23 Z hz0 hz1 hz2 rfl (by decide) _ j (intCells (n.take j)) rfl (B.o.alloc _) ⟨wr.heap.size,0,none⟩ 1 1 [.int .i64 (l+h)] rfl rfl ?c1 ?c2 ?c3 ?c4 ?c5 ?_)
   case c1=>exact World.news_of_block (cs:=#[.int .i64 (l+h)]) (t:=3) (fr:=(0,0)) (heap_alloc_new wr _)
   case c2=>intro u hu;rcases List.mem_singleton.1 hu with rfl;rfl
   case c3=>simp only [maxLen];omega
   case c4=>omega
   case c5=>simp;have:=H.o.size;have:=K.o.lt;omega
   intro v2 w3 f E _;have hlz:=K.o.lt;have Y:Below w.heap.size w w3:=(H.o.alloc H.o.size _).grown E (by simp;omega) (fun k hk=>by have:=(B.o.lt k hk).1;omega);have V:=(m.o.alloc (.cells #[.int .i64 (l+h)] 3)).grown E (fun e=>by have:=(B.o.lt _ e.symm).1;omega);have X:=(K.o.alloc (.cells #[.int .i64 (l+h)] 3)).grown E (fun e=>by have:=(B.o.lt _ e.symm).1;omega);rw [← yO.o] at f
   have Q:=O f;clear f;go_wp2;exact⟨⟨j+1,by omega,by go_num,Q,O V,O X,O Y⟩,by simp [intOf];omega⟩
  ·have i3:decide (j < d)=false:=aiH F;have hjn:j=d:=by omega
   subst hjn;have yO:=O (show n.take j=n from aiz (by rw [IL.o];exact aiv _));rw [yO.o] at B
   have q5:=m.o.frozen 3;have D:=m.o.lt;have P:=K.o.lt;have g:=m.o.jD 3 (.slice y j C);have a:=K.o.far (p:=⟨w.heap.size,3,none⟩) (by simp) (.slice y j C);have Q:=je (i:=3) (b:=w.heap.size) (u:=.slice y j C) B.o (by omega);have I:=dS (b:=w.heap.size) (i:=3) (u:=.slice y j C) H.o (aiv _);clear q0 q1 q2 R q4;have R:=m.o.cell 3;go_upto_region 7 with (fail)
   have J:=O Q;clear Q;have rW:=O I;clear I
   generalize wr.setCell ⟨w.heap.size,3,none⟩ (.slice y j C)=w6 at g a J rW ⊢
   clear R q5 D P;have q0:=g.cell 0;have q1:=g.cell 1;have q2:=g.cell 2;have R:=g.cell 3;have q4:=g.cell 4;have p0:=a.cell 0;have p1:=a.cell 1;have p2:=a.cell 2;have p3:=a.cell 3;have p4:=a.cell 4;have r0:=a.frozen 0;have r1:=a.frozen 1;have r2:=a.frozen 2;have r3:=a.frozen 3;have r4:=a.frozen 4;have P:=a.lt;go_wp2_with fail;have N:=((((a.jD 0 (.int .u8 kd)).jD 1 (.string (aU tx))).jD 2 (.int .i64 x)).jD 3 (.slice y j C)).jD 4 (.int .i64 at_);have z0:=N.cell 0;have z1:=N.cell 1;have z2:=N.cell 2;have z3:=N.cell 3;have z4:=N.cell 4;refine bodyPost_ret (v:=.agg #[.int .u8 kd,.string (aU tx),.int .i64 x,.slice y j C,.int .i64 at_]) (by simp [results,Tryz.f21,go_sem,z0,z1,z2,z3,z4]) rfl ⟨?_,_,rfl,?_⟩
   ·repeat (first|(with_reducible exact rW.o)|(with_reducible refine dS ?_ ?_) | omega)
   ·repeat (first|(with_reducible exact J.o)|(with_reducible refine je ?_ ?_) | omega)
end
section
open Go.RowKit Mist
def uS (l:List Nd):Nat:=(l.map fun x=>x.kids.length).sum
def uR (l:List Nd):Nat:=(l.map fun x=>x.text.length).sum
theorem UF (l:List Nd)(x:Nd):uS (l ++ [x])=uS l+x.kids.length:=by simp [uS]
theorem UE (l:List Nd)(x:Nd):uR (l ++ [x])=uR l+x.text.length:=by simp [uR]
theorem Lj:∀ {l:List Nd} {x:Nd},x ∈ l→x.kids.length≤uS l
 | y :: r,x,h=>by
  rcases List.mem_cons.1 h with rfl | h
  ·simp [uS]
  ·have:=Lj h;simp [uS] at this ⊢;omega
theorem Li:∀ {l:List Nd} {x:Nd},x ∈ l→x.text.length≤uR l
 | y :: r,x,h=>by
  rcases List.mem_cons.1 h with rfl | h
  ·simp [uR]
  ·have:=Li h;simp [uR] at this ⊢;omega
theorem Eh {M:Nat}:∀ {l:List Nd},(∀ x ∈ l,x.kids.length≤M)→uS l≤l.length * M
 | [],_=>by simp [uS]
 | y :: r,h=>by
  have h1:=Eh (l:=r) (fun x a=>h x (List.mem_cons_of_mem _ a));have h2:=h y (List.mem_cons_self ..);simp [uS] at h1 ⊢
  rw [Nat.add_mul];omega
theorem Ef {M:Nat}:∀ {l:List Nd},(∀ x ∈ l,x.text.length≤M)→uR l≤l.length * M
 | [],_=>by simp [uR]
 | y :: r,h=>by
  have h1:=Ef (l:=r) (fun x a=>h x (List.mem_cons_of_mem _ a));have h2:=h y (List.mem_cons_self ..);simp [uR] at h1 ⊢
  rw [Nat.add_mul];omega
def Na (T:Tr):Bool:=decide (900 < T.nodes.length) || decide (100 < T.items.length) || decide (3000 < uS (T.nodes.take 901)) || decide (5000 < uR (T.nodes.take 901))
theorem Wm {T:Tr}(h:Na T=false):T.nodes.length≤900∧T.items.length≤100∧∀ x ∈ T.nodes,x.kids.length≤3000∧x.text.length≤5000:=by
 unfold Na at h
 simp only [Bool.or_eq_false_iff,decide_eq_false_iff_not,Nat.not_lt] at h
 obtain⟨⟨⟨h1,h2⟩,h3⟩,h4⟩:=h;rw [aiz (by omega)] at h3 h4
 exact⟨h1,h2,fun x a=>⟨Nat.le_trans (Lj a) h3,Nat.le_trans (Li a) h4⟩⟩
def iO (ns:List Nd)(k:Nat):Option (List Int):=(ns.take k).foldl kZ (some [])
theorem Ec {ns:List Nd}{k:Nat}{a:List Int}(b:k≤ns.length)(h:iO ns k=some a):Bh (ns.take k) a k:=by
 have:=yH (ns:=ns.take k) (ns.take k) [] [] a (by simp) (yK _) h
 rwa [List.length_take,Nat.min_eq_left b] at this
theorem vk {ns:List Nd}{k:Nat}{a:List Int}(c:k≤ns.length)(h:iO ns k=some a):a.length=k∧∀ i,i < k→1≤a.getD i 0∧a.getD i 0≤(i:Int)+1:=by
 obtain⟨h1,h2⟩:=Ec c h
 refine⟨h1,fun i hi=>?_⟩
 obtain⟨n,m,_,d,b,_⟩:=h2 i hi;rw [b];omega
theorem Iq {ns:List Nd}{k:Nat}{n:Nd}{b:List Int}(c:ns[k]? = some n)(h:iO ns k=some b):iO ns (k+1)=(jW b n.kids ((b.length:Int) - 1)).map fun a=>b ++ [(b.length:Int) - a]:=by
 unfold iO at h ⊢
 rw [List.take_add_one,c,List.foldl_append,h];rfl
theorem qx (T:Tr):iO T.nodes T.nodes.length=nW T:=by
 unfold iO nW;rw [List.take_length]
theorem Lf {T:Tr}{k:Nat}(a:k≤T.nodes.length)(h:iO T.nodes k=none):nW T=none:=by
 rw [← qx];unfold iO at h ⊢
 conv=>lhs;rw [← List.take_append_drop k T.nodes]
 rw [show (List.take k T.nodes ++ List.drop k T.nodes).length=T.nodes.length by rw [List.take_append_drop],aiz (by rw [List.take_append_drop];exact aiv _),List.foldl_append,h,vS]
theorem EF {out kids:List Int}{b:Int}{j:Nat}{c:Int}(e:kids[j]? = some c):jW out (kids.drop j) b=(jW out (kids.drop (j+1)) b).bind fun a=>if c ≠ a∨a < 0 then none else some (a - out.getD a.toNat 0):=by
 obtain⟨f,d⟩:=aiq.1 e;rw [aiJ f,d];rfl
theorem qB {out:List Int}{b:Int}:∀ {kids:List Int} {j:Nat},jW out (kids.drop j) b=none→jW out kids b=none
 | kids,0,h=>h
 | [],j+1,h=>by simpa using h
 | c :: r,j+1,h=>by
  have h1:jW out r b=none:=qB (by simpa using h)
  show (jW out r b).bind _=none
  rw [h1];rfl
end
section
open Go.RowKit Mist
attribute [local go_sem] au aN aV aM aG
theorem Hf {a:List Int}{i:Nat}(h:i < a.length):(intCells a)[i]? = some (.int .i64 (a.getD i 0)):=by
 simp [intCells,ait,h]
theorem KG {w:World}{base n:Nat}{v:Value}{b:List Int}(h:w.ownsRow base 3 1 v n (intCells b))(d:b.length=n)(h0:0 < n):∃ g cap,v=.slice (some ⟨g,0,none⟩) n cap∧base≤g∧g < w.heap.size∧∀ i,i < n→w.cell? ⟨g,i,none⟩=some (.int .i64 (b.getD i 0)):=by
 obtain⟨g,cap,rfl,c,a⟩:=h.form h0
 refine⟨g,cap,rfl,c,a,fun i hi=>?_⟩
 have:=h.cells (g:=g) rfl i _ (Hf (by omega))
 rwa [qH,Nat.zero_add] at this
theorem UA (A B:Option Addr)(c m d:Nat)(xs:List NV)(its:List Int)(w:World)(hT:lJ w A B xs its)(hn:xs.length≤10000) :
  Calls Tryz.prog 154 #[.agg #[.slice A xs.length c,.slice B m d]] w fun e w'=>Below w.heap.size w w'∧((iO (aj xs) xs.length=none∧e=.returned (.slice none 0 0))∨∃ f v,iO (aj xs) xs.length=some f∧e=.returned v∧w'.ownsRow w.heap.size 3 1 v xs.length (intCells f)):=by
 obtain⟨n,E⟩:∃ n,n=xs.length:=⟨_,rfl⟩;rw [← E] at hn ⊢
 have H:=O (show (aj xs).length=n by rw [bW,E]);have pU:=O E;clear E;have HT:=O hT;clear hT
 have U:=O (show ∀ k,k≤n→iO (aj xs) k=none→iO (aj xs) n=none from fun k Y h=>by
  have h9:=Lf (T:=⟨aj xs,its⟩) (k:=k) (by show k≤(aj xs).length;rw [H.o];exact Y) h;rw [← qx] at h9
  rw [← H.o];exact h9)
 obtain⟨i0,hi0,hz0,hz1,hz2⟩:=info_parts mE;go_in
 go_wp2_with fail;have R:=O ((aZ.new w 25 #[.slice A n c,.slice B m d]).alloc (.cells #[] 3));have gN:=O (aF (aF (Below.refl w.heap.size w) (aiv _) (o:=.cells #[.slice A n c,.slice B m d] 25)) (by simp) (o:=.cells #[] 3));have Fa:=O (World.ownsRow_made (base:=w.heap.size+1) (e:=3) (size:=1) (w.alloc (.cells #[.slice A n c,.slice B m d] 25)) #[] 0 (by simp) (by simp [maxLen]) rfl);go_loopw [3,4] (fun v i wr=>∃ (k:Nat) (f:List Int),k≤n∧i=.int .i64 k∧Hid (iO (aj xs) k=some f)∧Hid (wr.ownsRow (w.heap.size+1) 3 1 v k (intCells f))∧Hid (aZ wr w.heap.size 25 #[.slice A n c,.slice B m d])∧Hid (Below w.heap.size w wr)) (fun _ i _=>n - (intOf i).toNat)
 case atStart=>exact⟨0,[],aix _,rfl,O rfl,O (by simpa [intCells] using Fa.o),R,gN⟩
 case round =>
  obtain⟨wo,rfl⟩:∃ wo:World,wo=wr:=⟨_,rfl⟩;obtain⟨k,f,Y,rfl,HS,P,Q,F⟩:=hrel;clear R gN Fa;have t0:=Q.o.cell 0;have t1:=Q.o.cell 1;obtain⟨Av,cv,rfl⟩:=dh P.o;by_cases L:k < n
  ·have i3:decide (k < n)=true:=aiG L;obtain⟨b,o,rfl,hN⟩:=HT.o.nodes (by rw [← pU.o];omega);obtain⟨x,hx⟩:∃ x,xs[k]? = some x:=iG (by rw [← pU.o];exact L);obtain⟨K,ck,hxe,Z,N⟩:=hN.kid hx;have c3:=(F.o.cell (p:=⟨b,o+k * 5+3,none⟩) hN.lt).trans (hN.c3 k x hx);rw [hxe] at c3
   have I:=O (vk (by rw [H.o];exact Y) HS.o);have y:=O (Iq (jd hx) HS.o);rw [I.o.1] at y
   clear hN hxe hx;obtain⟨ks,hks⟩:∃ q,q=x.1.kids:=⟨_,rfl⟩;rw [← hks] at c3 Z N y
   obtain⟨nk,M⟩:∃ q,q=ks.length:=⟨_,rfl⟩;rw [← M] at c3 Z
   have gW:=O M;clear M;have BG:=O N;clear N;clear hks;have z0:(0:Int)≤(k:Int):=by omega
   have z1:(k:Int) < (n:Int):=by omega
   go_wp2_with fail;go_loopw [6,7] (fun a i wr=>∃ (j:Nat) (at_:Int),wr=wo∧j≤nk∧i=.int .i64 ((j:Int) - 1)∧a=.int .i64 at_∧-1≤at_∧at_≤(k:Int) - 1∧Hid (jW f (ks.drop j) ((k:Int) - 1)=some at_)) (fun _ i _=>(intOf i+1).toNat)
   case atStart=>exact⟨nk,(k:Int) - 1,rfl,aiv _,rfl,rfl,by omega,by omega,O (by rw [List.drop_of_length_le (by rw [← gW.o];exact aiv _)];rfl)⟩
   case round =>
    obtain⟨j,at_,rfl,hj,rfl,rfl,ha,hak,S⟩:=hrel;by_cases hj0:0 < j
    ·obtain⟨j,rfl⟩:∃ q,j=q+1:=⟨j - 1,by omega⟩;obtain⟨b2,o2,rfl,hbl,hc⟩:=BG.o.ex (by rw [← gW.o];omega);obtain⟨C,J⟩:∃ C,ks[j]? = some C:=⟨_,aip (by rw [← gW.o];omega)⟩;have cj:=(F.o.cell (p:=⟨b2,o2+j,none⟩) (by exact hbl)).trans (hc j C J);have D:=O (EF (out:=f) (b:=(k:Int) - 1) J);rw [S.o] at D
     clear hc J;have e1:((j+1:Nat):Int) - 1=(j:Int):=by omega
     rw [e1];have y0:(0:Int)≤(j:Int):=by omega
     have y1:(j:Int) < (nk:Int):=by omega
     by_cases G:C=at_
     ·by_cases h0:at_ < 0
      ·have d1:(C != at_)=false:=by simp [G]
       have d2:decide (at_ < 0)=true:=aiG h0
       have HN:=O (show iO (aj xs) n=none from U.o (k+1) (by omega) (by
        rw [y.o,qB (j:=j) (by rw [D.o];show (if C ≠ at_∨at_ < 0 then none else _)=none;rw [if_pos (Or.inr h0)])];rfl))
       clear G h0;go_wp2_with fail;go_ret;exact⟨F.o,.inl ⟨HN.o,rfl⟩⟩
      ·obtain⟨l,rfl⟩:∃ q:Nat,at_=(q:Int):=⟨at_.toNat,by omega⟩;have V:l < k:=by omega
       obtain⟨g,cap,hv,_,hgl,W⟩:=KG P.o I.o.1 (by omega);injection hv with hv1 _ hv3
       subst hv1;subst hv3;have cg:=W l V;have hbd:=I.o.2 l V
       have VJ:=O (show jW f (ks.drop j) ((k:Int) - 1)=some ((l:Int) - f.getD l 0) by
        rw [D.o]
        show (if C ≠ (l:Int)∨(l:Int) < 0 then none else some ((l:Int) - f.getD ((l:Int)).toNat 0))=_
        rw [if_neg (by rw [G];simp),aiC])
       have d1:(C != (l:Int))=false:=by simp [G]
       have d2:decide ((l:Int) < 0)=false:=aiH (by omega);obtain⟨sa,hsa⟩:∃ q,q=f.getD l 0:=⟨_,rfl⟩;rw [← hsa] at cg hbd VJ
       clear G hsa h0 W;have x0:(0:Int)≤(l:Int):=by omega
       have x1:(l:Int) < (k:Int):=by omega
       go_wp2_with fail;exact⟨⟨j,(l:Int) - sa,by first | rfl | trivial,by omega,by go_num,by go_num,by omega,by omega,VJ⟩,by simp [intOf]⟩
     ·have d1:(C != at_)=true:=by simp [G]
      have HN:=O (show iO (aj xs) n=none from U.o (k+1) (by omega) (by
       rw [y.o,qB (j:=j) (by rw [D.o];show (if C ≠ at_∨at_ < 0 then none else _)=none;rw [if_pos (Or.inl G)])];rfl))
      clear G;go_wp2_with fail;go_ret;exact⟨F.o,.inl ⟨HN.o,rfl⟩⟩
    ·obtain rfl:j=0:=by omega
     have IQ:=O (show iO (aj xs) (k+1)=some (f ++ [(k:Int) - at_]) by
      rw [y.o];have h9:=S.o;rw [List.drop_zero] at h9
      rw [h9];rfl)
     have wv:IntKind.i64.wrap ((k:Int) - at_)=(k:Int) - at_:=IntWalk.i64_in _ (by omega);have HIC:=O (show intCells (f ++ [(k:Int) - at_])=intCells f ++ [.int .i64 ((k:Int) - at_)] by simp [intCells]);go_wp2_with (at_builtin;refine wpList_append_own _ rfl (.tmp 47) (.tmp 51) 23 rfl (w.heap.size+1) 3 i0 _ 1 8 Tryz.underlying23 hi0 hz0 hz1 hz2 rfl (by decide) _ k (intCells f) rfl (P.o.alloc _) ⟨wr.heap.size,0,none⟩ 1 1 [.int .i64 ((k:Int) - at_)] rfl rfl ?c1 ?c2 ?c3 ?c4 ?c5 ?_)
     case c1=>exact World.news_of_block (cs:=#[.int .i64 ((k:Int) - at_)]) (t:=3) (fr:=(0,0)) (heap_alloc_new wr _)
     case c2=>intro u hu;rcases List.mem_singleton.1 hu with rfl;rfl
     case c3=>simp only [maxLen];omega
     case c4=>omega
     case c5=>simp;have:=F.o.size;have:=Q.o.lt;omega
     intro v2 w3 r X _;have hlz:=Q.o.lt;have hb2:Below w.heap.size w w3:=(F.o.alloc F.o.size _).grown X (by simp;omega) (fun k Y=>by have:=(P.o.lt k Y).1;omega);have hB2:=(Q.o.alloc (.cells #[.int .i64 ((k:Int) - at_)] 3)).grown X (fun e=>by have:=(P.o.lt _ e.symm).1;omega);rw [← HIC.o] at r
     have MF:=O r;clear r;go_wp2;exact⟨⟨k+1,f ++ [(k:Int) - at_],by omega,by go_num,IQ,MF,O hB2,O hb2⟩,by simp [intOf];omega⟩
  ·have i3:decide (k < n)=false:=aiH L;have hkk:k=n:=by omega
   subst hkk;go_wp2_with fail;go_ret;exact⟨F.o,.inr ⟨f,_,HS.o,rfl,vL P.o (by omega)⟩⟩
theorem rb {a b:Bool}(h:a=b):Ending.returned (Value.bool a)=Ending.returned (Value.bool b):=by rw [h]
theorem WA (k:Nat):jF k=eZ k:=by
 rfl
theorem zQ (k:Nat)(w:World):Calls Tryz.prog 40 #[.int .u8 k] w fun e a=>e=.returned (.bool (eZ k))∧a=w:=by
 have h:=rZ k w;rw [WA] at h
 exact h
def manyN (k:Nat)(n:Int)(m:Nat):Bool :=
 if [1,2,3,30,31,32,45].contains k then m == 0
 else if [4,5,22,25,33,34,43,44].contains k then m == 1
 else if k=19 then m == 3
 else if k=21 then true
 else if [24,26,41].contains k then decide (1≤m)
 else if k=42 then decide (2≤m)
 else if k=46 then (if n=7 then m == 0 else if n=8 then decide (1≤m) else m == 1)
 else m == 2
theorem Ku (x:Nd):lD x=manyN x.kind x.n x.kids.length:=rfl
def iM (k:Nat)(n:Int):Bool :=
 if k=1 then within n (-9999) 9999
 else if k=2 then within n 0 1
 else if k=42 then decide (0≤n)
 else if k=33 then true
 else if k=46 then within n 1 8
 else n == 0
theorem Oq (x:Nd):kG x=iM x.kind x.n:=rfl
def su (k m i q:Nat):Bool :=
 if k=24 then decide (q=25)
 else if k=41 then decide (q=34)
 else if k=34∨k=33 then gF q
 else if k=40 then decide (q=1)
 else if k=42 then (if i+1=m then eZ q else if i+2=m then gF q else decide (q=34))
 else eZ q
theorem aaI (x:Nd)(i q:Nat):jL x i q=su x.kind x.kids.length i q:=rfl
theorem uF (k:Nat)(w:World):Calls Tryz.prog 43 #[.int .u8 k] w fun e d=>e=.returned (.bool (gF k))∧d=w:=by
 go_in
 by_cases h1:30≤k
 ·have b:decide ((30:Int)≤(k:Int))=true:=aiG (by omega);by_cases h2:k≤33
  ·have c:decide ((k:Int)≤33)=true:=aiG (by omega);have a:=O (show gF k=true by simp [gF];omega);go_wp2;go_ret;exact⟨(by rw [a.o];rfl),rfl⟩
  ·have c:decide ((k:Int)≤33)=false:=aiH (by omega);have a:=O (show gF k=false by simp [gF];omega);go_wp2;go_ret;exact⟨(by rw [a.o];rfl),rfl⟩
 ·have b:decide ((30:Int)≤(k:Int))=false:=aiH (by omega);have a:=O (show gF k=false by simp [gF];omega);go_wp2;go_ret;exact⟨(by rw [a.o];rfl),rfl⟩
theorem zS (k:Nat)(w:World):Calls Tryz.prog 156 #[.int .u8 k] w fun e d=>e=.returned (.bool (dB k))∧d=w:=by
 go_in
 by_cases h1:40≤k
 ·have b:decide ((40:Int)≤(k:Int))=true:=aiG (by omega);by_cases h2:k≤46
  ·have c:decide ((k:Int)≤46)=true:=aiG (by omega);have a:=O (show dB k=true by simp [dB];omega);go_wp2;go_ret;exact⟨(by rw [a.o];rfl),rfl⟩
  ·have c:decide ((k:Int)≤46)=false:=aiH (by omega);have a:=O (show dB k=false by simp [dB];omega);go_wp2;go_ret;exact⟨(by rw [a.o];rfl),rfl⟩
 ·have b:decide ((40:Int)≤(k:Int))=false:=aiH (by omega);have a:=O (show dB k=false by simp [dB];omega);go_wp2;go_ret;exact⟨(by rw [a.o];rfl),rfl⟩
theorem vQ (k:Nat)(w:World):Calls Tryz.prog 174 #[.int .u8 k] w fun e C=>e=.returned (.bool (jN k))∧C=w:=by
 by_cases h3:k=3
 ·subst h3;go_in
  go_wp2;go_ret;exact⟨rfl,rfl⟩
 by_cases h20:k=20
 ·subst h20;go_in
  go_wp2;go_ret;exact⟨rfl,rfl⟩
 by_cases h21:k=21
 ·subst h21;go_in
  go_wp2;go_ret;exact⟨rfl,rfl⟩
 by_cases h22:k=22
 ·subst h22;go_in
  go_wp2;go_ret;exact⟨rfl,rfl⟩
 by_cases f:k=24
 ·subst f;go_in
  go_wp2;go_ret;exact⟨rfl,rfl⟩
 by_cases d:k=25
 ·subst d;go_in
  go_wp2;go_ret;exact⟨rfl,rfl⟩
 by_cases h32:k=32
 ·subst h32;go_in
  go_wp2;go_ret;exact⟨rfl,rfl⟩
 by_cases c:k=34
 ·subst c;go_in
  go_wp2;go_ret;exact⟨rfl,rfl⟩
 by_cases g:k=40
 ·subst g;go_in
  go_wp2;go_ret;exact⟨rfl,rfl⟩
 by_cases b:k=41
 ·subst b;go_in
  go_wp2;go_ret;exact⟨rfl,rfl⟩
 by_cases a:k=42
 ·subst a;go_in
  go_wp2;go_ret;exact⟨rfl,rfl⟩
 by_cases h43:k=43
 ·subst h43;go_in
  go_wp2;go_ret;exact⟨rfl,rfl⟩
 by_cases h44:k=44
 ·subst h44;go_in
  go_wp2;go_ret;exact⟨rfl,rfl⟩
 by_cases h45:k=45
 ·subst h45;go_in
  go_wp2;go_ret;exact⟨rfl,rfl⟩
 have h:=O (show jN k=false by simp [jN];omega);have D:((k:Int) == 3)=false:=by simp;omega
 have i:((k:Int) == 20)=false:=by simp;omega
 have j:((k:Int) == 21)=false:=by simp;omega
 have l:((k:Int) == 22)=false:=by simp;omega
 have m:((k:Int) == 24)=false:=by simp;omega
 have n:((k:Int) == 25)=false:=by simp;omega
 have q:((k:Int) == 32)=false:=by simp;omega
 have r:((k:Int) == 34)=false:=by simp;omega
 have t:((k:Int) == 40)=false:=by simp;omega
 have u:((k:Int) == 41)=false:=by simp;omega
 have x:((k:Int) == 42)=false:=by simp;omega
 have y:((k:Int) == 43)=false:=by simp;omega
 have A:((k:Int) == 44)=false:=by simp;omega
 have B:((k:Int) == 45)=false:=by simp;omega
 clear h3 h20 h21 h22 f d h32 c g b a h43 h44 h45;go_in
 go_wp2;go_ret;exact⟨by rw [h.o];rfl,rfl⟩
theorem Ub (k:Nat)(tx:Bs)(d at_:Int)(A:Option Addr)(a c:Nat)(w:World) :
  Calls Tryz.prog 176 #[.agg #[.int .u8 k,.string (aU tx),.int .i64 d,.slice A a c,.int .i64 at_]] w fun e M=>e=.returned (.bool (manyN k d a))∧Below w.heap.size w M:=by
 by_cases h1:k=1
 ·subst h1;have b:=O (show manyN 1 d a=(a == 0) by first | rfl | simp [manyN]);go_in
  go_wp2;go_ret;exact⟨by rw [b.o];first | rfl|(refine rb ?_;rw [aiu];simp <;> omega),aF (Below.refl _ _) (aiv _)⟩
 by_cases h2:k=2
 ·subst h2;have b:=O (show manyN 2 d a=(a == 0) by first | rfl | simp [manyN]);go_in
  go_wp2;go_ret;exact⟨by rw [b.o];first | rfl|(refine rb ?_;rw [aiu];simp <;> omega),aF (Below.refl _ _) (aiv _)⟩
 by_cases h3:k=3
 ·subst h3;have b:=O (show manyN 3 d a=(a == 0) by first | rfl | simp [manyN]);go_in
  go_wp2;go_ret;exact⟨by rw [b.o];first | rfl|(refine rb ?_;rw [aiu];simp <;> omega),aF (Below.refl _ _) (aiv _)⟩
 by_cases f:k=30
 ·subst f;have b:=O (show manyN 30 d a=(a == 0) by first | rfl | simp [manyN]);go_in
  go_wp2;go_ret;exact⟨by rw [b.o];first | rfl|(refine rb ?_;rw [aiu];simp <;> omega),aF (Below.refl _ _) (aiv _)⟩
 by_cases h31:k=31
 ·subst h31;have b:=O (show manyN 31 d a=(a == 0) by first | rfl | simp [manyN]);go_in
  go_wp2;go_ret;exact⟨by rw [b.o];first | rfl|(refine rb ?_;rw [aiu];simp <;> omega),aF (Below.refl _ _) (aiv _)⟩
 by_cases h32:k=32
 ·subst h32;have b:=O (show manyN 32 d a=(a == 0) by first | rfl | simp [manyN]);go_in
  go_wp2;go_ret;exact⟨by rw [b.o];first | rfl|(refine rb ?_;rw [aiu];simp <;> omega),aF (Below.refl _ _) (aiv _)⟩
 by_cases h45:k=45
 ·subst h45;have b:=O (show manyN 45 d a=(a == 0) by first | rfl | simp [manyN]);go_in
  go_wp2;go_ret;exact⟨by rw [b.o];first | rfl|(refine rb ?_;rw [aiu];simp <;> omega),aF (Below.refl _ _) (aiv _)⟩
 by_cases h4:k=4
 ·subst h4;have b:=O (show manyN 4 d a=(a == 1) by first | rfl | simp [manyN]);go_in
  go_wp2;go_ret;exact⟨by rw [b.o];first | rfl|(refine rb ?_;rw [aiu];simp <;> omega),aF (Below.refl _ _) (aiv _)⟩
 by_cases h5:k=5
 ·subst h5;have b:=O (show manyN 5 d a=(a == 1) by first | rfl | simp [manyN]);go_in
  go_wp2;go_ret;exact⟨by rw [b.o];first | rfl|(refine rb ?_;rw [aiu];simp <;> omega),aF (Below.refl _ _) (aiv _)⟩
 by_cases h22:k=22
 ·subst h22;have b:=O (show manyN 22 d a=(a == 1) by first | rfl | simp [manyN]);go_in
  go_wp2;go_ret;exact⟨by rw [b.o];first | rfl|(refine rb ?_;rw [aiu];simp <;> omega),aF (Below.refl _ _) (aiv _)⟩
 by_cases l:k=25
 ·subst l;have b:=O (show manyN 25 d a=(a == 1) by first | rfl | simp [manyN]);go_in
  go_wp2;go_ret;exact⟨by rw [b.o];first | rfl|(refine rb ?_;rw [aiu];simp <;> omega),aF (Below.refl _ _) (aiv _)⟩
 by_cases h:k=33
 ·subst h;have b:=O (show manyN 33 d a=(a == 1) by first | rfl | simp [manyN]);go_in
  go_wp2;go_ret;exact⟨by rw [b.o];first | rfl|(refine rb ?_;rw [aiu];simp <;> omega),aF (Below.refl _ _) (aiv _)⟩
 by_cases j:k=34
 ·subst j;have b:=O (show manyN 34 d a=(a == 1) by first | rfl | simp [manyN]);go_in
  go_wp2;go_ret;exact⟨by rw [b.o];first | rfl|(refine rb ?_;rw [aiu];simp <;> omega),aF (Below.refl _ _) (aiv _)⟩
 by_cases h43:k=43
 ·subst h43;have b:=O (show manyN 43 d a=(a == 1) by first | rfl | simp [manyN]);go_in
  go_wp2;go_ret;exact⟨by rw [b.o];first | rfl|(refine rb ?_;rw [aiu];simp <;> omega),aF (Below.refl _ _) (aiv _)⟩
 by_cases h44:k=44
 ·subst h44;have b:=O (show manyN 44 d a=(a == 1) by first | rfl | simp [manyN]);go_in
  go_wp2;go_ret;exact⟨by rw [b.o];first | rfl|(refine rb ?_;rw [aiu];simp <;> omega),aF (Below.refl _ _) (aiv _)⟩
 by_cases h19:k=19
 ·subst h19;have b:=O (show manyN 19 d a=(a == 3) by first | rfl | simp [manyN]);go_in
  go_wp2;go_ret;exact⟨by rw [b.o];first | rfl|(refine rb ?_;rw [aiu];simp <;> omega),aF (Below.refl _ _) (aiv _)⟩
 by_cases h21:k=21
 ·subst h21;have b:=O (show manyN 21 d a=true by first | rfl | simp [manyN]);go_in
  go_wp2;go_ret;exact⟨by rw [b.o];first | rfl|(refine rb ?_;rw [aiu];simp <;> omega),aF (Below.refl _ _) (aiv _)⟩
 by_cases n:k=24
 ·subst n;have b:=O (show manyN 24 d a=decide (1≤a) by first | rfl | simp [manyN]);go_in
  go_wp2;go_ret;exact⟨by rw [b.o];first | rfl|(refine rb ?_;rw [aiu];simp <;> omega),aF (Below.refl _ _) (aiv _)⟩
 by_cases m:k=26
 ·subst m;have b:=O (show manyN 26 d a=decide (1≤a) by first | rfl | simp [manyN]);go_in
  go_wp2;go_ret;exact⟨by rw [b.o];first | rfl|(refine rb ?_;rw [aiu];simp <;> omega),aF (Below.refl _ _) (aiv _)⟩
 by_cases i:k=41
 ·subst i;have b:=O (show manyN 41 d a=decide (1≤a) by first | rfl | simp [manyN]);go_in
  go_wp2;go_ret;exact⟨by rw [b.o];first | rfl|(refine rb ?_;rw [aiu];simp <;> omega),aF (Below.refl _ _) (aiv _)⟩
 by_cases g:k=42
 ·subst g;have b:=O (show manyN 42 d a=decide (2≤a) by first | rfl | simp [manyN]);go_in
  go_wp2;go_ret;exact⟨by rw [b.o];first | rfl|(refine rb ?_;rw [aiu];simp <;> omega),aF (Below.refl _ _) (aiv _)⟩
 by_cases h46:k=46
 ·subst h46;have b:=O (show manyN 46 d a=(if d=7 then a == 0 else if d=8 then decide (1≤a) else a == 1) by first | rfl | simp [manyN]);go_in
  by_cases h7:d=7
  ·subst h7;go_wp2;go_ret;exact⟨by rw [b.o];first | rfl|(refine rb ?_;rw [aiu];simp <;> omega),aF (Below.refl _ _) (aiv _)⟩
  by_cases h8:d=8
  ·subst h8;go_wp2;go_ret;exact⟨by rw [b.o];first | rfl|(refine rb ?_;rw [aiu];simp <;> omega),aF (Below.refl _ _) (aiv _)⟩
  rw [if_neg h7,if_neg h8] at b
  have T:(d == 7)=false:=by simp;omega
  have U:(d == 8)=false:=by simp;omega
  clear h7 h8;go_wp2;go_ret;exact⟨by rw [b.o];first | rfl|(refine rb ?_;rw [aiu];simp <;> omega),aF (Below.refl _ _) (aiv _)⟩
 have b:=O (show manyN k d a=(a == 2) by simp [manyN,h1,h2,h3,f,h31,h32,h45,h4,h5,h22,l,h,j,h43,h44,h19,h21,n,m,i,g,h46]);have N:((k:Int) == 1)=false:=by simp;omega
 have P:((k:Int) == 2)=false:=by simp;omega
 have Q:((k:Int) == 3)=false:=by simp;omega
 have B:((k:Int) == 30)=false:=by simp;omega
 have C:((k:Int) == 31)=false:=by simp;omega
 have D:((k:Int) == 32)=false:=by simp;omega
 have K:((k:Int) == 45)=false:=by simp;omega
 have R:((k:Int) == 4)=false:=by simp;omega
 have S:((k:Int) == 5)=false:=by simp;omega
 have t:((k:Int) == 22)=false:=by simp;omega
 have x:((k:Int) == 25)=false:=by simp;omega
 have E:((k:Int) == 33)=false:=by simp;omega
 have F:((k:Int) == 34)=false:=by simp;omega
 have I:((k:Int) == 43)=false:=by simp;omega
 have J:((k:Int) == 44)=false:=by simp;omega
 have q:((k:Int) == 19)=false:=by simp;omega
 have r:((k:Int) == 21)=false:=by simp;omega
 have u:((k:Int) == 24)=false:=by simp;omega
 have y:((k:Int) == 26)=false:=by simp;omega
 have G:((k:Int) == 41)=false:=by simp;omega
 have H:((k:Int) == 42)=false:=by simp;omega
 have L:((k:Int) == 46)=false:=by simp;omega
 clear h1 h2 h3 f h31 h32 h45 h4 h5 h22 l h j h43 h44 h19 h21 n m i g h46;go_in
 go_wp2;go_ret;exact⟨by rw [b.o];first | rfl|(refine rb ?_;rw [aiu];simp <;> omega),aF (Below.refl _ _) (aiv _)⟩
theorem Im (k:Nat)(tx:Bs)(a at_:Int)(A:Option Addr)(m c:Nat)(w:World) :
  Calls Tryz.prog 177 #[.agg #[.int .u8 k,.string (aU tx),.int .i64 a,.slice A m c,.int .i64 at_]] w fun e n=>e=.returned (.bool (iM k a))∧Below w.heap.size w n:=by
 by_cases h1:k=1
 ·subst h1;have b:=O (show iM 1 a=within a (-9999) 9999 by first | rfl | simp [iM]);go_in
  by_cases d:-9999≤a
  ·have f:decide (-9999≤a)=true:=aiG d;go_wp2;go_ret;exact⟨by rw [b.o];first | rfl|(refine rb ?_;rw [aiu];simp [within] <;> omega),aF (Below.refl _ _) (aiv _)⟩
  ·have f:decide (-9999≤a)=false:=aiH d;go_wp2;go_ret;exact⟨by rw [b.o];first | rfl|(refine rb ?_;rw [aiu];simp [within] <;> omega),aF (Below.refl _ _) (aiv _)⟩
 by_cases h2:k=2
 ·subst h2;have b:=O (show iM 2 a=within a 0 1 by first | rfl | simp [iM]);go_in
  by_cases d:a=0
  ·subst d;go_wp2;go_ret;exact⟨by rw [b.o];rfl,aF (Below.refl _ _) (aiv _)⟩
  ·have f:(a == 0)=false:=by simp;omega
   go_wp2;go_ret;exact⟨by rw [b.o];refine rb ?_;rw [aiu];simp [within] <;> omega,aF (Below.refl _ _) (aiv _)⟩
 by_cases g:k=42
 ·subst g;have b:=O (show iM 42 a=decide (0≤a) by first | rfl | simp [iM]);go_in
  go_wp2;go_ret;exact⟨by rw [b.o];first | rfl|(refine rb ?_;rw [aiu];simp <;> omega),aF (Below.refl _ _) (aiv _)⟩
 by_cases h:k=33
 ·subst h;have b:=O (show iM 33 a=true by first | rfl | simp [iM]);go_in
  go_wp2;go_ret;exact⟨by rw [b.o];first | rfl|(refine rb ?_;rw [aiu];simp <;> omega),aF (Below.refl _ _) (aiv _)⟩
 by_cases h46:k=46
 ·subst h46;have b:=O (show iM 46 a=within a 1 8 by first | rfl | simp [iM]);go_in
  by_cases d:1≤a
  ·have f:decide (1≤a)=true:=aiG d;go_wp2;go_ret;exact⟨by rw [b.o];first | rfl|(refine rb ?_;rw [aiu];simp [within] <;> omega),aF (Below.refl _ _) (aiv _)⟩
  ·have f:decide (1≤a)=false:=aiH d;go_wp2;go_ret;exact⟨by rw [b.o];first | rfl|(refine rb ?_;rw [aiu];simp [within] <;> omega),aF (Below.refl _ _) (aiv _)⟩
 have b:=O (show iM k a=(a == 0) by simp [iM,h1,h2,g,h,h46]);have q:((k:Int) == 1)=false:=by simp;omega
 have r:((k:Int) == 2)=false:=by simp;omega
 have j:((k:Int) == 42)=false:=by simp;omega
 have i:((k:Int) == 33)=false:=by simp;omega
 have l:((k:Int) == 46)=false:=by simp;omega
 clear h1 h2 g h h46;go_in
 go_wp2;go_ret;exact⟨by rw [b.o];first | rfl|(refine rb ?_;rw [aiu];simp <;> omega),aF (Below.refl _ _) (aiv _)⟩
theorem tV (k:Nat)(tx:Bs)(F at_:Int)(A:Option Addr)(b c i q:Nat)(w:World)(hi:i < b)(E:b≤1000000) :
  Calls Tryz.prog 178 #[.agg #[.int .u8 k,.string (aU tx),.int .i64 F,.slice A b c,.int .i64 at_],.int .i64 i,.int .u8 q] w fun e G=>e=.returned (.bool (su k b i q))∧Below w.heap.size w G:=by
 by_cases j:k=24
 ·subst j;have a:=O (show su 24 b i q=decide (q=25) by first | rfl | simp [su]);go_in
  go_wp2;go_ret;exact⟨by rw [a.o];first | rfl|(refine rb ?_;rw [aiu];simp <;> omega),aF (Below.refl _ _) (aiv _)⟩
 by_cases g:k=41
 ·subst g;have a:=O (show su 41 b i q=decide (q=34) by first | rfl | simp [su]);go_in
  go_wp2;go_ret;exact⟨by rw [a.o];first | rfl|(refine rb ?_;rw [aiu];simp <;> omega),aF (Below.refl _ _) (aiv _)⟩
 by_cases h:k=34
 ·subst h;have a:=O (show su 34 b i q=gF q by first | rfl | simp [su]);go_in
  go_wp2_with fail;refine (uF q _).mono ?_;rintro e w1⟨rfl,rfl⟩;go_wp2;go_ret;exact⟨by rw [a.o];rfl,aF (Below.refl _ _) (aiv _)⟩
 by_cases f:k=33
 ·subst f;have a:=O (show su 33 b i q=gF q by first | rfl | simp [su]);go_in
  go_wp2_with fail;refine (uF q _).mono ?_;rintro e w1⟨rfl,rfl⟩;go_wp2;go_ret;exact⟨by rw [a.o];rfl,aF (Below.refl _ _) (aiv _)⟩
 by_cases l:k=40
 ·subst l;have a:=O (show su 40 b i q=decide (q=1) by first | rfl | simp [su]);go_in
  go_wp2;go_ret;exact⟨by rw [a.o];first | rfl|(refine rb ?_;rw [aiu];simp <;> omega),aF (Below.refl _ _) (aiv _)⟩
 by_cases d:k=42
 ·subst d;have a:=O (show su 42 b i q=(if i+1=b then eZ q else if i+2=b then gF q else decide (q=34)) by first | rfl | simp [su]);go_in
  by_cases m:i+1=b
  ·rw [if_pos m] at a
   have r:((i:Int) == (b:Int) - 1)=true:=by simp;omega
   go_wp2_with fail;refine (zQ q _).mono ?_;rintro e w1⟨rfl,rfl⟩;go_wp2;go_ret;exact⟨by rw [a.o];rfl,aF (Below.refl _ _) (aiv _)⟩
  rw [if_neg m] at a
  have r:((i:Int) == (b:Int) - 1)=false:=by simp;omega
  by_cases n:i+2=b
  ·rw [if_pos n] at a
   have t:((i:Int) == (b:Int) - 2)=true:=by simp;omega
   go_wp2_with fail;refine (uF q _).mono ?_;rintro e w1⟨rfl,rfl⟩;go_wp2;go_ret;exact⟨by rw [a.o];rfl,aF (Below.refl _ _) (aiv _)⟩
  rw [if_neg n] at a
  have t:((i:Int) == (b:Int) - 2)=false:=by simp;omega
  go_wp2;go_ret;exact⟨by rw [a.o];first | rfl|(refine rb ?_;rw [aiu];simp <;> omega),aF (Below.refl _ _) (aiv _)⟩
 have a:=O (show su k b i q=eZ q by simp [su,j,g,h,f,l,d]);have u:((k:Int) == 24)=false:=by simp;omega
 have C:((k:Int) == 41)=false:=by simp;omega
 have y:((k:Int) == 34)=false:=by simp;omega
 have x:((k:Int) == 33)=false:=by simp;omega
 have B:((k:Int) == 40)=false:=by simp;omega
 have D:((k:Int) == 42)=false:=by simp;omega
 clear j g h f l d;go_in
 go_wp2_with fail;refine (zQ q _).mono ?_;rintro e w1⟨rfl,rfl⟩;go_wp2;go_ret;exact⟨by rw [a.o];rfl,aF (Below.refl _ _) (aiv _)⟩
end
